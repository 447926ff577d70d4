/- A part of the proof; the last text states what is proved. -/
import Derived.Test.YtcglilececjppaaGreatDoorP2
import Derived.Test.YtcglilececjppaaGreatDoorProg
import Derived.RangeFuncWrites
import Derived.RangeFuncNested
import Derived.Below
import Derived.OrdersHeld
import Derived.OrdersIn
import Derived.TacticsIn
import Derived.IntWalk
import Derived.Deep.OwnRows
import Derived.Lib.AtoiAll
import Derived.Lib.ItoaNum
import Derived.RangeFuncBox
import Derived.RangeFuncLeaves
import Derived.Shelf.Abstract
import Derived.WalkKit
import Derived.OwnWalkIn
import Derived.TacticsInMore
import Derived.LoopNIn
import Derived.LoopIn
import Derived.BigCall
import Derived.Deep.LoopGhost
import Derived.Shelf.GgClosure.StringsIndexFuncTop
import Derived.Shelf.Strings.BuilderK
import Derived.Shelf.Strings.Builder2
import Derived.Shelf.Strings.Split
import Derived.Shelf.Strings.Builder1
import Derived.Deep.QuietTactic
import Derived.BigQuiet
import Derived.Maps.AppendAt
import Derived.Deep.AppendSrc
import Derived.RangeFuncRecord
import Derived.RangeFuncBound
import Derived.RangeFuncCalls
import Derived.Laws.MakeOwn
import Derived.Deep.RegionHeld3
import Derived.Laws.Rows
set_option linter.unusedVariables false
set_option linter.unusedSimpArgs false
set_option maxRecDepth 100000
set_option maxHeartbeats 8000000
open And renaming intro → Zx
open Array renaming eq_empty_of_size_eq_zero → YM,getElem?_append_left → Y2,getElem?_eq_getElem → Ya,getElem?_eq_some_iff → Zs,getElem?_modify → Y1,getElem?_push → YR,getElem?_setIfInBounds → Yi,getElem?_toList → Yu,replicate → YX,replicate_succ → YI,replicate_zero → YH
open Bool renaming and_eq_true → Zr,eq_false_iff → Y0,eq_iff_iff → Yw,false_eq_true → Z1,false_or → YC,not_eq_true' → Xn,or_eq_true → Yp,true_and → ZU
open Eq renaming refl → ZG,trans → ZI
open Iff renaming rfl → Xp
open Int renaming natCast_mul → YB,reduceLE → YQ,reduceNeg → ZN,toNat_natCast → Ym,toNat_zero → XZ
open List renaming all_cons → Yz,all_eq_false → YP,all_eq_true → ZA,any_eq_true → Yt,append_assoc → Z3,append_nil → Ze,append_toArray → YO,cons_append → ZQ,drop_eq_getElem_cons → ZE,drop_eq_nil_of_le → ZB,eq_nil_of_length_eq_zero → Yg,exists_mem_of_ne_nil → XD,flatten_cons → Yy,foldl_append → Xz,foldl_cons → YU,getD_eq_getElem?_getD → Zi,getElem?_append_left → ZL,getElem?_append_right → ZM,getElem?_drop → YJ,getElem?_eq_getElem → Zf,getElem?_eq_none → Xe,getElem?_eq_some_iff → Zu,getElem?_map → Zz,getElem?_take → Z6,getElem?_toArray → Y3,getElem_mem → Zv,getElem_of_mem → YN,length_append → Zq,length_cons → Zo,length_map → Zg,length_nil → ZF,length_pos_iff → Ye,length_take → Yl,map_append → ZS,map_cons → Zk,map_nil → Zp,map_take → Xy,mem_append → Yo,mem_cons → ZJ,mem_cons_of_mem → Zy,mem_cons_self → Yj,mem_filter → Yh,mem_flatten → XA,mem_map → ZH,mem_of_getElem? → ZP,mem_range → Z2,mem_singleton → ZT,nil_append → Yd,nodup_cons → ZK,not_mem_nil → Zt,pairwise_cons → Xc,push_toArray → YS,range' → YF,range'_succ → Xo,range_succ → Xk,setIfInBounds_toArray → ZV,set_cons_succ → Yb,set_cons_zero → Z8,size_toArray → Yx,take_length → Yk,take_of_length_le → Z7,take_succ_eq_append_getElem → ZD
open List.Pairwise renaming nil → Xx
open List.Perm renaming refl → XB
open Nat renaming add_assoc → YK,add_comm → Y8,add_mul → YD,add_zero → Yf,div_le_self → Xv,eq_of_mul_eq_mul_right → XF,le_of_not_lt → Xu,le_refl → Zw,le_trans → ZX,lt_of_lt_of_le → ZO,lt_or_ge → Y7,mod_eq_of_lt → XH,mod_lt → XE,mul_assoc → XP,mul_le_mul → Xh,mul_le_mul_right → ZZ,mul_one → Yv,one_mul → Xs,one_shiftLeft → XW,pow_le_pow_right → Ys,reduceAdd → Zc,reduceBEq → Za,reduceEqDiff → Zn,reduceLT → Z5,reduceLeDiff → Zl,reduceMul → Z9,reduceSub → Y9,sub_self → Xi,sub_zero → XG,succ_mul → YL,testBit_and → XJ,zero_add → ZY,zero_le → ZC,zero_testBit → Xb
open Option renaming getD_some → YZ,map_eq_some_iff → Zd,map_some → YA
open Option.some renaming inj → Yr,injEq → Zh
open Prod.mk renaming injEq → Xd
namespace Go.Abs
open Go.Proofs
abbrev LA:=List AI
def φ (n:Int):AX:=.v (.k (.c (.int .i64 n)))
def χ (b:Bool):AX:=.v (.k (.c (.bool b)))
def θ (d s:Nat):AI:=.mk none (.mov d (.t s))
def ψ (d n s:Nat):AI:=.mk none (.load d n false (.t s))
def ω (d n s:Nat):AI:=.mk none (.load d n true (.t s))
def Γ (d n s:Nat):AI:=.mk none (.faddr d n (.t s))
def Δ (d s n:Nat):AI:=.mk none (.extr d (.t s) n)
def Θ (d f a:Nat):AI:=.mk none (.call (some d) f [.t a])
def Ξ (d f a b:Nat):AI:=.mk none (.call (some d) f [.t a,.t b])
def Φ (n a b:Nat):AI:=.mk none (.store n (.t a) (.t b))
def Ψ (d n a b:Nat):AI:=.mk none (.iaddr d n (.t a) (.t b))
def Ω (d a:Nat):AI:=.mk none (.len d (.t a))
def rN (d n a:Nat):AI:=.mk none (.box d n (.t a))
def rO (d:Nat) (o:BinOp) (a b:Nat):AI:=.mk none (.bin d o (.t a) (.t b))
def pV (g:Nat) (o:AOp):AI:=.mk (some (g,true)) o
def fE (g:Nat) (o:AOp):AI:=.mk (some (g,false)) o
def η (o:AOp):AI:=.mk none o
def ζ (l:LA) (a:AQ):AQ:=.seq (.region l) a
theorem ξ {a b:Prop} (h:a) (g:b):a/\b:=⟨h,g⟩
theorem uu {a b:AQ} (h:a=b) (P ts os Q):awl P a Q ts os=awl P b Q ts os:=h▸rfl
theorem vv {α:Type} {a b:α} (h:a=b):a=b:=h
noncomputable def f152:AQ:=xf Tryz.prog Tryz.f152 []
theorem hf152:zH Tryz.prog 152=some ⟨22,f152.erase,[(RX.t 2)]⟩:=by kernel_rfl
theorem okf152:f152.ok=true:=by kernel_rfl
def zkx:=PLift.up (uq (by conv=>lhs;simp only[Qc,Qt,Za,f152,Tryz.f152]:f152=_))
theorem zky:type_of% zkx.1:=zkx.1
noncomputable def f213:AQ:=xf Tryz.prog Tryz.f213 []
theorem hf213:zH Tryz.prog 213=some ⟨17,f213.erase,[(RX.t 2)]⟩:=by kernel_rfl
theorem okf213:f213.ok=true:=by kernel_rfl
def zkz:=PLift.up (uq (by conv=>lhs;simp only[Qc,Qt,Za,f213,Tryz.f213]:f213=_))
theorem zsp:type_of% zkz.1:=zkz.1
noncomputable def f214:AQ:=xf Tryz.prog Tryz.f214 [(5,0,lp [0,1,5] [])]
theorem hf214:zH Tryz.prog 214=some ⟨20,f214.erase,[(RX.t 4)]⟩:=by kernel_rfl
theorem okf214:f214.ok=true:=by kernel_rfl
def zkA:=PLift.up (uq (by conv=>lhs;simp only[Qc,Qt,Za,f214,Tryz.f214]:f214=_))
theorem zsq:type_of% zkA.1:=zkA.1
noncomputable def f215:AQ:=xf Tryz.prog Tryz.f215 []
theorem hf215:zH Tryz.prog 215=some ⟨13,f215.erase,[(RX.t 2)]⟩:=by kernel_rfl
theorem okf215:f215.ok=true:=by kernel_rfl
def zkB:=PLift.up (uq (by conv=>lhs;simp only[Qc,Qt,Za,f215,Tryz.f215]:f215=_))
theorem zkC:type_of% zkB.1:=zkB.1
noncomputable def f256:AQ:=xf Tryz.prog Tryz.f256 []
theorem hf256:zH Tryz.prog 256=some ⟨9,f256.erase,[(RX.t 2)]⟩:=by kernel_rfl
theorem okf256:f256.ok=true:=by kernel_rfl
def zkD:=PLift.up (uq (by conv=>lhs;simp only[Qc,Qt,Za,f256,Tryz.f256]:f256=_))
theorem zsr:type_of% zkD.1:=zkD.1
noncomputable def f123:AQ:=xf Tryz.prog Tryz.f123 []
theorem hf123:zH Tryz.prog 123=some ⟨15,f123.erase,[(RX.t 2)]⟩:=by kernel_rfl
theorem okf123:f123.ok=true:=by kernel_rfl
def zkE:=PLift.up (uq (by conv=>lhs;simp only[Qc,Qt,Za,f123,Tryz.f123]:f123=_))
theorem zss:type_of% zkE.1:=zkE.1
noncomputable def f155:AQ:=xf Tryz.prog Tryz.f155 [(0,0,.frz 1),(5,1,lp [3,19,20] [])]
theorem hf155:zH Tryz.prog 155=some ⟨32,f155.erase,[(RX.t 2)]⟩:=by kernel_rfl
theorem okf155:f155.ok=true:=by kernel_rfl
def zkF:=PLift.up (uq (by conv=>lhs;simp only[Qc,Qt,Za,f155,Tryz.f155]:f155=_))
theorem cO:type_of% zkF.1:=zkF.1
noncomputable def f217:AQ:=xf Tryz.prog Tryz.f217 []
theorem hf217:zH Tryz.prog 217=some ⟨6,f217.erase,[(RX.t 2)]⟩:=by kernel_rfl
theorem okf217:f217.ok=true:=by kernel_rfl
def zkG:=PLift.up (uq (by conv=>lhs;simp only[Qc,Qt,Za,f217,Tryz.f217]:f217=_))
theorem zst:type_of% zkG.1:=zkG.1
noncomputable def f94:AQ:=xf Tryz.prog Tryz.f94 []
theorem hf94:zH Tryz.prog 94=some ⟨9,f94.erase,[(RX.t 4)]⟩:=by kernel_rfl
theorem okf94:f94.ok=true:=by kernel_rfl
def zkH:=PLift.up (uq (by conv=>lhs;simp only[Qc,Qt,Za,f94,Tryz.f94]:f94=_))
theorem zsu:type_of% zkH.1:=zkH.1
noncomputable def f120:AQ:=xf Tryz.prog Tryz.f120 [(5,0,lp [0,1,7,8] [])]
theorem hf120:zH Tryz.prog 120=some ⟨19,f120.erase,[(RX.t 4)]⟩:=by kernel_rfl
theorem okf120:f120.ok=true:=by kernel_rfl
def zkI:=PLift.up (uq (by conv=>lhs;simp only[Qc,Qt,Za,f120,Tryz.f120]:f120=_))
theorem zb9:type_of% zkI.1:=zkI.1
noncomputable def f88:AQ:=xf Tryz.prog Tryz.f88 [(0,0,.frz 1),(5,0,lp [1,17,18,19] [1]),(0,7,.frz 4),(5,3,lp [1,17,18,19,42,43,44] [1]),(0,16,.frz 6)]
theorem hf88:zH Tryz.prog 88=some ⟨55,f88.erase,[(RX.t 2)]⟩:=by kernel_rfl
theorem okf88:f88.ok=true:=by kernel_rfl
def zkJ:=PLift.up (uq (by conv=>lhs;simp only[Qc,Qt,Za,f88,Tryz.f88]:f88=_))
theorem zca:type_of% zkJ.1:=zkJ.1
noncomputable def f154:AQ:=xf Tryz.prog Tryz.f154 [(0,0,.frz 2)]
theorem hf154:zH Tryz.prog 154=some ⟨9,f154.erase,[(RX.t 3)]⟩:=by kernel_rfl
theorem okf154:f154.ok=true:=by kernel_rfl
def zkK:=PLift.up (uq (by conv=>lhs;simp only[Qc,Qt,Za,f154,Tryz.f154]:f154=_))
theorem zsv:type_of% zkK.1:=zkK.1
noncomputable def f153:AQ:=xf Tryz.prog Tryz.f153 []
theorem hf153:zH Tryz.prog 153=some ⟨9,f153.erase,[(RX.t 4)]⟩:=by kernel_rfl
theorem okf153:f153.ok=true:=by kernel_rfl
def zkL:=PLift.up (uq (by conv=>lhs;simp only[Qc,Qt,Za,f153,Tryz.f153]:f153=_))
theorem zsw:type_of% zkL.1:=zkL.1
noncomputable def f216:AQ:=xf Tryz.prog Tryz.f216 [(5,0,lp [0,1,7,8] [])]
theorem hf216:zH Tryz.prog 216=some ⟨19,f216.erase,[(RX.t 4)]⟩:=by kernel_rfl
theorem okf216:f216.ok=true:=by kernel_rfl
def zkM:=PLift.up (uq (by conv=>lhs;simp only[Qc,Qt,Za,f216,Tryz.f216]:f216=_))
theorem zsx:type_of% zkM.1:=zkM.1
noncomputable def f121:AQ:=xf Tryz.prog Tryz.f121 []
theorem hf121:zH Tryz.prog 121=some ⟨9,f121.erase,[(RX.t 4)]⟩:=by kernel_rfl
theorem okf121:f121.ok=true:=by kernel_rfl
def zkN:=PLift.up (uq (by conv=>lhs;simp only[Qc,Qt,Za,f121,Tryz.f121]:f121=_))
theorem zkO:type_of% zkN.1:=zkN.1
noncomputable def f89:AQ:=xf Tryz.prog Tryz.f89 [(0,0,.frz 2)]
theorem hf89:zH Tryz.prog 89=some ⟨19,f89.erase,[(RX.t 4)]⟩:=by kernel_rfl
theorem okf89:f89.ok=true:=by kernel_rfl
def zkP:=PLift.up (uq (by conv=>lhs;simp only[Qc,Qt,Za,f89,Tryz.f89]:f89=_))
theorem zsy:type_of% zkP.1:=zkP.1
noncomputable def f90:AQ:=xf Tryz.prog Tryz.f90 [(0,0,.frz 1),(5,0,lp [3,7,8,9] []),(0,4,.frz 5)]
theorem hf90:zH Tryz.prog 90=some ⟨20,f90.erase,[(RX.t 2)]⟩:=by kernel_rfl
theorem okf90:f90.ok=true:=by kernel_rfl
def zkQ:=PLift.up (uq (by conv=>lhs;simp only[Qc,Qt,Za,f90,Tryz.f90]:f90=_))
theorem zsz:type_of% zkQ.1:=zkQ.1
noncomputable def f181:AQ:=xf Tryz.prog Tryz.f181 [(0,0,.frz 1),(5,0,lp [5,14,15,16] []),(0,7,.frz 7)]
theorem hf181:zH Tryz.prog 181=some ⟨28,f181.erase,[(RX.t 2),(RX.t 3)]⟩:=by kernel_rfl
theorem okf181:f181.ok=true:=by kernel_rfl
def zkR:=PLift.up (uq (by conv=>lhs;simp only[Qc,Qt,Za,f181,Tryz.f181]:f181=_))
theorem zkS:type_of% zkR.1:=zkR.1
noncomputable def f122:AQ:=xf Tryz.prog Tryz.f122 []
theorem hf122:zH Tryz.prog 122=some ⟨6,f122.erase,[(RX.t 2)]⟩:=by kernel_rfl
theorem okf122:f122.ok=true:=by kernel_rfl
def zkT:=PLift.up (uq (by conv=>lhs;simp only[Qc,Qt,Za,f122,Tryz.f122]:f122=_))
theorem zsA:type_of% zkT.1:=zkT.1
noncomputable def f93:AQ:=xf Tryz.prog Tryz.f93 []
theorem hf93:zH Tryz.prog 93=some ⟨7,f93.erase,[(RX.t 2)]⟩:=by kernel_rfl
theorem okf93:f93.ok=true:=by kernel_rfl
def zkU:=PLift.up (uq (by conv=>lhs;simp only[Qc,Qt,Za,f93,Tryz.f93]:f93=_))
theorem zkV:type_of% zkU.1:=zkU.1
noncomputable def f63:AQ:=xf Tryz.prog Tryz.f63 [(0,0,.frz 3),(0,9,.own 10 26010 76 2),(5,1,lp [1,6,8,10,46,47,48] [6,10,98,26010]),(0,12,.frz 12),(0,13,.own 13 26013 131 1),(3,5,.frz 26013),(5,5,lp [1,6,8,10,11,13,46,47,48,76,77,78] [6,10,13,73,91,98,26010,26013]),(2,24,rgf 4 [88]),(5,3,lp [1,6,8,10,11,13,46,47,48,57,58,59] [6,10,13,73,91,98,26010,26013]),(0,16,.frz 15)]
theorem hf63:zH Tryz.prog 63=some ⟨102,f63.erase,[(RX.cell 6 2 true),(RX.t 7)]⟩:=by kernel_rfl
theorem okf63:f63.ok=true:=by kernel_rfl
def zkW:=PLift.up (uq (by conv=>lhs;simp only[Qc,Qt,Za,f63,Tryz.f63]:f63=_))
theorem zsB:type_of% zkW.1:=zkW.1
noncomputable def f312:AQ:=xf Tryz.prog Tryz.f312 [(0,0,.frz 3)]
theorem hf312:zH Tryz.prog 312=some ⟨8,f312.erase,[(RX.t 4)]⟩:=by kernel_rfl
theorem okf312:f312.ok=true:=by kernel_rfl
def zkX:=PLift.up (uq (by conv=>lhs;simp only[Qc,Qt,Za,f312,Tryz.f312]:f312=_))
theorem zsC:type_of% zkX.1:=zkX.1
noncomputable def f313:AQ:=xf Tryz.prog Tryz.f313 []
theorem hf313:zH Tryz.prog 313=some ⟨9,f313.erase,[(RX.t 4)]⟩:=by kernel_rfl
theorem okf313:f313.ok=true:=by kernel_rfl
def zkY:=PLift.up (uq (by conv=>lhs;simp only[Qc,Qt,Za,f313,Tryz.f313]:f313=_))
theorem zsD:type_of% zkY.1:=zkY.1
noncomputable def f314:AQ:=xf Tryz.prog Tryz.f314 [(0,0,.frz 2)]
theorem hf314:zH Tryz.prog 314=some ⟨8,f314.erase,[(RX.t 3)]⟩:=by kernel_rfl
theorem okf314:f314.ok=true:=by kernel_rfl
def zkZ:=PLift.up (uq (by conv=>lhs;simp only[Qc,Qt,Za,f314,Tryz.f314]:f314=_))
theorem zsE:type_of% zkZ.1:=zkZ.1
noncomputable def f315:AQ:=xf Tryz.prog Tryz.f315 [(5,0,lp [0,1,7,8] [])]
theorem hf315:zH Tryz.prog 315=some ⟨19,f315.erase,[(RX.t 4)]⟩:=by kernel_rfl
theorem okf315:f315.ok=true:=by kernel_rfl
def zk0:=PLift.up (uq (by conv=>lhs;simp only[Qc,Qt,Za,f315,Tryz.f315]:f315=_))
theorem zsF:type_of% zk0.1:=zk0.1
noncomputable def f117:AQ:=xf Tryz.prog Tryz.f117 [(5,0,lp [0,1,7,8] [])]
theorem hf117:zH Tryz.prog 117=some ⟨19,f117.erase,[(RX.t 4)]⟩:=by kernel_rfl
theorem okf117:f117.ok=true:=by kernel_rfl
def zk1:=PLift.up (uq (by conv=>lhs;simp only[Qc,Qt,Za,f117,Tryz.f117]:f117=_))
theorem zsG:type_of% zk1.1:=zk1.1
noncomputable def f320:AQ:=xf Tryz.prog Tryz.f320 [(0,0,.frz 3),(5,0,lp [3,6,10,11,12] [3,6,42]),(0,4,.frz 8)]
theorem hf320:zH Tryz.prog 320=some ⟨45,f320.erase,[(RX.t 4),(RX.t 5)]⟩:=by kernel_rfl
theorem okf320:f320.ok=true:=by kernel_rfl
def zk2:=PLift.up (uq (by conv=>lhs;simp only[Qc,Qt,Za,f320,Tryz.f320]:f320=_))
theorem zk3:type_of% zk2.1:=zk2.1
noncomputable def f309:AQ:=xf Tryz.prog Tryz.f309 [(0,0,.frz 2)]
theorem hf309:zH Tryz.prog 309=some ⟨9,f309.erase,[(RX.t 4)]⟩:=by kernel_rfl
theorem okf309:f309.ok=true:=by kernel_rfl
def zk4:=PLift.up (uq (by conv=>lhs;simp only[Qc,Qt,Za,f309,Tryz.f309]:f309=_))
theorem zsH:type_of% zk4.1:=zk4.1
noncomputable def f310:AQ:=xf Tryz.prog Tryz.f310 [(0,0,.frz 1)]
theorem hf310:zH Tryz.prog 310=some ⟨6,f310.erase,[(RX.t 2)]⟩:=by kernel_rfl
theorem okf310:f310.ok=true:=by kernel_rfl
def zk5:=PLift.up (uq (by conv=>lhs;simp only[Qc,Qt,Za,f310,Tryz.f310]:f310=_))
theorem zsI:type_of% zk5.1:=zk5.1
noncomputable def f311:AQ:=xf Tryz.prog Tryz.f311 [(0,0,.frz 1)]
theorem hf311:zH Tryz.prog 311=some ⟨7,f311.erase,[(RX.t 2)]⟩:=by kernel_rfl
theorem okf311:f311.ok=true:=by kernel_rfl
def zk6:=PLift.up (uq (by conv=>lhs;simp only[Qc,Qt,Za,f311,Tryz.f311]:f311=_))
theorem zsJ:type_of% zk6.1:=zk6.1
noncomputable def f308:AQ:=xf Tryz.prog Tryz.f308 [(0,0,.frz 1)]
theorem hf308:zH Tryz.prog 308=some ⟨6,f308.erase,[(RX.cell 2 8 true)]⟩:=by kernel_rfl
theorem okf308:f308.ok=true:=by kernel_rfl
def zk7:=PLift.up (uq (by conv=>lhs;simp only[Qc,Qt,Za,f308,Tryz.f308]:f308=_))
theorem zsK:type_of% zk7.1:=zk7.1
noncomputable def f306:AQ:=xf Tryz.prog Tryz.f306 [(0,0,.frz 1)]
theorem hf306:zH Tryz.prog 306=some ⟨11,f306.erase,[(RX.t 2)]⟩:=by kernel_rfl
theorem okf306:f306.ok=true:=by kernel_rfl
def zk8:=PLift.up (uq (by conv=>lhs;simp only[Qc,Qt,Za,f306,Tryz.f306]:f306=_))
theorem zsL:type_of% zk8.1:=zk8.1
noncomputable def f307:AQ:=xf Tryz.prog Tryz.f307 [(0,0,.frz 1)]
theorem hf307:zH Tryz.prog 307=some ⟨9,f307.erase,[(RX.t 2)]⟩:=by kernel_rfl
theorem okf307:f307.ok=true:=by kernel_rfl
def zk9:=PLift.up (uq (by conv=>lhs;simp only[Qc,Qt,Za,f307,Tryz.f307]:f307=_))
theorem zsM:type_of% zk9.1:=zk9.1
noncomputable def f316:AQ:=xf Tryz.prog Tryz.f316 [(0,0,.frz 1)]
theorem hf316:zH Tryz.prog 316=some ⟨12,f316.erase,[(RX.cell 2 8 true)]⟩:=by kernel_rfl
theorem okf316:f316.ok=true:=by kernel_rfl
def zla:=PLift.up (uq (by conv=>lhs;simp only[Qc,Qt,Za,f316,Tryz.f316]:f316=_))
theorem zsN:type_of% zla.1:=zla.1
noncomputable def f317:AQ:=xf Tryz.prog Tryz.f317 [(0,0,.frz 2)]
theorem hf317:zH Tryz.prog 317=some ⟨21,f317.erase,[(RX.t 4)]⟩:=by kernel_rfl
theorem okf317:f317.ok=true:=by kernel_rfl
def zlb:=PLift.up (uq (by conv=>lhs;simp only[Qc,Qt,Za,f317,Tryz.f317]:f317=_))
theorem zsO:type_of% zlb.1:=zlb.1
noncomputable def f318:AQ:=xf Tryz.prog Tryz.f318 [(0,0,.frz 1)]
theorem hf318:zH Tryz.prog 318=some ⟨17,f318.erase,[(RX.t 2)]⟩:=by kernel_rfl
theorem okf318:f318.ok=true:=by kernel_rfl
def zlc:=PLift.up (uq (by conv=>lhs;simp only[Qc,Qt,Za,f318,Tryz.f318]:f318=_))
theorem zsP:type_of% zlc.1:=zlc.1
noncomputable def f319:AQ:=xf Tryz.prog Tryz.f319 [(0,0,.frz 1)]
theorem hf319:zH Tryz.prog 319=some ⟨19,f319.erase,[(RX.t 2)]⟩:=by kernel_rfl
theorem okf319:f319.ok=true:=by kernel_rfl
def zld:=PLift.up (uq (by conv=>lhs;simp only[Qc,Qt,Za,f319,Tryz.f319]:f319=_))
theorem zsQ:type_of% zld.1:=zld.1
noncomputable def f321:AQ:=xf Tryz.prog Tryz.f321 []
theorem hf321:zH Tryz.prog 321=some ⟨8,f321.erase,[(RX.t 3)]⟩:=by kernel_rfl
theorem okf321:f321.ok=true:=by kernel_rfl
def zle:=PLift.up (uq (by conv=>lhs;simp only[Qc,Qt,Za,f321,Tryz.f321]:f321=_))
theorem zsR:type_of% zle.1:=zle.1
noncomputable def f326:AQ:=xf Tryz.prog Tryz.f326 [(0,0,.frz 1)]
theorem hf326:zH Tryz.prog 326=some ⟨16,f326.erase,[(RX.cell 2 8 true)]⟩:=by kernel_rfl
theorem okf326:f326.ok=true:=by kernel_rfl
def zlf:=PLift.up (uq (by conv=>lhs;simp only[Qc,Qt,Za,f326,Tryz.f326]:f326=_))
theorem zsS:type_of% zlf.1:=zlf.1
noncomputable def f328:AQ:=xf Tryz.prog Tryz.f328 [(0,0,.frz 1)]
theorem hf328:zH Tryz.prog 328=some ⟨11,f328.erase,[(RX.t 2)]⟩:=by kernel_rfl
theorem okf328:f328.ok=true:=by kernel_rfl
def zlg:=PLift.up (uq (by conv=>lhs;simp only[Qc,Qt,Za,f328,Tryz.f328]:f328=_))
theorem zsT:type_of% zlg.1:=zlg.1
noncomputable def f329:AQ:=xf Tryz.prog Tryz.f329 [(0,0,.frz 1)]
theorem hf329:zH Tryz.prog 329=some ⟨13,f329.erase,[(RX.t 2)]⟩:=by kernel_rfl
theorem okf329:f329.ok=true:=by kernel_rfl
def zlh:=PLift.up (uq (by conv=>lhs;simp only[Qc,Qt,Za,f329,Tryz.f329]:f329=_))
theorem zsU:type_of% zlh.1:=zlh.1
noncomputable def f330:AQ:=xf Tryz.prog Tryz.f330 []
theorem hf330:zH Tryz.prog 330=some ⟨9,f330.erase,[(RX.t 3)]⟩:=by kernel_rfl
theorem okf330:f330.ok=true:=by kernel_rfl
def zli:=PLift.up (uq (by conv=>lhs;simp only[Qc,Qt,Za,f330,Tryz.f330]:f330=_))
theorem zsV:type_of% zli.1:=zli.1
noncomputable def f331:AQ:=xf Tryz.prog Tryz.f331 [(0,0,.frz 1)]
theorem hf331:zH Tryz.prog 331=some ⟨19,f331.erase,[(RX.cell 2 8 true)]⟩:=by kernel_rfl
theorem okf331:f331.ok=true:=by kernel_rfl
def zlj:=PLift.up (uq (by conv=>lhs;simp only[Qc,Qt,Za,f331,Tryz.f331]:f331=_))
theorem zlk:type_of% zlj.1:=zlj.1
noncomputable def f332:AQ:=xf Tryz.prog Tryz.f332 [(0,0,.frz 2),(5,0,lp [2,6,7,19,20,21] [2,16,17000,17001,17002])]
theorem hf332:zH Tryz.prog 332=some ⟨71,f332.erase,[(RX.t 4)]⟩:=by kernel_rfl
theorem okf332:f332.ok=true:=by kernel_rfl
def zll:=PLift.up (uq (by conv=>lhs;simp only[Qc,Qt,Za,f332,Tryz.f332]:f332=_))
theorem zsW:type_of% zll.1:=zll.1
noncomputable def f333:AQ:=xf Tryz.prog Tryz.f333 [(0,0,.frz 1)]
theorem hf333:zH Tryz.prog 333=some ⟨23,f333.erase,[(RX.t 2)]⟩:=by kernel_rfl
theorem okf333:f333.ok=true:=by kernel_rfl
def zlm:=PLift.up (uq (by conv=>lhs;simp only[Qc,Qt,Za,f333,Tryz.f333]:f333=_))
theorem zsX:type_of% zlm.1:=zlm.1
noncomputable def f334:AQ:=xf Tryz.prog Tryz.f334 [(0,0,.frz 1)]
theorem hf334:zH Tryz.prog 334=some ⟨22,f334.erase,[(RX.t 2)]⟩:=by kernel_rfl
theorem okf334:f334.ok=true:=by kernel_rfl
def zln:=PLift.up (uq (by conv=>lhs;simp only[Qc,Qt,Za,f334,Tryz.f334]:f334=_))
theorem zlo:type_of% zln.1:=zln.1
noncomputable def f335:AQ:=xf Tryz.prog Tryz.f335 [(5,0,lp [0,4,30,31] [])]
theorem hf335:zH Tryz.prog 335=some ⟨46,f335.erase,[(RX.t 2),(RX.t 3)]⟩:=by kernel_rfl
theorem okf335:f335.ok=true:=by kernel_rfl
def zlp:=PLift.up (uq (by conv=>lhs;simp only[Qc,Qt,Za,f335,Tryz.f335]:f335=_))
theorem cP:type_of% zlp.1:=zlp.1
noncomputable def f322:AQ:=xf Tryz.prog Tryz.f322 []
theorem hf322:zH Tryz.prog 322=some ⟨16,f322.erase,[(RX.t 2),(RX.t 3)]⟩:=by kernel_rfl
theorem okf322:f322.ok=true:=by kernel_rfl
def zlq:=PLift.up (uq (by conv=>lhs;simp only[Qc,Qt,Za,f322,Tryz.f322]:f322=_))
theorem zlr:type_of% zlq.1:=zlq.1
noncomputable def f323:AQ:=xf Tryz.prog Tryz.f323 []
theorem hf323:zH Tryz.prog 323=some ⟨9,f323.erase,[(RX.t 2)]⟩:=by kernel_rfl
theorem okf323:f323.ok=true:=by kernel_rfl
def zls:=PLift.up (uq (by conv=>lhs;simp only[Qc,Qt,Za,f323,Tryz.f323]:f323=_))
theorem zcb:type_of% zls.1:=zls.1
noncomputable def f99:AQ:=xf Tryz.prog Tryz.f99 [(5,0,lp [1,5,8,9,10] [5,22]),(0,4,.frz 7)]
theorem hf99:zH Tryz.prog 99=some ⟨25,f99.erase,[(RX.t 4)]⟩:=by kernel_rfl
theorem okf99:f99.ok=true:=by kernel_rfl
def zlt:=PLift.up (uq (by conv=>lhs;simp only[Qc,Qt,Za,f99,Tryz.f99]:f99=_))
theorem zsY:type_of% zlt.1:=zlt.1
noncomputable def f58:AQ:=xf Tryz.prog Tryz.f58 [(0,0,.frz 2),(5,0,lp [2,5,21,22,23] [2,5,88]),(0,6,.frz 7),(5,2,lp [2,5,6,7,21,22,23,29,30,31] [2,5,7,88])]
theorem hf58:zH Tryz.prog 58=some ⟨92,f58.erase,[(RX.t 4)]⟩:=by kernel_rfl
theorem okf58:f58.ok=true:=by kernel_rfl
def zlu:=PLift.up (uq (by conv=>lhs;simp only[Qc,Qt,Za,f58,Tryz.f58]:f58=_))
theorem zcc:type_of% zlu.1:=zlu.1
noncomputable def f98:AQ:=xf Tryz.prog Tryz.f98 [(5,0,lp [0,5,15,16] [13,24,25000,25001,25002])]
theorem hf98:zH Tryz.prog 98=some ⟨30,f98.erase,[(RX.t 2)]⟩:=by kernel_rfl
theorem okf98:f98.ok=true:=by kernel_rfl
def zlv:=PLift.up (uq (by conv=>lhs;simp only[Qc,Qt,Za,f98,Tryz.f98]:f98=_))
theorem zsZ:type_of% zlv.1:=zlv.1
noncomputable def f47:AQ:=xf Tryz.prog Tryz.f47 [(5,0,lp [0,5,9,10,11] [5,9,20,10000,10001,10002])]
theorem hf47:zH Tryz.prog 47=some ⟨26,f47.erase,[(RX.t 4)]⟩:=by kernel_rfl
theorem okf47:f47.ok=true:=by kernel_rfl
def zlw:=PLift.up (uq (by conv=>lhs;simp only[Qc,Qt,Za,f47,Tryz.f47]:f47=_))
theorem zs0:type_of% zlw.1:=zlw.1
noncomputable def f103:AQ:=xf Tryz.prog Tryz.f103 [(5,0,lp [0,1,12,13] [])]
theorem hf103:zH Tryz.prog 103=some ⟨26,f103.erase,[(RX.t 4)]⟩:=by kernel_rfl
theorem okf103:f103.ok=true:=by kernel_rfl
def zlx:=PLift.up (uq (by conv=>lhs;simp only[Qc,Qt,Za,f103,Tryz.f103]:f103=_))
theorem zly:type_of% zlx.1:=zlx.1
def f46l13:AQ:=.loop [6,25,26,27] [24,33,25000,25001,25002] (ζ [rO 28 .lss 27 26] (.seq (.cond (.t 28) .skip (.exit 2)) (.seq (.block 3 (ζ [Ψ 29 1 25 27,ψ 30 1 29,θ 8 30] (.region [θ 31 6,θ 32 8,η (.append 33 3 1 8 (.t 31) (.t 32)),θ 6 33]))) (.region [η (.bin 34 .add (.t 27) (φ 1)),θ 27 34]))))
def f46l35:AQ:=.loop [0,3,9,10,11] [] (ζ [rO 12 .lss 11 10] (.seq (.cond (.t 12) .skip (.exit 0)) (.seq (.block 1 (ζ [Ψ 13 1 9 11,ψ 14 1 13,θ 5 14] (ζ [θ 15 3,θ 16 5,Ω 17 16,rO 18 .add 15 17,θ 3 18] (ζ [θ 19 3,η (.bin 20 .lss (.t 19) (φ 0))] (.cond (.t 20) (.cond (.v V.any) .skip .skip) .skip))))) (.region [η (.bin 22 .add (.t 11) (φ 1)),θ 11 22]))))
def f46:AQ:=(ζ [η (.nilL 2 3 1)] (ζ [η (.mov 3 (φ 0))] (.seq (ζ [θ 9 0,Ω 10 9,η (.mov 11 (φ 0))] (.block 0 f46l35)) (ζ [θ 23 3,η (.call (some 24) 97 [(.v (.k (.c (.list 0 (some true) [])))),(.t 23)]),θ 6 24] (.seq (ζ [θ 25 0,Ω 26 25,η (.mov 27 (φ 0))] (.block 2 f46l13)) (ζ [θ 35 6,θ 2 35] .ret))))))
theorem hf46:zH Tryz.prog 46=some ⟨36,f46.erase,[(RX.t 2)]⟩:=by kernel_rfl
theorem okf46:f46.ok=true:=by kernel_rfl
def Υ46:=PLift.up (uu f46.eq_1)
theorem Ψ46:type_of% Υ46.1:=Υ46.1
noncomputable def f11:AQ:=xf Tryz.prog Tryz.f11 []
theorem hf11:zH Tryz.prog 11=some ⟨22,f11.erase,[(RX.t 4),(RX.t 5)]⟩:=by kernel_rfl
theorem okf11:f11.ok=true:=by kernel_rfl
def zlz:=PLift.up (uq (by conv=>lhs;simp only[Qc,Qt,Za,f11,Tryz.f11]:f11=_))
theorem zs1:type_of% zlz.1:=zlz.1
noncomputable def f54:AQ:=xf Tryz.prog Tryz.f54 [(0,0,.frz 3)]
theorem hf54:zH Tryz.prog 54=some ⟨9,f54.erase,[(RX.t 4)]⟩:=by kernel_rfl
theorem okf54:f54.ok=true:=by kernel_rfl
def zlA:=PLift.up (uq (by conv=>lhs;simp only[Qc,Qt,Za,f54,Tryz.f54]:f54=_))
theorem zs2:type_of% zlA.1:=zlA.1
noncomputable def f113:AQ:=xf Tryz.prog Tryz.f113 []
theorem hf113:zH Tryz.prog 113=some ⟨8,f113.erase,[(RX.t 3)]⟩:=by kernel_rfl
theorem okf113:f113.ok=true:=by kernel_rfl
def zlB:=PLift.up (uq (by conv=>lhs;simp only[Qc,Qt,Za,f113,Tryz.f113]:f113=_))
theorem zs3:type_of% zlB.1:=zlB.1
noncomputable def f112:AQ:=xf Tryz.prog Tryz.f112 []
theorem hf112:zH Tryz.prog 112=some ⟨9,f112.erase,[(RX.t 4)]⟩:=by kernel_rfl
theorem okf112:f112.ok=true:=by kernel_rfl
def zlC:=PLift.up (uq (by conv=>lhs;simp only[Qc,Qt,Za,f112,Tryz.f112]:f112=_))
theorem zs4:type_of% zlC.1:=zlC.1
noncomputable def f179:AQ:=xf Tryz.prog Tryz.f179 [(5,0,lp [0,1,7,8] [])]
theorem hf179:zH Tryz.prog 179=some ⟨19,f179.erase,[(RX.t 4)]⟩:=by kernel_rfl
theorem okf179:f179.ok=true:=by kernel_rfl
def zlD:=PLift.up (uq (by conv=>lhs;simp only[Qc,Qt,Za,f179,Tryz.f179]:f179=_))
theorem zs5:type_of% zlD.1:=zlD.1
noncomputable def f13:AQ:=xf Tryz.prog Tryz.f13 [(5,0,lp [7,19,20,21] [16,19,32,20000,20001,20002]),(0,7,.frz 9)]
theorem hf13:zH Tryz.prog 13=some ⟨35,f13.erase,[(RX.t 4),(RX.t 5)]⟩:=by kernel_rfl
theorem okf13:f13.ok=true:=by kernel_rfl
def zlE:=PLift.up (uq (by conv=>lhs;simp only[Qc,Qt,Za,f13,Tryz.f13]:f13=_))
theorem zs6:type_of% zlE.1:=zlE.1
noncomputable def f53:AQ:=xf Tryz.prog Tryz.f53 []
theorem hf53:zH Tryz.prog 53=some ⟨7,f53.erase,[(RX.t 3)]⟩:=by kernel_rfl
theorem okf53:f53.ok=true:=by kernel_rfl
def zlF:=PLift.up (uq (by conv=>lhs;simp only[Qc,Qt,Za,f53,Tryz.f53]:f53=_))
theorem zs7:type_of% zlF.1:=zlF.1
noncomputable def f52:AQ:=xf Tryz.prog Tryz.f52 []
theorem hf52:zH Tryz.prog 52=some ⟨9,f52.erase,[(RX.t 4)]⟩:=by kernel_rfl
theorem okf52:f52.ok=true:=by kernel_rfl
def zlG:=PLift.up (uq (by conv=>lhs;simp only[Qc,Qt,Za,f52,Tryz.f52]:f52=_))
theorem zs8:type_of% zlG.1:=zlG.1
noncomputable def f111:AQ:=xf Tryz.prog Tryz.f111 [(5,0,lp [0,1,7,8] [])]
theorem hf111:zH Tryz.prog 111=some ⟨19,f111.erase,[(RX.t 4)]⟩:=by kernel_rfl
theorem okf111:f111.ok=true:=by kernel_rfl
def zlH:=PLift.up (uq (by conv=>lhs;simp only[Qc,Qt,Za,f111,Tryz.f111]:f111=_))
theorem zs9:type_of% zlH.1:=zlH.1
noncomputable def f114:AQ:=xf Tryz.prog Tryz.f114 []
theorem hf114:zH Tryz.prog 114=some ⟨9,f114.erase,[(RX.t 4)]⟩:=by kernel_rfl
theorem okf114:f114.ok=true:=by kernel_rfl
def zlI:=PLift.up (uq (by conv=>lhs;simp only[Qc,Qt,Za,f114,Tryz.f114]:f114=_))
theorem zta:type_of% zlI.1:=zlI.1
noncomputable def f180:AQ:=xf Tryz.prog Tryz.f180 [(5,0,lp [0,1,7,8] [])]
theorem hf180:zH Tryz.prog 180=some ⟨19,f180.erase,[(RX.t 4)]⟩:=by kernel_rfl
theorem okf180:f180.ok=true:=by kernel_rfl
def zlJ:=PLift.up (uq (by conv=>lhs;simp only[Qc,Qt,Za,f180,Tryz.f180]:f180=_))
theorem ztb:type_of% zlJ.1:=zlJ.1
noncomputable def f17:AQ:=xf Tryz.prog Tryz.f17 [(5,0,lp [0,1,5] [])]
theorem hf17:zH Tryz.prog 17=some ⟨26,f17.erase,[(RX.t 4)]⟩:=by kernel_rfl
theorem okf17:f17.ok=true:=by kernel_rfl
def zlK:=PLift.up (uq (by conv=>lhs;simp only[Qc,Qt,Za,f17,Tryz.f17]:f17=_))
theorem zlL:type_of% zlK.1:=zlK.1
noncomputable def f18:AQ:=xf Tryz.prog Tryz.f18 [(5,0,lp [0,1,5] [])]
theorem hf18:zH Tryz.prog 18=some ⟨27,f18.erase,[(RX.t 4)]⟩:=by kernel_rfl
theorem okf18:f18.ok=true:=by kernel_rfl
def zlM:=PLift.up (uq (by conv=>lhs;simp only[Qc,Qt,Za,f18,Tryz.f18]:f18=_))
theorem zlN:type_of% zlM.1:=zlM.1
noncomputable def f34:AQ:=xf Tryz.prog Tryz.f34 [(5,0,lp [0,1,5] [])]
theorem hf34:zH Tryz.prog 34=some ⟨18,f34.erase,[(RX.t 4)]⟩:=by kernel_rfl
theorem okf34:f34.ok=true:=by kernel_rfl
def zlP:=PLift.up (uq (by conv=>lhs;simp only[Qc,Qt,Za,f34,Tryz.f34]:f34=_))
theorem ztd:type_of% zlP.1:=zlP.1
noncomputable def f42:AQ:=xf Tryz.prog Tryz.f42 [(0,1,.frz 1),(0,2,.frz 2),(2,3,rgf 3 [13]),(2,2,rgs [(1,[7]),(2,[9]),(3,[])]),(2,1,rgs [(1,[3]),(2,[5]),(3,[])])]
theorem hf42:zH Tryz.prog 42=some ⟨16,f42.erase,[(RX.t 0)]⟩:=by kernel_rfl
theorem okf42:f42.ok=true:=by kernel_rfl
def zlQ:=PLift.up (uq (by conv=>lhs;simp only[Qc,Qt,Za,f42,Tryz.f42]:f42=_))
theorem zte:type_of% zlQ.1:=zlQ.1
noncomputable def f41:AQ:=xf Tryz.prog Tryz.f41 []
theorem hf41:zH Tryz.prog 41=some ⟨6,f41.erase,[(RX.t 0)]⟩:=by kernel_rfl
theorem okf41:f41.ok=true:=by kernel_rfl
def zlR:=PLift.up (uq (by conv=>lhs;simp only[Qc,Qt,Za,f41,Tryz.f41]:f41=_))
theorem ztf:type_of% zlR.1:=zlR.1
noncomputable def f56:AQ:=xf Tryz.prog Tryz.f56 [(0,0,.frz 3)]
theorem hf56:zH Tryz.prog 56=some ⟨32,f56.erase,[(RX.t 4)]⟩:=by kernel_rfl
theorem okf56:f56.ok=true:=by kernel_rfl
def zlS:=PLift.up (uq (by conv=>lhs;simp only[Qc,Qt,Za,f56,Tryz.f56]:f56=_))
theorem cQ:type_of% zlS.1:=zlS.1
noncomputable def f60:AQ:=xf Tryz.prog Tryz.f60 [(0,0,.frz 7),(0,0,.frz 4),(5,1,lp [1,7,10,32,33,34] [7,10,57]),(0,10,.frz 12)]
theorem hf60:zH Tryz.prog 60=some ⟨60,f60.erase,[(RX.t 8),(RX.t 9)]⟩:=by kernel_rfl
theorem okf60:f60.ok=true:=by kernel_rfl
def zlT:=PLift.up (uq (by conv=>lhs;simp only[Qc,Qt,Za,f60,Tryz.f60]:f60=_))
theorem zcd:type_of% zlT.1:=zlT.1
noncomputable def f15:AQ:=xf Tryz.prog Tryz.f15 [(0,0,.frz 5),(0,0,.frz 4),(5,0,lp [4,5,9,11,47,48,49] [4,5,36,44,73,77,37000,37001,37002,45000,45001,45002,78000,78001,78002]),(0,12,.frz 14),(2,6,drm 7)]
theorem hf15:zH Tryz.prog 15=some ⟨82,f15.erase,[(RX.t 6),(RX.t 7)]⟩:=by kernel_rfl
theorem okf15:f15.ok=true:=by kernel_rfl
def zlU:=PLift.up (uq (by conv=>lhs;simp only[Qc,Qt,Za,f15,Tryz.f15]:f15=_))
theorem ztg:type_of% zlU.1:=zlU.1
def f62r3o0:AI:=.mk none (.load 8 1 false (.t 1))
def f62r3o1:AI:=.mk none (.faddr 9 0 (.t 2))
def f62r3o2:AI:=.mk none (.load 10 1 false (.t 9))
def f62r3o3:AI:=.mk none (.iaddr 11 2 (.t 8) (.t 10))
def f62r3o4:AI:=.mk none (.load 12 2 true (.t 11))
def f62r3o5:AI:=.mk none (.faddr 13 1 (.t 2))
def f62r3o6:AI:=.mk none (.load 14 1 false (.t 13))
def f62r3o7:AI:=.mk none (.mov 15 (.t 0))
def f62r3o8:AI:=.mk none (.call (some 16) 63 [(.t 12),(.t 14),(.t 15)])
def f62r3o9:AI:=.mk none (.mov 7 (.t 16))
def f62r3o10:AI:=.mk none (.extr 17 (.t 7) 0)
def f62r3o11:AI:=.mk none (.extr 18 (.t 7) 1)
def f62r3o12:AI:=.mk none (.alloc 5 69 [(.str []),(.list 0 (some true) [])])
def f62r3o13:AI:=.mk none (.store 2 (.t 5) (.t 17))
def f62r3o14:AI:=.mk none (.mov 6 (.t 18))
def f62r3:LA:=[f62r3o0,f62r3o1,f62r3o2,f62r3o3,f62r3o4,f62r3o5,f62r3o6,f62r3o7,f62r3o8,f62r3o9,f62r3o10,f62r3o11,f62r3o12,f62r3o13,f62r3o14]
theorem zth:nD f62r3 [[],[],[1],[0,2],[3],[],[5],[],[4,6,7],[8],[9],[9],[],[12,10,8,0,1,2,3,4,5,6,7,8,9,10,12],[11,13,0,1,2,3,4,5,6,7,8,9,10,11,12,13]]=(.one f62r3o12 (.one f62r3o0 (.one f62r3o1 (.one f62r3o2 (.one f62r3o3 (.one f62r3o4 (.one f62r3o5 (.one f62r3o6 (.one f62r3o7 (.one f62r3o8 (.one f62r3o9 (.one f62r3o10 (.alt (.one f62r3o11 (.one f62r3o13 (.one f62r3o14 .done))) (.alt (.one f62r3o13 (.one f62r3o11 (.one f62r3o14 .done))) .top)))))))))))))):=by kernel_rfl
def f62:AQ:=(ζ [η (.mov 4 (χ false))] (.seq (.tree f62r3 [[],[],[1],[0,2],[3],[],[5],[],[4,6,7],[8],[9],[9],[],[12,10,8,0,1,2,3,4,5,6,7,8,9,10,12],[11,13,0,1,2,3,4,5,6,7,8,9,10,11,12,13]]) (.keep [6] [] (ζ [θ 19 6,η (.bin 20 .neq (.t 19) (φ 0)),θ 4 20] .ret))))
theorem hf62:zH Tryz.prog 62=some ⟨21,f62.erase,[(RX.t 4)]⟩:=by kernel_rfl
theorem okf62:f62.ok=true:=by kernel_rfl
def Υ62:=PLift.up (uu f62.eq_1)
theorem Ψ62:type_of% Υ62.1:=Υ62.1
noncomputable def f59:AQ:=xf Tryz.prog Tryz.f59 [(0,0,.frz 3)]
theorem hf59:zH Tryz.prog 59=some ⟨9,f59.erase,[(RX.t 4)]⟩:=by kernel_rfl
theorem okf59:f59.ok=true:=by kernel_rfl
def zlV:=PLift.up (uq (by conv=>lhs;simp only[Qc,Qt,Za,f59,Tryz.f59]:f59=_))
theorem zti:type_of% zlV.1:=zlV.1
noncomputable def f118:AQ:=xf Tryz.prog Tryz.f118 [(0,0,.frz 3),(5,0,lp [0,3,7,8] [3])]
theorem hf118:zH Tryz.prog 118=some ⟨19,f118.erase,[(RX.t 4)]⟩:=by kernel_rfl
theorem okf118:f118.ok=true:=by kernel_rfl
def zlW:=PLift.up (uq (by conv=>lhs;simp only[Qc,Qt,Za,f118,Tryz.f118]:f118=_))
theorem ztj:type_of% zlW.1:=zlW.1
noncomputable def f132:AQ:=xf Tryz.prog Tryz.f132 []
theorem hf132:zH Tryz.prog 132=some ⟨8,f132.erase,[(RX.t 2)]⟩:=by kernel_rfl
theorem okf132:f132.ok=true:=by kernel_rfl
def zlX:=PLift.up (uq (by conv=>lhs;simp only[Qc,Qt,Za,f132,Tryz.f132]:f132=_))
theorem zlY:type_of% zlX.1:=zlX.1
noncomputable def f133:AQ:=xf Tryz.prog Tryz.f133 []
theorem hf133:zH Tryz.prog 133=some ⟨8,f133.erase,[(RX.t 2)]⟩:=by kernel_rfl
theorem okf133:f133.ok=true:=by kernel_rfl
def zlZ:=PLift.up (uq (by conv=>lhs;simp only[Qc,Qt,Za,f133,Tryz.f133]:f133=_))
theorem zl0:type_of% zlZ.1:=zlZ.1
noncomputable def f9:AQ:=xf Tryz.prog Tryz.f9 [(0,3,.frz 3),(2,12,rgs [(6,[90]),(1,[91]),(9,[])])]
theorem hf9:zH Tryz.prog 9=some ⟨135,f9.erase,[(RX.t 0)]⟩:=by kernel_rfl
theorem okf9:f9.ok=true:=by kernel_rfl
def yg9:=PLift.up (uq (by conv=>lhs;simp only[Qc,Qt,Za,f9,Tryz.f9]:f9=_))
theorem yf9:type_of% yg9.1:=yg9.1
noncomputable def f4:AQ:=xf Tryz.prog Tryz.f4 [(5,8,lp [7,8,10,15,17,18] [15,34,40,123,35000,35001,35002,41000,41001,41002]),(5,6,lp [0,2,7,8,10,15,16] [15,34,40,123,35000,35001,35002,41000,41001,41002]),(5,0,lp [0,2,7,8,10,12] [34,40,35000,35001,35002,41000,41001,41002]),(5,4,lp [0,2,7,8,10,12,14] [34,40,35000,35001,35002,41000,41001,41002]),(5,2,lp [0,2,7,8,10,12,13] [34,40,35000,35001,35002,41000,41001,41002])]
theorem hf4:zH Tryz.prog 4=some ⟨147,f4.erase,[(RX.t 6)]⟩:=by kernel_rfl
noncomputable def f28:AQ:=xf Tryz.prog Tryz.f28 [(5,0,lp [0,1,5] []),(5,2,lp [0,1,5,6,7] [])]
noncomputable def f29:AQ:=xf Tryz.prog Tryz.f29 [(5,0,lp [0,1,5,6] [5,22])]
noncomputable def f5:AQ:=xf Tryz.prog Tryz.f5 [(5,4,lp [0,1,5,8,18] [42,43000,43001,43002]),(5,0,lp [0,1,5,6,8,10] [36,42,37000,37001,37002,43000,43001,43002]),(5,2,lp [0,1,5,6,8,10,13] [36,42,37000,37001,37002,43000,43001,43002])]
noncomputable def f73:AQ:=xf Tryz.prog Tryz.f73 [(3,0,.frz 9),(5,0,lp [1,2,12,13,14] [1,2,9,21,10000,10001,10002,22000,22001,22002]),(3,2,.frz 21),(5,2,lp [1,2,3,4,12,13,14,24,25,26] [1,2,4,9,21,10000,10001,10002,22000,22001,22002]),(0,8,.frz 6)]
theorem hf73:zH Tryz.prog 73=some ⟨47,f73.erase,[(RX.cell 2 2 true)]⟩:=by kernel_rfl
theorem okf73:f73.ok=true:=by kernel_rfl
def zl3:=PLift.up (uq (by conv=>lhs;simp only[Qc,Qt,Za,f73,Tryz.f73]:f73=_))
theorem ztm:type_of% zl3.1:=zl3.1
def f20l15:AQ:=.loop [4,8,10,46,47,48] [4,8,45,56,57000,57001,57002] (ζ [rO 49 .lss 48 47] (.seq (.cond (.t 49) .skip (.exit 1)) (.seq (.block 2 (ζ [θ 50 48,Ψ 51 2 46 48,ω 52 2 51,η (.alloc 12 69 [(.str []),(.list 0 (some true) [])]),θ 11 50,Φ 2 12 52] (.frz 12 (.region [θ 53 10,θ 54 11,ω 55 2 12,Θ 56 73 55,Ψ 57 2 53 54,Φ 2 57 56])))) (.region [η (.bin 58 .add (.t 48) (φ 1)),θ 48 58]))))
def f20r28o0:AI:=.mk none (.mov 29 (.t 0))
def f20r28o1:AI:=.mk none (.faddr 30 0 (.t 4))
def f20r28o2:AI:=.mk none (.load 31 1 false (.t 30))
def f20r28o3:AI:=.mk none (.iaddr 32 2 (.t 29) (.t 31))
def f20r28o4:AI:=.mk none (.load 33 2 true (.t 32))
def f20r28o5:AI:=.mk none (.faddr 34 1 (.t 4))
def f20r28o6:AI:=.mk none (.load 35 1 false (.t 34))
def f20r28o7:AI:=.mk none (.mov 36 (.t 2))
def f20r28o8:AI:=.mk none (.call (some 37) 63 [(.t 33),(.t 35),(.t 36)])
def f20r28o9:AI:=.mk none (.mov 28 (.t 37))
def f20r28o10:AI:=.mk none (.extr 38 (.t 28) 0)
def f20r28o11:AI:=.mk none (.extr 39 (.t 28) 1)
def f20r28o12:AI:=.mk none (.alloc 8 69 [(.str []),(.list 0 (some true) [])])
def f20r28o13:AI:=.mk none (.store 2 (.t 8) (.t 38))
def f20r28o14:AI:=.mk none (.mov 9 (.t 39))
def f20r28:LA:=[f20r28o0,f20r28o1,f20r28o2,f20r28o3,f20r28o4,f20r28o5,f20r28o6,f20r28o7,f20r28o8,f20r28o9,f20r28o10,f20r28o11,f20r28o12,f20r28o13,f20r28o14]
theorem ztn:nD f20r28 [[],[],[1],[0,2],[3],[],[5],[],[4,6,7],[8],[9],[9],[],[12,10,8,0,1,2,3,4,5,6,7,8,9,10,12],[11,13,0,1,2,3,4,5,6,7,8,9,10,11,12,13]]=(.one f20r28o12 (.one f20r28o0 (.one f20r28o1 (.one f20r28o2 (.one f20r28o3 (.one f20r28o4 (.one f20r28o5 (.one f20r28o6 (.one f20r28o7 (.one f20r28o8 (.one f20r28o9 (.one f20r28o10 (.alt (.one f20r28o11 (.one f20r28o13 (.one f20r28o14 .done))) (.alt (.one f20r28o13 (.one f20r28o11 (.one f20r28o14 .done))) .top)))))))))))))):=by kernel_rfl
def f20:AQ:=(ζ [rN 4 25 1,η (.nilL 6 69 2),η (.mov 7 (φ 0))] (.frz 4 (.seq (.block 0 (ζ [θ 14 0,Ω 15 14,η (.bin 16 .gtr (.t 15) (φ 8)),θ 13 16] (.cond (.t 13) (ζ [η (.nilL 6 69 2),η (.mov 7 (φ 6))] .ret) (ζ [Γ 18 0 4,ψ 19 1 18,η (.bin 20 .lss (.t 19) (φ 0)),θ 21 20,fE 21 (.faddr 22 0 (.t 4)),fE 21 (.load 23 1 false (.t 22)),fE 21 (.mov 24 (.t 0)),fE 21 (.len 25 (.t 24)),fE 21 (.bin 26 .geq (.t 23) (.t 25)),η (.pick 27 (.t 21) (χ true) (.t 26)),θ 17 27] (.cond (.t 17) (ζ [η (.nilL 6 69 2),η (.mov 7 (φ 4))] .ret) .skip))))) (.seq (.tree f20r28 [[],[],[1],[0,2],[3],[],[5],[],[4,6,7],[8],[9],[9],[],[12,10,8,0,1,2,3,4,5,6,7,8,9,10,12],[11,13,0,1,2,3,4,5,6,7,8,9,10,11,12,13]]) (.keep [0,4,8,9] [4,8] (.seq (ζ [θ 40 9,η (.bin 41 .neq (.t 40) (φ 0))] (.cond (.t 41) (ζ [θ 42 9,η (.nilL 6 69 2),θ 7 42] .ret) .skip)) (ζ [θ 43 0,Ω 44 43,η (.mkslice 45 69 2 40 [(.str []),(.list 0 (some true) [])] (.t 44) (.t 44)),θ 10 45] (.seq (ζ [θ 46 0,Ω 47 46,η (.mov 48 (φ 0))] (.block 1 f20l15)) (ζ [θ 59 10,Γ 60 0 4,ψ 61 1 60,ω 62 2 8,Ψ 63 2 59 61,Φ 2 63 62] (ζ [θ 64 10,θ 6 64,η (.mov 7 (φ 0))] .ret))))))))))
theorem hf20:zH Tryz.prog 20=some ⟨65,f20.erase,[(RX.t 6),(RX.t 7)]⟩:=by kernel_rfl
theorem okf20:f20.ok=true:=by kernel_rfl
def Υ20:=PLift.up (uu f20.eq_1)
theorem Ψ20:type_of% Υ20.1:=Υ20.1
noncomputable def f79:AQ:=xf Tryz.prog Tryz.f79 [(0,0,.frz 2),(0,1,.frz 5)]
theorem hf79:zH Tryz.prog 79=some ⟨16,f79.erase,[(RX.t 4)]⟩:=by kernel_rfl
theorem okf79:f79.ok=true:=by kernel_rfl
def zl4:=PLift.up (uq (by conv=>lhs;simp only[Qc,Qt,Za,f79,Tryz.f79]:f79=_))
theorem zl5:type_of% zl4.1:=zl4.1
noncomputable def f135:AQ:=xf Tryz.prog Tryz.f135 [(0,0,.frz 2)]
theorem hf135:zH Tryz.prog 135=some ⟨9,f135.erase,[(RX.t 3)]⟩:=by kernel_rfl
theorem okf135:f135.ok=true:=by kernel_rfl
def zl6:=PLift.up (uq (by conv=>lhs;simp only[Qc,Qt,Za,f135,Tryz.f135]:f135=_))
theorem zto:type_of% zl6.1:=zl6.1
noncomputable def f136:AQ:=xf Tryz.prog Tryz.f136 []
theorem hf136:zH Tryz.prog 136=some ⟨7,f136.erase,[(RX.t 3)]⟩:=by kernel_rfl
theorem okf136:f136.ok=true:=by kernel_rfl
def zl7:=PLift.up (uq (by conv=>lhs;simp only[Qc,Qt,Za,f136,Tryz.f136]:f136=_))
theorem ztp:type_of% zl7.1:=zl7.1
noncomputable def f137:AQ:=xf Tryz.prog Tryz.f137 []
theorem hf137:zH Tryz.prog 137=some ⟨8,f137.erase,[(RX.t 3)]⟩:=by kernel_rfl
theorem okf137:f137.ok=true:=by kernel_rfl
def zl8:=PLift.up (uq (by conv=>lhs;simp only[Qc,Qt,Za,f137,Tryz.f137]:f137=_))
theorem ztq:type_of% zl8.1:=zl8.1
noncomputable def f22:AQ:=xf Tryz.prog Tryz.f22 [(5,2,lp [0,1,6,11,47,48,49] [8,11,27,42,47,106,28000,28001,28002,48000,48001,48002]),(0,14,.frz 13),(5,4,lp [0,1,6,11,13,47,48,49,63,64,65] [8,11,13,27,42,47,57,106,28000,28001,28002,48000,48001,48002,58000,58001,58002]),(0,23,.own 21 22021 3 1),(3,6,.frz 22021),(5,6,lp [0,1,6,11,13,20,21,47,48,49,63,64,65,82,83,84] [8,11,13,21,27,42,47,57,73,78,96,106,22021,28000,28001,28002,48000,48001,48002,58000,58001,58002,74000,74001,74002,79000,79001,79002]),(0,26,.frz 23),(5,0,lp [0,1,6,8,33,34,35] [8,27,42,28000,28001,28002]),(0,7,.frz 10)]
theorem hf22:zH Tryz.prog 22=some ⟨110,f22.erase,[(RX.t 4),(RX.t 5)]⟩:=by kernel_rfl
theorem okf22:f22.ok=true:=by kernel_rfl
def zl9:=PLift.up (uq (by conv=>lhs;simp only[Qc,Qt,Za,f22,Tryz.f22]:f22=_))
theorem zma:type_of% zl9.1:=zl9.1
noncomputable def f33:AQ:=xf Tryz.prog Tryz.f33 [(0,0,.frz 3),(5,0,lp [0,3,5] [3]),(5,2,lp [0,3,5,6] [3])]
theorem hf33:zH Tryz.prog 33=some ⟨33,f33.erase,[(RX.t 4)]⟩:=by kernel_rfl
theorem okf33:f33.ok=true:=by kernel_rfl
def zy3:=PLift.up (uq (by conv=>lhs;simp only[Qc,Qt,Za,f33,Tryz.f33]:f33=_))
theorem zze:type_of% zy3.1:=zy3.1
noncomputable def f87:AQ:=xf Tryz.prog Tryz.f87 [(5,0,lp [0,1,5,6] [5,22])]
theorem hf87:zH Tryz.prog 87=some ⟨24,f87.erase,[(RX.t 4)]⟩:=by kernel_rfl
theorem okf87:f87.ok=true:=by kernel_rfl
def zy4:=PLift.up (uq (by conv=>lhs;simp only[Qc,Qt,Za,f87,Tryz.f87]:f87=_))
theorem zzf:type_of% zy4.1:=zy4.1
noncomputable def f35:AQ:=xf Tryz.prog Tryz.f35 [(0,0,.frz 5)]
theorem hf35:zH Tryz.prog 35=some ⟨32,f35.erase,[(RX.t 6)]⟩:=by kernel_rfl
theorem okf35:f35.ok=true:=by kernel_rfl
def zy5:=PLift.up (uq (by conv=>lhs;simp only[Qc,Qt,Za,f35,Tryz.f35]:f35=_))
theorem zzg:type_of% zy5.1:=zy5.1
noncomputable def f7:AQ:=xf Tryz.prog Tryz.f7 [(0,0,.frz 6),(5,6,lp [6,9,10,12,21,24,26,27] [6,72,78,73000,73001,73002,79000,79001,79002]),(5,4,lp [0,6,9,10,12,21,22,24,25] [6,72,78,161,73000,73001,73002,79000,79001,79002,162000,162001,162002]),(5,0,lp [0,1,3,6,9,10,12,14,16,18] [6,72,78,85,96,73000,73001,73002,79000,79001,79002,86000,86001,86002,97000,97001,97002]),(5,2,lp [0,1,3,6,9,10,12,14,16,18,19,20] [6,72,78,85,96,73000,73001,73002,79000,79001,79002,86000,86001,86002,97000,97001,97002]),(2,7,drm 7)]
theorem hf7:zH Tryz.prog 7=some ⟨218,f7.erase,[(RX.t 8)]⟩:=by kernel_rfl
theorem okf7:f7.ok=true:=by kernel_rfl
def yg7:=PLift.up (uq (by conv=>lhs;simp only[Qc,Qt,Za,f7,Tryz.f7]:f7=_))
theorem yf7:type_of% yg7.1:=yg7.1
noncomputable def f161:AQ:=xf Tryz.prog Tryz.f161 []
theorem hf161:zH Tryz.prog 161=some ⟨15,f161.erase,[(RX.t 2),(RX.t 3)]⟩:=by kernel_rfl
theorem okf161:f161.ok=true:=by kernel_rfl
def zmb:=PLift.up (uq (by conv=>lhs;simp only[Qc,Qt,Za,f161,Tryz.f161]:f161=_))
theorem ztr:type_of% zmb.1:=zmb.1
noncomputable def f57:AQ:=xf Tryz.prog Tryz.f57 []
theorem hf57:zH Tryz.prog 57=some ⟨29,f57.erase,[(RX.t 4),(RX.t 5)]⟩:=by kernel_rfl
theorem okf57:f57.ok=true:=by kernel_rfl
def zmc:=PLift.up (uq (by conv=>lhs;simp only[Qc,Qt,Za,f57,Tryz.f57]:f57=_))
theorem cR:type_of% zmc.1:=zmc.1
noncomputable def f115:AQ:=xf Tryz.prog Tryz.f115 [(5,2,lp [8,9,29,30,31] [9,51]),(0,14,.frz 11),(5,0,lp [0,17,18,19] []),(0,5,.frz 6)]
theorem hf115:zH Tryz.prog 115=some ⟨58,f115.erase,[(RX.t 2),(RX.t 3),(RX.t 4)]⟩:=by kernel_rfl
theorem okf115:f115.ok=true:=by kernel_rfl
def zmd:=PLift.up (uq (by conv=>lhs;simp only[Qc,Qt,Za,f115,Tryz.f115]:f115=_))
theorem zme:type_of% zmd.1:=zmd.1
def f116r5o0:AI:=.mk none (.mov 20 (.t 7))
def f116r5o1:AI:=.mk none (.mov 21 (.t 8))
def f116r5o2:AI:=.mk none (.mov 22 (.t 0))
def f116r5o3:AI:=.mk none (.mov 23 (.t 8))
def f116r5o4:AI:=.mk none (.iaddr 24 2 (.t 22) (.t 23))
def f116r5o5:AI:=.mk none (.load 25 2 true (.t 24))
def f116r5o6:AI:=.mk none (.mov 26 (.t 2))
def f116r5o7:AI:=.mk none (.mov 27 (.t 1))
def f116r5o8:AI:=.mk none (.mov 28 (.t 8))
def f116r5o9:AI:=.mk none (.iaddr 29 1 (.t 27) (.t 28))
def f116r5o10:AI:=.mk none (.load 30 1 false (.t 29))
def f116r5o11:AI:=.mk none (.bin 31 .rem (.t 26) (.t 30))
def f116r5o12:AI:=.mk none (.call (some 32) 182 [(.t 25),(.t 31)])
def f116r5o13:AI:=.mk none (.mov 19 (.t 32))
def f116r5o14:AI:=.mk none (.extr 33 (.t 19) 0)
def f116r5o15:AI:=.mk none (.extr 34 (.t 19) 1)
def f116r5o16:AI:=.mk none (.iaddr 35 3 (.t 20) (.t 21))
def f116r5o17:AI:=.mk none (.store 3 (.t 35) (.t 33))
def f116r5:LA:=[f116r5o0,f116r5o1,f116r5o2,f116r5o3,f116r5o4,f116r5o5,f116r5o6,f116r5o7,f116r5o8,f116r5o9,f116r5o10,f116r5o11,f116r5o12,f116r5o13,f116r5o14,f116r5o15,f116r5o16,f116r5o17]
theorem zts:nD f116r5 [[],[],[],[],[2,3],[4],[],[],[],[7,8],[9],[6,10],[5,11],[12],[13],[13],[0,1,0,1,2,3,4,5,6,7,8,9,10,11,12,13,14],[16,14,12,0,1,2,3,4,5,6,7,8,9,10,11,12,13,14]]=(.one f116r5o0 (.one f116r5o1 (.one f116r5o2 (.one f116r5o3 (.one f116r5o4 (.one f116r5o5 (.one f116r5o6 (.one f116r5o7 (.one f116r5o8 (.one f116r5o9 (.one f116r5o10 (.one f116r5o11 (.one f116r5o12 (.one f116r5o13 (.one f116r5o14 (.one f116r5o16 (.alt (.one f116r5o15 (.one f116r5o17 .done)) (.alt (.one f116r5o17 (.one f116r5o15 .done)) .top)))))))))))))))))):=by kernel_rfl
def f116l13:AQ:=.loop [0,1,2,7,8] [11,32,33000,33001,33002] (.seq (ζ [θ 15 8,η (.bin 16 .geq (.t 15) (φ 0))] (.cond (.t 16) .skip (.exit 0))) (.seq (.block 1 (.seq (.tree f116r5 [[],[],[],[],[2,3],[4],[],[],[],[7,8],[9],[6,10],[5,11],[12],[13],[13],[0,1,0,1,2,3,4,5,6,7,8,9,10,11,12,13,14],[16,14,12,0,1,2,3,4,5,6,7,8,9,10,11,12,13,14]]) (.keep [0,1,2,7,8] [11,32,33000,33001,33002] (.region [θ 36 2,θ 37 1,θ 38 8,Ψ 39 1 37 38,ψ 40 1 39,rO 41 .quo 36 40,θ 2 41])))) (.region [θ 17 8,η (.bin 18 .sub (.t 17) (φ 1)),θ 8 18])))
def f116:AQ:=(ζ [η (.nilL 6 155 3)] (ζ [θ 9 0,Ω 10 9,η (.mkslice 11 155 3 64 [(.str []),(.list 0 (some true) []),(.list 0 (some true) [])] (.t 10) (.t 10)),θ 7 11] (.seq (ζ [θ 12 0,Ω 13 12,η (.bin 14 .sub (.t 13) (φ 1)),θ 8 14] (.block 0 f116l13)) (ζ [θ 42 7,θ 6 42] .ret))))
theorem hf116:zH Tryz.prog 116=some ⟨43,f116.erase,[(RX.t 6)]⟩:=by kernel_rfl
theorem okf116:f116.ok=true:=by kernel_rfl
def Υ116:=PLift.up (uu f116.eq_1)
theorem Ψ116:type_of% Υ116.1:=Υ116.1
noncomputable def f85:AQ:=xf Tryz.prog Tryz.f85 [(5,0,lp [0,3] [3,14])]
theorem hf85:zH Tryz.prog 85=some ⟨16,f85.erase,[(RX.t 2)]⟩:=by kernel_rfl
theorem okf85:f85.ok=true:=by kernel_rfl
def zmf:=PLift.up (uq (by conv=>lhs;simp only[Qc,Qt,Za,f85,Tryz.f85]:f85=_))
theorem ztt:type_of% zmf.1:=zmf.1
noncomputable def f86:AQ:=xf Tryz.prog Tryz.f86 []
theorem hf86:zH Tryz.prog 86=some ⟨9,f86.erase,[(RX.t 4)]⟩:=by kernel_rfl
theorem okf86:f86.ok=true:=by kernel_rfl
def zmg:=PLift.up (uq (by conv=>lhs;simp only[Qc,Qt,Za,f86,Tryz.f86]:f86=_))
theorem ztu:type_of% zmg.1:=zmg.1
noncomputable def f151:AQ:=xf Tryz.prog Tryz.f151 [(5,0,lp [0,1,7,8] [])]
theorem hf151:zH Tryz.prog 151=some ⟨19,f151.erase,[(RX.t 4)]⟩:=by kernel_rfl
theorem okf151:f151.ok=true:=by kernel_rfl
def zmh:=PLift.up (uq (by conv=>lhs;simp only[Qc,Qt,Za,f151,Tryz.f151]:f151=_))
theorem ztv:type_of% zmh.1:=zmh.1
noncomputable def f83:AQ:=xf Tryz.prog Tryz.f83 [(0,0,.frz 1),(5,6,lp [10,64,65,66] [3,10,26,63,74]),(5,2,lp [1,3,5,6] [1,3,26,63]),(5,4,lp [1,3,5,6,7,42,43,44] [1,3,26,40,42,63,41000,41001,41002,43000,43001,43002]),(5,0,lp [1,3,13] [1,3,26,63])]
theorem hf83:zH Tryz.prog 83=some ⟨79,f83.erase,[(RX.t 2)]⟩:=by kernel_rfl
theorem okf83:f83.ok=true:=by kernel_rfl
def zmi:=PLift.up (uq (by conv=>lhs;simp only[Qc,Qt,Za,f83,Tryz.f83]:f83=_))
theorem ztw:type_of% zmi.1:=zmi.1
noncomputable def f144:AQ:=xf Tryz.prog Tryz.f144 [(0,0,.frz 2)]
theorem hf144:zH Tryz.prog 144=some ⟨9,f144.erase,[(RX.t 3)]⟩:=by kernel_rfl
theorem okf144:f144.ok=true:=by kernel_rfl
def zmj:=PLift.up (uq (by conv=>lhs;simp only[Qc,Qt,Za,f144,Tryz.f144]:f144=_))
theorem ztx:type_of% zmj.1:=zmj.1
noncomputable def f145:AQ:=xf Tryz.prog Tryz.f145 []
theorem hf145:zH Tryz.prog 145=some ⟨9,f145.erase,[(RX.t 4)]⟩:=by kernel_rfl
theorem okf145:f145.ok=true:=by kernel_rfl
def zmk:=PLift.up (uq (by conv=>lhs;simp only[Qc,Qt,Za,f145,Tryz.f145]:f145=_))
theorem zty:type_of% zmk.1:=zmk.1
noncomputable def f146:AQ:=xf Tryz.prog Tryz.f146 []
theorem hf146:zH Tryz.prog 146=some ⟨8,f146.erase,[(RX.t 3)]⟩:=by kernel_rfl
theorem okf146:f146.ok=true:=by kernel_rfl
def zml:=PLift.up (uq (by conv=>lhs;simp only[Qc,Qt,Za,f146,Tryz.f146]:f146=_))
theorem ztz:type_of% zml.1:=zml.1
noncomputable def f209:AQ:=xf Tryz.prog Tryz.f209 [(5,0,lp [0,1,7,8] [])]
theorem hf209:zH Tryz.prog 209=some ⟨19,f209.erase,[(RX.t 4)]⟩:=by kernel_rfl
theorem okf209:f209.ok=true:=by kernel_rfl
def zmm:=PLift.up (uq (by conv=>lhs;simp only[Qc,Qt,Za,f209,Tryz.f209]:f209=_))
theorem ztA:type_of% zmm.1:=zmm.1
noncomputable def f84:AQ:=xf Tryz.prog Tryz.f84 [(5,0,lp [0,2,7,10,11,12] [7,23])]
theorem hf84:zH Tryz.prog 84=some ⟨29,f84.erase,[(RX.t 6)]⟩:=by kernel_rfl
theorem okf84:f84.ok=true:=by kernel_rfl
def zmn:=PLift.up (uq (by conv=>lhs;simp only[Qc,Qt,Za,f84,Tryz.f84]:f84=_))
theorem ztB:type_of% zmn.1:=zmn.1
noncomputable def f27:AQ:=xf Tryz.prog Tryz.f27 [(0,1,.frz 6),(5,2,lp [0,8,10,49,50,51] [10,19,27,45,49,65,20000,20001,20002,28000,28001,28002,50000,50001,50002]),(5,0,lp [0,6,8,10,31,32,33] [6,10,19,27,31,45,65,20000,20001,20002,28000,28001,28002,32000,32001,32002])]
theorem hf27:zH Tryz.prog 27=some ⟨68,f27.erase,[(RX.t 4),(RX.t 5)]⟩:=by kernel_rfl
theorem okf27:f27.ok=true:=by kernel_rfl
def zmo:=PLift.up (uq (by conv=>lhs;simp only[Qc,Qt,Za,f27,Tryz.f27]:f27=_))
theorem zmp:type_of% zmo.1:=zmo.1
noncomputable def f31:AQ:=xf Tryz.prog Tryz.f31 [(0,1,.frz 6)]
theorem hf31:zH Tryz.prog 31=some ⟨27,f31.erase,[(RX.t 4),(RX.t 5)]⟩:=by kernel_rfl
theorem okf31:f31.ok=true:=by kernel_rfl
def zmq:=PLift.up (uq (by conv=>lhs;simp only[Qc,Qt,Za,f31,Tryz.f31]:f31=_))
theorem zmr:type_of% zmq.1:=zmq.1
noncomputable def f26:AQ:=xf Tryz.prog Tryz.f26 [(0,1,.frz 5)]
theorem hf26:zH Tryz.prog 26=some ⟨14,f26.erase,[(RX.t 4)]⟩:=by kernel_rfl
theorem okf26:f26.ok=true:=by kernel_rfl
def zms:=PLift.up (uq (by conv=>lhs;simp only[Qc,Qt,Za,f26,Tryz.f26]:f26=_))
theorem ztC:type_of% zms.1:=zms.1
noncomputable def f19:AQ:=xf Tryz.prog Tryz.f19 [(5,0,lp [0,1,5] [])]
theorem hf19:zH Tryz.prog 19=some ⟨26,f19.erase,[(RX.t 4)]⟩:=by kernel_rfl
theorem okf19:f19.ok=true:=by kernel_rfl
def zmt:=PLift.up (uq (by conv=>lhs;simp only[Qc,Qt,Za,f19,Tryz.f19]:f19=_))
theorem ztD:type_of% zmt.1:=zmt.1
noncomputable def f10:AQ:=xf Tryz.prog Tryz.f10 [(5,0,lp [0,1,5] [])]
theorem hf10:zH Tryz.prog 10=some ⟨48,f10.erase,[(RX.t 4)]⟩:=by kernel_rfl
theorem okf10:f10.ok=true:=by kernel_rfl
def zmu:=PLift.up (uq (by conv=>lhs;simp only[Qc,Qt,Za,f10,Tryz.f10]:f10=_))
theorem ztE:type_of% zmu.1:=zmu.1
noncomputable def f43:AQ:=xf Tryz.prog Tryz.f43 [(0,0,.frz 1),(5,0,lp [1,3] [1]),(5,2,lp [1,3,4] [1]),(5,4,lp [1,3,4,5,6] [1])]
theorem hf43:zH Tryz.prog 43=some ⟨78,f43.erase,[(RX.t 2)]⟩:=by kernel_rfl
theorem okf43:f43.ok=true:=by kernel_rfl
def zmv:=PLift.up (uq (by conv=>lhs;simp only[Qc,Qt,Za,f43,Tryz.f43]:f43=_))
theorem zce:type_of% zmv.1:=zmv.1
noncomputable def f44:AQ:=xf Tryz.prog Tryz.f44 [(5,0,lp [0,3] [])]
theorem hf44:zH Tryz.prog 44=some ⟨60,f44.erase,[(RX.t 2)]⟩:=by kernel_rfl
theorem okf44:f44.ok=true:=by kernel_rfl
def zmw:=PLift.up (uq (by conv=>lhs;simp only[Qc,Qt,Za,f44,Tryz.f44]:f44=_))
theorem ztF:type_of% zmw.1:=zmw.1
noncomputable def f45:AQ:=xf Tryz.prog Tryz.f45 [(5,2,lp [0,6,7] []),(5,0,lp [0,4] [])]
theorem hf45:zH Tryz.prog 45=some ⟨53,f45.erase,[(RX.t 2),(RX.t 3)]⟩:=by kernel_rfl
theorem okf45:f45.ok=true:=by kernel_rfl
def zmx:=PLift.up (uq (by conv=>lhs;simp only[Qc,Qt,Za,f45,Tryz.f45]:f45=_))
theorem zmy:type_of% zmx.1:=zmx.1
noncomputable def f95:AQ:=xf Tryz.prog Tryz.f95 [(0,0,.frz 1),(5,0,lp [1,3] [1]),(0,8,.frz 4),(5,4,lp [1,3,4,6] [1,4]),(5,2,lp [1,3,4,5] [1,4])]
theorem hf95:zH Tryz.prog 95=some ⟨67,f95.erase,[(RX.t 2)]⟩:=by kernel_rfl
theorem okf95:f95.ok=true:=by kernel_rfl
def zmz:=PLift.up (uq (by conv=>lhs;simp only[Qc,Qt,Za,f95,Tryz.f95]:f95=_))
theorem zcf:type_of% zmz.1:=zmz.1
noncomputable def f96:AQ:=xf Tryz.prog Tryz.f96 [(0,0,.frz 1),(5,0,lp [1,5,6] [1])]
theorem hf96:zH Tryz.prog 96=some ⟨30,f96.erase,[(RX.t 2),(RX.t 3)]⟩:=by kernel_rfl
theorem okf96:f96.ok=true:=by kernel_rfl
def zmA:=PLift.up (uq (by conv=>lhs;simp only[Qc,Qt,Za,f96,Tryz.f96]:f96=_))
theorem zmB:type_of% zmA.1:=zmA.1
noncomputable def f159:AQ:=xf Tryz.prog Tryz.f159 [(5,0,lp [0,3] [])]
theorem hf159:zH Tryz.prog 159=some ⟨42,f159.erase,[(RX.t 2)]⟩:=by kernel_rfl
theorem okf159:f159.ok=true:=by kernel_rfl
def zmC:=PLift.up (uq (by conv=>lhs;simp only[Qc,Qt,Za,f159,Tryz.f159]:f159=_))
theorem zcg:type_of% zmC.1:=zmC.1
noncomputable def f160:AQ:=xf Tryz.prog Tryz.f160 [(5,2,lp [0,4] []),(5,4,lp [0,4,5] []),(5,0,lp [0,3] [])]
theorem hf160:zH Tryz.prog 160=some ⟨44,f160.erase,[(RX.t 2)]⟩:=by kernel_rfl
theorem okf160:f160.ok=true:=by kernel_rfl
def zmD:=PLift.up (uq (by conv=>lhs;simp only[Qc,Qt,Za,f160,Tryz.f160]:f160=_))
theorem zch:type_of% zmD.1:=zmD.1
noncomputable def f126:AQ:=xf Tryz.prog Tryz.f126 [(0,0,.frz 1),(5,0,lp [1,3,4] [1])]
theorem hf126:zH Tryz.prog 126=some ⟨22,f126.erase,[(RX.t 2)]⟩:=by kernel_rfl
theorem okf126:f126.ok=true:=by kernel_rfl
def zmE:=PLift.up (uq (by conv=>lhs;simp only[Qc,Qt,Za,f126,Tryz.f126]:f126=_))
theorem ztG:type_of% zmE.1:=zmE.1
noncomputable def f222:AQ:=xf Tryz.prog Tryz.f222 []
theorem hf222:zH Tryz.prog 222=some ⟨17,f222.erase,[(RX.t 2)]⟩:=by kernel_rfl
theorem okf222:f222.ok=true:=by kernel_rfl
def zmF:=PLift.up (uq (by conv=>lhs;simp only[Qc,Qt,Za,f222,Tryz.f222]:f222=_))
theorem ztH:type_of% zmF.1:=zmF.1
noncomputable def f223:AQ:=xf Tryz.prog Tryz.f223 []
theorem hf223:zH Tryz.prog 223=some ⟨9,f223.erase,[(RX.t 2)]⟩:=by kernel_rfl
theorem okf223:f223.ok=true:=by kernel_rfl
def zmG:=PLift.up (uq (by conv=>lhs;simp only[Qc,Qt,Za,f223,Tryz.f223]:f223=_))
theorem ztI:type_of% zmG.1:=zmG.1
noncomputable def f131:AQ:=xf Tryz.prog Tryz.f131 [(5,0,lp [0,3] [])]
theorem hf131:zH Tryz.prog 131=some ⟨28,f131.erase,[(RX.t 2)]⟩:=by kernel_rfl
theorem okf131:f131.ok=true:=by kernel_rfl
def zmH:=PLift.up (uq (by conv=>lhs;simp only[Qc,Qt,Za,f131,Tryz.f131]:f131=_))
theorem ztJ:type_of% zmH.1:=zmH.1
noncomputable def f143:AQ:=xf Tryz.prog Tryz.f143 []
theorem hf143:zH Tryz.prog 143=some ⟨8,f143.erase,[(RX.t 2)]⟩:=by kernel_rfl
theorem okf143:f143.ok=true:=by kernel_rfl
def zmI:=PLift.up (uq (by conv=>lhs;simp only[Qc,Qt,Za,f143,Tryz.f143]:f143=_))
theorem ztK:type_of% zmI.1:=zmI.1
noncomputable def f150:AQ:=xf Tryz.prog Tryz.f150 []
theorem hf150:zH Tryz.prog 150=some ⟨8,f150.erase,[(RX.t 2)]⟩:=by kernel_rfl
theorem okf150:f150.ok=true:=by kernel_rfl
def zmJ:=PLift.up (uq (by conv=>lhs;simp only[Qc,Qt,Za,f150,Tryz.f150]:f150=_))
theorem ztL:type_of% zmJ.1:=zmJ.1
noncomputable def f208:AQ:=xf Tryz.prog Tryz.f208 []
theorem hf208:zH Tryz.prog 208=some ⟨35,f208.erase,[(RX.t 2)]⟩:=by kernel_rfl
theorem okf208:f208.ok=true:=by kernel_rfl
def zmK:=PLift.up (uq (by conv=>lhs;simp only[Qc,Qt,Za,f208,Tryz.f208]:f208=_))
theorem ztM:type_of% zmK.1:=zmK.1
end Go.Abs
namespace Go
open Go.RowKit
def bJ {α:Type} (F:Fence) (n:Nat) (P:Program) (g:Nat) (lb:Array Value) (encs:α->Array Value) (Kp:World->World->Prop) (S:List α->Prop) (N:Nat) (w:World):Prop:=
 ∀(l:Nat) (J:List α->World->Prop) (W:World),Kp w W->(∀pre W1 W2,J pre W1->Below W1.heap.size W1 W2->J pre W2)->
  (∀pre x W1,J pre W1->pre.length<N->YieldAt F (n-1) P l (encs x) W1 fun e W'=>e=.returned (.bool true)/\J (pre++[x]) W'/\Kp W1 W')->
  J [] W->
  CallsIn F n P g (#[.func (.yield l) #[] #[]]++lb) W fun e W'=>(∃v,e=.returned v)/\ ∃xs,S xs/\J xs W'
def zue {α:Type} (B:Nat) (Kp:World->World->Prop) (I:List α->World->Prop) (xs:List α) (W:World):Exit->Act->World->Prop
 | .normal,_,W'=>KeepsFrom B W W'/\Kp W W'/\I xs W'
 |_,_,_=>False
theorem lI {W W':World} (hb:Below W.heap.size W W'):W.grownBy W' none:=⟨hb.os,hb.tape,hb.output,hb.size,fun k hk _=>hb.block k hk⟩
variable {F : Fence} {n : Nat} {P : Program}
theorem zcw {α:Type} {g:Operand} {ps:Array Tmp} {assign body:Code} {Q:Exit->Act->World->Prop} {a:Act} {w:World}
  (hro:F.round=none) (h1:1<=n) {gf:Nat} {lb:Array Value} (hg:a.eval g=.func (.func gf) #[] lb) (hFg:F.fn gf) (eg: ∀args w,(callFunc gf args).run P w=.ok (.enter gf args) w)
  {encs:α->Array Value} {Kp:World->World->Prop} {S:List α->Prop} {N:Nat} (hseq:bJ F (n-1) P gf lb encs Kp S N w)
  (hKt: ∀A B C:World,Kp A B->Kp B C->Kp A C) (hKb: ∀(W W':World) (row:Option Nat),w.heap.size<=W.heap.size->W.grownBy W' row->(∀r,row=some r->w.heap.size<=r)->Kp W W') (hps: ∀x,(encs x).size=ps.size)
  (I:List α->World->Prop) (hI:OwnFrom w.heap.size I) (h0:I [] w) (Ax:α->Act->World->Prop) (hA: ∀x a' W l o o',Ax x a' W->w.heap.size<=l->W.heap[l]?=some o->o.isCells=false->Ax x a' (W.putObj l o'))
  (hassign: ∀(l:Nat) (pre:List α) (x:α) (W:World) (K:Act->World->Prop),I pre W->w.heap.size<=W.heap.size->(∀a' W',Ax x a' W'->I pre W'->KeepsFrom w.heap.size W W'->Kp W W'->w.heap.size<=W'.heap.size->K a' W')->
   assign.wpIn (F.inRound l) (n-1-1) P (Exit.then K (fun _ _ _=>False)) {tmps:=(ps.zip (encs x)).foldl (fun t (p,v)=>t.setIfInBounds p v) a.tmps,defers:=[]} W)
  (hbody: ∀(l:Nat) (pre:List α) (x:α) (a':Act) (W:World),Ax x a' W->I pre W->pre.length<N->w.heap.size<=W.heap.size->body.wpIn (F.inRound l) (n-1-1) P (zue w.heap.size Kp I (pre++[x]) W) a' W)
  (hdone: ∀(D:Nat) (xs:List α) (W:World),w.heap.size<=D->S xs->I xs W->W.heap[D]?=some (.deferred (some []))->Q .normal {a with defers:={target:=.collected D,args:= #[]}::a.defers} W):
  (Code.rangeFunc g ps assign body).wpIn F n P Q a w:=by
 refine wpIn_rangeFunc ?_;intro fn hfn;rw[hro];obtain⟨rec,hrec⟩: ∃rec:LoopState->Option Code->Loop,rec=fun st pe=>{state:=st,pending:=pe,fn,tmps:=a.tmps,params:=ps,assign,body,defers:=w.heap.size}:=⟨_,rfl⟩
 obtain⟨W1,hW1⟩: ∃W1,(w.alloc (.deferred (some []))).alloc (.loop (rec .ready none))=W1:=⟨_,rfl⟩;have hL1:W1.heap[w.heap.size+1]?=some (.loop (rec .ready none)):=by
  rw[<-hW1];have:=World.alloc_heap_new (w.alloc (.deferred (some []))) (.loop (rec .ready none));rwa [World.size_alloc] at this
 have hK1:W1.heap[w.heap.size]?=some (.deferred (some [])):=by
  rw[<-hW1];exact(Below.heap_alloc _ _ _ (by simp)).trans (World.alloc_heap_new w _)
 have hI1:I [] W1:=by rw[<-hW1];exact hI.alloc _ (hI.alloc _ h0)
 have hg1:w.grownBy W1 none:=by rw[<-hW1];exact lI (((Below.refl _ w).alloc (Zw _) _).alloc (by simp) _)
 have hk1:Kp w W1:=hKb w W1 none (Zw _) hg1 (fun r e=>by cases e);have hs1:w.heap.size+1<W1.heap.size:=(Zs.1 hL1).1;refine⟨w.heap.size+1,[{target:=.collected w.heap.size,args:= #[]}],W1,{target:=.fn (.func gf) lb,args:= #[.func (.yield (w.heap.size+1)) #[] #[]]},W1,gf,
  #[.func (.yield (w.heap.size+1)) #[] #[]]++lb,W1,?_,?_,?_,?_,fun _=>h1,?_⟩
 ·rw[<-hW1,hrec];exact run_enterLoop_outer _ _ _ _ _
 ·simp only[resolve,hg]
  simp[go_sem]
 ·intro f' hf';simp[Target.leads] at hf';subst hf';exact hFg
 ·simp[invoke,go_sem,eg]
 ·refine(hseq (w.heap.size+1)
   (fun pre W=>I pre W/\W.heap[w.heap.size+1]?=some (.loop (rec .ready none))/\W.heap[w.heap.size]?=some (.deferred (some [])))
   W1 hk1
   (fun pre A B hs hb=>⟨hI pre A B none hs.1 (lI hb) (fun r e=>by cases e),(hb.block _ (Zs.1 hs.2.1).1).trans hs.2.1,(hb.block _ (Zs.1 hs.2.2).1).trans hs.2.2⟩)
   ?_ ⟨hI1,hL1,hK1⟩).mono ?_
  ·rintro pre x W ⟨hi,hl,hk⟩ hlen
   have hlt:w.heap.size+1<W.heap.size:=(Zs.1 hl).1;have hy:=run_yield (P:=P) (args:=encs x) hl (by rw[hrec];exact hps x);rw[hrec] at hy;refine⟨fn,_,assign,body,hy,roundIn_of_wpIn hfn (hassign _ pre x W _ hi (by omega) ?_)⟩;intro a' W2 hAx hI2 hk2' hkp2 hsz2;have hl0:=hk2'.same _ _ (by omega) hl rfl;have hk0:=hk2'.same _ _ (Zw _) hk rfl;have hlt2:w.heap.size+1<W2.heap.size:=(Zs.1 hl0).1;refine⟨_,run_beginRound hl0 (by rw[hrec]),?_⟩;have hl2:(W2.putObj (w.heap.size+1) (.loop {rec .ready none with state:=.busy})).heap[w.heap.size+1]?=some (.loop {rec .ready none with state:=.busy}):=World.putObj_heap_same hlt2;have hk2:(W2.putObj (w.heap.size+1) (.loop {rec .ready none with state:=.busy})).heap[w.heap.size]?=some (.deferred (some [])):=(World.putObj_heap_other (by omega)).trans hk0;have hI3:I pre (W2.putObj (w.heap.size+1) (.loop {rec .ready none with state:=.busy})):=hI.putObj _ hI2 (by omega) hl0 rfl;have hg2:=grownBy_putObj' W2 (w.heap.size+1) (.loop {rec .ready none with state:=.busy});have hw2:Kp W2 (W2.putObj (w.heap.size+1) (.loop {rec .ready none with state:=.busy})):=hKb _ _ (some (w.heap.size+1)) (by omega) hg2 (fun r e=>by cases e;omega);refine wpIn_mono (hbody _ pre x a' (W2.putObj (w.heap.size+1) (.loop {rec .ready none with state:=.busy})) (hA _ _ _ _ _ _ hAx (by omega) hl0 rfl) hI3 hlen (by have:=hg2.size;omega)) ?_;rintro e a3 W3 hp;cases e with
   |normal=>
    obtain⟨hk4,hkp4,hi4⟩:=hp;have hkk:=hk4;have hl3:=hkk.same _ _ (by omega) hl2 rfl;have hr:=run_endRound (P:=P) none hl3;rw[hrec] at hr hl3;refine⟨_,_,hr,rfl,⟨hI.putObj _ hi4 (by omega) (hkk.same _ _ (by omega) hl2 rfl) rfl,?_,(World.putObj_heap_other (by omega)).trans (hkk.same _ _ (by omega) hk2 rfl)⟩,?_⟩
    ·rw[hrec];exact World.putObj_heap_same (Zs.1 hl3).1
    ·exact hKt _ _ _ (hKt _ _ _ hkp2 hw2) (hKt _ _ _ hkp4 (hKb _ _ (some (w.heap.size+1)) (by have:=(Zs.1 hl3).1;omega) (grownBy_putObj' _ _ _) (fun r e=>by cases e;omega)))
   |ret=>exact hp.elim
   |exit id=>exact hp.elim
   |goto t=>exact hp.elim
   |panic ch=>exact hp.elim
   |outgrown=>exact hp.elim
  ·rintro e W2 ⟨⟨v,rfl⟩,xs,hS,hi,hl,hk⟩
   exact⟨none,_,by have:=run_endLoop (P:=P) hl (by rw[hrec];simp);rw[hrec] at this;exact this,hdone _ xs _ (Zw _) hS (hI.putObj _ hi (by omega) hl rfl) ((World.putObj_heap_other (by omega)).trans hk)⟩
end Go
namespace Go
variable {n : Nat} {P : Program} {ops : Array Oper} {Q : Exit -> Act -> World -> Prop} {md : Region.Mode}
theorem Oper.wpIn_round {l:Nat} {o:Oper} (hd: ∀c,o.op≠.defer c) {a:Act} {w:World} {K:Act->World->Prop} (h:o.wp P a w K Q):o.wpIn (Fence.wide.inRound l) n P a w K Q:=by
 refine⟨fun _ _=>trivial,?_⟩;have e:Oper.semAt (Fence.wide.inRound l).round a.eval o=execOp a.eval o:=Oper.semAt_some l a.eval o hd;rw[e];unfold Oper.wp at h;generalize (execOp a.eval o).run P w=r at h;cases r with
 |ok x w'=>
  cases x with
  |value v=>exact h
  |skip=>exact h
  | «defer» d=>exact h
  |enter f args=>exact⟨fun q=>by simp[Fence.wide,Fence.inRound] at q,callsIn_wide.2 h⟩
  |row row args=>exact⟨fun q=>by simp[Fence.wide,Fence.inRound] at q,fun c cs _=>let ⟨v,w',r,s⟩:=h c cs;⟨v,w',r,stepsIn_wide.2 s⟩⟩
  |_=>exact h.elim
 |halt x w'=>cases x<;>exact h
theorem zu4 {l i:Nat} (hL: ¬LetsOut Q) (hd: ∀(j:Nat) (o:Oper),ops[j]?=some o-> ∀c,o.op≠.defer c) {K K':Act->World->Prop} (hK: ∀a w,K a w->K' a w) {a:Act} {w:World} (h:wpOp P ops Q i K a w):wpOpIn (Fence.wide.inRound l) n P ops Q i K' a w:=by
 refine wpOpIn_mono hK ?_;unfold wpOp at h;unfold wpOpIn;split
 ·rename_i ho
  simp only[ho] at h;exact h
 ·rename_i o ho
  simp only[ho] at h;split
  ·rename_i hw
   simp only[hw,if_true] at h;exact Oper.wpIn_round (hd i o ho) (h.resolve_right fun q=>hL q.2)
  ·rename_i hw
   simp only[hw] at h;exact⟨fun _ _=>trivial,h⟩
theorem znG {l:Nat} (hL: ¬LetsOut Q) (hd: ∀(j:Nat) (o:Oper),ops[j]?=some o-> ∀c,o.op≠.defer c): ∀(fuel:Nat) (listed:Array Bool) (a:Act) (w:World),wpAny P md ops Q fuel listed a w->wpAnyIn (Fence.wide.inRound l) n P md ops Q fuel listed a w
 |0,_,_,_,h=>h
 |fuel+1,_,_,_,h=>⟨h.1,fun i hi=>zu4 hL hd (fun a' w' h'=>znG hL hd fuel _ a' w' h') (h.2 i hi)⟩
def zcO (ops:Array Oper):Bool:=ops.toList.all fun o=>match o.op with| .defer _=>false|_=>true
theorem zu5 (h:zcO ops=true): ∀(j:Nat) (o:Oper),ops[j]?=some o-> ∀c,o.op≠.defer c:=by
 intro j o ho c e;unfold zcO at h;rw[ZA] at h;have:=h o (by rw[<-Yu] at ho;exact ZP ho);rw[e] at this;cases this
theorem zu6 {l id:Nat} {S:World->Prop} {a:Act} {w:World} (hm:P.follows .mixedOrders=true) (hd:zcO ops=true) (hL: ¬LetsOut Q)
  (h:wpAnyH P .any ops Q S ops.size (YX ops.size false) a w.drew):(Code.region id ops true).wpIn (Fence.wide.inRound l) n P Q a w:=
 wpIn_region_any hm (znG hL (zu5 hd) _ _ _ _ (wpAny_of_held _ _ _ _ h))
end Go
namespace Go.Abs
theorem wrap_in {n:Int} (h1: -9223372036854775808<=n) (h2:n<=9223372036854775807):IntKind.i64.wrap n=n:=IntWalk.i64_in n ⟨h1,h2⟩
def zB (sz:Nat) (rows:List (List C)):C:=.list (if rows.isEmpty then 0 else sz) none rows
abbrev lst (sz:Nat) (rows:List (List C)):V:=.k (.c (zB sz rows))
def zG (l:List Int):List (List C):=l.map fun n=>[.int .i64 n]
theorem zL {α:Type} (f:α->List C) (l:List α):(l.map f).length=l.length:=by simp
theorem zQ {α:Type} {f:α->List C} (hf: ∀x,C.normRow (f x)=f x) (l:List α):C.normRows (l.map f)=l.map f:=by
 induction l with
 |nil=>rfl
 |cons a l ih=>simp[C.normRows,hf,ih]
theorem yP {α:Type} {f:α->List C} (hf: ∀x,C.normRow (f x)=f x) (sz:Nat) (l:List α):(zB sz (l.map f)).norm=zB sz (l.map f):=by
 unfold zB;simp only[C.norm,zQ hf];cases l<;>simp
inductive Term where
 |mk (op n:Int) (args:List Term)
 deriving Inhabited
def Term.op:Term->Int| .mk o _ _=>o
def Term.n:Term->Int| .mk _ n _=>n
def Term.args:Term->List Term| .mk _ _ a=>a
mutual
def qV:Term->List C
 | .mk o n a=>[.int .i64 o,.int .i64 n,zB 3 (encTs a)]
def encTs:List Term->List (List C)
 |[]=>[]
 |t::l=>qV t::encTs l
end
theorem zmL: ∀(l:List Term),encTs l=l.map qV
 |[]=>rfl
 |t::l=>by simp[encTs,zmL l]
theorem jD (t:Term):qV t=[.int .i64 t.op,.int .i64 t.n,zB 3 (t.args.map qV)]:=by
 cases t with
 |mk o n a=>simp[qV,Term.op,Term.n,Term.args,zmL]
mutual
theorem cU: ∀(t:Term),C.normRow (qV t)=qV t
 | .mk o n a=>by
   simp only[qV,C.normRow,C.norm,zB,encTs_norm a];cases a<;>simp[encTs]
theorem encTs_norm: ∀(l:List Term),C.normRows (encTs l)=encTs l
 |[]=>rfl
 |t::l=>by simp only[encTs,C.normRows,cU t,encTs_norm l]
end
structure Choice where
 ask:Int
 by_:Int
 whole:Bool
 deriving Inhabited
structure Rule where
 ask:Int
 term:Term
 deriving Inhabited
structure Order where
 name:List UInt8
 accepts:Bool
 choices:List Choice
 rules:List Rule
 deriving Inhabited
def qW (c:Choice):List C:=[.int .i64 c.ask,.int .i64 c.by_,.bool c.whole]
def rZ (r:Rule):List C:=.int .i64 r.ask::qV r.term
def qY (o:Order):List C:=[.str o.name,.bool o.accepts,zB 3 (o.choices.map qW),zB 4 (o.rules.map rZ)]
theorem zci (c:Choice):C.normRow (qW c)=qW c:=rfl
theorem zcj (r:Rule):C.normRow (rZ r)=rZ r:=by simp[rZ,C.normRow,C.norm,cU]
theorem zmM (o:Order):C.normRow (qY o)=qY o:=by
 simp only[qY,C.normRow,C.norm,yP zci,yP zcj]
structure Cell where
 known:Bool
 n:Int
 deriving Inhabited
def pN (c:Cell):List C:=[.bool c.known,.int .i64 c.n]
theorem zmN (c:Cell):C.normRow (pN c)=pN c:=rfl
def zmO (n:Int):List C:=[.int .i64 n]
@[simp] theorem zyC (k:IntKind) (n:Int):C.normRow [.int k n]=[.int k n]:=rfl
@[simp] theorem zyD (n:Int):C.normRow (zmO n)=zmO n:=rfl
attribute [simp] cU zci zcj zmM zmN C.normRow
@[simp] theorem zyE (k:IntKind) (n:Int):(C.int k n).norm=.int k n:=rfl
@[simp] theorem zyF (b:Bool):(C.bool b).norm=.bool b:=rfl
@[simp] theorem zyG (s:List UInt8):(C.str s).norm=.str s:=rfl
@[simp] theorem zyH (row:List C) (off:Nat):(C.ro row off).norm=.ro (C.normRow row) off:=rfl
@[simp] theorem zyI (f:FuncId) (caps:List C):(C.fn f caps).norm=.fn f (C.normRow caps):=rfl
@[simp] theorem zyJ (l:List Term):C.normRows (l.map qV)=l.map qV:=zQ cU l
@[simp] theorem zyK (l:List Choice):C.normRows (l.map qW)=l.map qW:=zQ zci l
@[simp] theorem zyL (l:List Rule):C.normRows (l.map rZ)=l.map rZ:=zQ zcj l
@[simp] theorem zyM (l:List Order):C.normRows (l.map qY)=l.map qY:=zQ zmM l
@[simp] theorem zyN (l:List Cell):C.normRows (l.map pN)=l.map pN:=zQ zmN l
@[simp] theorem yR (l:List Int):C.normRows (zG l)=zG l:=zQ (fun _=>rfl) l
@[simp] theorem zyO:C.normRows []=[]:=rfl
@[simp] theorem cV (r:List C) (l:List (List C)):C.normRows (r::l)=C.normRow r::C.normRows l:=rfl
@[simp] theorem yJ (l:List Int):(zG l).length=l.length:=by simp[zG]
theorem ztN {l:List Int} {i:Nat} (h:i<l.length):(zG l).getD i []=[.int .i64 l[i]]:=by simp[zG,h]
@[simp] theorem zyP (l:List Int):(zG l).isEmpty=l.isEmpty:=by cases l<;>rfl
theorem zck (l:List Int) (n:Int):zG l++[[.int .i64 n]]=zG (l++[n]):=by simp[zG]
theorem ztO (l m:List Int):zG l++zG m=zG (l++m):=by simp[zG]
theorem zmP (o:Nat->Option O) (sz:Nat) (rows:List (List C)):vLen o (.k (.c (zB sz rows)))=some (True,.int .i64 rows.length):=rfl
theorem zmQ (o:Nat->Option O) (sz:Nat) (rows:List (List C)) (k:IntKind) (n:Int):vIaddr o sz (.k (.c (zB sz rows))) (.k (.c (.int k n)))=some (0<=n/\n<rows.length,.k (.pel sz rows n.toNat 0)):=by
 simp only[zB,vIaddr,Zh,Xd];cases rows with
 |nil=>simp;omega
 |cons a l=>
  refine⟨?_,?_⟩
  ·simp
  ·simp
def zcl (sz:Nat) (rows:List (List C)):Option Int->Option Int->Option (Prop×V)
 |some l,some h=>some (0<=l/\l<=h/\h<=rows.length,.list sz none ((rows.take h.toNat).drop l.toNat))
 |_,_=>none
theorem gK (sz:Nat) (lo hi:Option V) (rows:List (List C)):pG sz lo hi (.k (.c (zB sz rows)))=zcl sz rows (vBound 0 lo) (vBound rows.length hi):=by
 simp only[zB,pG];generalize vBound 0 lo=a;generalize vBound (↑rows.length) hi=b;cases a<;>cases b<;>simp only[iA,zcl]
 simp only[Zh,Xd,and_true];cases rows<;>simp
theorem gL (sz:Nat) (rows:List (List C)) (l h:Int):zcl sz rows (some l) (some h)=some (0<=l/\l<=h/\h<=rows.length,.list sz none ((rows.take h.toNat).drop l.toNat)):=id rfl
theorem gM (os:OS) (sz:Nat) (rows:List (List C)):srcV os sz (.k (.c (zB sz rows)))=some (True,rows):=by
 simp only[zB,srcV];cases rows<;>simp
@[simp] theorem zM (sz:Nat) (rows:List (List C)):(zB sz rows).norm=zB sz (C.normRows rows):=by
  unfold zB;simp only[C.norm];cases rows<;>simp[C.normRows]
@[simp] theorem uX (sz:Nat) (nl:Option Bool) (rows:List (List C)):(C.list sz nl rows).norm=zB sz (C.normRows rows):=by
  unfold zB;simp only[C.norm];cases rows<;>simp[C.normRows]
theorem ztP (d:Nat) (r:List C):(r.map Abs.K.c).all (Abs.K.noRef d)=true:=by induction r<;>simp_all [Abs.K.noRef]
section
variable {P : Program} {f : FuncId} {vs : List V} {K : KK} {d : Nat} {ts : TS} {os : OS}
theorem zI {args:List V} {r:V} {X:Prop} (hs:Spec P f args (fun r'=>r'=r)) (hk:K (insT d r ts) os)
  (hp:vs.all (fun v=>(zC os v).isPure)=true:=by simp[zC,vZ,lookO,V.isPure])
  (ha:vs.map (fun v=>(zC os v).norm)=args:=by simp[zC,vZ,lookO,V.norm,jD,rZ,qY,qW,pN,uX,lst]) (hr:r.scalar=true:=by rfl):pL P f vs [] K (some d) ts os\/X:=by
 refine .inl ⟨hp,r,.inl ?_,?_⟩
 ·simpa [ha] using hs
 ·rw[if_pos hr];exact hk
theorem rC {cs:List C} {args:List V} {r:V} {X:Prop} (hs:Spec P f args (fun r'=>r'=r)) (hk:K (insT d r ts) os)
  (hp:vs.all (fun v=>(zC os v).isPure)=true:=by simp[zC,vZ,lookO,V.isPure])
  (ha:(vs.map (fun v=>(zC os v).norm)++cs.map fun c=> .k (.c c.norm))=args:=by simp[zC,vZ,lookO,V.norm,jD,rZ,qY,qW,pN,uX,lst]) (hr:r.scalar=true:=by rfl):pL P f vs cs K (some d) ts os\/X:=by
 refine .inl ⟨hp,r,.inl (by rw[ha];exact hs),?_⟩;rw[if_pos hr];exact hk
theorem yQ {args:List V} {r:V} {X:Prop} (hs:Spec P f args (fun r'=>r'=r)) (hk:retK r K ts os (some d))
  (hp:vs.all (fun v=>(zC os v).isPure)=true:=by simp[zC,vZ,lookO,V.isPure])
  (ha:vs.map (fun v=>(zC os v).norm)=args:=by simp[zC,vZ,lookO,V.norm,jD,rZ,qY,qW,pN,uX,lst])
  (ht:vs.all (fun v=>v.toks.isEmpty)=true:=by simp[V.toks,K.toks]) (hr:r.scalar=false:=by rfl):pL P f vs [] K (some d) ts os\/X:=by
 refine .inl ⟨hp,r,.inl (by simpa [ha] using hs),?_⟩;rw[if_neg (by simp[hr])];exact⟨ht,hk⟩
theorem cW {args:List V} {e sz:Nat} {nl:Option Bool} {rows:List (List C)} {X:Prop} (hs:Spec P f args (fun r'=>r'=.k (.newl e sz nl rows))) (hk:K (insT d (.k (.own d)) ts) (insO d (.arr e sz nl rows) os))
  (hp:vs.all (fun v=>(zC os v).isPure)=true:=by simp[zC,vZ,lookO,V.isPure])
  (ha:vs.map (fun v=>(zC os v).norm)=args:=by simp[zC,vZ,lookO,V.norm,jD,rZ,qY,qW,pN,uX,lst])
  (ht:vs.all (fun v=>v.toks.isEmpty)=true:=by simp[V.toks,K.toks]) (hf:freeB d ts os:=by first|rfl|simp[freeB,freeT,freeO,V.noRef,V.noRefL,O.noRef,Abs.K.noRef,ztP]):pL P f vs [] K (some d) ts os\/X:=by
 refine .inl ⟨hp,_,.inl (by simpa [ha] using hs),?_⟩;rw[if_neg (by simp[V.scalar])];refine⟨ht,?_⟩;show regK _ _ _ _ _ _;refine⟨⟨⟨hf,.inl rfl⟩,trivial⟩,hk⟩
theorem sP {args:List V} {r:V} (hs:Spec P f args (fun r'=>r'=r)) (hk:K (insT d r.fz ts) os)
  (hp:vs.all (fun v=>(zC os v).isPure)=true:=by simp[zC,vZ,lookO,V.isPure])
  (ha:vs.map (fun v=>(zC os v).norm)=args:=by simp[zC,vZ,lookO,V.norm,jD,rZ,qY,qW,pN,uX,lst]) (hr:r.scalar=true:=by rfl):iN P f vs [] K d ts os:=
 ⟨hp,r,by simpa [ha] using hs,.inl hr,hk⟩
theorem jE {args:List V} {r:V} (hs:Spec P f args (fun r'=>r'=r)) (hk:K (insT d r.fz ts) os)
  (hp:vs.all (fun v=>(zC os v).isPure)=true:=by simp[zC,vZ,lookO,V.isPure])
  (ha:vs.map (fun v=>(zC os v).norm)=args:=by simp[zC,vZ,lookO,V.norm,jD,rZ,qY,qW,pN,uX,lst]) (hr:vs.all (fun v=>v.toks.isEmpty)=true:=by simp[V.toks,K.toks]):iN P f vs [] K d ts os:=
 ⟨hp,r,by simpa [ha] using hs,.inr hr,hk⟩
end
end Go.Abs
namespace Go.Abs
def QsU:=PLift.up (ξ (ξ (ξ (ξ (ξ (ξ (ξ (ξ @insT.eq_1 @wpLs.eq_2)<|ξ @wpL.eq_1<|ξ @look.eq_1 @zfo)<|ξ (ξ @wpLs.eq_1 @exL.eq_1)<|ξ @true_and<|ξ @zfp @AE.thenL.eq_1)<|ξ (ξ (ξ @awl.eq_2 @putK.eq_1)<|ξ @awl.eq_5<|ξ @look.eq_2 @vBin.eq_1)<|ξ (ξ @resV.eq_1 @exL.eq_11)<|ξ @and_self<|ξ @binV.eq_1 @binInt.eq_3)<|ξ (ξ (ξ (ξ @awl.eq_6 @condK.eq_1)<|ξ @learn.eq_1<|ξ @Nat.zero_add @zjz)<|ξ (ξ @mapT.eq_1 @mapT.eq_2)<|ξ @mapO.eq_1<|ξ @zjA @lookO.eq_1)<|ξ (ξ (ξ @condB.eq_2 @condB.eq_1)<|ξ @zjN<|ξ @awl.eq_10 @endK.eq_2)<|ξ (ξ @endL.eq_1 @endV.eq_1)<|ξ @resL.eq_1<|ξ @resL.eq_2 @V.nrm.eq_1)<|ξ (ξ (ξ (ξ (ξ @K.nrm.eq_1 @resX.eq_1)<|ξ @V.owns.eq_1<|ξ @V.toNew.eq_1 @C.norm.eq_5)<|ξ (ξ @cutInt.eq_8 @K.owns.eq_2)<|ξ @K.toNew.eq_1<|ξ @zjM @C.norm.eq_4)<|ξ (ξ (ξ @Nat.le_refl @awl.eq_1)<|ξ @exL.eq_8<|ξ @zjC @zjE)<|ξ (ξ @awl.eq_7 @zjU)<|ξ @exL.eq_28<|ξ @pureRow.eq_2 @Bool.false_eq_true)<|ξ (ξ (ξ (ξ @pureRow.eq_1 @insO.eq_1)<|ξ @zjB<|ξ @one.eq_1 @zM)<|ξ (ξ @zfq @Bool.and_true)<|ξ @vLoad.eq_4<|ξ @freeB.eq_1 @freeT.eq_1)<|ξ (ξ (ξ @freeT.eq_2 @freeO.eq_1)<|ξ @Bool.or_true<|ξ @decide_true @initT.eq_1)<|ξ (ξ @exL.eq_30 @zmP)<|ξ @initT.eq_2<|ξ @ofRow.eq_1 @V.noRef.eq_1)<|ξ (ξ (ξ (ξ (ξ (ξ @K.noRef.eq_1 @decide_false)<|ξ @zjD<|ξ @C.normRow.eq_1 @vFaddr.eq_4)<|ξ (ξ @Int.toNat_natCast @C.norm.eq_6)<|ξ @C.normRow.eq_2<|ξ @not_false_eq_true @exL.eq_21)<|ξ (ξ (ξ @exL.eq_3 @Int.natCast_nonneg)<|ξ @zjW<|ξ @AOp.dst.eq_1 @delO.eq_1)<|ξ (ξ @delO.eq_2 @C.norm.eq_2)<|ξ @V.noRef.eq_2<|ξ @vLoad.eq_2 @zmQ)<|ξ (ξ (ξ (ξ @AOp.dst.eq_10 @zjV)<|ξ @Nat.add_zero<|ξ @AE.thenL.eq_3 @mapO.eq_2)<|ξ (ξ @AE.inBlockL.eq_1 @vPick.eq_1)<|ξ @exK.eq_1<|ξ @cutInt.eq_1 @zj5)<|ξ (ξ (ξ @guardP.eq_2 @zj7)<|ξ @zke<|ξ @zkf @exL.eq_23)<|ξ (ξ @awl.eq_14 @freeO.eq_2)<|ξ @zj4<|ξ @zkb @awl.eq_9)<|ξ (ξ (ξ (ξ (ξ @AE.thenL.eq_2 @AE.inBlockL.eq_2)<|ξ @zj6<|ξ @K.noRef.eq_2 @O.noRef.eq_2)<|ξ (ξ @Bool.false_or @V.nrm.eq_2)<|ξ @awl.eq_8<|ξ @cutInt.eq_7 @partV.eq_2)<|ξ (ξ (ξ @zjQ @Bool.true_and)<|ξ @zjF<|ξ @guardP.eq_1 @putDL.eq_1)<|ξ (ξ @vUn.eq_1 @unV.eq_2)<|ξ @mapC.eq_1<|ξ @exL.eq_15 @zhV)<|ξ (ξ (ξ (ξ @AOp.dst.eq_8 @exL.eq_5)<|ξ @wpLQ.eq_1<|ξ @V.nrm.eq_5 @ofRow.eq_2)<|ξ (ξ @K.nrm.eq_3 @AE.inBlockL.eq_3)<|ξ @boxK.eq_1<|ξ @one.eq_2 @V.owns.eq_3)<|ξ (ξ (ξ @V.ownsL.eq_1 @V.ownsL.eq_2)<|ξ @V.toNew.eq_4<|ξ @V.toNewL.eq_1 @V.toNewL.eq_2)<|ξ (ξ @vExtr.eq_1<|ξ @zjO @zjP)<|ξ @exL.eq_9<|ξ @wpLQs.eq_2 @stVarK.eq_1)<|ξ (ξ (ξ (ξ (ξ (ξ (ξ @storeK.eq_1 @AOp.dst.eq_20)<|ξ @exL.eq_2<|ξ @exL.eq_27 @V.reg.eq_4)<|ξ (ξ @freesL.eq_1 @addsL.eq_1)<|ξ @regK.eq_1<|ξ @retK.eq_2 @cutInt.eq_10)<|ξ (ξ (ξ @K.noRef.eq_5 @O.nrm.eq_2)<|ξ @zfr<|ξ @exLQ.eq_1 @isArrO.eq_1)<|ξ (ξ @partV.eq_1 @V.cells.eq_2)<|ξ @K.owns.eq_1<|ξ @K.toNew.eq_2 @K.nrm.eq_2)<|ξ (ξ (ξ (ξ @exL.eq_4 @AOp.dst.eq_32)<|ξ @yR<|ξ @binV.eq_2 @cutInt.eq_11)<|ξ (ξ @vPick.eq_2 @exLQ.eq_9)<|ξ @zkd<|ξ @yJ @wpLQs.eq_1)<|ξ (ξ (ξ @C.normRows.eq_1 @zj9)<|ξ @vPick.eq_3<|ξ @cutInt.eq_6 @Bool.and_eq_true)<|ξ (ξ @regN.eq_2 @C.norm.eq_3)<|ξ @awl.eq_3<|ξ @vLits.eq_1 @zjI)<|ξ (ξ (ξ (ξ (ξ @zjK @V.reg.eq_3)<|ξ @V.regL.eq_1<|ξ @V.regL.eq_2 @Nat.succ_ne_self)<|ξ (ξ @zj8 @V.scrub.eq_1)<|ξ @K.scrub.eq_1<|ξ @K.scrub.eq_5 @K.noRef.eq_3)<|ξ (ξ (ξ @O.noRef.eq_1 @zjS)<|ξ @zjT<|ξ @exLQ.eq_22 @exL.eq_7)<|ξ (ξ @bsK.eq_1 @zjG)<|ξ @AOp.dst.eq_3<|ξ @vLits.eq_2 @zjH)<|ξ (ξ (ξ (ξ @zjJ @zjL)<|ξ @or_false<|ξ @exL.eq_31 @vLenS.eq_1)<|ξ (ξ @exLQ.eq_24 @AOp.dst.eq_28)<|ξ @O.scrub.eq_2<|ξ @exLQ.eq_12 @AOp.dst.eq_27)<|ξ (ξ (ξ @appK.eq_1 @appendK.eq_1)<|ξ @AOp.dst.eq_22<|ξ @V.fz.eq_1 @exL.eq_33)<|ξ (ξ @AOp.dst.eq_14<|ξ @V.nrm.eq_4 @V.nrmL.eq_1)<|ξ @exLQ.eq_29<|ξ @K.fz.eq_2 @V.nrmL.eq_2)<|ξ (ξ (ξ (ξ (ξ (ξ @vFaddr.eq_3 @vRow.eq_1)<|ξ @regN.eq_1<|ξ @AOp.dst.eq_24 @V.cells.eq_1)<|ξ (ξ @nlApp.eq_2 @false_implies)<|ξ @cutInt.eq_9<|ξ @binStr.eq_2 @srcO.eq_1)<|ξ (ξ (ξ @srcV.eq_2 @zkc)<|ξ @V.noRef.eq_4<|ξ @V.noRefL.eq_1 @vBuild.eq_1)<|ξ (ξ @rowV.eq_1 @V.noRefL.eq_2)<|ξ @exL.eq_6<|ξ @guardP.eq_3 @binStr.eq_3)<|ξ (ξ (ξ (ξ @Bool.true_or @V.scrub.eq_3)<|ξ @loadO.eq_1<|ξ @isV.eq_1 @vLoad.eq_1)<|ξ (ξ @zjR @exLQ.eq_3)<|ξ @exL.eq_25<|ξ @vSidx.eq_1 @C.norm.eq_1)<|ξ (ξ (ξ @zfG @vBuild.eq_2)<|ξ @vRow.eq_2<|ξ @exKQ.eq_1 @exL.eq_17)<|ξ (ξ @zkg @zkh)<|ξ @zki<|ξ @zkj @zkk)<|ξ (ξ (ξ (ξ (ξ @zkl @zkm)<|ξ @vFaddr.eq_1<|ξ @isVarO.eq_1 @zfF)<|ξ (ξ @Int.toNat_zero @zfH)<|ξ @and_true<|ξ @O.nrm.eq_1 @exL.eq_29)<|ξ (ξ (ξ @cutInt.eq_3 @binStr.eq_1)<|ξ @resX.eq_2<|ξ @resCell.eq_1 @vIaddr.eq_2)<|ξ (ξ @idxO.eq_1 @V.nrm.eq_6)<|ξ @V.owns.eq_4<|ξ @if_true.{1} @if_false.{1})<|ξ (ξ (ξ (ξ @if_true.{0} @if_false.{0})<|ξ @List.nodup_nil.{0}<|ξ @φ.eq_1 @χ.eq_1)<|ξ (ξ @θ.eq_1 @ψ.eq_1)<|ξ @ω.eq_1<|ξ @Γ.eq_1 @Δ.eq_1)<|ξ (ξ (ξ @Θ.eq_1 @Ξ.eq_1)<|ξ @Φ.eq_1<|ξ @Ψ.eq_1 @Ω.eq_1)<|ξ (ξ @rN.eq_1<|ξ @rO.eq_1 @pV.eq_1)<|ξ @fE.eq_1<|ξ @η.eq_1 @ζ.eq_1)
theorem Qs:type_of% QsU.1:=QsU.1
end Go.Abs
namespace Go.Abs
open Go.Proofs Go.RowKit
theorem Spec.of_awlP {P:Program} {f:FuncId} {n:Nat} {c:AQ} {rs:List RX} {args:List V} {X:V} (hc:zH P f=some ⟨n,c.erase,rs⟩) (hok:c.ok=true) (hlen:args.length<=n)
  (h: ∀S:V->Prop,(∀r,r.fz.nrm=X->S r)->awl P c (endK rs S) (initT 0 args) []):Spec P f args (fun r=>r=X):=
 (Spec.of_awl hc hok hlen (h (fun r=>r.fz.nrm=X) fun _ h=>h)).plain.mono (by rintro r' ⟨r,h,rfl⟩;exact h)
theorem vN {P:Program} {f:FuncId} (h:(match P.funcs[f]? with|some fn=>fn.body.isSome&& !(fn.name== "runtime.NumGoroutine")|none=>false)=true):tJ P f:=by
 unfold tJ;cases hf:P.funcs[f]? with
 |none=>rw[hf] at h;simp at h
 |some fn=>rw[hf] at h;simp only[Zr,Xn] at h;exact⟨fn,rfl,h.1,h.2⟩
theorem xM {w w':World} (h:Below w.heap.size w w'):wC w w':=⟨h.os,h.tape,h.output,h.size,h.block⟩
theorem cZ {w w':World} (h:wC w w'):Below w.heap.size w w':=⟨h.os,h.tape,h.output,h.size,h.block⟩
def C.sc:C->Bool
 | .int _ _=>true
 | .bool _=>true
 | .str _=>true
 |_=>false
def vO:C->Value
 | .int k n=> .int k n
 | .bool b=> .bool b
 | .str s=> .string ⟨s.toArray⟩
 |_=> .bool false
theorem zcp {w:World} {Z:Bk->Prop} {c:C} {v:Value} (hc:c.sc=true) (h:PRep w Z c v):v=vO c:=by
 cases h<;>first|rfl|cases hc
theorem zcq {w:World} {Z:Bk->Prop} {c:C} (hc:c.sc=true):PRep w Z c (vO c):=by
 cases c<;>first|exact .int _ _|exact .bool _|exact .str _|cases hc
theorem ztX {c:C} (hc:c.sc=true):(vO c).oneCell'=true:=(zcq (w:=default) (Z:=fun _=>False) hc).oneCell
theorem zmV {α:Type} {sz:Nat} (h0:0<sz): ∀(rows:List (List α)) (k:Nat) (c:α),(∀r,r∈rows->r.length=sz)->rows.flatten[k]?=some c-> ∃i j r,rows[i]?=some r/\r[j]?=some c/\k=i*sz+j
 |[],k,c,_,h=>by simp at h
 |r::rows,k,c,hl,h=>by
  have hr:=hl r Yj;rw[Yy] at h;by_cases hk:k<sz
  ·rw[ZL (by omega)] at h
   exact⟨0,k,r,rfl,h,by omega⟩
  ·rw[ZM (by omega)] at h
   obtain⟨i,j,r',h1,h2,h3⟩:=zmV h0 rows (k-r.length) c (fun r' hr'=>hl r' (Zy _ hr')) h;exact⟨i+1,j,r',h1,h2,by rw[YD];omega⟩
theorem zmW {α:Type} {sz:Nat}: ∀(rows:List (List α)) (i j:Nat) (r:List α) (c:α),(∀r,r∈rows->r.length=sz)->rows[i]?=some r->r[j]?=some c->rows.flatten[i*sz+j]?=some c
 |[],i,j,r,c,_,h,_=>by simp at h
 |r0::rows,0,j,r,c,hl,h,hc=>by
  cases h;have hj:=(Zu.1 hc).1;rw[Yy,Nat.zero_mul,ZY,ZL hj];exact hc
 |r0::rows,i+1,j,r,c,hl,h,hc=>by
  have hr:=hl r0 Yj;rw[Yy,YD,ZM (by omega),show i*sz+1*sz+j-r0.length=i*sz+j by omega];exact zmW rows i j r c (fun r' hr'=>hl r' (Zy _ hr')) h hc
theorem zcr {α:Type} {sz:Nat}: ∀(rows:List (List α)),(∀r,r∈rows->r.length=sz)->rows.flatten.length=rows.length*sz
 |[],_=>by simp
 |r0::rows,hl=>by
  rw[Yy,Zq,zcr rows fun r' hr'=>hl r' (Zy _ hr'),hl r0 Yj,Zo,YD];omega
def sA (rows:List (List C)):List Value:=rows.flatten.map vO
structure Plain (sz:Nat) (rows:List (List C)):Prop where
 pos:0<sz
 len: ∀r,r∈rows->r.length=sz
 sc: ∀r,r∈rows-> ∀c,c∈r->c.sc=true
theorem Plain.clen {sz:Nat} {rows:List (List C)} (h:Plain sz rows):(sA rows).length=rows.length*sz:=by
 rw[sA,Zg,zcr rows h.len]
theorem Plain.one {sz:Nat} {rows:List (List C)} (h:Plain sz rows): ∀u∈sA rows,u.oneCell'=true:=by
 intro u hu;obtain⟨c,hc,rfl⟩:=ZH.1 hu;obtain⟨r,hr,hcr⟩:=XA.1 hc;exact ztX (h.sc r hr c hcr)
theorem Plain.at {sz:Nat} {rows:List (List C)} (h:Plain sz rows) {i j:Nat} {r:List C} {c:C} (hr:rows[i]?=some r) (hc:r[j]?=some c):(sA rows)[i*sz+j]?=some (vO c)/\c.sc=true:=by
 refine⟨?_,h.sc r (ZP hr) c (ZP hc)⟩;rw[sA,Zz,zmW rows i j r c h.len hr hc];rfl
theorem Plain.slice {sz:Nat} {rows:List (List C)} (h:Plain sz rows) {w:World} {Z:Bk->Prop} {v:Value} (hv:PRep w Z (zB sz rows) v):
  ∃p cap,v=.slice p rows.length cap/\(0<rows.length-> ∃b o,p=some ⟨b,o,none⟩/\ ∀j u,(sA rows)[j]?=some u->w.cell? ⟨b,o+j,none⟩=some u)/\(0<rows.length->rows.length<=cap):=by
 unfold zB at hv;by_cases h0:rows=[]
 ·subst h0
  have h':PRep w Z (.list 0 none []) v:=hv;generalize hc:C.list 0 none []=c at h';cases h' with
  |nil=>exact⟨none,0,rfl,fun hk=>absurd hk (by simp),fun hk=>absurd hk (by simp)⟩
  |emp _ _ a=>exact⟨some a,0,rfl,fun hk=>absurd hk (by simp),fun hk=>absurd hk (by simp)⟩
  |list b o cap sz nl rws val=>
   injection hc with _ _ hr
   subst hr;exact⟨some ⟨b,o,none⟩,cap,rfl,fun hk=>absurd hk (by simp),fun hk=>absurd hk (by simp)⟩
  |_=>cases hc
 ·have e:(if rows.isEmpty=true then 0 else sz)=sz:=by cases rows<;>simp_all
  rw[e] at hv;generalize hc:C.list sz none rows=c at hv;cases hv with
  |nil=>injection hc with _ _ hr;exact absurd hr h0
  |emp=>injection hc with _ _ hr;exact absurd hr h0
  |list b o cap sz nl rws val h1 h2 h3 h4 h5 h6 h7=>
   injection hc with hs _ hr
   subst hs hr;refine⟨some ⟨b,o,none⟩,cap,rfl,fun _=>⟨b,o,rfl,fun k u hu=>?_⟩,fun _=>h2⟩;rw[sA,Zz] at hu;obtain⟨c,hc,rfl⟩:=Zd.1 hu;obtain⟨i,j,r,g1,g2,rfl⟩:=zmV h.pos rows k c h.len hc;rw[h6 i j r c g1 g2,zcp (h.sc r (ZP g1) c (ZP g2)) (h7 i j r c g1 g2)]
  |_=>cases hc
structure Row (w w':World) (e sz:Nat) (rows:List (List C)) (g:Nat) (cap:Nat):Prop where
 fresh:w.heap.size<=g
 ex: ∃cur,w'.heap[g]?=some (.cells cur e (0,0))/\cur.size=cap*sz/\ ∀(i j:Nat) r c,rows[i]?=some r->r[j]?=some c-> ∃v,cur[i*sz+j]?=some v/\ ∀Z,PRep w' Z c v
 pos:0<sz
 le:rows.length<=cap
 max:cap<=maxLen
 len: ∀r,r∈rows->r.length=sz
theorem Row.orep {w w':World} {e sz:Nat} {rows:List (List C)} {g cap:Nat} (h:Row w w' e sz rows g cap) {Z:Bk->Prop} {κ:Kap} {o:Nat->Option O} {τ:Nat} (hκ:κ τ=some g):wB w' Z κ o τ (.arr e sz none rows):=by
 obtain⟨cur,h1,h2,h3⟩:=h.ex;exact .inr ⟨g,cur,cap,hκ,h1,h.pos,h2,h.le,h.max,by simp,h.len,fun i j r c hr hc=>by obtain⟨v,hv,hp⟩:=h3 i j r c hr hc;exact⟨v,hv,hp _⟩⟩
theorem tb1 {n τ:Nat} {a x:O} (h:zZ n [a] τ=some x):τ=n/\x=a:=by
 unfold zZ at h;split at h
 ·rename_i hle
  obtain⟨k,rfl⟩: ∃k,τ=n+k:=⟨τ-n,by omega⟩;rw[Nat.add_sub_cancel_left] at h
  match k,h with
  |0,h=>simp at h;exact⟨rfl,h.symm⟩
  |k+1,h=>simp at h
 ·cases h
theorem zmX {n τ:Nat} {a:O} (h:zZ n [a] τ≠none):τ=n:=by
 cases e:zZ n [a] τ with
 |none=>exact absurd e h
 |some x=>exact(tb1 e).1
abbrev zmY (w w':World) (e sz:Nat) (rows:List (List C)) (v:Value):Prop:=(v=.slice none 0 0/\rows=[])\/ ∃g cap,v=.slice (some ⟨g,0,none⟩) rows.length cap/\Row w w' e sz rows g cap
theorem bB {w w':World} {Z:Bk->Prop} {e sz:Nat} {rows:List (List C)} {v:Value} (hG:yN (base w)) (hk:wC w w') (h:zmY w w' e sz rows v):qK (base w) Z (.k (.newl e sz none rows)) v w':=by
 intro n;obtain⟨k,hk1,hk2⟩: ∃k:Option Nat,((k=none/\v=.slice none 0 0/\rows=[])\/ ∃g cap,k=some g/\v=.slice (some ⟨g,0,none⟩) rows.length cap/\Row w w' e sz rows g cap)/\(∀b,k=some b->w.heap.size<=b/\b<w'.heap.size):=by
  rcases h with⟨a,b⟩|⟨g,cap,a,b⟩
  ·exact⟨none,.inl ⟨rfl,a,b⟩,fun _ h=>by cases h⟩
  ·obtain⟨cur,hc,_⟩:=b.ex
   exact⟨some g,.inr ⟨g,cap,rfl,a,b⟩,fun _ h=>by cases h;exact⟨b.fresh,wU hc⟩⟩
 refine⟨fun _=>k,hk,hG,fun τ b ho h=>?_,fun τ τ' b ho ho' h h'=>?_,fun τ ob h=>?_,fun s=>?_⟩
 ·have:=hk2 b h
  exact⟨Nat.not_lt.2 this.1,this.2⟩
 ·exact(zmX ho).trans (zmX ho').symm
 ·obtain⟨rfl,rfl⟩:=tb1 h
  rcases hk1 with⟨a,b,c⟩|⟨g,cap,a,b,c⟩
  ·exact .inl ⟨a,c,by simp⟩
  ·exact c.orep a
 ·by_cases hs:s=0
  ·subst hs
   simp only[if_true];refine⟨by rcases hk1 with⟨_,rfl,_⟩|⟨_,_,_,rfl,_⟩<;>rfl,fun e' sz' nl' rows' h=>?_⟩;obtain⟨_,h2⟩:=tb1 h;cases h2;rcases hk1 with⟨a,b,c⟩|⟨g,cap,a,b,c⟩
   ·exact .inl ⟨a,b⟩
   ·obtain⟨cur,hc,hz,_⟩:=c.ex
    exact .inr ⟨g,cur,cap,a,hc,hz,b⟩
  ·simp only[hs,if_false];trivial
theorem bC {w w':World} {e sz n:Nat} {rows:List (List C)} {v:Value} (h:Plain sz rows) (hw:w'.ownsRow w.heap.size e sz v n (sA rows)) (hn:n=rows.length):zmY w w' e sz rows v:=by
 subst hn;rcases hw.2 with⟨h1,h2⟩|⟨g2,cap,cur,h1,h2,h3,h4,h5,h6,h7⟩
 ·exact .inl ⟨h1,Yg h2⟩
 ·refine .inr ⟨g2,cap,h1,h2,⟨cur,h3,h6,fun i j r c hr hc=>⟨vO c,?_,fun Z=>zcq (h.at hr hc).2⟩⟩,h.pos,h4,h5,h.len⟩
  have:=(h.at hr hc).1;rw[<-h7,Z6] at this;split at this
  ·simpa using this
  ·cases this
theorem ztY (l:List Int):Plain 1 (zG l):=by
 refine⟨by decide,fun r hr=>?_,fun r hr c hc=>?_⟩<;>obtain⟨s,_,rfl⟩:=ZH.1 hr
 ·rfl
 ·simp at hc;subst hc;rfl
abbrev zV (W:World):Bk->Prop:=fun b=>b.2<W.heap.size
theorem zuf {Z:Bk->Prop} {w W:World} (hz: ∀b,Z b->b.2<w.heap.size) (hb:Below w.heap.size w W):xY Z w W:=fun b h=>hb.block b.2 (hz b h)
theorem sC {w W:World} {c:C} {v:Value} (h:PRep w (zV w) c v) (hb:Below w.heap.size w W):PRep W (zV W) c v:=
 h.mono (zuf (fun _ h=>h) hb) fun _ h=>ZO h hb.size
theorem oK {w:World} {Z:Bk->Prop} {c:C} {v:Value} (hz: ∀b,Z b->b.2<w.heap.size) (h:PRep w Z c v):PRep w (zV w) c v:=h.mono (fun _ _=>rfl) hz
theorem jI {w:World} {Z:Bk->Prop} {r:List C} {cs:List Value} (hr: ∀c∈r,c.sc=true) (h:yG w Z r cs):cs=r.map vO:=by
 apply List.ext_getElem?;intro j;rw[Zz];cases hj:r[j]? with
 |none=>
  rw[List.getElem?_eq_none_iff] at hj;rw[Xe (by rw[h.1];exact hj)];rfl
 |some c=>
  have hlt:j<cs.length:=by rw[h.1];exact(Zu.1 hj).1
  have h1:cs[j]?=some cs[j]:=by simp[hlt]
  rw[h1,zcp (hr c (ZP hj)) (h.2 j c _ hj h1)];rfl
theorem zug {w:World} {Z:Bk->Prop} {r:List C} (hr: ∀c∈r,c.sc=true):yG w Z r (r.map vO):=by
 refine⟨by simp,fun j c v hc hv=>?_⟩;rw[Zz,hc] at hv;cases hv;exact zcq (hr c (ZP hc))
theorem yY (w:World) (Z:Bk->Prop):vW w Z [] []:=⟨rfl,fun j x v h=>by simp at h⟩
theorem zm3 {w:World} {Z:Bk->Prop} {x:V} {xs:List V} {v:Value} {vs:List Value} (hx:x.isPure=true) (hv:zK w Z (fun _=>none) (fun _=>none) x v) (h:vW w Z xs vs):vW w Z (x::xs) (v::vs):=by
 refine⟨by simp[h.1],fun j y u hy hu=>?_⟩;cases j with
 |zero=>cases hy;cases hu;exact⟨hx,hv⟩
 |succ j=>exact h.2 j y u (by simpa using hy) (by simpa using hu)
theorem wS {w:World} {Z:Bk->Prop} {c:C} {xs:List V} {v:Value} {vs:List Value} (hv:PRep w Z c v) (h:vW w Z xs vs):vW w Z (.k (.c c)::xs) (v::vs):=zm3 rfl ⟨hv.oneCell,hv⟩ h
theorem qZ {w:World} {Z:Bk->Prop} {r:List C} {xs:List V} {us:Array Value} {vs:List Value} (hv:yG w Z r us.toList) (h:vW w Z xs vs):vW w Z (.agg r::xs) (.agg us::vs):=zm3 rfl ⟨us,rfl,hv⟩ h
theorem sD {w:World} {Z:Bk->Prop} {r:List C} {xs:List V} {vs:List Value} (hr: ∀c∈r,c.sc=true) (h:vW w Z xs vs):vW w Z (.agg r::xs) (.agg (r.map vO).toArray::vs):=qZ (zug hr) h
theorem Spec.pureC {P:Program} {f:FuncId} {xs:List V} {r:V} (h:Spec P f xs (fun r'=>r'=r)) (hp:r.isPure=true) (hr: ∀n,r.reg n=(r,[])) {W:World} (hG:yN (base W)) {Z:Bk->Prop} (hz: ∀b,Z b->b.2<W.heap.size) {vs:Array Value} (ha:vW W Z xs vs.toList):
  Calls P f vs W fun e W'=> ∃v,e=.returned v/\Below W.heap.size W W'/\zK W' (zV W') (fun _=>none) (fun _=>none) r v:=by
 refine(h.2 W Z vs hG hz ha).mono ?_;rintro e w' ⟨v,r',rfl,rfl,hnr,hrep⟩;obtain⟨κ,hi⟩:=hrep 0;have h0:=hi.tmps 0;simp only[if_pos,hr] at h0;refine⟨v,rfl,cZ hi.kept,?_⟩;have h1:=zK.pure_any (κ':=fun _=>none) (o':=fun _=>none) hp h0;exact zK.mono (fun _ _=>rfl) (fun b hb=>hb.2.1) (τs:=fun _=>False) (fun τ hτ=>hτ.elim) (fun τ hτ=>by rw[hnr τ] at hτ;cases hτ) h1
theorem Spec.boolC {P:Program} {f:FuncId} {xs:List V} {b:Bool} (h:Spec P f xs (fun r'=>r'=.bool b)) {W:World} (hG:yN (base W)) {Z:Bk->Prop} (hz: ∀b,Z b->b.2<W.heap.size) {vs:Array Value} (ha:vW W Z xs vs.toList):
  Calls P f vs W fun e W'=>e=.returned (.bool b)/\Below W.heap.size W W':=by
 refine(h.pureC rfl (fun _=>rfl) hG hz ha).mono ?_;rintro e w' ⟨v,rfl,hb,hv⟩;rw[nI hv.2];exact⟨rfl,hb⟩
theorem Spec.strC {P:Program} {f:FuncId} {xs:List V} {s:List UInt8} (h:Spec P f xs (fun r'=>r'=.str s)) {W:World} (hG:yN (base W)) {Z:Bk->Prop} (hz: ∀b,Z b->b.2<W.heap.size) {vs:Array Value} (ha:vW W Z xs vs.toList):
  Calls P f vs W fun e W'=>e=.returned (.string ⟨s.toArray⟩)/\Below W.heap.size W W':=by
 refine(h.pureC rfl (fun _=>rfl) hG hz ha).mono ?_;rintro e w' ⟨v,rfl,hb,hv⟩;rw[vX hv.2];exact⟨rfl,hb⟩
theorem Spec.intC {P:Program} {f:FuncId} {xs:List V} {k:IntKind} {n:Int} (h:Spec P f xs (fun r'=>r'=.int k n)) {W:World} (hG:yN (base W)) {Z:Bk->Prop} (hz: ∀b,Z b->b.2<W.heap.size) {vs:Array Value} (ha:vW W Z xs vs.toList):
  Calls P f vs W fun e W'=>e=.returned (.int k n)/\Below W.heap.size W W':=by
 refine(h.pureC rfl (fun _=>rfl) hG hz ha).mono ?_;rintro e w' ⟨v,rfl,hb,hv⟩;rw[vK hv.2];exact⟨rfl,hb⟩
theorem Spec.listC {P:Program} {f:FuncId} {xs:List V} {c:C} (h:Spec P f xs (fun r'=>r'=.k (.c c))) {W:World} (hG:yN (base W)) {Z:Bk->Prop} (hz: ∀b,Z b->b.2<W.heap.size) {vs:Array Value} (ha:vW W Z xs vs.toList):
  Calls P f vs W fun e W'=> ∃v,e=.returned v/\Below W.heap.size W W'/\PRep W' (zV W') c v:=by
 refine(h.pureC rfl (fun _=>rfl) hG hz ha).mono ?_;rintro e w' ⟨v,rfl,hb,hv⟩;exact⟨v,rfl,hb,hv.2⟩
theorem Spec.aggC {P:Program} {f:FuncId} {xs:List V} {r:List C} (hr: ∀c∈r,c.sc=true) (h:Spec P f xs (fun r'=>r'=.agg r)) {W:World} (hG:yN (base W)) {Z:Bk->Prop} (hz: ∀b,Z b->b.2<W.heap.size) {vs:Array Value} (ha:vW W Z xs vs.toList):
  Calls P f vs W fun e W'=>e=.returned (.agg (r.map vO).toArray)/\Below W.heap.size W W':=by
 refine(h.pureC rfl (fun _=>rfl) hG hz ha).mono ?_;rintro e w' ⟨v,rfl,hb,cs,rfl,hv⟩;have h1:=jI hr hv;obtain⟨cl⟩:=cs;have h2:cl=r.map vO:=h1;subst h2;exact⟨rfl,hb⟩
theorem zuh {rows:List (List C)} {sz:Nat} (hs: ∀r∈rows,r.length=sz) {cur:Array Value} (hc: ∀(i j:Nat) r c,rows[i]?=some r->r[j]?=some c->cur[i*sz+j]?=some (vO c)):cur.toList.take (rows.length*sz)=(rows.flatten.map vO):=by
 have key: ∀(rows:List (List C)) (q:Nat),(∀r∈rows,r.length=sz)->(∀(i j:Nat) r c,rows[i]?=some r->r[j]?=some c->cur[q+(i*sz+j)]?=some (vO c))->(cur.toList.drop q).take (rows.length*sz)=rows.flatten.map vO:=by
  intro rows
  induction rows with
  |nil=>intro q _ _;simp
  |cons r rows ih=>
   intro q h1 h2;have hr:=h1 r (by simp);have h3:=ih (q+sz) (fun x hx=>h1 x (Zy _ hx)) fun i j r' c hi hj=>by
    have:=h2 (i+1) j r' c (by simpa using hi) hj;rw[show q+((i+1)*sz+j)=q+sz+(i*sz+j) by rw[YL];omega] at this;exact this
   rw[Zo,YL,Y8,List.take_add,List.drop_drop,h3,Yy,ZS];congr 1;apply List.ext_getElem?;intro j;rw[Z6,YJ,Zz];by_cases hj:j<sz
   ·rw[if_pos hj]
    have hj':j<r.length:=by omega
    rw[Zf hj',YA,Yu];have:=h2 0 j r r[j] rfl (Zf hj')
    rwa [Nat.zero_mul,ZY] at this
   ·rw[if_neg hj,Xe (by omega)];rfl
 have:=key rows 0 hs (by simpa using hc);simpa using this
theorem Spec.newB {P:Program} {f:FuncId} {xs:List V} {e sz:Nat} {rows:List (List C)} {b:Bool} (hsc: ∀r∈rows,∀c∈r,c.sc=true) (hln: ∀r∈rows,r.length=sz) (h:Spec P f xs (fun r'=>r'=.tup [.k (.newl e sz none rows),.bool b])) {W:World} (hG:yN (base W)) {Z:Bk->Prop} (hz: ∀b,Z b->b.2<W.heap.size) {vs:Array Value} (ha:vW W Z xs vs.toList):
  Calls P f vs W fun ex W'=> ∃v,ex=.returned (.tuple #[v,.bool b])/\Below W.heap.size W W'/\W'.ownsRow W.heap.size e sz v rows.length (rows.flatten.map vO):=by
 refine(h.2 W Z vs hG hz ha).mono ?_;rintro ex w' ⟨v,r',rfl,rfl,_,hrep⟩;obtain⟨κ,hi⟩:=hrep 0;have h0:=hi.tmps 0;have ho:=hi.objs 0 (.arr e sz none rows) rfl;have hw:=hi.own 0;have hlen:(rows.flatten.map vO).length=rows.length*sz:=by rw[Zg];exact zcr rows hln
 obtain⟨us,hu,hl,hv⟩:=h0;have hu':v=.tuple us:=hu;subst hu';obtain⟨l⟩:=us
 match l,hl,hv with
 |[x,y],_,hv=>
  obtain⟨hx,hy,_⟩:=hv;have hyb:=nI hy.2;subst hyb;refine⟨x,rfl,cZ hi.kept,hlen,?_⟩;have hx2:=hx.2 e sz none rows rfl;rcases ho with⟨h1,h2,_⟩|⟨g,cur,cap,h1,h2,h3,h4,h5,h6,_,h8,h9⟩
  ·rcases hx2 with⟨_,h3⟩|⟨g,cur,cap,h3,_⟩
   ·exact .inl ⟨h3,by rw[h2];rfl⟩
   ·rw[h1] at h3;cases h3
  ·rcases hx2 with⟨h,_⟩|⟨g',cur',cap',k1,k2,k3,k4⟩
   ·rw[h1] at h;cases h
   ·rw[h1] at k1;cases k1
    rw[h2] at k2;cases k2;obtain rfl:cap=cap':=by
     have:=h4.symm.trans k3;exact XF h3 this
    have hg:=(hw g (by simp[zZ,V.reg,V.regL]) h1);refine .inr ⟨g,cap,cur,k4,Xu hg.1,h2,h5,h6,h4,zuh h8 fun i j r c hr hc=>?_⟩;obtain⟨u,hu,hp⟩:=h9 i j r c hr hc;rw[hu,zcp (hsc r (ZP hr) c (ZP hc)) hp]
end Go.Abs
namespace Go.Wire
open Go.Lib
abbrev Txt:=List UInt8
end Go.Wire
namespace Go.Wd
open Go.Lib Go.Wire
def cutC (c:UInt8):Txt->List Txt
 |[]=>[[]]
 |x::t=>if x=c then[]::cutC c t else match cutC c t with
  |[]=>[[x]]
  |w::r=>(x::w)::r
theorem ztQ (c:UInt8): ∀t,cutC c t≠[]
 |[]=>by simp[cutC]
 |x::t=>by
  unfold cutC;split
  ·simp
  ·cases cutC c t<;>simp
theorem cutC_word {c:UInt8}: ∀{w:Txt},c ∉ w->cutC c w=[w]
 |[],_=>rfl
 |x::t,h=>by
  have h1:x≠c:=fun e=>h (by simp[e])
  have h2:c ∉ t:=fun e=>h (by simp[e])
  rw[cutC,if_neg h1,cutC_word h2]
theorem cutC_app {c:UInt8}: ∀{w:Txt} (t:Txt),c ∉ w->cutC c (w++c::t)=w::cutC c t
 |[],t,_=>by rw[Yd,cutC,if_pos rfl]
 |x::w,t,h=>by
  have h1:x≠c:=fun e=>h (by simp[e])
  have h2:c ∉ w:=fun e=>h (by simp[e])
  rw[ZQ,cutC,if_neg h1,cutC_app t h2]
def vH (c:UInt8):List Txt->Txt
 |[]=>[]
 |[w]=>w
 |w::v::r=>w++c::vH c (v::r)
theorem zmR {c:UInt8}: ∀{l:List Txt},l≠[]->(∀w∈l,c ∉ w)->cutC c (vH c l)=l
 |[],h,_=>absurd rfl h
 |[w],_,h=>cutC_word (h w (by simp))
 |w::v::r,_,h=>by
  rw[vH,cutC_app _ (h w (by simp)),zmR (by simp) (fun x hx=>h x (Zy _ hx))]
def cleanL (L:List (List Txt)):Prop:= ∀ws∈L,ws≠[]/\ ∀w∈ws,(32:UInt8) ∉ w/\(10:UInt8) ∉ w
def dec (n:Int):Txt:=decDigits n.toNat
structure Ten where
 k:Int
 n:Int
 u:Int
 deriving DecidableEq
structure Bil where
 dr:Int
 de:Int
 pa:Int
 su:Int
 cu:Int
 te:Ten
 da:Int
 ci:Int
 py:Int
 ne:Int
 ra:Int
 fl:Int
 pt:Int
 deriving DecidableEq
structure Nms where
 cu:List Txt
 ci:List Txt
 fi:List Txt
def nm (l:List Txt) (i:Int):Txt:=l.getD i.toNat []
def bit (k fl:Int):Bool:=decide (fl/k % 2=1)
structure Cal where
 date:Int->Int×Int×Int
 day:Int->Int->Int->Int
def zmS (C:Cal) (d:Int):Txt:=vH 45 [dec (C.date d).1,dec (C.date d).2.1,dec (C.date d).2.2]
def ztR (C:Cal) (t:Ten):List Txt:=
 if t.k=0 then[[112,97,121],[97,116],[115,105,103,104,116]]
 else if t.k=3 then[[112,97,121],[111,110],zmS C t.n]
 else if t.k=4 then[[112,97,121],[97,116],[117,115,97,110,99,101]]
 else[[112,97,121],dec t.n,if t.u=1 then[109,111,110,116,104,115] else[100,97,121,115],[97,102,116,101,114],if t.k=2 then[100,97,116,101] else[115,105,103,104,116]]
def ztS (pt part:Int):List Int:=((List.range pt.toNat).map Int.ofNat).filter fun i=>decide (i≠part)
def orW:List Txt->List Txt
 |[]=>[]
 |[w]=>[w]
 |w::v::r=>w::[111,114]::orW (v::r)
def ztT (pt part:Int):List Txt:=orW ((ztS pt part).map fun i=>dec (i+1))
def rows (C:Cal) (N:Nms) (b:Bil) (p:Int):List (List Txt):=
 [[if bit 1 b.fl=true then[98,105,108,108] else[112,97,112,101,114],dec (p+1),[111,102],dec b.pt],
  [[100,114,97,119,110],[105,110],nm N.ci b.ci,[111,110],zmS C b.da],
  ztR C b.te,
  if b.pa= -1 then[[116,111],[98,101,97,114,101,114]] else if bit 4 b.fl=true then[[116,111],nm N.fi b.pa,[110,111,116],[116,111],[111,114,100,101,114]] else[[116,111],nm N.fi b.pa,[111,114],[111,114,100,101,114]],
  if b.ra=0 then[dec b.su,nm N.cu b.cu] else[dec b.su,nm N.cu b.cu,[119,105,116,104],[105,110,116,101,114,101,115,116],[97,116],dec b.ra,[112,101,114],[109,105,108,108,101]],
  [[116,111],[98,101],[112,97,105,100],[98,121],nm N.fi b.de,[105,110],nm N.ci b.py]]
 ++((if b.pt>1 then[[117,110,108,101,115,115]::[112,97,114,116]::(ztT b.pt p++[[119,97,115],[112,97,105,100]])] else[])
 ++((if b.ne= -1 then[] else[[[105,110],[110,101,101,100],[97,115,107],nm N.fi b.ne]])
 ++((if bit 2 b.fl=true then[[[119,105,116,104,111,117,116],[112,114,111,116,101,115,116]]] else[])++[[[115,105,103,110,101,100],nm N.fi b.dr]])))
def wd (l:List Txt) (i:Nat):Txt:=l.getD i []
end Go.Wd
namespace Go.Proofs
open Go.RowKit Go.Shelf Go.Abs
attribute [local go_sem] Oper.semAt_some
abbrev Ix (m:Nat):Type:={k:Nat//k<m}
def zcx (m:Nat) (fv:Nat->Value×Value) (x:Ix m):Array Value:= #[.int .i64 (x.1:Int),.agg #[(fv x.1).1,(fv x.1).2]]
def zui (m:Nat) (xs:List (Ix m)):Prop:=xs.map (fun x=>x.1)=(List.range m).reverse
theorem zuj {m k:Nat} {pre:List (Ix m)} (hk:k+1<=m) (h:pre.map (fun x=>x.1)++(List.range (k+1)).reverse=(List.range m).reverse):(pre++[(⟨k,hk⟩:Ix m)]).map (fun x=>x.1)++(List.range k).reverse=(List.range m).reverse:=by
 rw[<-h,Xk,List.reverse_append];simp
theorem zuk (n:Nat) (hn:3<=n) (bs m cap:Nat) (hm:m<=1000000) (p:Option Addr) (b o:Nat) (fv:Nat->Value×Value) (hf1: ∀k,(fv k).1.oneCell'=true) (hf2: ∀k,(fv k).2.oneCell'=true) (hp:0<m->p=some ⟨b,o,none⟩) (w:World) (Kp:World->World->Prop) (hKr:Kp w w) (hKt: ∀A B C,Kp A B->Kp B C->Kp A C)
  (hbx: ∀W,Kp w W->W.cell? ⟨bs,0,none⟩=some (.slice p m cap)) (hcl: ∀W,Kp w W-> ∀k,k<m->W.cell? ⟨b,o+k*2,none⟩=some (fv k).1/\W.cell? ⟨b,o+k*2+1,none⟩=some (fv k).2):
  bJ Fence.wide n Tryz.prog 266 #[.pointer (some ⟨bs,0,none⟩)] (zcx m fv) Kp (zui m) m w:=by
 intro l J W hW hJ hY h0;have h1n:1<=n:=by omega
 have mixed:Tryz.prog.follows Departure.mixedOrders=true:=by kernel_rfl
 have hb0:=hbx W hW;refine callsIn_of_wp Tryz.func266 rfl trivial ?_ rfl;simp only[Tryz.ntmps266,Yx,Zo,ZF,Zc,Y9,YI,YH,YS,YO,Yd,ZQ];have hw0:IntKind.i64.wrap ((m:Int)-1)=(m:Int)-1:=wrap_in (by omega) (by omega)
 gi_wp2
 gi_loopw [3] (fun q wr=> ∃(k:Nat) (pre:List (Ix m)),k<=m/\q=.int .i64 ((k:Int)-1)/\pre.map (fun x=>x.1)++(List.range k).reverse=(List.range m).reverse/\pre.length+k=m/\J pre wr/\Kp w wr)
  (fun q wr=>match q with| .int _ z=>(z+1).toNat|_=>0)
 case atStart=>exact⟨m,[],Zw _,rfl,by simp,by simp,h0,hW⟩
 case round=>
  obtain⟨k,pre,hk,rfl,hpre,hlen,hJ,hKp⟩:=hrel;by_cases h0k:k=0
  ·subst h0k
   have hle: ¬((0:Nat):Int)-1>=0:=by omega
   gi_wp2
   go_end0
   refine⟨⟨_,rfl⟩,pre,?_,hJ⟩;show _=_;rw[<-hpre];simp
  ·obtain⟨q,rfl⟩: ∃q,k=q+1:=⟨k-1,by omega⟩
   obtain rfl:=hp (by omega);have e6:((q+1:Nat):Int)-1=(q:Int):=by omega
   have hge:(q:Int)>=0:=by omega
   have hqm:(q:Int)<m:=by omega
   have hb1:=hbx wr hKp;obtain⟨hc1,hc2⟩:=hcl wr hKp q (by omega);have ho1:=hf1 q;have ho2:=hf2 q;have hw1:IntKind.i64.wrap ((q:Int)-1)=(q:Int)-1:=wrap_in (by omega) (by omega);obtain⟨fn,tmps,assign,body,hy,hR⟩:=hY pre ⟨q,by omega⟩ wr hJ (by omega);simp only[zcx] at hy;rw[e6];clear hbx hcl hY
   gi_wp2
   refine hR.mono ?_;rintro e W3 ⟨rfl,hJ3,hk3⟩
   gi_wp2
   go_roundw
   case rel=>exact⟨q,pre++[⟨q,by omega⟩],by omega,rfl,zuj (by omega) hpre,by rw[Zq];simp only[Zo,ZF];omega,hJ3,hKt _ _ _ hKp hk3⟩
   case measure=>simp only[];omega
end Go.Proofs
namespace Go.Proofs
open Go.RowKit Go.Wd Go.Wire
def tV (s:Txt):Value:=.string ⟨s.toArray⟩
def clV (op:Int) (d f o s t:Txt) (lo hi:Int):Value:=
 if op=0 then .iface 266 (.agg #[tV d]) else if op=1 then .iface 268 (.agg #[tV d,tV f,tV t]) else if op=3 then .iface 270 (.agg #[tV d,tV f,tV o,tV s])
 else if op=2 then .iface 272 (.agg #[tV d,tV f,.int .i64 lo,.int .i64 hi,.bool false]) else if op=4 then .iface 272 (.agg #[tV d,tV f,.int .i64 lo,.int .i64 hi,.bool true]) else .nilIface
def okO (op:Int):Bool:=decide (op=0)||(decide (op=1)||(decide (op=3)||(decide (op=2)||decide (op=4))))
theorem jJ (w:World) (o1 o2:Obj):Below w.heap.size w ((w.alloc o1).alloc o2):=((Below.refl _ w).alloc (Zw _) _).alloc (by simp) _
theorem zm4 (op:Int) (d f o s t:Txt) (lo hi:Int) (w:World):Calls Tryz.prog 205 #[.agg #[.int .i64 op,tV d,tV f,tV o,tV s,tV t,.int .i64 lo,.int .i64 hi]] w fun e w'=>e=.returned (.tuple #[clV op d f o s t lo hi,.bool (okO op)])/\Below w.heap.size w w':=by
 unfold tV;by_cases h0:op=0
 ·subst h0
  go_enter Tryz.func205,Tryz.ntmps205
  go_wp2
  go_ret2
  exact⟨rfl,jJ w _ _⟩
 by_cases h1:op=1
 ·subst h1
  go_enter Tryz.func205,Tryz.ntmps205
  go_wp2
  go_ret2
  exact⟨rfl,jJ w _ _⟩
 by_cases h3:op=3
 ·subst h3
  go_enter Tryz.func205,Tryz.ntmps205
  go_wp2
  go_ret2
  exact⟨rfl,jJ w _ _⟩
 by_cases h2:op=2
 ·subst h2
  go_enter Tryz.func205,Tryz.ntmps205
  go_wp2
  go_ret2
  exact⟨rfl,jJ w _ _⟩
 by_cases h4:op=4
 ·subst h4
  go_enter Tryz.func205,Tryz.ntmps205
  go_wp2
  go_ret2
  exact⟨rfl,jJ w _ _⟩
 have e1:clV op d f o s t lo hi=.nilIface:=by unfold clV;rw[if_neg h0,if_neg h1,if_neg h3,if_neg h2,if_neg h4]
 have e2:okO op=false:=by unfold okO;simp[h0,h1,h2,h3,h4]
 rw[e1,e2]
 go_enter Tryz.func205,Tryz.ntmps205
 go_wp2
 go_ret2
 exact⟨rfl,jJ w _ _⟩
end Go.Proofs
namespace Go.Proofs
open Go.Shelf Go.RowKit
def Tryz.laysIdxF_ren:Go.Shelf.Ren:=
 {
  f:=fun x=>
   match x with
   |15=>184
   |20=>247
   |n=>n,
  t:=fun x=>
   match x with
   |9=>9
   |23=>204
   |3=>3
   |4=>4
   |0=>0
   |21=>21
   |n=>n,
  g:=fun n=>n}
theorem Tryz.laysIdxF:LaysGw.n15 Tryz.prog Tryz.laysIdxF_ren:=
 {mixed:=by kernel_rfl,f15:=ZI Tryz.func184 (congrArg some (ZG (BodyGw.n15 Tryz.laysIdxF_ren))),
  f20:=ZI Tryz.func247 (congrArg some (ZG (BodyGw.n20 Tryz.laysIdxF_ren))),t0:=Tryz.underlying0,
  a0:=Tryz.isAgg0,z0:=Tryz.sizeOf0,v0:=Tryz.zeroValue0,i0:=by kernel_rfl,
  t3:=Tryz.underlying3,a3:=Tryz.isAgg3,z3:=Tryz.sizeOf3,v3:=Tryz.zeroValue3,
  i3:=by kernel_rfl,t4:=Tryz.underlying4,a4:=Tryz.isAgg4,
  z4:=Tryz.sizeOf4,v4:=Tryz.zeroValue4,i4:=by kernel_rfl,
  t9:=Tryz.underlying9,a9:=Tryz.isAgg9,z9:=Tryz.sizeOf9,v9:=Tryz.zeroValue9,
  i9:=by kernel_rfl,t21:=Tryz.underlying21,a21:=Tryz.isAgg21,
  z21:=Tryz.sizeOf21,v21:=Tryz.zeroValue21,i21:=by kernel_rfl,
  t23:=Tryz.underlying204,a23:=Tryz.isAgg204,z23:=Tryz.sizeOf204,v23:=Tryz.zeroValue204,
  i23:=by kernel_rfl}
end Go.Proofs
namespace Go.Ex
open Go.Lib Go.Wd Go.Wire
structure Fld where
 name:Txt
 words:List (List Txt)
structure Dcm where
 kind:Txt
 flds:List Fld
structure Pln where
 kind:Txt
 names:List Txt
 texts:List Txt
structure Dmd where
 op:Int
 doc:Txt
 fld:Txt
 oth:Txt
 sec:Txt
 txt:Txt
 lo:Int
 hi:Int
deriving DecidableEq
structure Plc where
 doc:Int
 fld:Int
deriving DecidableEq
structure Flw where
 dem:List Int
 pls:List Plc
 sure:Bool
theorem big {n:Nat} (h:n<=1000000):n<=9223372036854775807:=by omega
def letB (c:UInt8):Bool:=decide (97<=c.toNat/\c.toNat<=122)||decide (65<=c.toNat/\c.toNat<=90)
def digB (c:UInt8):Bool:=decide (48<=c.toNat/\c.toNat<=57)
def rD (c:UInt8):Bool:=letB c||(digB c||decide (c.toNat=95))
def jF (c:UInt8):Bool:=decide (32<=c.toNat/\c.toNat<=126)
def spanN (p:UInt8->Bool):Txt->Nat
 |[]=>0
 |c::t=>if p c=true then spanN p t+1 else 0
theorem ztU {p:UInt8->Bool} {s:Txt} {i:Nat} (h:i<s.length):spanN p (s.drop i)=if p s[i]=true then spanN p (s.drop (i+1))+1 else 0:=by
 rw[ZE h,spanN]
theorem zcm {p:UInt8->Bool}: ∀{s:Txt},spanN p s=s.length ↔ s.all p=true
 |[]=>by simp[spanN]
 |c::t=>by
  rw[spanN,Yz,Zr,<-zcm (s:=t)];split
  ·rename_i h;simp[h]
  ·rename_i h;simp[h]
def nameP (s:Txt):Bool:=decide (s≠[])&&(letB (s.getD 0 0)&&(decide (s.length<=20)&&decide (spanN rD s=s.length)))
def uY (c:UInt8):Bool:=decide (33<=c.toNat/\c.toNat<=126)
def yX (s:Txt):Bool:=decide (s≠[])&&(decide (s.length<=20)&&s.all uY)
def pO (l:List Txt):Nat->Bool
 |0=>false
 |n+1=>pO l n||decide (l.getD n []∈l.take n)
def vM (l:List Txt):Int:=if l.length>4 then 6 else if l=[] then 4 else if l.all yX=true then(if pO l l.length=true then 5 else 0) else 2
def wZ (f:Nat->Int):Nat->Nat->Int
 |0,_=>0
 |n+1,i=>if f i=0 then wZ f n (i+1) else f i
def zY:Fld:=⟨[],[]⟩
def vY (l:List Fld) (i:Nat):Int:=
 let f:=l.getD i zY
 if nameP f.name=true then
  if (l.take i).any (fun g=>decide (g.name=f.name))=true then 5
  else if f.words.length>8 then 6
  else wZ (fun k=>vM (f.words.getD k [])) f.words.length 0
 else 2
def docE (d:Dcm):Int:=if nameP d.kind=true then(if d.flds.length>12 then 6 else wZ (vY d.flds) d.flds.length 0) else 2
def zX (f:Fld):Nat:=(f.words.map List.length).foldl (· * ·) 1
def vI:List Fld->Nat->Int×Int
 |[],n=>((n:Int),0)
 |f::l,n=>if n*zX f>4096 then(0,6) else vI l (n*zX f)
def cntD (d:Dcm):Int×Int:=if docE d=0 then vI d.flds 1 else(0,docE d)
theorem zcn: ∀(l:List Nat) (a:Nat),l.foldl (· * ·) a=a*l.foldl (· * ·) 1
 |[],a=>by simp
 |x::l,a=>by
  rw[YU,zcn l (a*x),YU,Xs,zcn l x,XP]
theorem ztV (n:Txt) (w:List Txt) (l:List (List Txt)):zX ⟨n,w::l⟩=w.length*zX ⟨n,l⟩:=by
 unfold zX;rw[Zk,YU,Xs,zcn]
end Go.Ex
namespace Go.Abs
open Go.Proofs Go.RowKit Go.Lib Go.Wd Go.Wire Go.Ex
def zF (l:List Txt):List (List C):=l.map fun s=>[.str s]
@[simp] theorem zS (l:List Txt):(zF l).length=l.length:=by simp[zF]
theorem uI {l:List Txt} {i:Nat} (h:i<l.length):(zF l).getD i []=[.str l[i]]:=by simp[zF,h]
@[simp] theorem xR (l:List Txt):C.normRows (zF l)=zF l:=zQ (fun _=>rfl) l
theorem u8r (c:UInt8):(0:Int)<=(c.toNat:Int)/\(c.toNat:Int)<=255:=by
 have:=c.toNat_lt;omega
theorem wR {S:V->Prop} {x y:Bool} (h:S (.bool x)) (e:y=true ↔ x=true):S (.k (.c (.bool y))):=by
 rw[Yw.2 e];exact h
theorem zmT (c:UInt8):Spec Tryz.prog 213 [.int .u8 (c.toNat:Int)] (fun v=>v=.bool (letB c)):=by
 refine Spec.of_awlS hf213 okf213 (by simp) fun S hS=>?_
 unfold letB at hS;generalize c.toNat=a at hS;simp only[Qs,Za,zsp]
 repeat' (apply Zx<;>intro _)
 all_goals (refine wR hS ?_;simp only[Yp,decide_eq_true_eq,Z1,true_iff,false_iff];omega)
theorem zmU (c:UInt8):Spec Tryz.prog 256 [.int .u8 (c.toNat:Int)] (fun v=>v=.bool (digB c)):=by
 refine Spec.of_awlS hf256 okf256 (by simp) fun S hS=>?_
 unfold digB at hS;generalize c.toNat=a at hS;simp only[Qs,Za,zsr]
 repeat' (apply Zx<;>intro _)
 all_goals (refine wR hS ?_;simp only[Yp,decide_eq_true_eq,Z1,true_iff,false_iff];omega)
theorem ztW (c:UInt8):Spec Tryz.prog 215 [.int .u8 (c.toNat:Int)] (fun v=>v=.bool (rD c)):=by
 refine Spec.of_awlS hf215 okf215 (by simp) fun S hS=>?_
 have g1:=zmT c;have g2:=zmU c;unfold rD at hS;have hb:((c.toNat:Int)==95)=decide (c.toNat=95):=by
  rw[Yw];simp only[beq_iff_eq,decide_eq_true_eq];omega
 generalize letB c=x at g1 hS;generalize digB c=y at g2 hS;cases x with
 |true=>
  simp only[Qs,Za,zkC];refine zI g1 ?_ (ha:=by rfl);simp only[Qs,Za];exact hS
 |false=>
  simp only[Qs,Za,zkC];refine zI g1 ?_ (ha:=by rfl);simp only[Qs,Za];refine zI g2 ?_ (ha:=by rfl);cases y with
  |true=>
   simp only[Qs,Za];exact hS
  |false=>
   simp only[hb,Qs,Za];exact hS
theorem zco {g:Nat} {p:UInt8->Bool} (hg: ∀c:UInt8,Spec Tryz.prog g [.int .u8 (c.toNat:Int)] (fun v=>v=.bool (p c))) (s:Txt) (hl:s.length<=9223372036854775807):Spec Tryz.prog 214 [.str s,.k (.c (.fn g []))] (fun v=>v=.int .i64 (spanN p s:Nat)):=by
 refine Spec.of_awlS hf214 okf214 (by simp) fun S hS=>?_
 simp only[Qs,Zc,zsq];refine zR (fun i:Nat=>[(0,.str s),(1,.k (.c (.fn g []))),(5,.int .i64 i)]) (fun _=>[]) (fun i=>i<=s.length/\spanN p s=i+spanN p (s.drop i)) (fun i=>s.length-i) 0 rfl rfl ⟨ZC _,by simp⟩ ?_;rintro i ⟨hi,hD⟩;by_cases hlt:i<s.length
 ·have c1:(i:Int)<s.length:=by omega
  have c4:IntKind.i64.wrap ((i:Int)+1)=(i:Int)+1:=wrap_in (by omega) (by omega);have hgt:s.getD i 0=s[i]:=by rw[Zi,Zf hlt];rfl
  have gi:=hg s[i];rw[ztU hlt] at hD;simp only[c1,hgt,Qs,dZ,Za];refine rC gi ?_ (ha:=by rfl);cases hp:p s[i] with
  |true=>
   rw[if_pos hp] at hD;simp only[c4,Qs,Za];exact Next.intro (i+1) rfl rfl ⟨by omega,by omega⟩ (by omega)
  |false=>
   rw[if_neg (by rw[hp];simp)] at hD;rw[hD] at hS;simp only[Qs,Za];exact hS
 ·have c1: ¬(i:Int)<s.length:=by omega
  rw[ZB (by omega)] at hD;rw[hD] at hS;simp only[c1,Qs,dZ,Za];exact hS
theorem c92 (s:Txt) (hl:s.length<=9223372036854775807):Spec Tryz.prog 152 [.str s] (fun v=>v=.bool (nameP s)):=by
 refine Spec.of_awlS hf152 okf152 (by simp) fun S hS=>?_
 have g2:=zco ztW s hl;unfold nameP at hS;by_cases h0:s=[]
 ·rw[decide_eq_false (fun q=>q h0)] at hS
  have e2:(s !=[])=false:=by simp[h0]
  simp only[e2,Qs,Za,oF,YQ,zky];exact⟨fun _=>hS,fun q=>absurd h0 q⟩
 ·have hlen:0<s.length:=Ye.2 h0
  have q0:(0:Int)<s.length:=by omega
  rw[decide_eq_true h0,ZU] at hS;generalize hc:s.getD 0 0=c at hS;have g1:=zmT c;generalize letB c=x at g1 hS;have h20:((s.length:Int)<=20)=(s.length<=20):=by rw[eq_iff_iff];omega
  have hq:(((spanN rD s:Nat):Int)=s.length)=(spanN rD s=s.length):=by rw[eq_iff_iff];omega
  simp only[q0,hc,XZ,Qs,Za,oF,YQ,zky];refine⟨fun q=>absurd q h0,fun _=>?_⟩;refine zI g1 ?_ (ha:=by rfl);cases x with
  |false=>
   simp only[Qs,Za];exact hS
  |true=>
   rw[ZU] at hS;simp only[Qs,Za];refine⟨fun q=>?_,fun q=>?_⟩
   ·refine zI g2 ?_ (ha:=by rfl)
    rw[decide_eq_true (h20▸q),ZU] at hS;simp only[Qs,Za];refine wR hS ?_;rw[beq_iff_eq,decide_eq_true_eq,hq]
   ·rw[decide_eq_false (fun z=>q (h20▸z))] at hS
    exact hS
end Go.Abs
namespace Go.Proofs
open Go.Shelf Go.RowKit Go.Lib Go.Wd Go.Wire Go.Ex
def sB (r:Nat):Bool:=decide (r<33)||decide (r>126)
theorem ztZ (r:Nat) (W:World):FnGives Tryz.prog 185 #[] #[encR r] (.bool (sB r)) W:=by
 show Calls Tryz.prog 185 #[.int .i32 (r:Int)] W _;by_cases h1:r<33
 ·have c1:(r:Int)<33:=by omega
  have e:sB r=true:=by simp[sB,h1]
  rw[e]
  go_enter Tryz.func185,Tryz.ntmps185
  go_wp2
  go_ret
  exact⟨rfl,0,rfl⟩
 ·have c1: ¬(r:Int)<33:=by omega
  by_cases h2:r>126
  ·have c2:(r:Int)>126:=by omega
   have e:sB r=true:=by simp[sB,h1,h2]
   rw[e]
   go_enter Tryz.func185,Tryz.ntmps185
   go_wp2
   go_ret
   exact⟨rfl,0,rfl⟩
  ·have c2: ¬(r:Int)>126:=by omega
   have e:sB r=false:=by simp[sB,h1,h2]
   rw[e]
   go_enter Tryz.func185,Tryz.ntmps185
   go_wp2
   go_ret
   exact⟨rfl,0,rfl⟩
theorem zt0 (s:ByteArray) (i:Nat) (h:(s.get! i).toNat<128):Utf8.decode s i=((s.get! i).toNat,1):=by
 unfold Utf8.decode;simp only[Yf];rw[if_pos h]
theorem zt1 (s:ByteArray) (i:Nat) (h: ¬(s.get! i).toNat<128):128<=(Utf8.decode s i).1:=by
 unfold Utf8.decode Utf8.runeError;simp only[Yf,Zr,decide_eq_true_eq]
 repeat' split
 all_goals simp only
 all_goals omega
theorem zt2 (s:Txt) (i:Nat) (h:i<s.length):(⟨s.toArray⟩:ByteArray).get! i=s[i]:=by
 show(s.toArray)[i]! =s[i];simp[h]
theorem zmZ (s:Txt): ∀(f pos:Nat),s.length-pos<=f->(Lib.idxFuncFrom sB true ⟨s.toArray⟩ f pos<0 ↔ (s.drop pos).all uY=true)
 |0,pos,h=>by
  rw[ZB (by omega)];simp[Lib.idxFuncFrom]
 |f+1,pos,h=>by
  unfold Lib.idxFuncFrom;have hs:(⟨s.toArray⟩:ByteArray).size=s.length:=rfl;rw[hs];by_cases hp:pos<s.length
  ·rw[if_pos hp,ZE hp,Yz,Zr]
   have hg:=zt2 s pos hp;by_cases h8:(s[pos]).toNat<128
   ·rw[zt0 _ _ (by rw[hg];exact h8),hg]
    by_cases hb:sB (s[pos]).toNat=true
    ·rw[if_pos hb]
     have: ¬uY s[pos]=true:=fun q=>by
      unfold uY at q;unfold sB at hb;rw[decide_eq_true_eq] at q;rw[Yp,decide_eq_true_eq,decide_eq_true_eq] at hb;omega
     exact⟨fun q=>absurd q (by omega),fun q=>absurd q.1 this⟩
    ·rw[if_neg hb]
     have:uY s[pos]=true:=by
      unfold uY;unfold sB at hb;rw[Yp,decide_eq_true_eq,decide_eq_true_eq] at hb;rw[decide_eq_true_eq];omega
     rw[zmZ s f (pos+1) (by omega)];exact⟨fun q=>⟨this,q⟩,fun q=>q.2⟩
   ·have hd:=zt1 ⟨s.toArray⟩ pos (by rw[hg];exact h8)
    have hb:sB (Utf8.decode ⟨s.toArray⟩ pos).1=true:=by
     unfold sB;rw[Yp,decide_eq_true_eq,decide_eq_true_eq];omega
    rw[if_pos hb];have: ¬uY s[pos]=true:=fun q=>by
     unfold uY at q;rw[decide_eq_true_eq] at q;omega
    exact⟨fun q=>absurd q (by omega),fun q=>absurd q.1 this⟩
  ·rw[if_neg hp,ZB (by omega)]
   simp
end Go.Proofs
namespace Go.Abs
open Go.Proofs Go.RowKit Go.Lib Go.Wd Go.Wire Go.Ex
def sigI (s:Txt):Int:=Lib.idxFunc sB true ⟨s.toArray⟩
theorem zt3 (s:Txt):sigI s<0 ↔ s.all uY=true:=zmZ s s.length 0 (by omega)
theorem c97 (s:Txt):Spec Tryz.prog 184 [.str s,.k (.c (.fn 185 []))] (fun v=>v=.int .i64 (sigI s)):=by
 refine⟨vN (by kernel_rfl),fun w Z vs hG hz ha=>?_⟩;obtain⟨vl⟩:=vs
 match vl,ha with
 |[],ha=>exact absurd ha.1 (by simp)
 |[_],ha=>exact absurd ha.1 (by simp)
 |_::_::_::_,ha=>exact absurd ha.1 (by simp)
 |[v,v2],ha=>
  have e1:=vX (ha.2 0 _ v rfl rfl).2.2;subst e1;have h2:PRep w Z (.fn 185 []) v2:=(ha.2 1 _ v2 rfl rfl).2.2;obtain⟨lb,rfl,hlb⟩: ∃lb:Array Value,v2=.func (.func 185) #[] lb/\lb.size=0:=by
   cases h2 with
   |fn _ _ vs _ hs _ _=>exact⟨vs,rfl,hs⟩
  obtain rfl:lb= #[]:=YM hlb;refine(Any.strings_IndexFunc Tryz.laysIdxF 185 #[] (enters_of Tryz.func185 (by kernel_rfl) rfl) sB ⟨s.toArray⟩ w (fun W x _=>ztZ x W)).mono ?_;rintro e w' ⟨rfl,hb⟩;exact⟨_,_,rfl,rfl,fun _=>rfl,nV hG (xM hb) (fun _=>rfl) (fun _=>⟨rfl,.int _ _⟩)⟩
theorem c59 (s:Txt):Spec Tryz.prog 123 [.str s] (fun v=>v=.bool (yX s)):=by
 refine Spec.of_awlS hf123 okf123 (by simp) fun S hS=>?_
 have g:=c97 s;have hn:=zt3 s;generalize sigI s=k at g hn;unfold yX at hS;simp only[Qs,Za,oF,zss];refine⟨fun q=>?_,fun q=>⟨fun h20=>?_,fun h20=>?_⟩⟩
 ·rw[decide_eq_false (fun z=>z q)] at hS;exact hS
 ·refine zI g ?_ (ha:=by rfl)
  rw[decide_eq_true q,decide_eq_true (by omega),ZU,ZU] at hS;simp only[Qs,Za];exact wR hS (by rw[decide_eq_true_eq,hn])
 ·rw[decide_eq_true q,decide_eq_false (by omega)] at hS;exact hS
theorem zt4 (s:Txt) (hl:s.length<=9223372036854775807):Spec Tryz.prog 217 [.str s] (fun v=>v=.bool (!yX s)):=by
 refine Spec.of_awlS hf217 okf217 (by simp) fun S hS=>?_
 simp only[Qs,Za,zst];refine zI (c59 s) ?_ (ha:=by rfl);simp only[Qs];exact hS
theorem c58 (s:Txt):Spec Tryz.prog 122 [.str s] (fun v=>v=.bool (!yX s)):=by
 refine Spec.of_awlS hf122 okf122 (by simp) fun S hS=>?_
 simp only[Qs,Za,zsA];refine zI (c59 s) ?_ (ha:=by rfl);simp only[Qs];exact hS
def fstN {α:Type} (p:α->Bool):List α->Nat->Int
 |[],_=> -1
 |x::l,i=>if p x=true then(i:Int) else fstN p l (i+1)
theorem qA {α:Type} {p:α->Bool} {l:List α} {i:Nat} (h:i<l.length):fstN p (l.drop i) i=if p l[i]=true then(i:Int) else fstN p (l.drop (i+1)) (i+1):=by
 rw[ZE h,fstN]
theorem rE {α:Type} {p:α->Bool}: ∀(l:List α) (i:Nat),fstN p l i>=0 ↔ l.any p=true
 |[],i=>by simp[fstN]
 |x::l,i=>by
  rw[fstN,List.any_cons];by_cases h:p x=true
  ·rw[if_pos h,h];simp
  ·rw[if_neg h,rE l (i+1)];simp[h]
theorem c96 {g:Nat} {p:Txt->Bool} (l:List Txt) (hg: ∀s∈l,Spec Tryz.prog g [.str s] (fun v=>v=.bool (p s))) (hl:l.length<=9223372036854775807):Spec Tryz.prog 120 [lst 1 (zF l),.k (.c (.fn g []))] (fun v=>v=.int .i64 (fstN p l 0)):=by
 refine Spec.of_awlS hf120 okf120 (by simp) fun S hS=>?_
 simp only[zS,Qs,ZN,Zc,Za,zb9];refine zR (fun i:Nat=>[(0,lst 1 (zF l)),(1,.k (.c (.fn g []))),(7,.int .i64 l.length),(8,.int .i64 i)]) (fun _=>[]) (fun i=>i<=l.length/\fstN p (l.drop i) i=fstN p l 0) (fun i=>l.length-i) 0 rfl rfl ⟨ZC _,by simp⟩ ?_;rintro i ⟨hi,hD⟩;by_cases hlt:i<l.length
 ·have c1:(i:Int)<l.length:=by omega
  have c4:IntKind.i64.wrap ((i:Int)+1)=(i:Int)+1:=wrap_in (by omega) (by omega);have gi:=hg l[i] (Zv hlt);rw[qA hlt] at hD;simp only[c1,zS,uI hlt,Qs,ZN,Za];refine rC gi ?_ (ha:=by rfl);cases hp:p l[i] with
  |true=>
   rw[if_pos hp] at hD;rw[<-hD] at hS;simp only[Qs,ZN,Za];exact hS
  |false=>
   rw[if_neg (by rw[hp];simp)] at hD;simp only[c4,Qs,ZN,Za];exact Next.intro (i+1) rfl rfl ⟨by omega,hD⟩ (by omega)
 ·have c1: ¬(i:Int)<l.length:=by omega
  rw[ZB (by omega)] at hD;rw[<-hD] at hS;simp only[c1,Qs,ZN,Za];exact hS
theorem c57 {g:Nat} {p:Txt->Bool} (l:List Txt) (hg: ∀s∈l,Spec Tryz.prog g [.str s] (fun v=>v=.bool (p s))) (hl:l.length<=9223372036854775807):Spec Tryz.prog 121 [lst 1 (zF l),.k (.c (.fn g []))] (fun v=>v=.bool (l.any p)):=by
 refine Spec.of_awlS hf121 okf121 (by simp) fun S hS=>?_
 have g1:=c96 l hg hl;have hp:=rE (p:=p) l 0;generalize fstN p l 0=x at g1 hp;simp only[Qs,Zc,Za,zkO];refine zI g1 ?_ (ha:=by simp only[Zk,Zp,zC,V.norm,zM,C.norm,xR]<;>rfl);simp only[Qs];refine wR hS ?_;rw[decide_eq_true_eq];exact hp
theorem c40 (l:List Txt) (s:Txt) (hl:l.length<=9223372036854775807):Spec Tryz.prog 117 [lst 1 (zF l),.str s] (fun v=>v=.int .i64 (fstN (fun x=>decide (s=x)) l 0)):=by
 refine Spec.of_awlS hf117 okf117 (by simp) fun S hS=>?_
 simp only[zS,Qs,ZN,Zc,Za,zsG];refine zR (fun i:Nat=>[(0,lst 1 (zF l)),(1,.str s),(7,.int .i64 l.length),(8,.int .i64 i)]) (fun _=>[]) (fun i=>i<=l.length/\fstN (fun x=>decide (s=x)) (l.drop i) i=fstN (fun x=>decide (s=x)) l 0) (fun i=>l.length-i) 0 rfl rfl ⟨ZC _,by simp⟩ ?_;rintro i ⟨hi,hD⟩;by_cases hlt:i<l.length
 ·have c1:(i:Int)<l.length:=by omega
  have c4:IntKind.i64.wrap ((i:Int)+1)=(i:Int)+1:=wrap_in (by omega) (by omega);rw[qA hlt] at hD;by_cases he:s=l[i]
  ·have e1:(s==l[i])=true:=by simpa using he
   rw[if_pos (decide_eq_true he)] at hD;rw[<-hD] at hS;simp only[c1,e1,zS,uI hlt,Qs,ZN,Za];exact hS
  ·have e1:(s==l[i])=false:=by simpa using he
   rw[if_neg (by rw[decide_eq_false he];simp)] at hD;simp only[c1,c4,e1,zS,uI hlt,Qs,ZN,Za];exact Next.intro (i+1) rfl rfl ⟨by omega,hD⟩ (by omega)
 ·have c1: ¬(i:Int)<l.length:=by omega
  rw[ZB (by omega)] at hD;rw[<-hD] at hS;simp only[c1,Qs,ZN,Za];exact hS
theorem zt5 (l:List Txt) (s:Txt) (hl:l.length<=9223372036854775807):Spec Tryz.prog 94 [lst 1 (zF l),.str s] (fun v=>v=.bool (decide (s∈l))):=by
 refine Spec.of_awlS hf94 okf94 (by simp) fun S hS=>?_
 have g1:=c40 l s hl;have hp:=rE (p:=fun x=>decide (s=x)) l 0;generalize fstN (fun x=>decide (s=x)) l 0=x at g1 hp;simp only[Qs,Zc,Za,zsu];refine zI g1 ?_ (ha:=by simp only[Zk,Zp,zC,V.norm,zM,C.norm,xR]<;>rfl);simp only[Qs];refine wR hS ?_;rw[decide_eq_true_eq,decide_eq_true_eq,hp,Yt];simp
theorem zt6 (l:List Txt) (i:Nat):(zF l).take i=zF (l.take i):=by simp[zF,Xy]
theorem zcs (l:List Txt) (i:Nat):pO l (i+1)=(pO l i||decide (l.getD i []∈l.take i)):=rfl
theorem zm0 (l:List Txt): ∀{i j:Nat},i<=j->pO l i=true->pO l j=true:=fun{i j} h=>by
 induction h with
 |refl=>exact id
 |step _ ih=>intro q;rw[zcs,ih q];rfl
theorem c95 (l:List Txt) (hw: ∀s∈l,s.length<=9223372036854775807) (hl:l.length<=9223372036854775807):Spec Tryz.prog 155 [.agg [zB 1 (zF l)]] (fun v=>v=.int .i64 (vM l)):=by
 refine Spec.of_awlS hf155 okf155 (by simp) fun S hS=>?_
 unfold vM at hS;by_cases h4:l.length>4
 ·rw[if_pos h4] at hS
  have c1:(l.length:Int)>4:=by omega
  simp only[zS,c1,Qs,Za,cO];exact hS
 rw[if_neg h4] at hS;have c1: ¬(l.length:Int)>4:=by omega
 by_cases h0:l=[]
 ·rw[if_pos h0] at hS
  have c2:((l.length:Int)==0)=true:=by simp[h0]
  simp only[zS,c1,c2,Qs,Za,cO];exact hS
 rw[if_neg h0] at hS;have c2:((l.length:Int)==0)=false:=by
  have:=Ye.2 h0;exact beq_false_of_ne (by omega)
 have g1:=c57 (g:=217) (p:=fun s=> !yX s) l (fun s hs=>zt4 s (hw s hs)) hl;by_cases hv:l.all yX=true
 ·have ha:(l.any fun s=> !yX s)=false:=by
   rw[List.any_eq_false];intro x hx;have:=ZA.1 hv x hx;simp[this]
  rw[if_pos hv] at hS;rw[ha] at g1;simp only[zS,c1,c2,Qs,Za,cO];refine zI g1 ?_ (ha:=by simp only[Zk,Zp,zC,V.norm,zM,C.norm,xR]<;>rfl);simp only[zS,Qs,Za];refine zR (fun i:Nat=>[(3,lst 1 (zF l)),(19,.int .i64 l.length),(20,.int .i64 i)]) (fun _=>[]) (fun i=>i<=l.length/\pO l i=false) (fun i=>l.length-i) 0 rfl rfl ⟨ZC _,rfl⟩ ?_;rintro i ⟨hi,hD⟩;by_cases hlt:i<l.length
  ·have d1:(i:Int)<l.length:=by omega
   have c4:IntKind.i64.wrap ((i:Int)+1)=(i:Int)+1:=wrap_in (by omega) (by omega);have gc:=zt5 (l.take i) l[i] (by rw[Yl];omega);have hgd:l.getD i []=l[i]:=by rw[Zi,Zf hlt];rfl
   have hsu:=zcs l i;rw[hD,hgd,YC] at hsu;simp only[d1,c4,zS,uI hlt,zt6,Qs,zrP,iX,iY,gC,gD,jA,Za,gK,gL,YQ];refine⟨by omega,?_⟩;refine sP gc ?_ (ha:=by simp only[Zk,Zp,zC,V.norm,C.norm,xR]<;>rfl);by_cases hm:l[i]∈l.take i
   ·rw[decide_eq_true hm] at hsu
    rw[if_pos (zm0 l (by omega:i+1<=l.length) hsu)] at hS;simp only[decide_eq_true hm,Qs];exact hS
   ·rw[decide_eq_false hm] at hsu
    simp only[decide_eq_false hm,c4,Qs,Za];exact Next.intro (i+1) rfl rfl ⟨by omega,hsu⟩ (by omega)
  ·have d1: ¬(i:Int)<l.length:=by omega
   obtain rfl:i=l.length:=by omega
   rw[if_neg (by rw[hD];simp)] at hS;simp only[d1,Qs,Za];exact hS
 ·have ha:(l.any fun s=> !yX s)=true:=by
   rw[Yt];obtain⟨x,hx,hq⟩:=YP.1 (Y0.2 hv);exact⟨x,hx,by simpa using hq⟩
  rw[if_neg hv] at hS;rw[ha] at g1;simp only[zS,c1,c2,Qs,Za,cO];refine zI g1 ?_ (ha:=by simp only[Zk,Zp,zC,V.norm,zM,C.norm,xR]<;>rfl);simp only[Qs];exact hS
def yH (w:List Txt):List C:=[zB 1 (zF w)]
def zP (f:Fld):List C:=[.str f.name,zB 1 (f.words.map yH)]
def zJ (d:Dcm):List C:=[.str d.kind,zB 2 (d.flds.map zP)]
@[simp] theorem pP (w:List Txt):C.normRow (yH w)=yH w:=by simp only[yH,C.normRow,zM,xR]
@[simp] theorem vA (f:Fld):C.normRow (zP f)=zP f:=by
  simp only[zP,C.normRow,yP pP];rfl
@[simp] theorem yK (d:Dcm):C.normRow (zJ d)=zJ d:=by
  simp only[zJ,C.normRow,yP vA];rfl
theorem jG {l:List (List Txt)} {i:Nat} (h:i<l.length):(l.map yH).getD i []=[zB 1 (zF l[i])]:=by simp[yH,h]
theorem nX {l:List Fld} {i:Nat} (h:i<l.length):(l.map zP).getD i []=[.str l[i].name,zB 1 (l[i].words.map yH)]:=by simp[zP,h]
structure FldS (f:Fld):Prop where
 nm:f.name.length<=9223372036854775807
 ws:f.words.length<=9223372036854775807
 sp: ∀w∈f.words,w.length<=9223372036854775807/\ ∀s∈w,s.length<=9223372036854775807
structure DcmS (d:Dcm):Prop where
 kd:d.kind.length<=9223372036854775807
 fs:d.flds.length<=9223372036854775807
 fl: ∀f∈d.flds,FldS f
theorem c94 (f g:Fld):Spec Tryz.prog 154 [.agg (zP g),.k (.c (.ro (zP f) 0))] (fun v=>v=.bool (decide (g.name=f.name))):=by
 refine Spec.of_awlS hf154 okf154 (by simp) fun S hS=>?_
 unfold zP;simp only[Qs,Zc,Zl,Za,zsv];refine wR hS ?_;simp
theorem zt7 (f:Fld) (l:List Fld) (hl:l.length<=9223372036854775807):Spec Tryz.prog 216 [lst 2 (l.map zP),.k (.c (.fn 154 [.ro (zP f) 0]))] (fun v=>v=.int .i64 (fstN (fun g=>decide (g.name=f.name)) l 0)):=by
 refine Spec.of_awlS hf216 okf216 (by simp) fun S hS=>?_
 simp only[zL,Qs,ZN,Zc,Za,Zg,zsx];refine zR (fun i:Nat=>[(0,lst 2 (l.map zP)),(1,.k (.c (.fn 154 [.ro (zP f) 0]))),(7,.int .i64 l.length),(8,.int .i64 i)]) (fun _=>[]) (fun i=>i<=l.length/\fstN (fun g=>decide (g.name=f.name)) (l.drop i) i=fstN (fun g=>decide (g.name=f.name)) l 0) (fun i=>l.length-i) 0 rfl rfl ⟨ZC _,by simp⟩ ?_;rintro i ⟨hi,hD⟩;by_cases hlt:i<l.length
 ·have c1:(i:Int)<l.length:=by omega
  have c4:IntKind.i64.wrap ((i:Int)+1)=(i:Int)+1:=wrap_in (by omega) (by omega);have gi:=c94 f l[i];rw[qA hlt] at hD;simp only[c1,zL,nX hlt,Qs,ZN,Za,Zg];refine rC gi ?_ (ha:=by simp only[Zk,Zp,ZQ,Yd,zC,V.norm,C.norm,vA,zP,C.normRow,yP pP]<;>rfl);by_cases he:l[i].name=f.name
  ·rw[if_pos (decide_eq_true he)] at hD
   rw[<-hD] at hS;simp only[decide_eq_true he,Qs,ZN,Za];exact hS
  ·rw[if_neg (by rw[decide_eq_false he];simp)] at hD
   simp only[decide_eq_false he,c4,Qs,ZN,Za];exact Next.intro (i+1) rfl rfl ⟨by omega,hD⟩ (by omega)
 ·have c1: ¬(i:Int)<l.length:=by omega
  rw[ZB (by omega)] at hD;rw[<-hD] at hS;simp only[c1,Qs,ZN,Za];exact hS
theorem c93 (f:Fld) (l:List Fld) (hl:l.length<=9223372036854775807):Spec Tryz.prog 153 [lst 2 (l.map zP),.k (.c (.fn 154 [.ro (zP f) 0]))] (fun v=>v=.bool (l.any fun g=>decide (g.name=f.name))):=by
 refine Spec.of_awlS hf153 okf153 (by simp) fun S hS=>?_
 have g1:=zt7 f l hl;have hp:=rE (p:=fun g:Fld=>decide (g.name=f.name)) l 0;generalize fstN (fun g:Fld=>decide (g.name=f.name)) l 0=x at g1 hp;simp only[Qs,Zc,Za,zsw];refine zI g1 ?_ (ha:=by simp only[Zk,Zp,zC,V.norm,C.norm,yP vA,C.normRow,vA]<;>rfl);simp only[Qs];exact wR hS (by rw[decide_eq_true_eq];exact hp)
theorem jH {f:Nat->Int} {n i:Nat} (h:i<n):wZ f (n-i) i=if f i=0 then wZ f (n-(i+1)) (i+1) else f i:=by
 obtain⟨k,hk⟩: ∃k,n-i=k+1:=⟨n-i-1,by omega⟩;rw[hk,show n-(i+1)=k by omega,wZ]
theorem zct (l:List Fld) (i:Nat):(l.map zP).take i=(l.take i).map zP:=by simp[Xy]
theorem c55 (d:Dcm) (hd:DcmS d):Spec Tryz.prog 88 [.agg (zJ d)] (fun v=>v=.int .i64 (docE d)):=by
 refine Spec.of_awlS hf88 okf88 (by simp) fun S hS=>?_
 have g1:=c92 d.kind hd.kd;have hfs:=hd.fs;unfold docE at hS;unfold zJ;cases hk:nameP d.kind with
 |false=>
  rw[hk] at g1;rw[if_neg (by rw[hk];simp)] at hS;simp only[Qs,Zc,Zl,Za,zca];refine zI g1 ?_ (ha:=by rfl);simp only[Qs];exact hS
 |true=>
  rw[hk] at g1;rw[if_pos hk] at hS;by_cases h12:d.flds.length>12
  ·rw[if_pos h12] at hS
   have c1:(d.flds.length:Int)>12:=by omega
   simp only[Qs,Zc,Zl,Za,zca];refine zI g1 ?_ (ha:=by rfl);simp only[zL,c1,Qs,Zc,Za,Zg];exact hS
  ·rw[if_neg h12] at hS
   have c1: ¬(d.flds.length:Int)>12:=by omega
   simp only[Qs,Zc,Zl,Za,zca];refine zI g1 ?_ (ha:=by rfl);simp only[zL,c1,Qs,Zc,Za,Zg];refine zR (fun i:Nat=>[(1,.k (.c (.ro [.str d.kind,zB 2 (d.flds.map zP)] 0))),(17,lst 2 (d.flds.map zP)),(18,.int .i64 d.flds.length),(19,.int .i64 i)]) (fun _=>[]) (fun i=>i<=d.flds.length/\wZ (vY d.flds) (d.flds.length-i) i=wZ (vY d.flds) d.flds.length 0) (fun i=>d.flds.length-i) 0 rfl rfl ⟨ZC _,rfl⟩ ?_;rintro i ⟨hi,hD⟩;by_cases hlt:i<d.flds.length
   ·have d1:(i:Int)<d.flds.length:=by omega
    have c4:IntKind.i64.wrap ((i:Int)+1)=(i:Int)+1:=wrap_in (by omega) (by omega);rw[jH hlt] at hD;have hat:=nX hlt;have hgd:d.flds.getD i zY=d.flds[i]:=by rw[Zi,Zf hlt];rfl
    have hf:=hd.fl _ (Zv hlt);have hE:vY d.flds i=(if nameP d.flds[i].name=true then(if (d.flds.take i).any (fun g=>decide (g.name=d.flds[i].name))=true then 5 else if d.flds[i].words.length>8 then 6 else wZ (fun k=>vM (d.flds[i].words.getD k [])) d.flds[i].words.length 0) else 2):=by
     unfold vY;simp only[hgd]
    generalize d.flds[i]=f at hat hf hE;have g2:=c92 f.name hf.nm;have g3:=c93 f (d.flds.take i) (by rw[Yl];omega);have hbad: ∀e:Int,vY d.flds i=e->e≠0->S (.int .i64 e):=fun e h1 h2=>by
     rw[h1,if_neg h2] at hD;rw[<-hD] at hS;exact hS
    cases hn:nameP f.name with
    |false=>
     rw[hn] at g2;rw[if_neg (by rw[hn];simp)] at hE;simp only[d1,hat,zL,Qs,Ze,Zc,Zl,Za,Zg];refine zI g2 ?_ (ha:=by rfl);simp only[Qs];exact hbad 2 hE (by decide)
    |true=>
     rw[hn] at g2;rw[if_pos hn] at hE;rw[show zP f=[.str f.name,zB 1 (f.words.map yH)] from rfl] at g3;cases ht:(d.flds.take i).any (fun g=>decide (g.name=f.name)) with
     |true=>
      rw[ht] at g3;rw[if_pos ht] at hE;simp only[d1,hat,zL,Qs,Ze,Zc,Zl,Za,Zg];refine zI g2 ?_ (ha:=by rfl);simp only[zct,zL,Qs,cB,iX,iY,gC,gD,jA,Zc,Za,gK,gL,Zg,YQ];refine⟨by omega,?_⟩;refine zI g3 ?_ (ha:=by simp only[Zk,Zp,zC,V.norm,C.norm,C.normRow,yP vA,yP pP,zQ vA]<;>rfl);simp only[Qs];exact hbad 5 hE (by decide)
     |false=>
      rw[ht] at g3;rw[if_neg (by rw[ht];simp)] at hE;by_cases h8:f.words.length>8
      ·rw[if_pos h8] at hE
       have d2:(f.words.length:Int)>8:=by omega
       simp only[d1,hat,zL,Qs,Ze,Zc,Zl,Za,Zg];refine zI g2 ?_ (ha:=by rfl);simp only[zct,zL,Qs,cB,iX,iY,gC,gD,jA,Zc,Za,gK,gL,Zg,YQ];refine⟨by omega,?_⟩;refine zI g3 ?_ (ha:=by simp only[Zk,Zp,zC,V.norm,C.norm,C.normRow,yP vA,yP pP,zQ vA]<;>rfl);simp only[zL,d2,Qs,Zc,Za,Zg];exact hbad 6 hE (by decide)
      ·rw[if_neg h8] at hE
       have d2: ¬(f.words.length:Int)>8:=by omega
       simp only[d1,hat,zL,Qs,Ze,Zc,Zl,Za,Zg];refine zI g2 ?_ (ha:=by rfl);simp only[zct,zL,Qs,cB,iX,iY,gC,gD,jA,Zc,Za,gK,gL,Zg,YQ];refine⟨by omega,?_⟩;refine zI g3 ?_ (ha:=by simp only[Zk,Zp,zC,V.norm,C.norm,C.normRow,yP vA,yP pP,zQ vA]<;>rfl);simp only[zL,d2,Qs,Zc,Za,Zg];refine zR (fun k:Nat=>[(1,.k (.c (.ro [.str d.kind,zB 2 (d.flds.map zP)] 0))),(17,lst 2 (d.flds.map zP)),(18,.int .i64 d.flds.length),(19,.int .i64 i),(42,lst 1 (f.words.map yH)),(43,.int .i64 f.words.length),(44,.int .i64 k)]) (fun _=>[]) (fun k=>k<=f.words.length/\wZ (fun k=>vM (f.words.getD k [])) (f.words.length-k) k=vY d.flds i) (fun k=>f.words.length-k) 0 rfl rfl ⟨ZC _,hE.symm⟩ ?_;rintro k ⟨hk2,hD3⟩;by_cases hlk:k<f.words.length
       ·have d3:(k:Int)<f.words.length:=by omega
        have c5:IntKind.i64.wrap ((k:Int)+1)=(k:Int)+1:=wrap_in (by omega) (by omega);have haw:=jG hlk;have hwg:f.words.getD k []=f.words[k]:=by rw[Zi,Zf hlk];rfl
        have hws:=hf.sp _ (Zv hlk);rw[jH hlk,hwg] at hD3;generalize f.words[k]=w at haw hws hD3;have g4:=c95 w hws.2 hws.1;simp only[d3,haw,zL,Qs,Ze,Za,Zg];refine zI g4 ?_ (ha:=by simp only[Zk,Zp,zC,V.norm,C.norm,C.normRow,zM,xR]<;>rfl);by_cases hw0:vM w=0
        ·have w0:(vM w !=0)=false:=by simp[hw0]
         rw[if_pos hw0] at hD3;simp only[w0,c5,Qs,Za];exact Next.intro (k+1) rfl rfl ⟨by omega,hD3⟩ (by omega)
        ·have w0:(vM w !=0)=true:=by simp[hw0]
         rw[if_neg hw0] at hD3;simp only[w0,Qs,Za];exact hbad (vM w) hD3.symm hw0
       ·have d3: ¬(k:Int)<f.words.length:=by omega
        rw[show f.words.length-k=0 by omega] at hD3;have hz:vY d.flds i=0:=hD3.symm;rw[if_pos hz] at hD;simp only[d3,c4,Qs,reduceCtorEq,Zn,Za];exact Next.intro (i+1) rfl rfl ⟨by omega,hD⟩ (by omega)
   ·have d1: ¬(i:Int)<d.flds.length:=by omega
    rw[show d.flds.length-i=0 by omega] at hD;have hD2:0=wZ (vY d.flds) d.flds.length 0:=hD;rw[<-hD2] at hS;simp only[d1,Qs,Za];exact hS
def rF (l:List (List Txt)):Nat:=(l.map List.length).foldl (· * ·) 1
theorem bD {l:List (List Txt)} {i:Nat} (h:i<l.length):rF (l.take (i+1))=rF (l.take i)*l[i].length:=by
 unfold rF;rw[List.take_add_one,Zf h,Option.toList_some,ZS,Xz];rfl
theorem bE {l:List (List Txt)} (h8:l.length<=8) (h4: ∀w∈l,w.length<=4): ∀i,i<=l.length->rF (l.take i)<=4 ^ i
 |0,_=>by simp[rF]
 |i+1,h=>by
  rw[bD (by omega),Nat.pow_succ];exact Xh (bE h8 h4 i (by omega)) (h4 _ (Zv _))
structure FldR (f:Fld):Prop where
 s:FldS f
 ws:f.words.length<=8
 sp: ∀w∈f.words,1<=w.length/\w.length<=4
theorem bF {l:List Txt} (h:vM l=0):1<=l.length/\l.length<=4/\l.all yX=true/\pO l l.length=false:=by
 unfold vM at h;split at h
 ·cases h
 split at h
 ·cases h
 rename_i h4 h0;split at h
 ·split at h
  ·cases h
  ·rename_i hv ht
   exact⟨Ye.2 h0,by omega,hv,by simpa using ht⟩
 ·cases h
theorem zcu {f:Nat->Int}: ∀{n i:Nat},wZ f n i=0-> ∀k,k<n->f (i+k)=0
 |0,_,_,k,hk=>absurd hk (Nat.not_lt_zero _)
 |n+1,i,h,k,hk=>by
  rw[wZ] at h;split at h
  ·rename_i h0
   cases k with
   |zero=>exact h0
   |succ k=>rw[show i+(k+1)=i+1+k by omega];exact zcu h k (by omega)
  ·rename_i h0;exact absurd h h0
structure DcmR (d:Dcm):Prop where
 s:DcmS d
 kd:nameP d.kind=true
 fs:d.flds.length<=12
 fe: ∀i,i<d.flds.length->vY d.flds i=0
theorem uZ {d:Dcm} (hs:DcmS d) (h:docE d=0):DcmR d:=by
 unfold docE at h;split at h
 ·rename_i hk
  split at h
  ·cases h
  ·rename_i h12
   exact⟨hs,hk,by omega,fun i hi=>by have:=zcu h i hi;rwa [ZY] at this⟩
 ·cases h
theorem gP {l:List Fld} {i:Nat} (hi:i<l.length) (hs:FldS l[i]) (h:vY l i=0):FldR l[i]/\nameP l[i].name=true/\(l.take i).any (fun g=>decide (g.name=l[i].name))=false/\ ∀w∈l[i].words,vM w=0:=by
 have hgd:l.getD i zY=l[i]:=by rw[Zi,Zf hi];rfl
 unfold vY at h;simp only[hgd] at h;split at h
 ·rename_i hn
  split at h
  ·cases h
  rename_i ht;split at h
  ·cases h
  rename_i h8;have hw: ∀w∈l[i].words,vM w=0:=fun w hw=>by
   obtain⟨k,hk,rfl⟩:=YN hw;have:=zcu h k hk;simp only[ZY] at this
   rwa [Zi,Zf hk] at this
  exact⟨⟨hs,by omega,fun w hm=>⟨(bF (hw w hm)).1,(bF (hw w hm)).2.1⟩⟩,hn,by simpa using ht,hw⟩
 ·cases h
theorem DcmR.fld {d:Dcm} (h:DcmR d) {f:Fld} (hf:f∈d.flds):FldR f:=by
 obtain⟨i,hi,rfl⟩:=YN hf;exact(gP hi (h.s.fl _ hf) (h.fe i hi)).1
theorem bG {f:Fld} (hf:FldR f):zX f<=65536:=by
 have:=bE hf.ws (fun w hw=>(hf.sp w hw).2) f.words.length (Zw _);rw[Yk] at this;have h2:4 ^ f.words.length<=4 ^ 8:=Ys (by decide) hf.ws;unfold zX;exact ZX this (ZX h2 (by decide))
theorem zcv {f:Fld} (hf:FldR f):1<=zX f:=by
 have: ∀i,i<=f.words.length->1<=rF (f.words.take i):=fun i=>by
  induction i with
  |zero=>intro _;simp[rF]
  |succ i ih=>
   intro h;rw[bD (by omega)];exact Nat.mul_pos (ih (by omega)) (hf.sp _ (Zv _)).1
 have:=this f.words.length (Zw _)
 rwa [Yk] at this
theorem c61 (f:Fld) (hf:FldR f):Spec Tryz.prog 90 [.agg (zP f)] (fun v=>v=.int .i64 (zX f:Nat)):=by
 refine Spec.of_awlS hf90 okf90 (by simp) fun S hS=>?_
 have h8:=hf.ws;unfold zP;simp only[zL,Qs,Zc,Za,Zg,zsz];refine zR (fun i:Nat=>[(3,.int .i64 (rF (f.words.take i):Nat)),(7,lst 1 (f.words.map yH)),(8,.int .i64 f.words.length),(9,.int .i64 i)]) (fun _=>[]) (fun i=>i<=f.words.length) (fun i=>f.words.length-i) 0 rfl rfl (ZC _) ?_;intro i hi;by_cases hlt:i<f.words.length
 ·have c1:(i:Int)<f.words.length:=by omega
  have c4:IntKind.i64.wrap ((i:Int)+1)=(i:Int)+1:=wrap_in (by omega) (by omega);have hp:=bE hf.ws (fun w hw=>(hf.sp w hw).2) (i+1) (by omega);have hq:4 ^ (i+1)<=4 ^ 8:=Ys (by decide) (by omega);have hpt:=bD hlt;have hws:=jG hlt;generalize f.words[i]=w at hpt hws;have c5:IntKind.i64.wrap (((rF (f.words.take i):Nat):Int)*(w.length:Int))=((rF (f.words.take (i+1)):Nat):Int):=by
   have h4:(4:Nat) ^ 8=65536:=by decide
   rw[hpt,wrap_in]
   ·exact(YB _ _).symm
   ·rw[<-YB];omega
   ·rw[<-YB,<-hpt];omega
  simp only[c1,c4,c5,hws,zL,zS,Qs,Ze,Za,Zg];exact Next.intro (i+1) rfl rfl (by omega) (by omega)
 ·have c1: ¬(i:Int)<f.words.length:=by omega
  rw[Z7 (by omega)];simp only[c1,Qs,Za];exact hS
theorem c77 (d:Dcm) (hd:DcmS d):Spec Tryz.prog 181 [.agg (zJ d)] (fun v=>v=.tup [.int .i64 (cntD d).1,.int .i64 (cntD d).2]):=by
 refine Spec.of_awlP hf181 okf181 (by simp) fun S hS=>?_
 have g1:=c55 d hd;have hn:[C.str d.kind,zB 2 (d.flds.map zP)]=zJ d:=rfl;unfold cntD at hS;by_cases h0:docE d=0
 ·rw[if_pos h0] at hS
  have hR:=uZ hd h0;have hfs:=hR.fs;have w0:(docE d !=0)=false:=by simp[h0]
  rw[<-hn] at g1⊢;simp only[Qs,Zc,Za,zkS];refine zI g1 ?_ (ha:=by simp only[Zk,Zp,zC,V.norm,C.norm,C.normRow,yP vA]<;>rfl);simp only[w0,zL,Qs,Zc,Za,Zg];refine zR (fun x:Nat×Nat=>[(5,.int .i64 (x.2:Nat)),(14,lst 2 (d.flds.map zP)),(15,.int .i64 d.flds.length),(16,.int .i64 x.1)]) (fun _=>[]) (fun x=>x.1<=d.flds.length/\x.2<=4096/\vI (d.flds.drop x.1) x.2=vI d.flds 1) (fun x=>d.flds.length-x.1) (0,1) rfl rfl ⟨ZC _,by decide,rfl⟩ ?_;rintro⟨i,n⟩ ⟨hi,hn4,hD⟩;simp only[] at hi hn4 hD;by_cases hlt:i<d.flds.length
  ·have c1:(i:Int)<d.flds.length:=by omega
   have c4:IntKind.i64.wrap ((i:Int)+1)=(i:Int)+1:=wrap_in (by omega) (by omega);have hf:=hR.fld (Zv hlt);rw[ZE hlt,vI] at hD;have hat:=nX hlt;generalize d.flds[i]=f at hf hD hat;have g2:=c61 f hf;have hsz:=bG hf;rw[show zP f=[.str f.name,zB 1 (f.words.map yH)] from rfl] at g2;have hmul:n*zX f<=4096*65536:=Xh hn4 hsz;have c5:IntKind.i64.wrap ((n:Int)*((zX f:Nat):Int))=((n*zX f:Nat):Int):=by
    rw[YB,wrap_in]
    ·rw[<-YB];omega
    ·rw[<-YB];omega
   simp only[c1,hat,zL,Qs,Ze,Zc,Za,Zg];refine zI g2 ?_ (ha:=by simp only[Zk,Zp,zC,V.norm,C.norm,C.normRow,yP pP]<;>rfl);by_cases hbig:n*zX f>4096
   ·have c6:((n*zX f:Nat):Int)>4096:=by omega
    rw[if_pos hbig] at hD;rw[<-hD] at hS;simp only[c5,c6,Qs,Ze,Za];exact hS _ rfl
   ·have c6: ¬((n*zX f:Nat):Int)>4096:=by omega
    rw[if_neg hbig] at hD;simp only[c4,c5,c6,Qs,Za];exact Next.intro (i+1,n*zX f) rfl rfl ⟨by simp only;omega,by simp only;omega,hD⟩ (by simp only;omega)
  ·have c1: ¬(i:Int)<d.flds.length:=by omega
   rw[ZB (by omega),vI] at hD;rw[<-hD] at hS;simp only[c1,Qs,Ze,Za];exact hS _ rfl
 ·rw[if_neg h0] at hS
  have w0:(docE d !=0)=true:=by simp[h0]
  rw[<-hn] at g1⊢;simp only[Qs,Zc,Za,zkS];refine zI g1 ?_ (ha:=by simp only[Zk,Zp,zC,V.norm,C.norm,C.normRow,yP vA]<;>rfl);simp only[w0,Qs,Ze,Za];exact hS _ rfl
theorem c56 (d:Dcm) (hd:DcmS d) (k:Int):Spec Tryz.prog 89 [.agg (zJ d),.int .i64 k] (fun v=>v=.bool (decide (docE d=0/\0<=k/\k<d.flds.length))):=by
 refine Spec.of_awlS hf89 okf89 (by simp) fun S hS=>?_
 have g1:=c55 d hd;have hn:[C.str d.kind,zB 2 (d.flds.map zP)]=zJ d:=rfl;rw[<-hn] at g1⊢;generalize docE d=e at g1 hS;simp only[Qs,Zc,Za,zsy];refine zI g1 ?_ (ha:=by simp only[Zk,Zp,zC,V.norm,C.norm,C.normRow,yP vA]<;>rfl);simp only[zL,Qs,Zc,Za,Zg]
 repeat' (apply Zx<;>intro _)
 all_goals (refine wR hS ?_;simp only[decide_eq_true_eq,Z1,false_iff];omega)
theorem lH {l:List Dcm} {i:Nat} (h:i<l.length):(l.map zJ).getD i []=[.str l[i].kind,zB 2 (l[i].flds.map zP)]:=by simp[zJ,h]
def uJ:List Dcm->List Int->Nat->List Int×Int×Int
 |[],l,n=>(l,(n:Int),0)
 |d::r,l,n=>if (cntD d).2≠0\/(n:Int)*(cntD d).1>4096 then([],0,6) else uJ r (l++[(cntD d).1]) (n*(cntD d).1.toNat)
def cnts (l:List Dcm):List Int×Int×Int:=if l.length>8 then([],0,6) else if wZ (fun i=>docE (l.getD i ⟨[],[]⟩)) l.length 0=0 then uJ l [] 1 else([],0,wZ (fun i=>docE (l.getD i ⟨[],[]⟩)) l.length 0)
def rG (l:List Dcm):Prop:=l.length<=9223372036854775807/\ ∀d∈l,DcmS d
def yM:Dcm:=⟨[],[]⟩
theorem bI {d:Dcm}:0<=(cntD d).1/\(cntD d).1<=4096:=by
 unfold cntD;split
 ·have: ∀(l:List Fld) (n:Nat),n<=4096->0<=(vI l n).1/\(vI l n).1<=4096:=fun l=>by
   induction l with
   |nil=>intro n h;simp only[vI];omega
   |cons f l ih=>
    intro n h;rw[vI];split
    ·simp
    ·exact ih _ (by omega)
  exact this d.flds 1 (by decide)
 ·simp
theorem uK {rows:List (List C)} (h:C.normRows rows=rows) (sz:Nat) (e:TypeId):(Abs.K.newl e sz none rows).fz.nrm=.c (zB sz rows):=by
 simp[Abs.K.fz,Abs.K.nrm,C.norm,h,zB]
theorem c37 (l:List Dcm) (hl:rG l):Spec Tryz.prog 115 [lst 2 (l.map zJ)] (fun v=>v=.tup [lst 1 (zG (cnts l).1),.int .i64 (cnts l).2.1,.int .i64 (cnts l).2.2]):=by
 refine Spec.of_awlP hf115 okf115 (by simp) fun S hS=>?_
 have hlen:=hl.1;unfold cnts at hS;by_cases h8:l.length>8
 ·rw[if_pos h8] at hS
  have c1:(l.length:Int)>8:=by omega
  simp only[zL,c1,Qs,BEq.rfl,Ze,ZK,Za,Zg,Zt,zme];exact hS _ rfl
 ·rw[if_neg h8] at hS
  have c1: ¬(l.length:Int)>8:=by omega
  simp only[zL,c1,Qs,Za,Zg,zme];refine zR (fun i:Nat=>[(0,lst 2 (l.map zJ)),(17,lst 2 (l.map zJ)),(18,.int .i64 l.length),(19,.int .i64 i)]) (fun _=>[]) (fun i=>i<=l.length/\wZ (fun i=>docE (l.getD i ⟨[],[]⟩)) (l.length-i) i=wZ (fun i=>docE (l.getD i ⟨[],[]⟩)) l.length 0) (fun i=>l.length-i) 0 rfl rfl ⟨ZC _,rfl⟩ ?_;rintro i ⟨hi,hD⟩;by_cases hlt:i<l.length
  ·have d1:(i:Int)<l.length:=by omega
   have c4:IntKind.i64.wrap ((i:Int)+1)=(i:Int)+1:=wrap_in (by omega) (by omega);have hgd:l.getD i ⟨[],[]⟩=l[i]:=by rw[Zi,Zf hlt];rfl
   rw[jH hlt,hgd] at hD;have g1:=c55 _ (hl.2 _ (Zv hlt));have hat:=lH hlt;generalize l[i]=d at hD g1 hat;rw[show zJ d=[.str d.kind,zB 2 (d.flds.map zP)] from rfl] at g1;simp only[d1,hat,zL,Qs,Ze,Zc,Za,Zg];refine zI g1 ?_ (ha:=by simp only[Zk,Zp,zC,V.norm,C.norm,C.normRow,yP vA]<;>rfl);by_cases h0:docE d=0
   ·have w0:(docE d !=0)=false:=by simp[h0]
    rw[if_pos h0] at hD;simp only[w0,c4,Qs,Za];exact Next.intro (i+1) rfl rfl ⟨by omega,hD⟩ (by omega)
   ·have w0:(docE d !=0)=true:=by simp[h0]
    rw[if_neg h0] at hD;rw[<-hD,if_neg h0] at hS;simp only[w0,Qs,Ze,ZK,Za,Zt];exact hS _ rfl
  ·have d1: ¬(i:Int)<l.length:=by omega
   rw[show l.length-i=0 by omega] at hD;have hz:wZ (fun i=>docE (l.getD i ⟨[],[]⟩)) l.length 0=0:=hD.symm;rw[if_pos hz] at hS;simp only[d1,zL,Qs,Za,Zg];refine zR (fun x:Nat×List Int×Nat×Option Bool=>[(8,.int .i64 (x.2.2.1:Nat)),(9,.k (.own 9)),(29,lst 2 (l.map zJ)),(30,.int .i64 l.length),(31,.int .i64 x.1)]) (fun x=>[(9,.arr 3 1 x.2.2.2 (zG x.2.1))]) (fun x=>x.1<=l.length/\x.2.1.length=x.1/\x.2.2.1<=4096/\uJ (l.drop x.1) x.2.1 x.2.2.1=uJ l [] 1) (fun x=>l.length-x.1) (0,[],1,some true) rfl rfl ⟨ZC _,rfl,by decide,rfl⟩ ?_;rintro⟨i,L,n,nl⟩ ⟨hi,hL,hn,hD⟩;simp only[] at hi hL hn hD;by_cases hlt:i<l.length
   ·have d1:(i:Int)<l.length:=by omega
    have c4:IntKind.i64.wrap ((i:Int)+1)=(i:Int)+1:=wrap_in (by omega) (by omega);have g1:=c77 _ (hl.2 _ (Zv hlt));have hat:=lH hlt;rw[ZE hlt,uJ] at hD;have hr:=bI (d:=l[i]);generalize l[i]=d at hD g1 hat hr;rw[show zJ d=[.str d.kind,zB 2 (d.flds.map zP)] from rfl] at g1;generalize cntD d=c at hD g1 hr;obtain⟨cn,ce⟩:=c;simp only[] at hD g1 hr;have hmul:0<=(n:Int)*cn/\(n:Int)*cn<=4096*4096:=⟨Int.mul_nonneg (by omega) hr.1,Int.mul_le_mul (by omega) hr.2 hr.1 (by omega)⟩;have c5:IntKind.i64.wrap ((n:Int)*cn)=(n:Int)*cn:=wrap_in (by omega) (by omega);simp only[d1,hat,zL,Qs,bne_iff_ne,ne_eq,Ze,Zc,Zn,Za,Zg];refine zI g1 ?_ (ha:=by simp only[Zk,Zp,zC,V.norm,C.norm,C.normRow,yP vA]<;>rfl);by_cases h0:ce=0
    ·have w0:(ce !=0)=false:=by simp[h0]
     by_cases hbig:(n:Int)*cn>4096
     ·rw[if_pos (.inr hbig)] at hD
      rw[<-hD] at hS;simp only[w0,c5,hbig,Qs,bne_iff_ne,ne_eq,Ze,ZK,Zn,Za,Zt];exact hS _ rfl
     ·rw[if_neg (fun q=>q.elim (fun z=>z h0) hbig)] at hD
      have e1:((n*cn.toNat:Nat):Int)=(n:Int)*cn:=by rw[YB,Int.toNat_of_nonneg hr.1]
      simp only[w0,c4,c5,hbig,yJ,Qs,nT,forall_eq,bne_iff_ne,ne_eq,ZJ,Zn,Zl,Z5,Za,Zt];refine⟨by omega,by omega,Next.intro (i+1,L++[cn],n*cn.toNat,some false) (by simp only[e1];rfl) (by simp[zG];rfl) ⟨by simp only;omega,by simp[hL],by simp only;omega,hD⟩ (by simp only;omega)⟩
    ·have w0:(ce !=0)=true:=by simp[h0]
     rw[if_pos (.inl h0)] at hD;rw[<-hD] at hS;simp only[w0,Qs,lD,bne_iff_ne,ne_eq,Ze,ZK,Zn,Za,Zt];exact hS _ rfl
   ·have d1: ¬(i:Int)<l.length:=by omega
    rw[ZB (by omega),uJ] at hD;rw[<-hD] at hS;simp only[d1,Qs,Ze,ZK,Za,Zt];refine hS _ ?_;simp only[V.fz,V.fzL,V.nrm,V.nrmL,uK (yR L)];rfl
theorem c13 (l:List Dcm) (hl:rG l):Spec Tryz.prog 161 [lst 2 (l.map zJ)] (fun v=>v=.tup [.int .i64 (cnts l).2.1,.int .i64 (cnts l).2.2]):=by
 refine Spec.of_awlP hf161 okf161 (by simp) fun S hS=>?_
 have g:=c37 l hl;generalize cnts l=c at g hS;simp only[Qs,Za,ztr];refine yQ g ?_ (ha:=by simp only[Zk,Zp,zC,V.norm,C.norm,yP yK]<;>rfl);simp only[Qs,Ze,Zc,Z9,Za];exact hS _ rfl
end Go.Abs
namespace Go.Ex
open Go.Lib Go.Wd Go.Wire Go.Abs
def fldsF (d f:Txt):List Pln->List Txt->List Txt×Bool
 |[],acc=>(acc,true)
 |p::l,acc=>if p.kind=d then(if fstN (fun x=>decide (f=x)) p.names 0<0\/fstN (fun x=>decide (f=x)) p.names 0>=p.texts.length then([],false) else fldsF d f l (acc++[p.texts.getD (fstN (fun x=>decide (f=x)) p.names 0).toNat []])) else fldsF d f l acc
structure PlnS (p:Pln):Prop where
 kd:p.kind.length<=1000000
 ns:p.names.length<=1000000
 ts:p.texts.length<=1000000
 tx: ∀s∈p.texts,s.length<=1000000
def tA (l:List Pln):Prop:=l.length<=1000000/\ ∀p∈l,PlnS p
def kindP (l:List Pln) (s:Txt):Bool:=l.any fun p=>decide (p.kind=s)
end Go.Ex
namespace Go.Abs
open Go.Proofs Go.RowKit Go.Lib Go.Wd Go.Wire Go.Ex
def xT (p:Pln):List C:=[.str p.kind,zB 1 (zF p.names),zB 1 (zF p.texts)]
@[simp] theorem oL (p:Pln):C.normRow (xT p)=xT p:=by simp only[xT,C.normRow,C.norm,zM,xR]
theorem bK {l:List Pln} {i:Nat} (h:i<l.length):(l.map xT).getD i []=[.str l[i].kind,zB 1 (zF l[i].names),zB 1 (zF l[i].texts)]:=by simp[xT,h]
theorem zul (s:Txt) (p:Pln):Spec Tryz.prog 314 [.agg (xT p),.k (.c (.ro [.str s] 0))] (fun v=>v=.bool (decide (p.kind=s))):=by
 refine Spec.of_awlS hf314 okf314 (by simp) fun S hS=>?_
 unfold xT;simp only[Qs,Zc,Zl,Za,zsE];refine wR hS ?_;simp
theorem zum (s:Txt) (l:List Pln) (hl:l.length<=1000000):Spec Tryz.prog 315 [lst 3 (l.map xT),.k (.c (.fn 314 [.ro [.str s] 0]))] (fun v=>v=.int .i64 (fstN (fun p:Pln=>decide (p.kind=s)) l 0)):=by
 refine Spec.of_awlS hf315 okf315 (by simp) fun S hS=>?_
 simp only[zL,Qs,ZN,Zc,Za,Zg,zsF];refine zR (fun i:Nat=>[(0,lst 3 (l.map xT)),(1,.k (.c (.fn 314 [.ro [.str s] 0]))),(7,.int .i64 l.length),(8,.int .i64 i)]) (fun _=>[]) (fun i=>i<=l.length/\fstN (fun p:Pln=>decide (p.kind=s)) (l.drop i) i=fstN (fun p:Pln=>decide (p.kind=s)) l 0) (fun i=>l.length-i) 0 rfl rfl ⟨ZC _,by simp⟩ ?_;rintro i ⟨hi,hD⟩;by_cases hlt:i<l.length
 ·have c1:(i:Int)<l.length:=by omega
  have c4:IntKind.i64.wrap ((i:Int)+1)=(i:Int)+1:=wrap_in (by omega) (by omega);have gi:=zul s l[i];rw[qA hlt] at hD;simp only[c1,zL,bK hlt,Qs,ZN,Za,Zg];refine rC gi ?_ (ha:=by simp only[Zk,Zp,ZQ,Yd,zC,V.norm,C.norm,xT,C.normRow,zM,xR]<;>rfl);by_cases he:l[i].kind=s
  ·rw[if_pos (decide_eq_true he)] at hD
   rw[<-hD] at hS;simp only[decide_eq_true he,Qs,ZN,Za];exact hS
  ·rw[if_neg (by rw[decide_eq_false he];simp)] at hD
   simp only[decide_eq_false he,c4,Qs,ZN,Za];exact Next.intro (i+1) rfl rfl ⟨by omega,hD⟩ (by omega)
 ·have c1: ¬(i:Int)<l.length:=by omega
  rw[ZB (by omega)] at hD;rw[<-hD] at hS;simp only[c1,Qs,ZN,Za];exact hS
theorem zun (s:Txt) (l:List Pln) (hl:l.length<=1000000):Spec Tryz.prog 313 [lst 3 (l.map xT),.k (.c (.fn 314 [.ro [.str s] 0]))] (fun v=>v=.bool (kindP l s)):=by
 refine Spec.of_awlS hf313 okf313 (by simp) fun S hS=>?_
 have g1:=zum s l hl;have hp:=rE (p:=fun p:Pln=>decide (p.kind=s)) l 0;generalize fstN (fun p:Pln=>decide (p.kind=s)) l 0=x at g1 hp;simp only[Qs,Zc,Za,zsD];refine zI g1 ?_ (ha:=by simp only[Zk,Zp,zC,V.norm,C.norm,yP oL,C.normRow]<;>rfl);simp only[Qs];exact wR hS (by rw[decide_eq_true_eq];exact hp)
theorem zm5 (s:Txt) (l:List Pln) (hl:l.length<=1000000):Spec Tryz.prog 312 [lst 3 (l.map xT),.str s] (fun v=>v=.bool (kindP l s)):=by
 refine Spec.of_awlS hf312 okf312 (by simp) fun S hS=>?_
 have g1:=zun s l hl;generalize kindP l s=x at g1 hS;simp only[Qs,iZ,Zc,Za,zsC];refine zI g1 ?_ (ha:=by simp only[Zk,Zp,zC,V.norm,C.norm,yP oL,C.normRow]<;>rfl);simp only[Qs];exact hS
theorem zuo (s:Txt) (l:List Pln) (hl:l.length<=1000000):Spec Tryz.prog 309 [.agg [.str s],lst 3 (l.map xT)] (fun v=>v=.bool (kindP l s)):=by
 refine Spec.of_awlS hf309 okf309 (by simp) fun S hS=>?_
 have g1:=zm5 s l hl;generalize kindP l s=x at g1 hS;simp only[Qs,Zc,Za,zsH];refine zI g1 ?_ (ha:=by simp only[Zk,Zp,zC,V.norm,C.norm,yP oL,C.normRow]<;>rfl);simp only[Qs];exact hS
theorem zm6 (d f:Txt) (l:List Pln) (hl:tA l):Spec Tryz.prog 320 [lst 3 (l.map xT),.agg [.str d,.str f]] (fun v=>v=.tup [lst 1 (zF (fldsF d f l []).1),.bool (fldsF d f l []).2]):=by
 refine Spec.of_awlP hf320 okf320 (by simp) fun S hS=>?_
 have hlen:=hl.1;simp only[zL,Qs,bne_iff_ne,ne_eq,Zc,Zn,Za,Zg,zk3];refine zR (fun x:Nat×List Txt×Option Bool=>[(3,.k (.c (.ro [.str d,.str f] 0))),(6,.k (.own 6)),(10,lst 3 (l.map xT)),(11,.int .i64 l.length),(12,.int .i64 x.1)]) (fun x=>[(6,.arr 9 1 x.2.2 (zF x.2.1))]) (fun x=>x.1<=l.length/\x.2.1.length<=x.1/\fldsF d f (l.drop x.1) x.2.1=fldsF d f l []) (fun x=>l.length-x.1) (0,[],some true) rfl rfl ⟨ZC _,by decide,rfl⟩ ?_;rintro⟨i,L,nl⟩ ⟨hi,hL,hD⟩;simp only[] at hi hL hD;by_cases hlt:i<l.length
 ·have d1:(i:Int)<l.length:=by omega
  have c4:IntKind.i64.wrap ((i:Int)+1)=(i:Int)+1:=wrap_in (by omega) (by omega);have hat:=bK hlt;rw[ZE hlt,fldsF] at hD;have hp:=hl.2 _ (Zv hlt);generalize l[i]=p at hD hat hp;have g1:=c40 p.names f (big hp.ns);by_cases hk:p.kind=d
  ·rw[if_pos hk] at hD
   generalize fstN (fun x=>decide (f=x)) p.names 0=j at hD g1;by_cases hj:j<0\/j>=p.texts.length
   ·rw[if_pos hj] at hD
    rw[<-hD] at hS;by_cases hj0:j<0
    ·simp only[d1,hat,hk,zL,Qs,bne_iff_ne,ne_eq,BEq.rfl,Ze,Zc,Zn,Zl,Za,Zg]
     refine zI g1 ?_ (ha:=by simp only[Zk,Zp,zC,V.norm,C.norm,zM,xR]<;>rfl);simp only[hj0,zS,Qs,lD,bne_iff_ne,ne_eq,Ze,ZK,Zn,Za,Zt];exact hS _ rfl
    ·have hj1:j>=p.texts.length:=hj.resolve_left hj0
     simp only[d1,hat,hk,zL,Qs,bne_iff_ne,ne_eq,BEq.rfl,Ze,Zc,Zn,Zl,Za,Zg];refine zI g1 ?_ (ha:=by simp only[Zk,Zp,zC,V.norm,C.norm,zM,xR]<;>rfl);simp only[hj0,hj1,zS,Qs,bne_iff_ne,ne_eq,Ze,ZK,Zc,Zn,Za,Zt];exact hS _ rfl
   ·rw[if_neg hj] at hD
    obtain⟨m,rfl⟩: ∃m:Nat,j=m:=⟨j.toNat,by omega⟩;have hj0: ¬(m:Int)<0:=by omega
    have hj1: ¬(m:Int)>=p.texts.length:=by omega
    have hm:m<p.texts.length:=by omega
    have hgd:p.texts.getD (m:Int).toNat []=p.texts[m]:=by simp[List.getD,hm]
    rw[hgd] at hD;simp only[d1,hat,hk,zL,Qs,bne_iff_ne,ne_eq,BEq.rfl,Ze,Zc,Zn,Zl,Za,Zg];refine zI g1 ?_ (ha:=by simp only[Zk,Zp,zC,V.norm,C.norm,zM,xR]<;>rfl);simp only[hj0,hj1,zS,uI hm,c4,Qs,forall_eq,bne_iff_ne,ne_eq,ZJ,Zc,Zn,Zl,Z5,Za,Zt];refine⟨by omega,by omega,by omega,Next.intro (i+1,L++[p.texts[m]],some false) rfl (by simp[zF];rfl) ⟨by simp only;omega,by simp;omega,hD⟩ (by simp only;omega)⟩
  ·rw[if_neg hk] at hD
   simp only[d1,hat,hk,c4,zL,Qs,forall_const,bne_iff_ne,ne_eq,Ze,Zc,Zn,Zl,Za,oF,Zg];exact Next.intro (i+1,L,nl) rfl rfl ⟨by simp only;omega,by simp only;omega,hD⟩ (by simp only;omega)
 ·have d1: ¬(i:Int)<l.length:=by omega
  rw[ZB (by omega),fldsF] at hD;rw[<-hD] at hS;simp only[d1,Qs,Ze,ZK,Za,Zt];refine hS _ ?_;simp only[V.fz,V.fzL,V.nrm,V.nrmL,xR,uK (xR L)];rfl
theorem zup {g:Nat} {c:C} (hcn:c.norm=c) {p:Txt->Bool} (l:List Txt) (hg: ∀s∈l,Spec Tryz.prog g [.str s,.k (.c c)] (fun v=>v=.bool (p s))) (hl:l.length<=3000000):Spec Tryz.prog 120 [lst 1 (zF l),.k (.c (.fn g [c]))] (fun v=>v=.int .i64 (fstN p l 0)):=by
 refine Spec.of_awlS hf120 okf120 (by simp) fun S hS=>?_
 simp only[zS,Qs,ZN,Zc,Za,zb9];refine zR (fun i:Nat=>[(0,lst 1 (zF l)),(1,.k (.c (.fn g [c]))),(7,.int .i64 l.length),(8,.int .i64 i)]) (fun _=>[]) (fun i=>i<=l.length/\fstN p (l.drop i) i=fstN p l 0) (fun i=>l.length-i) 0 rfl rfl ⟨ZC _,by simp⟩ ?_;rintro i ⟨hi,hD⟩;by_cases hlt:i<l.length
 ·have c1:(i:Int)<l.length:=by omega
  have c4:IntKind.i64.wrap ((i:Int)+1)=(i:Int)+1:=wrap_in (by omega) (by omega);have gi:=hg l[i] (Zv hlt);rw[qA hlt] at hD;simp only[c1,zS,uI hlt,Qs,ZN,Za];refine rC gi ?_ (ha:=by simp only[Zk,Zp,ZQ,Yd,zC,V.norm,C.norm,hcn]<;>rfl);cases hp:p l[i] with
  |true=>
   rw[if_pos hp] at hD;rw[<-hD] at hS;simp only[Qs,ZN,Za];exact hS
  |false=>
   rw[if_neg (by rw[hp];simp)] at hD;simp only[c4,Qs,ZN,Za];exact Next.intro (i+1) rfl rfl ⟨by omega,hD⟩ (by omega)
 ·have c1: ¬(i:Int)<l.length:=by omega
  rw[ZB (by omega)] at hD;rw[<-hD] at hS;simp only[c1,Qs,ZN,Za];exact hS
theorem zm7 {g:Nat} {c:C} (hcn:c.norm=c) {p:Txt->Bool} (l:List Txt) (hg: ∀s∈l,Spec Tryz.prog g [.str s,.k (.c c)] (fun v=>v=.bool (p s))) (hl:l.length<=3000000):Spec Tryz.prog 121 [lst 1 (zF l),.k (.c (.fn g [c]))] (fun v=>v=.bool (l.any p)):=by
 refine Spec.of_awlS hf121 okf121 (by simp) fun S hS=>?_
 have g1:=zup hcn l hg hl;have hp:=rE (p:=p) l 0;generalize fstN p l 0=x at g1 hp;simp only[Qs,Zc,Za,zkO];refine zI g1 ?_ (ha:=by simp only[Zk,Zp,zC,V.norm,zM,C.norm,C.normRow,hcn,xR]<;>rfl);simp only[Qs];refine wR hS ?_;rw[decide_eq_true_eq];exact hp
theorem zuq (d f t s:Txt):Spec Tryz.prog 321 [.str s,.k (.c (.ro [.str d,.str f,.str t] 0))] (fun v=>v=.bool (!decide (s=t))):=by
 refine Spec.of_awlS hf321 okf321 (by simp) fun S hS=>?_
 simp only[Qs,Zc,Za,zsR];refine wR hS ?_;simp
theorem jK (d f:Txt): ∀(l:List Pln) (acc:List Txt),(fldsF d f l acc).1.length<=acc.length+l.length
 |[],acc=>by simp[fldsF]
 |p::l,acc=>by
  rw[fldsF];split
  ·split
   ·simp
   ·have:=jK d f l (acc++[p.texts.getD (fstN (fun x=>decide (f=x)) p.names 0).toNat []])
    simp only[Zq,Zo,ZF] at this⊢;omega
  ·have:=jK d f l acc
   simp only[Zo];omega
def readsP (d f t:Txt) (l:List Pln):Bool:=(fldsF d f l []).2&& !(fldsF d f l []).1.any fun s=> !decide (s=t)
theorem zur (d f t:Txt) (l:List Pln) (hl:tA l):Spec Tryz.prog 317 [.agg [.str d,.str f,.str t],lst 3 (l.map xT)] (fun v=>v=.bool (readsP d f t l)):=by
 refine Spec.of_awlS hf317 okf317 (by simp) fun S hS=>?_
 have g1:=zm6 d f l hl;have hn:=jK d f l [];have h1:=hl.1;unfold readsP at hS;generalize fldsF d f l []=r at g1 hn hS;obtain⟨L,b⟩:=r;simp only[] at g1 hn hS;have g2:=zm7 (c:=.ro [.str d,.str f,.str t] 0) rfl L (fun s _=>zuq d f t s) (by simp only[ZF] at hn;omega);simp only[Qs,Zc,Zl,Za,zsO];refine yQ g1 ?_ (ha:=by simp only[Zk,Zp,zC,V.norm,C.norm,yP oL,C.normRow]<;>rfl);cases b with
 |false=>
  simp only[Qs,zf3,Ze,Zc,Z9,Za];exact hS
 |true=>
  simp only[Qs,zf3,Ze,Zc,Z9,Za];refine zI g2 ?_ (ha:=by simp only[Zk,Zp,zC,V.norm,zM,C.norm,C.normRow,xR]<;>rfl);simp only[Qs,Za];exact hS
end Go.Abs
namespace Go.Ex
open Go.Lib Go.Wd Go.Wire Go.Abs
def digsV (s:Txt):Nat:=s.foldl (fun a c=>10*a+(c.toNat-48)) 0
theorem zm8 {s:Txt} {i:Nat} (h:i<s.length):digsV (s.take (i+1))=10*digsV (s.take i)+(s[i].toNat-48):=by
 unfold digsV;rw[List.take_add_one,Zf h,Option.toList_some,Xz];rfl
theorem zm9 {c:UInt8} (h:digB c=true):48<=c.toNat/\c.toNat<=57:=by simpa [digB] using h
theorem zna {s:Txt} (h:s.all digB=true): ∀i,i<=s.length->digsV (s.take i)<10 ^ i
 |0,_=>by simp[digsV]
 |i+1,hi=>by
  rw[zm8 (by omega),Nat.pow_succ];have h1:=zna h i (by omega);have h2:=zm9 (ZA.1 h _ (Zv (n:=i) (by omega)));omega
def numV (s:Txt):Int×Bool:=
 if s=[] then(0,false) else if spanN digB s≠s.length then(0,false) else if s.getD 0 0=48/\s≠[48] then(0,false) else if s.length>13 then(0,false)
 else if digsV s>1099511627776 then(0,false) else((digsV s:Nat),true)
theorem zus (s:Txt):0<=(numV s).1/\(numV s).1<=1099511627776:=by
 unfold numV
 repeat' split
 all_goals simp only[]
 all_goals omega
end Go.Ex
namespace Go.Abs
open Go.Proofs Go.RowKit Go.Lib Go.Wd Go.Wire Go.Ex
theorem zut (s:Txt) (hl:s.length<=1000000):Spec Tryz.prog 335 [.str s] (fun v=>v=.tup [.int .i64 (numV s).1,.bool (numV s).2]):=by
 refine Spec.of_awlP hf335 okf335 (by simp) fun S hS=>?_
 have g1:=zco zmU s (big hl);by_cases h0:s=[]
 ·subst h0
  simp only[Qs,BEq.rfl,Ze,Za,cP];exact hS _ rfl
 have hn:numV s=if spanN digB s≠s.length then((0:Int),false) else if s.getD 0 0=48/\s≠[48] then(0,false) else if s.length>13 then(0,false) else if digsV s>1099511627776 then(0,false) else(((digsV s:Nat):Int),true):=by
  rw[numV,if_neg h0]
 rw[hn] at hS;by_cases hsp:spanN digB s=s.length
 ·rw[if_neg (fun q=>q hsp)] at hS
  have hall:=zcm.1 hsp;rw[hsp] at g1;have hpos:=Ye.2 h0;have hi0:(0:Int)<s.length:=by omega
  generalize hc:s.getD 0 0=c at hS;have e48:c=48 ↔ ((c.toNat:Nat):Int)=48:=by
   rw[<-UInt8.toNat_inj];show c.toNat=48 ↔ _;omega
  by_cases hz:c=48/\s≠[48]
  ·rw[if_pos hz] at hS
   obtain⟨z1,z2⟩:=hz;have z3:=e48.1 z1;simp only[h0,Qs,forall_const,Ze,Za,cP];refine zI g1 ?_ (ha:=by rfl);simp only[h0,hi0,hc,z3,z2,XZ,Qs,forall_const,BEq.rfl,Ze,Za,not_true_eq_false,oF,YQ];exact hS _ rfl
  ·rw[if_neg hz] at hS
   have z:(((c.toNat:Nat):Int)=48)=False/\((0:Nat)=0)=True\/(((c.toNat:Nat):Int)=48)=True/\(s=[48])=True:=by
    by_cases z1:c=48
    ·exact .inr ⟨eq_true (e48.1 z1),eq_true (Classical.byContradiction fun q=>hz ⟨z1,q⟩)⟩
    ·exact .inl ⟨eq_false fun q=>z1 (e48.2 q),eq_true rfl⟩
   rcases z with⟨z3,z4⟩|⟨z3,z4⟩
   all_goals
    simp only[h0,Qs,forall_const,Ze,Za,cP];refine zI g1 ?_ (ha:=by rfl);by_cases h13:s.length>13
    ·rw[if_pos h13] at hS
     have d1:(s.length:Int)>13:=by omega
     simp only[h0,hi0,hc,z3,z4,d1,XZ,Qs,forall_const,Ze,Za,not_true_eq_false,oF,YQ];exact hS _ rfl
    ·rw[if_neg h13] at hS
     have d1: ¬(s.length:Int)>13:=by omega
     simp only[h0,hi0,hc,z3,z4,d1,XZ,Qs,forall_const,Ze,Za,not_true_eq_false,oF,YQ];refine zR (fun i:Nat=>[(0,.str s),(4,.int .i64 (digsV (s.take i):Nat)),(30,.int .i64 s.length),(31,.int .i64 i)]) (fun _=>[]) (fun i=>i<=s.length) (fun i=>s.length-i) 0 rfl rfl (ZC _) ?_;intro i hi;by_cases hlt:i<s.length
     ·have e1:(i:Int)<s.length:=by omega
      have c4:IntKind.i64.wrap ((i:Int)+1)=(i:Int)+1:=wrap_in (by omega) (by omega);have hd:=zm9 (ZA.1 hall _ (Zv hlt));have ht:=zm8 hlt;have hb:=zna hall (i+1) (by omega);have hb2:10 ^ (i+1)<=10 ^ 13:=Ys (by decide) (by omega);have hb3:(10:Nat) ^ 13=10000000000000:=by decide
      have hg:s.getD i 0=s[i]:=by rw[Zi,Zf hlt];rfl
      generalize s[i]=x at hd ht hg;generalize hT:digsV (s.take (i+1))=T at ht hb;generalize digsV (s.take i)=T0 at ht;have c5:IntKind.u8.wrap (((x.toNat:Nat):Int)-48)=((x.toNat:Nat):Int)-48:=by
       unfold IntKind.wrap;simp[IntKind.signed,IntKind.bits];omega
      have c6:IntKind.i64.wrap (((x.toNat:Nat):Int)-48)=((x.toNat:Nat):Int)-48:=wrap_in (by omega) (by omega);have c7:IntKind.i64.wrap (10*(T0:Int))=10*(T0:Int):=wrap_in (by omega) (by omega);have c8:IntKind.i64.wrap (10*(T0:Int)+(((x.toNat:Nat):Int)-48))=(T:Int):=by
       rw[wrap_in (by omega) (by omega)];omega
      simp only[e1,c4,hg,c5,c6,c7,c8,Ym,Qs,zgm,kU,zht,Za];exact Next.intro (i+1) (by rw[hT];rfl) rfl (by omega) (by omega)
     ·have e1: ¬(i:Int)<s.length:=by omega
      rw[Z7 (by omega)];by_cases hbig:digsV s>1099511627776
      ·rw[if_pos hbig] at hS
       have e2:((digsV s:Nat):Int)>1099511627776:=by omega
       simp only[e1,e2,Qs,Ze,Za];exact hS _ rfl
      ·rw[if_neg hbig] at hS
       have e2: ¬((digsV s:Nat):Int)>1099511627776:=by omega
       simp only[e1,e2,Qs,Ze,Za];exact hS _ rfl
 ·rw[if_pos hsp] at hS
  have hsi: ¬((spanN digB s:Nat):Int)=s.length:=by omega
  simp only[h0,Qs,forall_const,Ze,Za,cP];refine zI g1 ?_ (ha:=by rfl);simp only[h0,hsi,Qs,forall_const,Ze,Za,oF,YQ];exact hS _ rfl
end Go.Abs
namespace Go.Ex
open Go.Lib Go.Wd Go.Wire Go.Abs
def jL (lo hi:Int) (sum:Bool):List Txt->Int->Option Int
 |[],a=>some a
 |s::r,a=>if (numV s).2=true then(if sum=false/\((numV s).1<lo\/(numV s).1>hi) then none else jL lo hi sum r (a+(numV s).1)) else none
def limP (d f:Txt) (lo hi:Int) (sum:Bool) (l:List Pln):Bool:=
 match jL lo hi sum (fldsF d f l []).1 0 with
 |none=>false
 |some a=>(fldsF d f l []).2&&(!sum||(decide (a>=lo)&&decide (a<=hi)))
end Go.Ex
namespace Go.Abs
open Go.Proofs Go.RowKit Go.Lib Go.Wd Go.Wire Go.Ex
theorem zcy (d f:Txt): ∀(l:List Pln) (acc:List Txt),(∀p∈l,PlnS p)->(∀s∈acc,s.length<=1000000)-> ∀s∈(fldsF d f l acc).1,s.length<=1000000
 |[],acc,_,ha=>ha
 |p::l,acc,hp,ha=>by
  rw[fldsF];split
  ·split
   ·intro s hs;cases hs
   ·refine zcy d f l _ (fun q hq=>hp q (Zy _ hq)) fun s hs=>?_
    rcases Yo.1 hs with h|h
    ·exact ha s h
    ·rw[ZT.1 h,Zi]
     cases hg:p.texts[(fstN (fun x=>decide (f=x)) p.names 0).toNat]? with
     |none=>simp
     |some t=>exact(hp p (by simp)).tx t (ZP hg)
  ·exact zcy d f l acc (fun q hq=>hp q (Zy _ hq)) ha
theorem znb (d f:Txt) (lo hi:Int) (sum:Bool) (l:List Pln) (hl:tA l):Spec Tryz.prog 332 [.agg [.str d,.str f,.int .i64 lo,.int .i64 hi,.bool sum],lst 3 (l.map xT)] (fun v=>v=.bool (limP d f lo hi sum l)):=by
 refine Spec.of_awlS hf332 okf332 (by simp) fun S hS=>?_
 have g1:=zm6 d f l hl;have hn:=jK d f l [];have hm:=zcy d f l [] hl.2 (by simp);have h1:=hl.1;unfold limP at hS;generalize fldsF d f l []=r at g1 hn hm hS;obtain⟨L,b⟩:=r;simp only[ZF,ZY] at g1 hn hm hS;simp only[Qs,Zc,Zl,Za,zsW];refine yQ g1 ?_ (ha:=by simp only[Zk,Zp,zC,V.norm,C.norm,yP oL,C.normRow]<;>rfl);simp only[zS,Qs,Ze,Zc,Z9,Za];refine zR (fun x:Nat×Nat=>[(2,.k (.c (.ro [.str d,.str f,.int .i64 lo,.int .i64 hi,.bool sum] 0))),(6,.bool b),(7,.int .i64 (x.2:Nat)),(19,lst 1 (zF L)),(20,.int .i64 L.length),(21,.int .i64 x.1)]) (fun _=>[]) (fun x=>x.1<=L.length/\x.2<=x.1*1099511627776/\jL lo hi sum (L.drop x.1) (x.2:Nat)=jL lo hi sum L 0) (fun x=>L.length-x.1) (0,0) rfl rfl ⟨ZC _,by decide,rfl⟩ ?_;rintro⟨i,a⟩ ⟨hi',ha,hD⟩;simp only[] at hi' ha hD;by_cases hlt:i<L.length
 ·have d1:(i:Int)<L.length:=by omega
  have c4:IntKind.i64.wrap ((i:Int)+1)=(i:Int)+1:=wrap_in (by omega) (by omega);rw[ZE hlt,jL] at hD;have g2:=zut L[i] (hm _ (Zv hlt));have hr:=zus L[i];have hat:=uI hlt;generalize L[i]=s at hD g2 hr hat;generalize numV s=nv at hD g2 hr;obtain⟨n,is⟩:=nv;simp only[] at hD g2 hr;obtain⟨m,rfl⟩: ∃m:Nat,n=m:=⟨n.toNat,by omega⟩;have c5:IntKind.i64.wrap ((a:Int)+(m:Int))=((a+m:Nat):Int):=by
   rw[wrap_in (by omega) (by omega)];omega
  cases is with
  |false=>
   rw[if_neg (by decide)] at hD;rw[<-hD] at hS;simp only[d1,hat,zS,Qs,Za];refine zI g2 ?_ (ha:=by rfl);simp only[Qs,Za];exact hS
  |true=>
   rw[if_pos rfl] at hD;cases sum with
   |true=>
    rw[if_neg (by simp)] at hD;simp only[d1,hat,zS,Qs,Za];refine zI g2 ?_ (ha:=by rfl);simp only[c4,c5,Qs,Zc,Za];exact Next.intro (i+1,a+m) rfl rfl ⟨by simp only;omega,by simp only;omega,by simpa using hD⟩ (by simp only;omega)
   |false=>
    by_cases q1:(m:Int)<lo
    ·rw[if_pos ⟨rfl,.inl q1⟩] at hD
     rw[<-hD] at hS;simp only[d1,hat,zS,Qs,Za];refine zI g2 ?_ (ha:=by rfl);simp only[c4,c5,q1,Qs,Zc,Zl,Za];exact hS
    ·by_cases q2:(m:Int)>hi
     ·rw[if_pos ⟨rfl,.inr q2⟩] at hD
      rw[<-hD] at hS;simp only[d1,hat,zS,Qs,Za];refine zI g2 ?_ (ha:=by rfl);simp only[c4,c5,q1,q2,Qs,Zc,Zl,Za];exact hS
     ·rw[if_neg (fun q=>q.2.elim q1 q2)] at hD
      simp only[d1,hat,zS,Qs,Za];refine zI g2 ?_ (ha:=by rfl);simp only[c4,c5,q1,q2,Qs,Zc,Zl,Za];exact Next.intro (i+1,a+m) rfl rfl ⟨by simp only;omega,by simp only;omega,by simpa using hD⟩ (by simp only;omega)
 ·have d1: ¬(i:Int)<L.length:=by omega
  rw[ZB (by omega),jL] at hD;rw[<-hD] at hS;simp only[] at hS;cases b with
  |false=>
   simp only[d1,Qs,Za];exact hS
  |true=>
   cases sum with
   |false=>
    simp only[d1,Qs,Zc,Za];exact hS
   |true=>
    by_cases q1:(a:Int)>=lo
    ·by_cases q2:(a:Int)<=hi
     ·simp only[d1,q1,q2,Qs,Zc,Zl,Za]
      simpa [q1,q2] using hS
     ·simp only[d1,q1,q2,Qs,Zc,Zl,Za]
      simpa [q1,q2] using hS
    ·simp only[d1,q1,Qs,Zc,Zl,Za]
     simpa [q1] using hS
def zU (d:Dmd):List C:=[.int .i64 d.op,.str d.doc,.str d.fld,.str d.oth,.str d.sec,.str d.txt,.int .i64 d.lo,.int .i64 d.hi]
theorem bL (d f:Txt) (hd:d.length<=1000000) (hf:f.length<=1000000):Spec Tryz.prog 306 [.agg [.str d,.str f]] (fun v=>v=.bool (nameP d&&nameP f)):=by
 refine Spec.of_awlS hf306 okf306 (by simp) fun S hS=>?_
 have g1:=c92 d (big hd);have g2:=c92 f (big hf);generalize nameP d=x at g1 hS;generalize nameP f=y at g2 hS;simp only[Qs,Zc,Zl,Za,zsL];refine zI g1 ?_ (ha:=by rfl);cases x with
 |false=>
  simp only[Qs,Za];exact hS
 |true=>
  simp only[Qs,Zc,Za];refine zI g2 ?_ (ha:=by rfl);simp only[Qs,Za];exact hS
def vP:Txt:=[32,46,32]
theorem bM (d f:Txt) (hd:d.length<=1000000) (hf:f.length<=1000000):Spec Tryz.prog 307 [.agg [.str d,.str f]] (fun v=>v=.str (d++vP++f)):=by
 refine Spec.of_awlS hf307 okf307 (by simp) fun S hS=>?_
 simp only[Qs,Zc,Zl,Za,zsM];exact⟨by omega,by simp only[Zq,Zo,ZF];omega,hS⟩
theorem zuu (d:Txt) (hd:d.length<=1000000):Spec Tryz.prog 310 [.agg [.str d]] (fun v=>v=.bool (nameP d)):=by
 refine Spec.of_awlS hf310 okf310 (by simp) fun S hS=>?_
 have g1:=c92 d (big hd);generalize nameP d=x at g1 hS;simp only[Qs,Za,zsI];refine zI g1 ?_ (ha:=by rfl);simp only[Qs];exact hS
theorem zuv (d:Txt):Spec Tryz.prog 308 [.agg [.str d]] (fun v=>v=.agg (zU ⟨0,d,[],[],[],[],0,0⟩)):=by
 refine Spec.of_awlS hf308 okf308 (by simp) fun S hS=>?_
 simp only[Qs,zi7,bne_iff_ne,ne_eq,Ze,Zc,Zn,Zl,Z5,Za,zsK];exact hS
theorem zuw (d f t:Txt):Spec Tryz.prog 316 [.agg [.str d,.str f,.str t]] (fun v=>v=.agg (zU ⟨1,d,f,[],[],t,0,0⟩)):=by
 refine Spec.of_awlS hf316 okf316 (by simp) fun S hS=>?_
 simp only[Qs,zi7,bne_iff_ne,ne_eq,Ze,Zc,Zn,Zl,Z5,Za,zsN];exact hS
theorem zux (d f e g:Txt):Spec Tryz.prog 326 [.agg [.str d,.str f,.str e,.str g]] (fun v=>v=.agg (zU ⟨3,d,f,e,g,[],0,0⟩)):=by
 refine Spec.of_awlS hf326 okf326 (by simp) fun S hS=>?_
 simp only[Qs,zi7,bne_iff_ne,ne_eq,Ze,Zc,Zn,Zl,Z5,Za,zsS];exact hS
theorem znc (d f:Txt) (lo hi:Int) (sum:Bool):Spec Tryz.prog 331 [.agg [.str d,.str f,.int .i64 lo,.int .i64 hi,.bool sum]] (fun v=>v=.agg (zU ⟨if sum=true then 4 else 2,d,f,[],[],[],lo,hi⟩)):=by
 refine Spec.of_awlS hf331 okf331 (by simp) fun S hS=>?_
 cases sum with
 |true=>
  simp only[Qs,zi7,bne_iff_ne,ne_eq,Ze,Zc,Zn,Zl,Z5,Za,zlk];exact hS
 |false=>
  simp only[Qs,zi7,bne_iff_ne,ne_eq,Ze,Zc,Zn,Zl,Z5,Za,zlk];exact hS
theorem zuy (d f e g:Txt) (hd:d.length<=1000000) (hf:f.length<=1000000) (he:e.length<=1000000) (hg:g.length<=1000000):Spec Tryz.prog 328 [.agg [.str d,.str f,.str e,.str g]] (fun v=>v=.bool ((nameP d&&nameP f)&&(nameP e&&nameP g))):=by
 refine Spec.of_awlS hf328 okf328 (by simp) fun S hS=>?_
 have g1:=bL d f hd hf;have g2:=bL e g he hg;generalize (nameP d&&nameP f)=x at g1 hS;generalize (nameP e&&nameP g)=y at g2 hS;simp only[Qs,Zc,Zl,Za,zsT];refine zI g1 ?_ (ha:=by rfl);cases x with
 |false=>
  simp only[Qs,Za];exact hS
 |true=>
  simp only[Qs,Zc,Za];refine zI g2 ?_ (ha:=by rfl);simp only[Qs,Za];exact hS
theorem znd (d f:Txt) (lo hi:Int) (sum:Bool) (hd:d.length<=1000000) (hf:f.length<=1000000):Spec Tryz.prog 333 [.agg [.str d,.str f,.int .i64 lo,.int .i64 hi,.bool sum]] (fun v=>v=.bool ((nameP d&&nameP f)&&(decide (lo>=0)&&(decide (lo<=hi)&&decide (hi<=1099511627776))))):=by
 refine Spec.of_awlS hf333 okf333 (by simp) fun S hS=>?_
 have g1:=bL d f hd hf;generalize (nameP d&&nameP f)=x at g1 hS;simp only[Qs,Zc,Zl,Za,zsX];refine zI g1 ?_ (ha:=by rfl);cases x with
 |false=>
  simp only[Qs,Za];exact hS
 |true=>
  by_cases q1:lo>=0
  ·by_cases q2:lo<=hi
   ·by_cases q3:hi<=1099511627776
    ·simp only[q1,q2,q3,Qs,Zc,Zl,Za]
     simpa [q1,q2,q3] using hS
    ·simp only[q1,q2,q3,Qs,Zc,Zl,Za]
     simpa [q1,q2,q3] using hS
   ·simp only[q1,q2,Qs,Zc,Zl,Za]
    simpa [q1,q2] using hS
  ·simp only[q1,Qs,Zc,Zl,Za]
   simpa [q1] using hS
theorem zuz (c:UInt8):Spec Tryz.prog 323 [.int .u8 (c.toNat:Int)] (fun v=>v=.bool (jF c)):=by
 refine Spec.of_awlS hf323 okf323 (by simp) fun S hS=>?_
 unfold jF at hS;have h1:=u8r c;by_cases q1:((c.toNat:Nat):Int)>=32
 ·by_cases q2:((c.toNat:Nat):Int)<=126
  ·simp only[q1,q2,Qs,Za,zcb]
   refine wR hS ?_;rw[decide_eq_true_eq];simp only[true_iff];omega
  ·simp only[q1,q2,Qs,Za,zcb]
   refine wR hS ?_;rw[decide_eq_true_eq];simp only[Z1,false_iff];omega
 ·simp only[q1,Qs,Za,zcb]
  refine wR hS ?_;rw[decide_eq_true_eq];simp only[Z1,false_iff];omega
theorem zuA (d f:Txt) (l:List Pln) (hl:tA l):Spec Tryz.prog 320 [lst 3 (l.map xT),.agg [.str d,.str f]] (fun v=>v=.tup [.k (.newl 9 1 none (zF (fldsF d f l []).1)),.bool (fldsF d f l []).2]):=by
 refine Spec.of_awlS hf320 okf320 (by simp) fun S hS=>?_
 have hlen:=hl.1;simp only[zL,Qs,bne_iff_ne,ne_eq,Zc,Zn,Za,Zg,zk3];refine zR (fun x:Nat×List Txt×Option Bool=>[(3,.k (.c (.ro [.str d,.str f] 0))),(6,.k (.own 6)),(10,lst 3 (l.map xT)),(11,.int .i64 l.length),(12,.int .i64 x.1)]) (fun x=>[(6,.arr 9 1 x.2.2 (zF x.2.1))]) (fun x=>x.1<=l.length/\x.2.1.length<=x.1/\fldsF d f (l.drop x.1) x.2.1=fldsF d f l []) (fun x=>l.length-x.1) (0,[],some true) rfl rfl ⟨ZC _,by decide,rfl⟩ ?_;rintro⟨i,L,nl⟩ ⟨hi,hL,hD⟩;simp only[] at hi hL hD;by_cases hlt:i<l.length
 ·have d1:(i:Int)<l.length:=by omega
  have c4:IntKind.i64.wrap ((i:Int)+1)=(i:Int)+1:=wrap_in (by omega) (by omega);have hat:=bK hlt;rw[ZE hlt,fldsF] at hD;have hp:=hl.2 _ (Zv hlt);generalize l[i]=p at hD hat hp;have g1:=c40 p.names f (big hp.ns);by_cases hk:p.kind=d
  ·rw[if_pos hk] at hD
   generalize fstN (fun x=>decide (f=x)) p.names 0=j at hD g1;by_cases hj:j<0\/j>=p.texts.length
   ·rw[if_pos hj] at hD
    rw[<-hD] at hS;by_cases hj0:j<0
    ·simp only[d1,hat,hk,zL,Qs,bne_iff_ne,ne_eq,BEq.rfl,Ze,Zc,Zn,Zl,Za,Zg]
     refine zI g1 ?_ (ha:=by simp only[Zk,Zp,zC,V.norm,C.norm,zM,xR]<;>rfl);simp only[hj0,zS,Qs,lD,bne_iff_ne,ne_eq,Ze,ZK,Zn,Za,Zt];exact hS
    ·have hj1:j>=p.texts.length:=hj.resolve_left hj0
     simp only[d1,hat,hk,zL,Qs,bne_iff_ne,ne_eq,BEq.rfl,Ze,Zc,Zn,Zl,Za,Zg];refine zI g1 ?_ (ha:=by simp only[Zk,Zp,zC,V.norm,C.norm,zM,xR]<;>rfl);simp only[hj0,hj1,zS,Qs,bne_iff_ne,ne_eq,Ze,ZK,Zc,Zn,Za,Zt];exact hS
   ·rw[if_neg hj] at hD
    obtain⟨m,rfl⟩: ∃m:Nat,j=m:=⟨j.toNat,by omega⟩;have hj0: ¬(m:Int)<0:=by omega
    have hj1: ¬(m:Int)>=p.texts.length:=by omega
    have hm:m<p.texts.length:=by omega
    have hgd:p.texts.getD (m:Int).toNat []=p.texts[m]:=by simp[List.getD,hm]
    rw[hgd] at hD;simp only[d1,hat,hk,zL,Qs,bne_iff_ne,ne_eq,BEq.rfl,Ze,Zc,Zn,Zl,Za,Zg];refine zI g1 ?_ (ha:=by simp only[Zk,Zp,zC,V.norm,C.norm,zM,xR]<;>rfl);simp only[hj0,hj1,zS,uI hm,c4,Qs,forall_eq,bne_iff_ne,ne_eq,ZJ,Zc,Zn,Zl,Z5,Za,Zt];refine⟨by omega,by omega,by omega,Next.intro (i+1,L++[p.texts[m]],some false) rfl (by simp[zF];rfl) ⟨by simp only;omega,by simp;omega,hD⟩ (by simp only;omega)⟩
  ·rw[if_neg hk] at hD
   simp only[d1,hat,hk,c4,zL,Qs,forall_const,bne_iff_ne,ne_eq,Ze,Zc,Zn,Zl,Za,oF,Zg];exact Next.intro (i+1,L,nl) rfl rfl ⟨by simp only;omega,by simp only;omega,hD⟩ (by simp only;omega)
 ·have d1: ¬(i:Int)<l.length:=by omega
  rw[ZB (by omega),fldsF] at hD;rw[<-hD] at hS;simp only[d1,Qs,Ze,ZK,Za,Zt];simpa only[xR] using hS
end Go.Abs
namespace Go.Proofs
open Go.Shelf Go.RowKit
def Tryz.laysString_ren:Go.Shelf.Ren:=
 {
  f:=fun x=>
   match x with
   |169=>220
   |n=>n,
  t:=fun x=>
   match x with
   |70=>227
   |9=>9
   |0=>0
   |72=>230
   |37=>228
   |127=>275
   |3=>3
   |5=>5
   |n=>n,
  g:=fun n=>n}
theorem Tryz.laysString:Lays.n169 Tryz.prog Tryz.laysString_ren:=
 {mixed:=by kernel_rfl,f169:=ZI Tryz.func220 (congrArg some (ZG (Body.n169 Tryz.laysString_ren))),
  t0:=Tryz.underlying0,a0:=Tryz.isAgg0,z0:=Tryz.sizeOf0,v0:=Tryz.zeroValue0,t3:=Tryz.underlying3,
  a3:=Tryz.isAgg3,z3:=Tryz.sizeOf3,v3:=Tryz.zeroValue3,t9:=Tryz.underlying9,a9:=Tryz.isAgg9,
  z9:=Tryz.sizeOf9,v9:=Tryz.zeroValue9,t37:=Tryz.underlying228,a37:=Tryz.isAgg228,z37:=Tryz.sizeOf228,
  v37:=Tryz.zeroValue228,t70:=Tryz.underlying227,a70:=Tryz.isAgg227,z70:=Tryz.sizeOf227,
  v70:=Tryz.zeroValue227,t72:=Tryz.underlying230,a72:=Tryz.isAgg230,z72:=Tryz.sizeOf230,
  v72:=Tryz.zeroValue230,t127:=Tryz.underlying275,a127:=Tryz.isAgg275,z127:=Tryz.sizeOf275,
  v127:=Tryz.zeroValue275}
def Tryz.laysGrow_ren:Go.Shelf.Ren:=
 {
  f:=fun x=>
   match x with
   |241=>258
   |277=>274
   |n=>n,
  t:=fun x=>
   match x with
   |70=>227
   |3=>3
   |0=>0
   |72=>230
   |37=>228
   |5=>5
   |n=>n,
  g:=fun n=>n}
theorem Tryz.laysGrow:Lays.n241 Tryz.prog Tryz.laysGrow_ren:=
 {mixed:=by kernel_rfl,f241:=ZI Tryz.func258 (congrArg some (ZG (Body.n241 Tryz.laysGrow_ren))),
  f277:=ZI Tryz.func274 (congrArg some (ZG (Body.n277 Tryz.laysGrow_ren))),t0:=Tryz.underlying0,
  a0:=Tryz.isAgg0,z0:=Tryz.sizeOf0,v0:=Tryz.zeroValue0,t3:=Tryz.underlying3,a3:=Tryz.isAgg3,
  z3:=Tryz.sizeOf3,v3:=Tryz.zeroValue3,t37:=Tryz.underlying228,a37:=Tryz.isAgg228,z37:=Tryz.sizeOf228,
  v37:=Tryz.zeroValue228,t70:=Tryz.underlying227,a70:=Tryz.isAgg227,z70:=Tryz.sizeOf227,
  v70:=Tryz.zeroValue227,t72:=Tryz.underlying230,a72:=Tryz.isAgg230,z72:=Tryz.sizeOf230,
  v72:=Tryz.zeroValue230}
def Tryz.laysSplit_ren:Go.Shelf.Ren:=
 {
  f:=fun x=>
   match x with
   |146=>158
   |221=>221
   |268=>259
   |138=>260
   |143=>261
   |195=>275
   |197=>276
   |218=>277
   |219=>278
   |260=>283
   |217=>284
   |225=>285
   |224=>286
   |267=>287
   |266=>288
   |314=>289
   |n=>n,
  t:=fun x=>
   match x with
   |9=>9
   |31=>35
   |3=>3
   |4=>4
   |0=>0
   |105=>294
   |21=>21
   |5=>5
   |46=>115
   |119=>301
   |139=>304
   |138=>303
   |146=>305
   |51=>195
   |n=>n,
  g:=fun x=>
   match x with
   |1=>3
   |3=>4
   |4=>5
   |n=>n}
theorem Tryz.laysSplit:Lays.n146 Tryz.prog Tryz.laysSplit_ren:=
 {mixed:=by kernel_rfl,f138:=ZI Tryz.func260 (congrArg some (ZG (Body.n138 Tryz.laysSplit_ren))),
  f143:=ZI Tryz.func261 (congrArg some (ZG (Body.n143 Tryz.laysSplit_ren))),
  f146:=ZI Tryz.func158 (congrArg some (ZG (Body.n146 Tryz.laysSplit_ren))),
  f195:=ZI Tryz.func275 (congrArg some (ZG (Body.n195 Tryz.laysSplit_ren))),
  f197:=ZI Tryz.func276 (congrArg some (ZG (Body.n197 Tryz.laysSplit_ren))),
  f217:=ZI Tryz.func284 (congrArg some (ZG (Body.n217 Tryz.laysSplit_ren))),
  f218:=ZI Tryz.func277 (congrArg some (ZG (Body.n218 Tryz.laysSplit_ren))),
  f219:=ZI Tryz.func278 (congrArg some (ZG (Body.n219 Tryz.laysSplit_ren))),
  f221:=ZI Tryz.func221 (congrArg some (ZG (Body.n221 Tryz.laysSplit_ren))),
  f224:=ZI Tryz.func286 (congrArg some (ZG (Body.n224 Tryz.laysSplit_ren))),
  f225:=ZI Tryz.func285 (congrArg some (ZG (Body.n225 Tryz.laysSplit_ren))),
  f260:=ZI Tryz.func283 (congrArg some (ZG (Body.n260 Tryz.laysSplit_ren))),
  f266:=ZI Tryz.func288 (congrArg some (ZG (Body.n266 Tryz.laysSplit_ren))),
  f267:=ZI Tryz.func287 (congrArg some (ZG (Body.n267 Tryz.laysSplit_ren))),
  f268:=ZI Tryz.func259 (congrArg some (ZG (Body.n268 Tryz.laysSplit_ren))),
  f314:=ZI Tryz.func289 (congrArg some (ZG (Body.n314 Tryz.laysSplit_ren))),t0:=Tryz.underlying0,
  a0:=Tryz.isAgg0,z0:=Tryz.sizeOf0,v0:=Tryz.zeroValue0,t3:=Tryz.underlying3,a3:=Tryz.isAgg3,
  z3:=Tryz.sizeOf3,v3:=Tryz.zeroValue3,t4:=Tryz.underlying4,a4:=Tryz.isAgg4,z4:=Tryz.sizeOf4,
  v4:=Tryz.zeroValue4,t5:=Tryz.underlying5,a5:=Tryz.isAgg5,z5:=Tryz.sizeOf5,v5:=Tryz.zeroValue5,
  t9:=Tryz.underlying9,a9:=Tryz.isAgg9,z9:=Tryz.sizeOf9,v9:=Tryz.zeroValue9,t21:=Tryz.underlying21,
  a21:=Tryz.isAgg21,z21:=Tryz.sizeOf21,v21:=Tryz.zeroValue21,t31:=Tryz.underlying35,a31:=Tryz.isAgg35,
  z31:=Tryz.sizeOf35,v31:=Tryz.zeroValue35,t46:=Tryz.underlying115,a46:=Tryz.isAgg115,z46:=Tryz.sizeOf115,
  v46:=Tryz.zeroValue115,t51:=Tryz.underlying195,a51:=Tryz.isAgg195,z51:=Tryz.sizeOf195,
  v51:=Tryz.zeroValue195,t105:=Tryz.underlying294,a105:=Tryz.isAgg294,z105:=Tryz.sizeOf294,
  v105:=Tryz.zeroValue294,t119:=Tryz.underlying301,a119:=Tryz.isAgg301,z119:=Tryz.sizeOf301,
  t138:=Tryz.underlying303,a138:=Tryz.isAgg303,z138:=Tryz.sizeOf303,v138:=Tryz.zeroValue303,
  t139:=Tryz.underlying304,a139:=Tryz.isAgg304,z139:=Tryz.sizeOf304,v139:=Tryz.zeroValue304,
  t146:=Tryz.underlying305,a146:=Tryz.isAgg305,z146:=Tryz.sizeOf305,v146:=Tryz.zeroValue305,
  g1:=by kernel_rfl,g3:=by kernel_rfl,
  g4:=by kernel_rfl}
end Go.Proofs
namespace Go.Proofs
open Go.Shelf Go.RowKit Go.Lib
theorem Tryz.bx169:Builder.Extra Tryz.prog Tryz.laysString_ren where
 sizeBuilder:=by kernel_rfl
 liesBuilder:=by kernel_rfl
 t5:=Tryz.underlying5
 a5:=Tryz.isAgg5
 z5:=Tryz.sizeOf5
 v5:=Tryz.zeroValue5
 infoByte:=by kernel_rfl
 cellsByte:=by kernel_rfl
 sizeByte:=by kernel_rfl
 neB5:=by decide
theorem zuB (b:Nat) (w:World) (h0:w.cell? ⟨b,0,none⟩=some (.pointer (some ⟨b,0,none⟩))):
  Calls Tryz.prog 257 #[.pointer (some ⟨b,0,none⟩)] w fun e w'=>e=.returned (.tuple #[])/\w'=w:=by
 obtain⟨j,hj,_⟩:=Zd.1 Tryz.bx169.sizeBuilder
 go_enter Tryz.func257,Tryz.ntmps257
 go_wp2
 rw[Lib.run_neq_ptr_same w _ Tryz.underlying227 hj]
 go_wp2
 go_end0
 exact⟨rfl,rfl⟩
theorem zne (b:Nat) (w:World) (h0:w.cell? ⟨b,0,none⟩=some (.pointer none)) (hsh:w.shape? b=some (230,2)) (hfz:w.frozen? ⟨b,0,none⟩=false):
  Calls Tryz.prog 257 #[.pointer (some ⟨b,0,none⟩)] w fun e w'=>e=.returned (.tuple #[])/\w'=w.setCell ⟨b,0,none⟩ (.pointer (some ⟨b,0,none⟩)):=by
 obtain⟨j,hj,hjs⟩:=Zd.1 Tryz.bx169.sizeBuilder
 go_enter Tryz.func257,Tryz.ntmps257
 go_wp2
 rw[Lib.run_to_unsafe w ⟨b,0,none⟩ Tryz.underlying227 Tryz.underlying290 hj (by rw[hjs];decide) hsh (Nat.zero_lt_succ 1)];simp only[Result.andThen];rw[Oper.upon_value]
 go_wp2
 rw[run_callFunc_extern Tryz.func273 (by kernel_rfl) (by kernel_rfl) (by kernel_rfl) (e:=Extern.AbiNoEscape.same) (by kernel_rfl)];rw[Lib.run_noEscape];simp only[Result.andThen];rw[Oper.upon_value]
 go_wp2
 rw[Lib.run_from_unsafe w ⟨b,0,none⟩ Tryz.underlying290 Tryz.underlying227 hj hsh Tryz.bx169.liesBuilder];simp only[Result.andThen];rw[Oper.upon_value]
 go_wp2
 go_end0
 exact⟨rfl,rfl⟩
theorem znf (B b:Nat) (bs:List Value) (w:World) (h:Lib.IsBuilderF 230 5 B b bs w):
  Calls Tryz.prog 257 #[.pointer (some ⟨b,0,none⟩)] w fun e w'=>e=.returned (.tuple #[])/\Lib.BuilderAtF 230 5 B b (.pointer (some ⟨b,0,none⟩)) bs w'/\Below B w w':=by
 rcases h with h|h
 ·refine(zne b w h.cell0 h.shape h.frozen0).mono ?_
  rintro e w' ⟨rfl,rfl⟩;exact⟨rfl,h.used _,(Below.refl B w).setCell (p:=⟨b,0,none⟩) h.1 _⟩
 ·refine(zuB b w h.cell0).mono ?_
  rintro e w' ⟨rfl,rfl⟩;exact⟨rfl,h,Below.refl B _⟩
theorem zuC (B b:Nat) (bs:List Value) (s:ByteArray) (w:World) (h:Lib.IsBuilderF 230 5 B b bs w) (hlen:bs.length+s.size<=140737488355328) (hBw:B<=w.heap.size):
  Calls Tryz.prog 219 #[.pointer (some ⟨b,0,none⟩),.string s] w fun e w'=>e=.returned (.tuple #[.int .i64 s.size,.nilIface])/\Lib.IsBuilderF 230 5 B b (bs++Lib.strCells s) w'/\Below B w w':=by
 obtain⟨i0,hi,hz0,hz1,hz2⟩:=info_parts Tryz.bx169.infoByte
 go_enter Tryz.func219,Tryz.ntmps219
 go_wp2_with (go_at_call 257;refine(znf B b bs _ h).mono ?_)
 rintro e w1 ⟨rfl,h1,hb1⟩;obtain⟨hB,v,hbk,hown,hne⟩:=h1;have c0:w1.cell? ⟨b,0,none⟩=some (.pointer (some ⟨b,0,none⟩)):=by rw[Lib.cell_of_heap hbk];rfl
 have c1:w1.cell? ⟨b,1,none⟩=some v:=by rw[Lib.cell_of_heap hbk];rfl
 go_wp2_with (at_builtin;refine Lib.wpList_append_own_stringF _ rfl _ _ 228 9 rfl B 5 i0 Tryz.underlying228 Tryz.underlying9 hi hz0 hz1 hz2 _ _ _ rfl hown s rfl ?c3 ?c4 ?c5 ?_)
 case c3=>unfold maxLen;omega
 case c4=>omega
 case c5=>have:=hb1.size;omega
 intro v' w2 hown' hgrow _;have hlt:b<w1.heap.size:=by
  rcases Y7 b w1.heap.size with h'|h'
  ·exact h'
  ·simp[Array.getElem?_eq_none h'] at hbk
 have hb2:w2.heap[b]?=some (.cells #[.pointer (some ⟨b,0,none⟩),v] 230 (0,0)):=by
  rw[hgrow.block b hlt (fun e=>hne e.symm)];exact hbk
 have d0:w2.cell? ⟨b,0,none⟩=some (.pointer (some ⟨b,0,none⟩)):=by rw[Lib.cell_of_heap hb2];rfl
 have d1:w2.cell? ⟨b,1,none⟩=some v:=by rw[Lib.cell_of_heap hb2];rfl
 have f1:w2.frozen? ⟨b,1,none⟩=false:=Lib.frozen_of_heap hb2 1;obtain⟨ao,n',cap,rfl⟩: ∃ao n' cap,v'=.slice ao n' cap:=by
  rcases hown'.2 with⟨hv,_⟩|⟨g,cap,cur,fz,hv,_⟩
  ·exact⟨_,_,_,hv⟩
  ·exact⟨_,_,_,hv⟩
 go_wp2
 go_ret2
 refine⟨rfl,.inr ?_,?_⟩
 ·exact Lib.BuilderAtF.put (T:=230) (e:=5) hB hb2 (bs':=bs++Lib.strCells s) (by simpa [Lib.strCells_length] using hown') (by decide)
 ·exact(hb1.grown hgrow (by have:=hb1.size;omega) (fun k hk=>(hown.lt k hk).1)).setCell (p:=⟨b,1,none⟩) hB _
theorem Tryz.bxg:Builder.Extra Tryz.prog Tryz.laysGrow_ren where
 sizeBuilder:=by kernel_rfl
 liesBuilder:=by kernel_rfl
 t5:=Tryz.underlying5
 a5:=Tryz.isAgg5
 z5:=Tryz.sizeOf5
 v5:=Tryz.zeroValue5
 infoByte:=by kernel_rfl
 cellsByte:=by kernel_rfl
 sizeByte:=by kernel_rfl
 neB5:=by decide
theorem zng (B b:Nat) (l:List UInt8) (w:World) (h:Lib.IsBuilderF 230 5 B b (Lib.byteCells l) w) (hBw:B<=w.heap.size):
  Calls Tryz.prog 220 #[.pointer (some ⟨b,0,none⟩)] w fun e w'=>e=.returned (.string ⟨l.toArray⟩)/\Lib.IsBuilderF 230 5 B b (Lib.byteCells l) w'/\Below B w w':=
 (Any.Builder_String_any_k Tryz.laysString Tryz.bx169 B b l w h hBw).mono fun _ _ h=>⟨h.1,h.2.1,h.2.2.1⟩
theorem zuD (B b n:Nat) (w:World) (hB:B<=b) (hbk:w.heap[b]?=some (.cells #[.pointer (some ⟨b,0,none⟩),.slice none 0 0] 230 (0,0))) (hBw:B<=w.heap.size) (hn:n<=281474976710656):
  Calls Tryz.prog 258 #[.pointer (some ⟨b,0,none⟩),.int .i64 n] w fun e w'=>e=.returned (.tuple #[])/\(Lib.BuilderAt 230 5 B b (.pointer (some ⟨b,0,none⟩)) [] w'/\Below B w w'):=Any.Builder_grow_fresh Tryz.laysGrow Tryz.bxg B b n w hB hbk hBw hn
theorem zuE (B b n:Nat) (w:World) (hB:B<=b) (hbk:w.heap[b]?=some (.cells #[.pointer none,.slice none 0 0] 230 (0,0))) (hBw:B<=w.heap.size) (hn:n<=281474976710656):
  Calls Tryz.prog 218 #[.pointer (some ⟨b,0,none⟩),.int .i64 n] w fun e w'=>e=.returned (.tuple #[])/\(Lib.IsBuilderF 230 5 B b [] w'/\Below B w w'):=by
 have hbk1:(w.setCell ⟨b,0,none⟩ (.pointer (some ⟨b,0,none⟩))).heap[b]?=some (.cells #[.pointer (some ⟨b,0,none⟩),.slice none 0 0] 230 (0,0)):=by
  simp[World.setCell,Y1,hbk]
 have c1:(w.setCell ⟨b,0,none⟩ (.pointer (some ⟨b,0,none⟩))).cell? ⟨b,1,none⟩=some (.slice none 0 0):=by rw[Lib.cell_of_heap hbk1];rfl
 have hb1:Below B w (w.setCell ⟨b,0,none⟩ (.pointer (some ⟨b,0,none⟩))):=(Below.refl B w).setCell (p:=⟨b,0,none⟩) hB _
 go_enter Tryz.func218,Tryz.ntmps218
 have hU:Lib.BuilderAt 230 5 B b (.pointer (some ⟨b,0,none⟩)) [] (w.setCell ⟨b,0,none⟩ (.pointer (some ⟨b,0,none⟩))):=⟨hB,.slice none 0 0,hbk1,World.ownsRow_nil _ _ _ _,by simp[Value.ownBlock]⟩;have c1':(w.setCell ⟨b,0,none⟩ (.pointer (some ⟨b,0,none⟩))).drew.cell? ⟨b,1,none⟩=some (.slice none 0 0):=c1
 go_wp2_with (go_at_call 257;refine(zne b w (by rw[Lib.cell_of_heap hbk];rfl) (by simp[World.shape?,hbk]) (Lib.frozen_of_heap hbk 0)).mono ?_;rintro e w' ⟨rfl,rfl⟩)
 go_region
 all_goals go_wp2_with (go_at_call 258;refine(zuD B b n (w.setCell ⟨b,0,none⟩ (.pointer (some ⟨b,0,none⟩))).drew hB hbk1 (by simpa [World.setCell,World.drew,-World.drew_eq] using hBw) hn).mono ?_;rintro e w' ⟨rfl,h1,h2⟩)
 all_goals first
  |(go_end0;exact⟨rfl,.of (.inr h1),hb1.drew.trans h2⟩)
  |(go_end0;exact⟨rfl,.of (.inr hU.drew),hb1.drew⟩)
abbrev tD:=List UInt8
def joinS (sep:tD):List tD->tD
 |[]=>[]
 |[w]=>w
 |w::v::r=>w++(sep++joinS sep (v::r))
theorem znh (sep:tD): ∀(l:List tD) (x:tD),l≠[]->joinS sep (l++[x])=joinS sep l++(sep++x)
 |[],_,h=>absurd rfl h
 |[w],x,_=>rfl
 |w::v::r,x,_=>by
  have ih:=znh sep (v::r) x (by simp);rw[ZQ] at ih;rw[ZQ,ZQ,joinS,ih,joinS];simp
def wJ:List tD->Nat
 |[]=>0
 |w::r=>w.length+wJ r
theorem zni (a b:List tD):wJ (a++b)=wJ a+wJ b:=by
 induction a with
 |nil=>simp[wJ]
 |cons w r ih=>simp only[ZQ,wJ,ih];omega
theorem bN (sep:tD): ∀l:List tD,(joinS sep l).length<=wJ l+sep.length*l.length
 |[]=>by simp[joinS]
 |[w]=>by simp[joinS,wJ]
 |w::v::r=>by
  have ih:=bN sep (v::r);simp only[joinS,wJ,Zq,Zo] at ih⊢;rw[Nat.mul_add,Yv] at ih⊢;rw[Nat.mul_add,Yv];omega
theorem zcz {l:List tD} {k:Nat} (h:k<l.length):l.take (k+1)=l.take k++[l.getD k []]:=by
 rw[ZD h];simp[List.getD,h]
theorem zuF {l:List tD} {k:Nat} (h:k<l.length):wJ (l.take (k+1))=wJ (l.take k)+(l.getD k []).length:=by
 rw[zcz h,zni];simp[wJ]
theorem zcA (l:List tD) (k:Nat):wJ (l.take k)<=wJ l:=by
 have:=zni (l.take k) (l.drop k);rw[List.take_append_drop] at this;omega
theorem zuG {l:List tD} (sep:tD) {j:Nat} (h:j+1<l.length):joinS sep (l.take (j+1+1))=joinS sep (l.take (j+1))++(sep++l.getD (j+1) []):=by
 rw[zcz h,znh];intro e;rw[List.take_eq_nil_iff] at e;rcases e with e|e
 ·omega
 ·subst e;simp at h
theorem zcB (B b:Nat) (l x:List UInt8) (w:World) (h:Lib.IsBuilderF 230 5 B b (Lib.byteCells l) w) (hlen:l.length+x.length<=140737488355328) (hBw:B<=w.heap.size):
  Calls Tryz.prog 219 #[.pointer (some ⟨b,0,none⟩),.string ⟨x.toArray⟩] w fun e w'=>e=.returned (.tuple #[.int .i64 x.length,.nilIface])/\Lib.IsBuilderF 230 5 B b (Lib.byteCells (l++x)) w'/\Below B w w':=by
 have hsz:(⟨x.toArray⟩:ByteArray).size=x.length:=by show x.toArray.size=_;simp
 refine(zuC B b (Lib.byteCells l) ⟨x.toArray⟩ w h (by rw[Lib.byteCells_length,hsz];exact hlen) hBw).mono ?_;rintro e w' ⟨rfl,h1,h2⟩;exact⟨by rw[hsz],by rw[Lib.byteCells_append];exact h1,h2⟩
theorem znj (l:List tD) (sep:tD) (cap b o:Nat) (w:World) (hb0:b<w.heap.size) (hp: ∀k,k<l.length->w.cell? ⟨b,o+k,none⟩=some (.string ⟨(l.getD k []).toArray⟩)) (h2:2<=l.length) (hn:l.length<=1000) (hcap:l.length<=cap) (hs0:0<sep.length) (hs:sep.length<=100) (hlen:wJ l<=1000000):
  Calls Tryz.prog 157 #[.slice (some ⟨b,o,none⟩) l.length cap,.string ⟨sep.toArray⟩] w fun e w'=>e=.returned (.string ⟨(joinS sep l).toArray⟩)/\Below w.heap.size w w':=by
 obtain⟨n,hN⟩: ∃n,l.length=n:=⟨_,rfl⟩;have hN':Aside (l.length=n):=hN;rw[hN] at hp h2 hn hcap⊢;clear hN;have hpA:Aside (∀k,k<n->w.cell? ⟨b,o+k,none⟩=some (.string ⟨(l.getD k []).toArray⟩)):=hp;clear hp;have i0: ¬(n:Int)=0:=by omega
 have i1: ¬(n:Int)=1:=by omega
 have hsz:(⟨sep.toArray⟩:ByteArray).size=sep.length:=by show sep.toArray.size=_;simp
 have hsp:(sep.length:Int)>0:=by omega
 obtain⟨M,hM⟩: ∃M:Nat,sep.length*(n-1)=M:=⟨_,rfl⟩;have hMb:M<=100*1000:=by rw[<-hM];exact Xh hs (by omega)
 have w1:IntKind.i64.wrap ((n:Int)-1)=(n:Int)-1:=Go.Abs.wrap_in (by omega) (by omega);have hq:100<(9223372036854775807:Int)/((n:Int)-1)/\(9223372036854775807:Int)/((n:Int)-1)<=9223372036854775807:=by
  refine⟨?_,Int.ediv_le_self _ (by decide)⟩;have:(101:Int)<=9223372036854775807/((n:Int)-1):=by
   rw[Int.le_ediv_iff_mul_le (by omega)];omega
  omega
 have w2:IntKind.i64.wrap ((9223372036854775807:Int).tdiv ((n:Int)-1))=9223372036854775807/((n:Int)-1):=by
  rw[Int.tdiv_eq_ediv_of_nonneg (by decide)];exact Go.Abs.wrap_in (by omega) (by omega)
 have hng0: ¬(sep.length:Int)>=9223372036854775807/((n:Int)-1):=by omega
 have w3:IntKind.i64.wrap ((sep.length:Int)*((n:Int)-1))=(M:Int):=by
  rw[show(sep.length:Int)*((n:Int)-1)=(M:Int) by rw[<-hM];push_cast;rw[Int.ofNat_sub (by omega)];rfl];exact Go.Abs.wrap_in (by omega) (by omega)
 have w4:IntKind.i64.wrap (M:Int)=(M:Int):=Go.Abs.wrap_in (by omega) (by omega);clear hM hq
 go_enter Tryz.func157,Tryz.ntmps157
 go_wp2
 go_loopg [5,41] n (fun g t i wr=>wr=w/\ ∃k:Nat,k<=n/\g=n-k/\i=.int .i64 k/\t=.int .i64 ((M+wJ (l.take k):Nat):Int))
 case atStart=>exact⟨rfl,0,ZC _,rfl,rfl,by simp[wJ]⟩
 case round=>
  obtain⟨rfl,k,hk,rfl,rfl,rfl⟩:=hrel;by_cases hlt:k<n
  ·have hc:=hpA.out k hlt
   have hkn:(k:Int)<n:=by omega
   have hst:=zuF (l:=l) (k:=k) (by rw[hN'.out];exact hlt);have hle:=zcA l (k+1);generalize l.getD k []=x at hc hst;obtain⟨T,hT⟩: ∃T,M+wJ (l.take k)=T:=⟨_,rfl⟩;have hT2:Aside (M+wJ (l.take (k+1))=T+x.length):=show _=_ by rw[hst];omega
   have hTb:T+x.length<=1100000:=by omega
   rw[hT];clear hst hle hT;have hszx:(⟨x.toArray⟩:ByteArray).size=x.length:=by show x.toArray.size=_;simp
   have hw2:IntKind.i64.wrap (9223372036854775807-(T:Int))=9223372036854775807-(T:Int):=Go.Abs.wrap_in (by omega) (by omega);have hw3:IntKind.i64.wrap ((T:Int)+x.length)=((T+x.length:Nat):Int):=by rw[Go.Abs.wrap_in (by omega) (by omega)];omega
   have hwr:IntKind.i64.wrap ((k:Int)+1)=((k+1:Nat):Int):=by rw[Go.Abs.wrap_in (by omega) (by omega)];omega
   have hng: ¬(x.length:Int)>9223372036854775807-(T:Int):=by omega
   go_wp2
   go_roundg (n-(k+1))
   case measure=>omega
   case rel=>
    refine⟨rfl,k+1,by omega,rfl,by go_num,?_⟩;rw[hT2.out,Int.natCast_add]
  ·obtain rfl:k=n:=by omega
   rename World=>w0
   have c0:=hpA.out 0 (by omega);rw[Yf] at c0;obtain⟨T,hT⟩: ∃T,M+wJ (l.take k)=T:=⟨_,rfl⟩;have hTb:T<=1100000:=by have:=zcA l k;omega
   rw[hT];have hJ: ∀j,(joinS sep (l.take j)).length<=1100000:=fun j=>by
    have h1:=bN sep (l.take j);have h2:=zcA l j;have h3:sep.length*(l.take j).length<=100*1000:=Xh hs (by rw[Yl,hN'.out];omega);omega
   have e01:Aside (joinS sep (l.take (0+1))=l.getD 0 []):=show _=_ by rw[zcz (by rw[hN'.out];omega)];rfl
   have hx0:=hJ (0+1);rw[e01.out] at hx0;obtain⟨x0,hx0'⟩: ∃x,l.getD 0 []=x:=⟨_,rfl⟩;rw[hx0'] at c0 hx0 e01;clear hT hx0';have hg1:(w0.alloc (.cells #[.pointer none,.slice none 0 0] 230)).heap[w0.heap.size]?=some (.cells #[.pointer none,.slice none 0 0] 230 (0,0)):=Go.Abs.alloc_get w0 _;have hb2:Below w0.heap.size w0 (w0.alloc (.cells #[.pointer none,.slice none 0 0] 230)):=(Below.refl _ w0).alloc (Zw _) _;have hb4of: ∀w2,Below w0.heap.size (w0.alloc (.cells #[.pointer none,.slice none 0 0] 230)) w2->w2.cell? ⟨b,o,none⟩=some (.string ⟨x0.toArray⟩):=fun w2 h=>((hb2.trans h).cell (p:=⟨b,o,none⟩) hb0).trans c0
   go_wp2_with (first|(go_at_call 218;refine(zuE w0.heap.size w0.heap.size T _ (Zw _) hg1 hb2.size (by omega)).mono ?_;rintro e w2 ⟨rfl,hI2,hb3⟩;have c0':=hb4of w2 hb3)|(go_at_call 219;refine(zcB w0.heap.size w0.heap.size [] x0 _ hI2 (by rw[ZF];omega) (hb2.trans hb3).size).mono ?_;rintro e w3 ⟨rfl,hI3,hb5⟩))
   have hb6:=(hb2.trans hb3).trans hb5;rw[Yd,<-e01.out] at hI3
   go_loopg [65] (k-1) (fun g i w0'=>Below w0.heap.size w0 w0'/\ ∃j:Nat,j+1<=k/\g=k-1-j/\i=.int .i64 j/\Lib.IsBuilderF 230 5 w0.heap.size w0.heap.size (Lib.byteCells (joinS sep (l.take (j+1)))) w0')
   case atStart=>exact⟨hb6,0,by omega,rfl,rfl,hI3⟩
   case round=>
    obtain⟨hbx,j,hj,rfl,rfl,hIx⟩:=hrel;by_cases hlt2:j+1<k
    ·have hkn:(j:Int)<k-1:=by omega
     have hkn2:(j:Int)<((k-1:Nat):Int):=by omega
     have hkn3:j<k-1:=by omega
     have cj0:=hpA.out (j+1) hlt2;rw[show o+(j+1)=o+1+j by omega] at cj0;have cj:=(hbx.cell (p:=⟨b,o+1+j,none⟩) hb0).trans cj0;have hwr:IntKind.i64.wrap ((j:Int)+1)=((j+1:Nat):Int):=by rw[Go.Abs.wrap_in (by omega) (by omega)];omega
     have hE:Aside (joinS sep (l.take (j+1+1))=joinS sep (l.take (j+1))++(sep++l.getD (j+1) [])):=zuG sep (by rw[hN'.out];exact hlt2);have hl2:=hJ (j+1+1);rw[hE.out] at hl2;generalize l.getD (j+1) []=x at cj cj0 hE hl2;generalize joinS sep (l.take (j+1))=A at hIx hE hl2;simp only[Zq] at hl2
     go_wp2_with (first|(go_at_call 219;refine(zcB w0.heap.size w0.heap.size (A++sep) x _ hI5 (by rw[Zq];omega) (hbx.trans hb7).size).mono ?_;rintro e w6 ⟨rfl,hI6,hb8⟩)|(go_at_call 219;refine(zcB w0.heap.size w0.heap.size A sep _ hIx (by omega) hbx.size).mono ?_;rintro e w5 ⟨rfl,hI5,hb7⟩))
     rw[Z3,<-hE.out] at hI6
     go_roundg (k-1-(j+1))
     case measure=>omega
     case rel=>exact⟨(hbx.trans hb7).trans hb8,j+1,by omega,rfl,by go_num,hI6⟩
    ·obtain rfl:j+1=k:=by omega
     have hge: ¬(j:Int)<((j+1:Nat):Int)-1:=by omega
     have hge2: ¬(j:Int)<((j+1-1:Nat):Int):=by omega
     have hE:Aside (joinS sep (l.take (j+1))=joinS sep l):=show _=_ by rw[Z7 (by rw[hN'.out];exact Zw _)]
     go_wp2_with (go_at_call 220;refine(zng w0.heap.size w0.heap.size (joinS sep (l.take (j+1))) _ hIx hbx.size).mono ?_;rintro e w6 ⟨rfl,hI6,hb8⟩)
     go_ret
     exact⟨by rw[hE.out];rfl,hbx.trans hb8⟩
theorem zcC (cap:Nat) (ao:Option Addr) (sep:ByteArray) (w:World):
  Calls Tryz.prog 157 #[.slice ao 0 cap,.string sep] w fun e w'=>e=.returned (.string ⟨#[]⟩)/\Below w.heap.size w w':=by
 go_enter Tryz.func157,Tryz.ntmps157
 go_wp2
 go_ret
 exact⟨rfl,Below.refl _ _⟩
theorem znk (cap b o:Nat) (s sep:ByteArray) (w:World) (hc:w.cell? ⟨b,o,none⟩=some (.string s)) (hcap:1<=cap):
  Calls Tryz.prog 157 #[.slice (some ⟨b,o,none⟩) 1 cap,.string sep] w fun e w'=>e=.returned (.string s)/\Below w.heap.size w w':=by
 go_enter Tryz.func157,Tryz.ntmps157
 go_wp2
 go_ret
 exact⟨rfl,Below.refl _ _⟩
end Go.Proofs
namespace Go.Ex
open Go.Lib Go.Wd Go.Wire
def pick:List (List Txt)->Nat->List Txt×Nat
 |[],i=>([],i)
 |w::ws,i=>(w.getD ((pick ws i).2 % w.length) []::(pick ws i).1,(pick ws i).2/w.length)
theorem bO: ∀(W:List (List Txt)) (i:Nat),(pick W i).1.length=W.length
 |[],_=>rfl
 |w::W,i=>by rw[pick,Zo,bO W i,Zo]
theorem znl {W:List (List Txt)} {i B:Nat} (h: ∀x∈W,1<=x.length/\ ∀s∈x,s.length<=B): ∀s∈(pick W i).1,s.length<=B:=by
 induction W with
 |nil=>intro s hs;simp[pick] at hs
 |cons w W ih=>
  intro s hs;rw[pick,ZJ] at hs;rcases hs with rfl|hs
  ·have hw:=h w (by simp)
   have hm:(pick W i).2 % w.length<w.length:=XE _ (by omega);rw[Zi,Zf hm];exact hw.2 _ (Zv hm)
  ·exact ih (fun x hx=>h x (Zy _ hx)) s hs
theorem znm: ∀(W:List (List Txt)) (i:Nat),(pick W i).2<=i
 |[],_=>Zw _
 |w::W,i=>by rw[pick];exact ZX (Xv _ _) (znm W i)
def textF (f:Fld) (i:Nat):Txt:=vH 32 (pick f.words i).1
def stX (W:List (List Txt)) (i k j:Nat):Txt:=if k<=j then(pick (W.drop k) i).1.getD (j-k) [] else[]
theorem zuH {W:List (List Txt)} {i k:Nat} (h:k<W.length) (j:Nat):stX W i k j=if j=k then W[k].getD ((pick (W.drop (k+1)) i).2 % W[k].length) [] else stX W i (k+1) j:=by
 unfold stX;rw[ZE h,pick];by_cases h1:j=k
 ·subst h1;simp
 ·rw[if_neg h1]
  by_cases h2:k<=j
  ·rw[if_pos h2,if_pos (by omega)]
   obtain⟨d,hd⟩: ∃d,j-k=d+1:=⟨j-k-1,by omega⟩;rw[hd,show j-(k+1)=d by omega];rfl
  ·rw[if_neg h2,if_neg (by omega)]
end Go.Ex
namespace Go.Proofs
open Go.Shelf Go.RowKit Go.Lib Go.Abs Go.Ex Go.Wire Go.Wd
abbrev sV (s:Txt):Value:=.string ⟨s.toArray⟩
def oM (w:World) (g:Nat) (st:Nat->Txt):Prop:= ∃cur:Array Value,w.heap[g]?=some (.cells cur 179 (0,0))/\cur.size=8/\ ∀j,j<8->cur[j]?=some (sV (st j))
theorem oM.cell {w:World} {g:Nat} {st:Nat->Txt} (h:oM w g st) {j:Nat} (hj:j<8):w.cell? ⟨g,j,none⟩=some (sV (st j)):=by
 obtain⟨cur,h1,_,h2⟩:=h;simp only[World.cell?,h1];exact h2 j hj
theorem oM.frozen {w:World} {g:Nat} {st:Nat->Txt} (h:oM w g st) {j:Nat}:w.frozen? ⟨g,j,none⟩=false:=by
 obtain⟨cur,h1,_,h2⟩:=h;simp[World.frozen?,h1]
theorem oM.set {w:World} {g:Nat} {st st':Nat->Txt} (h:oM w g st) {j:Nat} (hj:j<8) (s:Txt) (hst: ∀i,i<8->st' i=if i=j then s else st i):oM (w.setCell ⟨g,j,none⟩ (sV s)) g st':=by
 obtain⟨cur,h1,hs,h2⟩:=h;refine⟨cur.setIfInBounds j (sV s),by simp[World.setCell,Y1,h1],by simp[hs],fun i hi=>?_⟩;rw[Yi,hst i hi];by_cases e:j=i
 ·subst e
  simp[hs,hj]
 ·rw[if_neg e,if_neg (fun q=>e q.symm)]
  exact h2 i hi
theorem zcD: ∀l:List Txt,joinS [32] l=vH 32 l
 |[]=>rfl
 |[w]=>rfl
 |w::v::r=>by rw[joinS,zcD (v::r),vH];rfl
theorem znn {B:Nat}: ∀{l:List Txt},(∀s∈l,s.length<=B)->wJ l<=B*l.length
 |[],_=>by simp[wJ]
 |a::l,h=>by
  have h1:=h a (by simp);have h2:=znn (l:=l) fun s hs=>h s (Zy _ hs)
  simp only[wJ,Zo,Nat.mul_succ];omega
theorem zuI (w:World) (o1 o2:Obj):((w.alloc o1).alloc o2).heap[w.heap.size]?=some o1/\((w.alloc o1).alloc o2).heap[w.heap.size+1]?=some o2:=by
 have h:((w.alloc o1).alloc o2).heap=(w.heap.push o1).push o2:=rfl;rw[h];constructor
 ·rw[YR,if_neg (by rw[Array.size_push];omega),YR,if_pos rfl]
 ·rw[YR,if_pos (by rw[Array.size_push])]
theorem zuJ (nm:ByteArray) (W:List (List Txt)) (p:Option Addr) (b o cap:Nat) (hn:W.length<=8) (hp:0<W.length->p=some ⟨b,o,none⟩) (bk ok cp:Nat->Nat) (w:World)
  (hk: ∀k,k<W.length->w.cell? ⟨b,o+k,none⟩=some (.slice (some ⟨bk k,ok k,none⟩) (W.getD k []).length (cp k))) (hl: ∀x∈W,1<=x.length/\x.length<=4/\ ∀s∈x,s.length<=100)
  (ht: ∀k j,k<W.length->j<(W.getD k []).length->w.cell? ⟨bk k,ok k+j,none⟩=some (sV ((W.getD k []).getD j []))) (i:Nat) (hi:i<=1000000):
  Calls Tryz.prog 92 #[.agg #[.string nm,.slice p W.length cap],.int .i64 i] w fun e w'=>e=.returned (sV (vH 32 (pick W i).1))/\Below w.heap.size w w':=by
 obtain⟨n,hN⟩: ∃n,W.length=n:=⟨_,rfl⟩;have hN':Aside (W.length=n):=hN;rw[hN] at hk ht hn hp⊢
 go_enter Tryz.func92,Tryz.ntmps92
 go_wp2
 have hst: ∀j,stX W i n j=[]:=fun j=>by
  unfold stX;rw[ZB (by rw[hN'.out];exact Zw _)];split<;>rfl
 have hA:=zuI w (Obj.cells #[Value.string nm,Value.slice p n cap] 76) (Obj.cells #[Value.string {data:= #[]},Value.string {data:= #[]},Value.string {data:= #[]},Value.string {data:= #[]},Value.string {data:= #[]},Value.string {data:= #[]},Value.string {data:= #[]},Value.string {data:= #[]}] 179);have hB0:Below w.heap.size w ((w.alloc (Obj.cells #[Value.string nm,Value.slice p n cap] 76)).alloc (Obj.cells #[Value.string {data:= #[]},Value.string {data:= #[]},Value.string {data:= #[]},Value.string {data:= #[]},Value.string {data:= #[]},Value.string {data:= #[]},Value.string {data:= #[]},Value.string {data:= #[]}] 179)):=((Below.refl _ w).alloc (Zw _) _).alloc (by simp) _;generalize ((w.alloc (Obj.cells #[Value.string nm,Value.slice p n cap] 76)).alloc (Obj.cells #[Value.string {data:= #[]},Value.string {data:= #[]},Value.string {data:= #[]},Value.string {data:= #[]},Value.string {data:= #[]},Value.string {data:= #[]},Value.string {data:= #[]},Value.string {data:= #[]}] 179))=wA at hA hB0⊢;have hbx0:wA.cell? ⟨w.heap.size,1,none⟩=some (.slice p n cap):=by simp only[World.cell?,hA.1];rfl
 have hH0:oM wA (w.heap.size+1) (stX W i n):=⟨_,hA.2,rfl,fun j hj=>by
  rw[hst]
  match j,hj with
  |0,_=>rfl
  |1,_=>rfl
  |2,_=>rfl
  |3,_=>rfl
  |4,_=>rfl
  |5,_=>rfl
  |6,_=>rfl
  |7,_=>rfl⟩
 have hp0:(pick (W.drop n) i).2=i:=by rw[ZB (by rw[hN'.out];exact Zw _)];rfl
 clear hA hst
 go_loopg [1,6] n (fun g x t wr=> ∃k:Nat,k<=n/\k=g/\x=.int .i64 ((pick (W.drop k) i).2:Nat)/\t=.int .i64 ((k:Int)-1)/\wr.cell? ⟨w.heap.size,1,none⟩=some (.slice p n cap)/\oM wr (w.heap.size+1) (stX W i k)/\Below w.heap.size w wr)
 case atStart=>exact⟨n,Zw _,rfl,by rw[hp0],rfl,hbx0,hH0,hB0⟩
 case round=>
  obtain⟨k,hkn,rfl,rfl,rfl,hbx,hH,hb⟩:=hrel;by_cases h0:k=0
  ·subst h0
   have hle: ¬((0:Nat):Int)-1>=0:=by omega
   have hpl:=bO W i;have hcs: ∀j,j<n->wr.cell? ⟨w.heap.size+1,j,none⟩=some (sV ((pick W i).1.getD j [])):=fun j hj=>by
    have h1:=hH.cell (j:=j) (by omega);rw[h1];unfold stX;rw[if_pos (ZC _),List.drop_zero,XG]
   have hsm: ∀s∈(pick W i).1,s.length<=100:=fun s hs=>znl (fun x hx=>⟨(hl x hx).1,(hl x hx).2.2⟩) s hs
   have hbk:=(World.block_lt_of_cell? _ _ hbx);have hwn:w.heap.size<=wr.heap.size:=hb.size;rw[hN'.out] at hpl;obtain⟨T,hT⟩: ∃T,(pick W i).1=T:=⟨_,rfl⟩;rw[hT] at hpl hcs hsm;clear hH hbx0 hH0 hB0 hk ht hl hp;have hJoin:Calls Tryz.prog 157 #[.slice (some ⟨w.heap.size+1,0,none⟩) n 8,.string ⟨#[32]⟩] wr fun e w'=>e=.returned (sV (vH 32 T))/\Below wr.heap.size wr w':=by
    have hsum:wJ T<=100*T.length:=znn hsm;rcases Y7 n 2 with h2|h2
    ·rcases Y7 n 1 with h1|h1
     ·obtain rfl:n=0:=by omega
      obtain rfl:=Yg hpl;exact zcC 8 _ _ wr
     ·obtain rfl:n=1:=by omega
      obtain⟨t,rfl⟩:=List.length_eq_one_iff.1 hpl;exact znk 8 _ 0 _ _ wr (hcs 0 (by omega)) (by decide)
    ·have:=znj T [32] 8 (w.heap.size+1) 0 wr (by have:=World.block_lt_of_cell? _ _ (hcs 0 (by omega));exact this) (fun k hk=>by rw[ZY];exact hcs k (by omega)) (by omega) (by omega) (by omega) (by decide) (by decide) (by omega)
     rw[hpl] at this;rw[<-zcD];exact this
   have hal:Tryz.prog.arrayLen 179=8:=by kernel_rfl
   have hn8:(n:Int)<=Tryz.prog.arrayLen 179:=by rw[hal];omega
   have hn0:(0:Int)<=n:=by omega
   have hsl:(Instr.sliceAt 179 (.pointer (some ⟨w.heap.size+1,0,none⟩)) none (some (.int .i64 n)) none).run Tryz.prog wr=.ok (.slice (some ⟨w.heap.size+1,0,none⟩) n 8) wr:=by
    rw[run_sliceAt_array_h wr 179 ⟨w.heap.size+1,0,none⟩ (by kernel_rfl) .i64 n hn0 hn8,hal];rw[show Tryz.prog.elem 179=9 by kernel_rfl,Tryz.sizeOf9];rfl
   go_wp2_with (go_at_call 157;refine hJoin.mono ?_;rintro e w' ⟨rfl,hb2⟩)
   go_ret
   rw[hT];exact⟨rfl,hb.trans (hb2.mono hwn)⟩
  ·obtain⟨m,rfl⟩: ∃m,k=m+1:=⟨k-1,by omega⟩
   obtain rfl:=hp (by omega);clear hp;have hm:m<n:=hkn;have hge:((m+1:Nat):Int)-1>=0:=by omega
   have hmw:m<W.length:=by rw[hN'.out];exact hm
   have hgd:W.getD m []=W[m]:=by rw[Zi,Zf hmw];rfl
   have hlm:=hl _ (Zv hmw);have hbb:=World.block_lt_of_cell? _ _ (hk m hm);have hc1:=(hb.cell (p:=⟨b,o+m,none⟩) hbb).trans (hk m hm);have hw1:IntKind.i64.wrap ((m:Int)-1)=(m:Int)-1:=Go.Abs.wrap_in (by omega) (by omega);have e6:((m+1:Nat):Int)-1=(m:Int):=by omega
   have hm8:m<8:=by omega
   have hst:=fun j=>zuH (i:=i) hmw j
   have hpk:(pick (W.drop m) i).2=(pick (W.drop (m+1)) i).2/W[m].length:=by rw[ZE hmw,pick]
   have hqle:=znm (W.drop (m+1)) i;have htm:=ht m;rw[hgd] at hc1 htm;generalize W[m]=wd at hlm hst hpk hc1 htm;obtain⟨q,hq⟩: ∃q,(pick (W.drop (m+1)) i).2=q:=⟨_,rfl⟩;rw[hq] at hst hpk hqle⊢;rw[e6];obtain⟨L,hL⟩: ∃L,wd.length=L:=⟨_,rfl⟩;rw[hL] at hlm hst hpk hc1 htm;have hL0: ¬(L:Int)=0:=by omega
   have hmod:q % L<L:=XE _ (by omega);have hr1:(q:Int).tmod (L:Int)=((q % L:Nat):Int):=(Int.ofNat_tmod q L).symm;have hr2:(q:Int).tdiv (L:Int)=((q/L:Nat):Int):=(Int.ofNat_tdiv q L).symm;have hc2:=htm (q % L) hm hmod;have hbb2:=World.block_lt_of_cell? _ _ hc2;have hc3:=(hb.cell (p:=⟨bk m,ok m+q % L,none⟩) hbb2).trans hc2;have hc4:=hH.cell hm8;have hf4:=hH.frozen (j:=m);have hset:=hH.set (st':=stX W i m) hm8 (wd.getD (q % L) []) (fun j _=>hst j);have hmod':((q % L:Nat):Int)<L:=by omega
   have hmi:(m:Int)<n:=by omega
   have hm8i:(m:Int)<8:=by omega
   generalize hJ:q % L=J at hr1 hc3 hset hmod';clear hc2 hst htm hk ht hgd hl hH hB0 hH0 hbx0 hlm hmod;have hne:(⟨w.heap.size+1,m,none⟩:Addr)≠⟨w.heap.size,1,none⟩:=fun e=>by
    have:=congrArg Addr.block e;simp at this
   have hbx2:(wr.setCell ⟨w.heap.size+1,m,none⟩ (sV (wd.getD J []))).cell? ⟨w.heap.size,1,none⟩=some (.slice (some ⟨b,o,none⟩) n cap):=by
    have:=World.cell?_setCell_other wr _ _ (sV (wd.getD J [])) hne;rw[this];exact hbx
   have hqd:wrap64 ((q:Int)/(L:Int))=(q:Int)/(L:Int):=by
    rw[<-Int.natCast_ediv];have hd:=Xv q L;generalize q/L=d at hd;unfold wrap64;omega
   go_wp2
   go_roundg m
   case rel=>exact⟨m,by omega,rfl,by rw[hpk,Int.natCast_ediv],rfl,hbx2,hset,hb.setCell (by simp) _⟩
   case measure=>omega
end Go.Proofs
namespace Go.Abs
open Go.Proofs Go.RowKit Go.Lib Go.Wd Go.Wire Go.Ex
theorem nY (l:List Txt):Plain 1 (zF l):=by
 refine⟨by decide,fun r hr=>?_,fun r hr c hc=>?_⟩
 ·obtain⟨s,_,rfl⟩:=ZH.1 hr;rfl
 ·obtain⟨s,_,rfl⟩:=ZH.1 hr
  rw[ZT.1 hc];rfl
theorem bP (l:List Txt):sA (zF l)=l.map fun s=>Value.string ⟨s.toArray⟩:=by
 rw[sA,zF]
 induction l with
 |nil=>rfl
 |cons a l ih=>simp only[Zk,Yy,ZS,ih];rfl
theorem zuK {w:World} {Z:Bk->Prop} {l:List Txt} (hl:l≠[]) {v:Value} (h:PRep w Z (zB 1 (zF l)) v):
  ∃b o cap,v=.slice (some ⟨b,o,none⟩) l.length cap/\ ∀j,j<l.length->w.cell? ⟨b,o+j,none⟩=some (sV (l.getD j [])):=by
 obtain⟨p,k,rfl,q,m⟩:=(nY l).slice h;have hpos:0<(zF l).length:=by rw[zS];exact Ye.2 hl
 obtain⟨b,o,rfl,g⟩:=q hpos;refine⟨b,o,k,by rw[zS],fun j hj=>?_⟩;refine g j _ ?_;rw[bP,Zz,Zf hj];simp[List.getD,hj]
theorem zuL {w:World} {Z:Bk->Prop} {W:List (List Txt)} (hW: ∀x∈W,x≠[]) {v:Value} (h:PRep w Z (zB 1 (W.map yH)) v):
  ∃p cap b o,∃bk ok cp:Nat->Nat,v=.slice p W.length cap/\(0<W.length->p=some ⟨b,o,none⟩)/\
   (∀k,k<W.length->w.cell? ⟨b,o+k,none⟩=some (.slice (some ⟨bk k,ok k,none⟩) (W.getD k []).length (cp k)))/\
   ∀k j,k<W.length->j<(W.getD k []).length->w.cell? ⟨bk k,ok k+j,none⟩=some (sV ((W.getD k []).getD j [])):=by
 by_cases h0:W=[]
 ·subst h0
  have h':PRep w Z (.list 0 none []) v:=h;cases h' with
  |nil=>exact⟨none,0,0,0,fun _=>0,fun _=>0,fun _=>0,rfl,fun q=>absurd q (by simp),fun k q=>absurd q (by simp),fun k j q=>absurd q (by simp)⟩
  |emp _ _ a _=>exact⟨some a,0,0,0,fun _=>0,fun _=>0,fun _=>0,rfl,fun q=>absurd q (by simp),fun k q=>absurd q (by simp),fun k j q=>absurd q (by simp)⟩
  |list b o cap _ _ _ _ _ _ _ _ _ _ _=>exact⟨some ⟨b,o,none⟩,cap,0,0,fun _=>0,fun _=>0,fun _=>0,rfl,fun q=>absurd q (by simp),fun k q=>absurd q (by simp),fun k j q=>absurd q (by simp)⟩
 ·have hne:(W.map yH).isEmpty=false:=by cases W<;>simp_all
  unfold zB at h;rw[hne,if_neg (by simp)] at h;have hpos:=Ye.2 h0;generalize hrw:W.map yH=rows at h;cases h with
  |nil=>simp at hrw;exact absurd hrw h0
  |emp _ _ a _=>simp at hrw;exact absurd hrw h0
  |list b o cap _ _ _ val h1 h2 h3 h4 h5 h6 h7=>
   subst hrw;have hat: ∀k,k<W.length->(W.map yH)[k]?=some [zB 1 (zF (W.getD k []))]:=fun k hk=>by
    rw[Zz,Zf hk,Zi,Zf hk];rfl
   have key: ∀k,∃bk ok cp,k<W.length->w.cell? ⟨b,o+k,none⟩=some (.slice (some ⟨bk,ok,none⟩) (W.getD k []).length cp)/\ ∀j,j<(W.getD k []).length->w.cell? ⟨bk,ok+j,none⟩=some (sV ((W.getD k []).getD j [])):=fun k=>by
    by_cases hk:k<W.length
    ·have hm:W.getD k []≠[]:=by
      rw[Zi,Zf hk];exact hW _ (Zv hk)
     have hv:=h7 k 0 _ _ (hat k hk) rfl;obtain⟨bk,ok,cp,e,hc⟩:=zuK hm hv;have hcell:=h6 k 0 _ _ (hat k hk) rfl;rw[Yv,Yf,e] at hcell;exact⟨bk,ok,cp,fun _=>⟨hcell,hc⟩⟩
    ·exact⟨0,0,0,fun q=>absurd q hk⟩
   have hlen:(W.map yH).length=W.length:=Zg ..;exact⟨some ⟨b,o,none⟩,cap,b,o,fun k=>(key k).choose,fun k=>(key k).choose_spec.choose,fun k=>(key k).choose_spec.choose_spec.choose,by rw[hlen],fun _=>rfl,
    fun k hk=>((key k).choose_spec.choose_spec.choose_spec hk).1,fun k j hk hj=>((key k).choose_spec.choose_spec.choose_spec hk).2 j hj⟩
theorem zno (f:Fld) (hf:FldR f) (hs: ∀w∈f.words,∀s∈w,s.length<=100) (i:Nat) (hi:i<=1000000):Spec Tryz.prog 92 [.agg (zP f),.int .i64 (i:Int)] (fun v=>v=.str (textF f i)):=by
 refine⟨vN (by kernel_rfl),fun w Z vs hG hz ha=>?_⟩;obtain⟨vl⟩:=vs
 match vl,ha with
 |[],ha=>exact absurd ha.1 (by simp)
 |[_],ha=>exact absurd ha.1 (by simp)
 |_::_::_::_,ha=>exact absurd ha.1 (by simp)
 |[v,v2],ha=>
  have e2:=vK (ha.2 1 _ v2 rfl rfl).2.2;subst e2;obtain⟨us,rfl,hrow⟩:=(ha.2 0 _ v rfl rfl).2;obtain⟨ul⟩:=us
  match ul,hrow with
  |[],hrow=>exact absurd hrow.1 (by simp[zP])
  |[_],hrow=>exact absurd hrow.1 (by simp[zP])
  |_::_::_::_,hrow=>exact absurd hrow.1 (by simp[zP])
  |[u0,u1],hrow=>
   have e0:=vX (hrow.2 0 (.str f.name) u0 rfl rfl);subst e0;have h1:PRep w Z (zB 1 (f.words.map yH)) u1:=hrow.2 1 _ u1 rfl rfl;obtain⟨p,cap,b,o,bk,ok,cp,rfl,hp,hk,ht⟩:=zuL (fun x hx=>List.ne_nil_of_length_pos (hf.sp x hx).1) h1;refine(zuJ ⟨f.name.toArray⟩ f.words p b o cap hf.ws hp bk ok cp w hk (fun x hx=>⟨(hf.sp x hx).1,(hf.sp x hx).2,hs x hx⟩) ht i hi).mono ?_;rintro e w' ⟨rfl,hb⟩;exact⟨_,_,rfl,rfl,fun _=>rfl,nV hG (xM hb) (fun _=>rfl) (fun _=>⟨rfl,.str _⟩)⟩
end Go.Abs
namespace Go.Ex
def bitsN (s:Nat):List Nat:=(List.range 10).filter fun k=>s.testBit k
theorem uA {s k:Nat} (h:s<1024):k∈bitsN s ↔ s.testBit k=true:=by
 unfold bitsN;rw[Yh,Z2];refine⟨fun h=>h.2,fun q=>⟨?_,q⟩⟩;rcases Y7 k 10 with h1|h1
 ·exact h1
 ·rw[Nat.testBit_lt_two_pow (ZO h (show 1024<=2 ^ k from Ys (n:=2) (by decide) h1))] at q;cases q
def andN (a b:Nat):Nat:=a ^^^ (a&&&b)
theorem rH (a b k:Nat):(andN a b).testBit k=(a.testBit k&& !b.testBit k):=by
 unfold andN;rw[Nat.testBit_xor,XJ];cases a.testBit k<;>cases b.testBit k<;>rfl
theorem nZ (k j:Nat):(1<<<k).testBit j=decide (k=j):=by
 rw[XW,Nat.testBit_two_pow]
theorem znp {a b:Nat}:a&&&b=0 ↔ ∀k,a.testBit k=true->b.testBit k=false:=by
 constructor
 ·intro h k ha
  have:=XJ a b k;rw[h,Xb,ha,ZU] at this;exact this.symm
 ·intro h
  apply Nat.eq_of_testBit_eq;intro k;rw[Xb,XJ];cases ha:a.testBit k with
  |true=>rw[h k ha];rfl
  |false=>rfl
def hitP (F:List Nat) (s:Nat):Bool:=F.all fun f=>f&&&s !=0
theorem mA {F:List Nat} {s:Nat}:hitP F s=true ↔ ∀f∈F,∃k,f.testBit k=true/\s.testBit k=true:=by
 unfold hitP;rw[ZA];refine⟨fun h f hf=>?_,fun h f hf=>?_⟩
 ·have h1:=h f hf
  rw[bne_iff_ne,ne_eq,znp] at h1;by_cases hk: ∃k,f.testBit k=true/\s.testBit k=true
  ·exact hk
  ·exact absurd (fun k hf=>by cases hs:s.testBit k with|false=>rfl|true=>exact absurd ⟨k,hf,hs⟩ hk) h1
 ·obtain⟨k,h1,h2⟩:=h f hf
  rw[bne_iff_ne,ne_eq,znp];intro h3;rw[h3 k h1] at h2;cases h2
def vT (F:List Nat) (s:Nat):Bool:=hitP F s&&(bitsN s).all fun k=> !hitP F (andN s (1<<<k))
theorem gQ {F:List Nat} {s:Nat} (h:s<1024):vT F s=true ↔ hitP F s=true/\ ∀k,s.testBit k=true->hitP F (andN s (1<<<k))=false:=by
 unfold vT;rw[Zr,ZA];refine and_congr Xp ⟨fun h1 k hk=>?_,fun h1 k hk=>?_⟩
 ·have:=h1 k ((uA h).2 hk);simpa using this
 ·have:=h1 k ((uA h).1 hk);simpa using this
def sE (D:Nat):Nat->Nat->List Nat
 |0,_=>[]
 |n+1,p=>if p=0 then[] else p::sE D n ((p-1)&&&D)
def zcE (D:Nat):List Nat:=((List.range 256).filter fun p=>p !=0&&p&&&D==p).reverse
theorem znq: ∀D,D<256->sE D 256 D=zcE D:=by decide+kernel
theorem znr {D p:Nat} (hD:D<256):p∈zcE D ↔ p≠0/\p&&&D=p:=by
 unfold zcE;rw[List.mem_reverse,Yh,Z2,Zr,bne_iff_ne,beq_iff_eq];refine⟨fun h=>h.2,fun h=>⟨?_,h⟩⟩;have:=Nat.and_le_right (n:=p) (m:=D);omega
theorem zns {D p:Nat}:p&&&D=p ↔ ∀k,p.testBit k=true->D.testBit k=true:=by
 constructor
 ·intro h k hk
  rw[<-h,XJ,Zr] at hk;exact hk.2
 ·intro h
  apply Nat.eq_of_testBit_eq;intro k;rw[XJ];cases hp:p.testBit k with
  |true=>rw[h k hp];rfl
  |false=>rfl
def wL:List Nat->List Nat->List Nat
 |[],acc=>acc
 |f::F,acc=>wL F (if f∈acc then acc else acc++[f])
theorem bQ: ∀(F acc:List Nat) (x:Nat),x∈wL F acc ↔ x∈F\/x∈acc
 |[],acc,x=>by simp[wL]
 |f::F,acc,x=>by
  rw[wL,bQ F];split
  ·rename_i h
   rw[ZJ];constructor
   ·rintro(h1|h1)
    ·exact .inl (.inr h1)
    ·exact .inr h1
   ·rintro((rfl|h1)|h1)
    ·exact .inr h
    ·exact .inl h1
    ·exact .inr h1
  ·simp only[Yo,ZJ,Zt,or_false]
   constructor
   ·rintro(h1|h1|h1)
    ·exact .inl (.inr h1)
    ·exact .inr h1
    ·exact .inl (.inl h1)
   ·rintro((h1|h1)|h1)
    ·exact .inr (.inr h1)
    ·exact .inl h1
    ·exact .inr (.inl h1)
theorem zy6: ∀(F acc:List Nat),acc.Nodup->(wL F acc).Nodup
 |[],acc,h=>h
 |f::F,acc,h=>by
  rw[wL];refine zy6 F _ ?_;split
  ·exact h
  ·rename_i hf
   rw[List.nodup_append];exact⟨h,by simp,fun a ha b hb=>by rw[ZT] at hb;subst hb;rintro rfl;exact hf ha⟩
theorem zuM (F:List Nat) (p:Nat->Bool):(wL F []).all p=F.all p:=by
 rw[Yw,ZA,ZA];refine⟨fun h x hx=>h x ((bQ F [] x).2 (.inl hx)),fun h x hx=>h x ?_⟩;rcases(bQ F [] x).1 hx with h|h
 ·exact h
 ·cases h
structure Vw where
 sets:List Nat
 never:Nat
 doubt:Nat
def mB (m:Nat) (F:List Nat):Vw:=⟨wL F [],F.foldl (· &&& ·) (2 ^ m-1),andN (F.foldl (· ||| ·) 0) (F.foldl (· &&& ·) (2 ^ m-1))⟩
theorem bS: ∀(F:List Nat) (a k:Nat),(F.foldl (· &&& ·) a).testBit k=(a.testBit k&&F.all (·.testBit k))
 |[],a,k=>by simp
 |f::F,a,k=>by rw[YU,bS F,XJ,Yz,Bool.and_assoc]
theorem gR: ∀(F:List Nat) (a k:Nat),(F.foldl (· ||| ·) a).testBit k=(a.testBit k||F.any (·.testBit k))
 |[],a,k=>by simp
 |f::F,a,k=>by rw[YU,gR F,Nat.testBit_or,List.any_cons,Bool.or_assoc]
theorem wV {m s:Nat}:s<2 ^ m ↔ ∀k,s.testBit k=true->k<m:=by
 constructor
 ·intro h k hk
  rcases Y7 k m with h1|h1
  ·exact h1
  ·rw[Nat.testBit_lt_two_pow (ZO h (Ys (n:=2) (by decide) h1))] at hk;cases hk
 ·intro h
  apply Nat.lt_pow_two_of_testBit;intro i hi;cases q:s.testBit i with
  |false=>rfl
  |true=>exact absurd (h i q) (by omega)
theorem zuN {m:Nat} {F:List Nat}:(mB m F).never<2 ^ m:=wV.2 fun k hk=>by
 have h:(F.foldl (· &&& ·) (2 ^ m-1)).testBit k=true:=hk;rw[bS,Zr,Nat.testBit_two_pow_sub_one,decide_eq_true_eq] at h;exact h.1
theorem gS {m:Nat} {F:List Nat} (hF: ∀f∈F,f<2 ^ m):(mB m F).doubt<2 ^ m:=wV.2 fun k hk=>by
 have h:(andN (F.foldl (· ||| ·) 0) (F.foldl (· &&& ·) (2 ^ m-1))).testBit k=true:=hk;rw[rH,Zr,gR,Xb,YC,Yt] at h;obtain⟨⟨f,hf,h1⟩,_⟩:=h;exact wV.1 (hF f hf) k h1
theorem zcF {m:Nat} {F:List Nat} (h0:F≠[]) (hF: ∀f∈F,f<2 ^ m) (k:Nat):(mB m F).never.testBit k=true ↔ ∀f∈F,f.testBit k=true:=by
 show(F.foldl (· &&& ·) (2 ^ m-1)).testBit k=true ↔ _;rw[bS,Zr,ZA,Nat.testBit_two_pow_sub_one,decide_eq_true_eq];refine⟨fun h=>h.2,fun h=>⟨?_,h⟩⟩;obtain⟨f,hf⟩:=XD F h0;exact wV.1 (hF f hf) k (h f hf)
theorem zuO {m:Nat} {F:List Nat} (h0:F≠[]) (hF: ∀f∈F,f<2 ^ m) (k:Nat):(mB m F).doubt.testBit k=true ↔ (∃f∈F,f.testBit k=true)/\ ∃f∈F,f.testBit k=false:=by
 show(andN (F.foldl (· ||| ·) 0) (mB m F).never).testBit k=true ↔ _;rw[rH,Zr,gR,Xb,YC,Yt];refine and_congr Xp ?_;rw[Xn,Y0,ne_eq,zcF h0 hF];constructor
 ·intro h
  by_cases hx: ∃f∈F,f.testBit k=false
  ·exact hx
  ·exact absurd (fun f hf=>by cases q:f.testBit k with|true=>rfl|false=>exact absurd ⟨f,hf,q⟩ hx) h
 ·rintro⟨f,hf,h1⟩ h
  rw[h f hf] at h1;cases h1
def conflP (v:Vw):List Nat:=((List.range 64).filter fun k=>v.never.testBit k).map (fun k=>1<<<k)++(sE v.doubt 256 v.doubt).filter (vT v.sets)
theorem zuP (F:List Nat):vT (wL F [])=vT F:=by
 have h:hitP (wL F [])=hitP F:=funext fun s=>by unfold hitP;exact zuM F _
 funext s;unfold vT;rw[h]
theorem bT {m:Nat} {F:List Nat} (hm:m<=8) (h0:F≠[]) (hF: ∀f∈F,f<2 ^ m) (s:Nat):s∈conflP (mB m F) ↔ s<2 ^ m/\vT F s=true:=by
 have h256:2 ^ m<=256:=(Ys (n:=2) (by decide) hm:2 ^ m<=2 ^ 8);have hd:=gS hF;unfold conflP;rw[Yo,ZH,znq _ (by omega),Yh,znr (by omega),show(mB m F).sets=wL F [] from rfl,zuP];have hb: ∀{k j:Nat},(1<<<k).testBit j=true ↔ k=j:=fun{k j}=>by rw[nZ,decide_eq_true_eq]
 constructor
 ·rintro(⟨k,hk,rfl⟩|⟨⟨hn,hs⟩,hc⟩)
  ·rw[Yh,zcF h0 hF] at hk
   obtain⟨f,hf⟩:=XD F h0;have hkm:k<m:=wV.1 (hF f hf) k (hk.2 f hf);have hlt:1<<<k<2 ^ m:=wV.2 fun j hj=>by rw[hb] at hj;omega
   refine⟨hlt,(gQ (by omega)).2 ⟨mA.2 fun f hf=>⟨k,hk.2 f hf,hb.2 rfl⟩,fun j hj=>?_⟩⟩;rw[hb] at hj;subst hj;rw[Y0];intro hh;obtain⟨f,hf⟩:=XD F h0;obtain⟨i,_,hi⟩:=mA.1 hh f hf;rw[rH] at hi;cases hx:(1<<<k).testBit i<;>simp[hx] at hi
  ·refine⟨wV.2 fun k hk=>wV.1 hd k (zns.1 hs k hk),hc⟩
 ·rintro⟨hs,hc⟩
  have hc2:=(gQ (by omega)).1 hc;by_cases hx: ∃k,s.testBit k=true/\ ∀f∈F,f.testBit k=true
  ·left
   obtain⟨k,hk,hall⟩:=hx;refine⟨k,?_,?_⟩
   ·rw[Yh,zcF h0 hF,Z2]
    exact⟨by have:=wV.1 hs k hk;omega,hall⟩
   ·apply Nat.eq_of_testBit_eq
    intro j;rw[nZ];by_cases hj:k=j
    ·subst hj;rw[hk];simp
    ·rw[decide_eq_false hj]
     cases q:s.testBit j with
     |false=>rfl
     |true=>
      exfalso;have:=hc2.2 j q;rw[Y0] at this;exact this (mA.2 fun f hf=>⟨k,hall f hf,by rw[rH,hk,nZ,decide_eq_false (fun e=>hj e.symm)];rfl⟩)
  ·right
   refine⟨⟨?_,zns.2 fun k hk=>?_⟩,hc⟩
   ·rintro rfl
    obtain⟨f,hf⟩:=XD F h0;obtain⟨k,_,h2⟩:=mA.1 hc2.1 f hf;rw[Xb] at h2;cases h2
   ·rw[zuO h0 hF]
    refine⟨?_,?_⟩
    ·by_cases hy: ∃f∈F,f.testBit k=true
     ·exact hy
     ·exfalso
      have:=hc2.2 k hk;rw[Y0] at this;refine this (mA.2 fun f hf=>?_);obtain⟨j,h1,h2⟩:=mA.1 hc2.1 f hf;refine⟨j,h1,?_⟩;rw[rH,h2,nZ];have:k≠j:=by rintro rfl;exact hy ⟨f,hf,h1⟩
      rw[decide_eq_false this];rfl
    ·by_cases hy: ∃f∈F,f.testBit k=false
     ·exact hy
     ·exact absurd ⟨k,hk,fun f hf=>by cases q:f.testBit k with|true=>rfl|false=>exact absurd ⟨f,hf,q⟩ hy⟩ hx
def vJ:List Nat->Nat->List Nat×Nat
 |[],i=>([],i)
 |s::l,i=>((vJ l i).2 % s::(vJ l i).1,(vJ l i).2/s)
def wF:List Nat->Nat
 |[]=>1
 |s::l=>s*wF l
theorem lJ: ∀{l:List Nat},(∀s∈l,0<s)->0<wF l
 |[],_=>Nat.one_pos
 |s::l,h=>Nat.mul_pos (h s (by simp)) (lJ fun x hx=>h x (Zy _ hx))
theorem bU: ∀(l:List Nat) (i:Nat),(vJ l i).2=i/wF l
 |[],i=>by simp[vJ,wF]
 |s::l,i=>by rw[vJ,bU l,wF,Nat.mul_comm,Nat.div_div_eq_div_mul]
theorem znt: ∀(l:List Nat) (i:Nat),(vJ l i).1.length=l.length
 |[],_=>rfl
 |s::l,i=>by rw[vJ,Zo,znt l,Zo]
def InR:List Nat->List Nat->Prop
 |[],[]=>True
 |s::l,d::ds=>d<s/\InR l ds
 |_,_=>False
theorem znu: ∀{l:List Nat} (i:Nat),(∀s∈l,0<s)->InR l (vJ l i).1
 |[],_,_=>trivial
 |s::l,i,h=>⟨XE _ (h s (by simp)),znu i fun x hx=>h x (Zy _ hx)⟩
theorem zcG: ∀{l ds:List Nat},(∀s∈l,0<s)->InR l ds-> ∃i,i<wF l/\(vJ l i).1=ds
 |[],[],_,_=>⟨0,Nat.one_pos,rfl⟩
 |s::l,d::ds,hp,h=>by
  obtain⟨i,hi,hd⟩:=zcG (fun x hx=>hp x (Zy _ hx)) h.2;have hl:=lJ (l:=l) fun x hx=>hp x (Zy _ hx)
  have key: ∀(l:List Nat) (i q:Nat),(∀s∈l,0<s)->(vJ l (q*wF l+i)).1=(vJ l i).1:=by
   intro l
   induction l with
   |nil=>intro i q _;rfl
   |cons s l ih=>
    intro i q hp;have hl:=lJ (l:=l) fun x hx=>hp x (Zy _ hx)
    rw[vJ,vJ,bU,bU,wF,<-XP,ih i (q*s) fun x hx=>hp x (Zy _ hx)];show _::_=_::_;rw[Y8 (q*s*wF l) i,Nat.add_mul_div_right _ _ hl,Nat.add_mul_mod_self_right]
  refine⟨d*wF l+i,?_,?_⟩
  ·rw[wF]
   have:=ZZ (wF l) h.1;rw[YL] at this;omega
  ·rw[vJ,key l i d (fun x hx=>hp x (Zy _ hx)),hd,bU,Y8,Nat.add_mul_div_right _ _ hl,Nat.div_eq_of_lt hi,ZY,XH h.1]
 |[],_::_,_,h=>h.elim
 |_::_,[],_,h=>h.elim
structure Strict {α:Type} (lt:α->α->Bool):Prop where
 irr: ∀a,lt a a=false
 tr: ∀a b c,lt a b=true->lt b c=true->lt a c=true
 tot: ∀a b,lt a b=false->lt b a=false->a=b
def insO {α:Type} (lt:α->α->Bool) (x:α):List α->List α
 |[]=>[x]
 |y::l=>if lt x y=true then x::y::l else y::insO lt x l
def sortO {α:Type} (lt:α->α->Bool):List α->List α
 |[]=>[]
 |x::l=>insO lt x (sortO lt l)
theorem zcH {α:Type} (lt:α->α->Bool) (x:α): ∀l,(insO lt x l).Perm (x::l)
 |[]=>XB _
 |y::l=>by
  rw[insO];split
  ·exact XB _
  ·exact((zcH lt x l).cons y).trans (List.Perm.swap x y l)
theorem vE {α:Type} (lt:α->α->Bool): ∀l,(sortO lt l).Perm l
 |[]=>XB _
 |x::l=>(zcH lt x _).trans ((vE lt l).cons x)
theorem znv {α:Type} {lt:α->α->Bool} (h:Strict lt) (x:α): ∀l:List α,l.Pairwise (fun a b=>lt b a=false)->(insO lt x l).Pairwise fun a b=>lt b a=false
 |[],_=>by simp[insO]
 |y::l,hl=>by
  rw[insO];have hc:=Xc.1 hl;split
  ·rename_i hxy
   refine Xc.2 ⟨fun z hz=>?_,hl⟩;cases q:lt z x with
   |false=>rfl
   |true=>
    exfalso;have h1:=h.tr _ _ _ q hxy;rcases ZJ.1 hz with rfl|hz
    ·rw[h.irr] at h1;cases h1
    ·rw[hc.1 z hz] at h1;cases h1
  ·rename_i hxy
   refine Xc.2 ⟨fun z hz=>?_,znv h x l hc.2⟩;rcases ZJ.1 ((zcH lt x l).mem_iff.1 hz) with rfl|hz
   ·simpa using hxy
   ·exact hc.1 z hz
theorem bV {α:Type} {lt:α->α->Bool} (h:Strict lt): ∀l:List α,(sortO lt l).Pairwise fun a b=>lt b a=false
 |[]=>Xx
 |x::l=>znv h x _ (bV h l)
theorem zcI {α:Type} {lt:α->α->Bool} (h:Strict lt): ∀{a b:List α},a.Perm b->a.Pairwise (fun x y=>lt y x=false)->b.Pairwise (fun x y=>lt y x=false)->a=b
 |[],b,hp,_,_=>(List.Perm.nil_eq hp)
 |x::a,[],hp,_,_=>absurd hp.length_eq (by simp)
 |x::a,y::b,hp,ha,hb=>by
  have h1:=Xc.1 ha;have h2:=Xc.1 hb;have e:x=y:=by
   rcases ZJ.1 (hp.mem_iff.1 (Yj)) with e|hx
   ·exact e
   rcases ZJ.1 (hp.mem_iff.2 (Yj)) with e|hy
   ·exact e.symm
   exact h.tot _ _ (h2.1 x hx) (h1.1 y hy)
  subst e;rw[zcI h ((List.perm_cons x).1 hp) h1.2 h2.2]
theorem jM {α:Type} {lt:α->α->Bool} (h:Strict lt) {a b:List α} (hp:b.Perm a) (hb:b.Pairwise fun x y=>lt y x=false):b=sortO lt a:=
 zcI h (hp.trans (vE lt a).symm) hb (bV h a)
def sQ:List Nat->List Nat->Bool
 |a::x,b::y=>if a=b then sQ x y else decide (a<b)
 |[],_::_=>true
 |_,[]=>false
def ltC (a b:List Nat):Bool:=if a.length=b.length then sQ a b else decide (a.length<b.length)
theorem znw: ∀a,sQ a a=false
 |[]=>rfl
 |a::x=>by rw[sQ,if_pos rfl,znw x]
theorem znx: ∀a b c,sQ a b=true->sQ b c=true->sQ a c=true
 |[],[],_,h,_=>by cases h
 |[],_::_,[],_,h=>by cases h
 |[],_::_,_::_,_,_=>rfl
 |_::_,[],_,h,_=>by cases h
 |_::_,_::_,[],_,h=>by cases h
 |a::x,b::y,c::z,h1,h2=>by
  rw[sQ] at h1 h2⊢;split at h1
  ·rename_i e1;subst e1
   split at h2
   ·rename_i e2;subst e2;rw[if_pos rfl];exact znx x y z h1 h2
   ·rename_i e2;rw[if_neg e2];exact h2
  ·rename_i e1
   rw[decide_eq_true_eq] at h1;split at h2
   ·rename_i e2;subst e2;rw[if_neg e1,decide_eq_true_eq];exact h1
   ·rename_i e2
    rw[decide_eq_true_eq] at h2;rw[if_neg (by omega),decide_eq_true_eq];omega
theorem zny: ∀a b,sQ a b=false->sQ b a=false->a=b
 |[],[],_,_=>rfl
 |[],_::_,h,_=>by cases h
 |_::_,[],_,h=>by cases h
 |a::x,b::y,h1,h2=>by
  rw[sQ] at h1 h2;by_cases e:a=b
  ·subst e
   rw[if_pos rfl] at h1 h2;rw[zny x y h1 h2]
  ·rw[if_neg e,decide_eq_false_iff_not] at h1
   rw[if_neg (fun h=>e h.symm),decide_eq_false_iff_not] at h2;omega
theorem jN:Strict ltC where
 irr a:=by unfold ltC;rw[if_pos rfl,znw]
 tr a b c h1 h2:=by
  unfold ltC at*
  split at h1
  ·rename_i e1
   split at h2
   ·rename_i e2;rw[if_pos (e1.trans e2)];exact znx _ _ _ h1 h2
   ·rename_i e2;rw[if_neg (by rw[e1];exact e2),e1];exact h2
  ·rename_i e1
   rw[decide_eq_true_eq] at h1;split at h2
   ·rename_i e2;rw[if_neg (by rw[<-e2];exact e1),decide_eq_true_eq,<-e2];exact h1
   ·rename_i e2
    rw[decide_eq_true_eq] at h2;rw[if_neg (by omega),decide_eq_true_eq];omega
 tot a b h1 h2:=by
  unfold ltC at*
  by_cases e:a.length=b.length
  ·rw[if_pos e] at h1;rw[if_pos e.symm] at h2;exact zny _ _ h1 h2
  ·rw[if_neg e,decide_eq_false_iff_not] at h1
   rw[if_neg (fun h=>e h.symm),decide_eq_false_iff_not] at h2;omega
end Go.Ex
namespace Go.Ex
open Go.Lib Go.Wd Go.Wire Go.Abs
def agreesP (d f e g:Txt) (l:List Pln):Bool:=
 if kindP l d=true then if kindP l e=true then
  (fldsF d f l []).2&&((fldsF e g l []).2&& !((fldsF d f l []).1++(fldsF e g l []).1).any fun s=> !decide (s=(fldsF d f l []).1.headD []))
 else true else true
def sF (m:Dmd) (l:List Pln):Bool:=
 if m.op=0 then kindP l m.doc else if m.op=1 then readsP m.doc m.fld m.txt l else if m.op=2 then limP m.doc m.fld m.lo m.hi false l
 else if m.op=3 then agreesP m.doc m.fld m.oth m.sec l else if m.op=4 then limP m.doc m.fld m.lo m.hi true l else false
def wM:Dmd:=⟨0,[],[],[],[],[],0,0⟩
def uD (L:List Dmd) (p:List Pln):List Nat:=(List.range L.length).filter fun i=> !sF (L.getD i wM) p
theorem zcJ {L:List Dmd} {p:List Pln} {k:Nat}:k∈uD L p ↔ k<L.length/\sF (L.getD k wM) p=false:=by
 unfold uD;rw[Yh,Z2];simp
def uE (l:List Nat):Nat:=l.foldl (fun s k=>s|||(1<<<k)) 0
theorem znz: ∀(l:List Nat) (a j:Nat),(l.foldl (fun s k=>s|||(1<<<k)) a).testBit j=(a.testBit j||decide (j∈l))
 |[],a,j=>by simp
 |k::l,a,j=>by
  rw[YU,znz l,Nat.testBit_or,nZ,Bool.or_assoc];congr 1;rw[Yw,Yp,decide_eq_true_eq,decide_eq_true_eq,decide_eq_true_eq,ZJ];exact or_congr eq_comm Xp
theorem zcK (l:List Nat) (j:Nat):(uE l).testBit j=decide (j∈l):=by unfold uE;rw[znz,Xb,YC]
theorem bZ {l:List Nat} {m:Nat} (h: ∀k∈l,k<m):uE l<2 ^ m:=wV.2 fun k hk=>by rw[zcK,decide_eq_true_eq] at hk;exact h k hk
def vC:List Fld->Nat->List Txt×Nat
 |[],i=>([],i)
 |f::l,i=>(textF f ((vC l i).2 % zX f)::(vC l i).1,(vC l i).2/zX f)
def rdD (d:Dcm) (i:Nat):Pln:=⟨d.kind,d.flds.map Fld.name,(vC d.flds i).1⟩
def wN:List Dcm->List Nat->Nat->List Pln×Nat
 |d::l,c::cs,i=>(rdD d ((wN l cs i).2 % c)::(wN l cs i).1,(wN l cs i).2/c)
 |_,_,i=>([],i)
def tE (D:List Dcm):List Nat:=(cnts D).1.map Int.toNat
def rdsD (D:List Dcm) (i:Nat):List Pln:=(wN D (tE D) i).1
def yF (D:List Dcm):Nat:=(cnts D).2.1.toNat
def yT (L:List Dmd) (D:List Dcm):List Nat:=(List.range (yF D)).map fun i=>uE (uD L (rdsD D i))
theorem rI (L:List Dmd) (D:List Dcm): ∀f∈yT L D,f<2 ^ L.length:=by
 intro f hf;obtain⟨i,_,rfl⟩:=ZH.1 hf;exact bZ fun k hk=>(zcJ.1 hk).1
def viewD (L:List Dmd) (D:List Dcm):Vw:=mB L.length (yT L D)
def wW (a b:Plc):Bool:=if a.doc=b.doc then decide (a.fld<b.fld) else decide (a.doc<b.doc)
theorem aA:Strict wW where
 irr a:=by unfold wW;rw[if_pos rfl,decide_eq_false_iff_not];omega
 tr a b c h1 h2:=by
  unfold wW at*
  split at h1<;>split at h2<;>rw[decide_eq_true_eq] at h1 h2
  ·rw[if_pos (by omega),decide_eq_true_eq];omega
  ·rw[if_neg (by omega),decide_eq_true_eq];omega
  ·rw[if_neg (by omega),decide_eq_true_eq];omega
  ·rw[if_neg (by omega),decide_eq_true_eq];omega
 tot a b h1 h2:=by
  obtain⟨a1,a2⟩:=a;obtain⟨b1,b2⟩:=b;unfold wW at*
  simp only[] at*
  by_cases e:a1=b1
  ·rw[if_pos e,decide_eq_false_iff_not] at h1
   rw[if_pos e.symm,decide_eq_false_iff_not] at h2;rw[e,show a2=b2 by omega]
  ·rw[if_neg e,decide_eq_false_iff_not] at h1
   rw[if_neg (fun h=>e h.symm),decide_eq_false_iff_not] at h2;omega
def gT (m:Dmd) (p:Pln) (k:Nat):Bool:=
 (decide (fstN (fun x=>decide (p.names.getD k []=x)) p.names 0=(k:Int))&&decide (k<p.texts.length))&&
  ((decide (p.kind=m.doc)&&decide (p.names.getD k []=m.fld))||(decide (m.op=3)&&(decide (p.kind=m.oth)&&decide (p.names.getD k []=m.sec))))
def oN (m:Dmd) (p:Pln) (i:Nat):List Plc:=((List.range p.names.length).filter (gT m p)).map fun(k:Nat)=>⟨(i:Int),(k:Int)⟩
def uT (m:Dmd):List Pln->Nat->List Plc
 |[],_=>[]
 |p::l,i=>oN m p i++uT m l (i+1)
def looksP (m:Dmd) (l:List Pln):List Plc:=if m.op<=0\/m.op>=5 then[] else uT m l 0
def uL:List Plc->List Plc
 |[]=>[]
 |[a]=>[a]
 |a::b::l=>if a=b then uL (b::l) else a::uL (b::l)
def wO (L:List Dmd) (which:List Nat) (l:List Pln):List Plc:=uL (sortO wW (which.map fun k=>looksP (L.getD k wM) l).flatten)
def aB (L:List Dmd) (v:Vw) (p:List Pln):List Flw:=
 ((sortO ltC ((conflP v).map bitsN)).map fun c=>⟨c.map fun(k:Nat)=>(k:Int),wO L c p,true⟩)++(bitsN v.doubt).map fun k=>⟨[(k:Int)],wO L [k] p,false⟩
def zcL (L:List Dmd) (D:List Dcm):List Flw:=aB L (viewD L D) (rdsD D 0)
def stateV (v:Vw):Int:=if 0∈v.sets then(if v.sets.length=1 then 1 else 2) else 0
end Go.Ex
namespace Go.Abs
open Go.Proofs Go.RowKit Go.Lib Go.Wd Go.Wire Go.Ex
theorem zuR (l0:List Txt) (h0:0<l0.length) (hl:l0.length<=1000000) (s:Txt):Spec Tryz.prog 330 [.str s,.k (.c (.ro [zB 1 (zF l0)] 0))] (fun v=>v=.bool (!decide (s=l0.headD []))):=by
 refine Spec.of_awlS hf330 okf330 (by simp) fun S hS=>?_
 have e:l0.headD []=l0[0]:=by cases l0 with|nil=>cases h0|cons a l=>rfl
 have c1:(0:Int)<l0.length:=by omega
 rw[e] at hS;have hat:=uI h0;simp only[c1,zS,hat,Qs,Zc,Za,YQ,zsV];refine wR hS ?_;simp
end Go.Abs
namespace Go.Proofs
open Go.RowKit Go.Abs Go.Wd Go.Wire Go.Ex
theorem zuS (w:World) (base g1 n1 c1 g2 n2 c2:Nat) (xs ys:List Value) (hx:w.ownsRow base 9 1 (.slice (some ⟨g1,0,none⟩) n1 c1) n1 xs) (hb:base<=w.heap.size) (hy:ys.length=n2) (hyc: ∀j u,ys[j]?=some u->w.cell? ⟨g2,j,none⟩=some u) (h1: ∀u∈ys,u.oneCell'=true)
  (hn:n1+n2<=4000000):
  ∃g' cap' w',(Builtin.append_ #[35,35] 35 #[.slice (some ⟨g1,0,none⟩) n1 c1,.slice (some ⟨g2,0,none⟩) n2 c2]).run Tryz.prog w=.ok (.slice (some ⟨g',0,none⟩) (n1+n2) cap') w'/\n1+n2<=cap'/\cap'<=maxLen/\Below base w w'/\(∀k,k<w.heap.size->k≠g1->w'.heap[k]?=w.heap[k]?)/\
   (∀j u,(xs++ys)[j]?=some u->w'.cell? ⟨g',j,none⟩=some u)/\(∀j u,xs[j]?=some u->w'.cell? ⟨g1,j,none⟩=some u):=by
 obtain⟨i0,hi,hz0,hz1,hz2⟩:=info_parts (show(Tryz.prog.info? 9).map (fun i=>(i.zero,i.size,i.bytes))=some (some (.string ⟨#[]⟩),1,16) by kernel_rfl);rcases hx with⟨hxl,⟨hc,_⟩|⟨g,cap,cur,hv,hg,hh,h5,h6,h7,h8⟩⟩
 ·cases hc
 obtain⟨rfl,rfl⟩:g1=g/\c1=cap:=by cases hv;exact⟨rfl,rfl⟩
 have hS:Src Tryz.prog i0.size 35 (.slice (some ⟨g2,0,none⟩) n2 c2) n2 ys w:=Src.ofSlice w (e':=9) (by kernel_rfl) ⟨g2,0,none⟩ n2 c2 ys (by rw[hz1,hy];omega) (fun j u hu=>by rw[qQ,ZY];exact hyc j u hu) h1;have hgs:g1<w.heap.size:=(Zs.1 hh).1;have hxs:xs.length=n1:=by omega
 have hcell: ∀j u,xs[j]?=some u->cur[j]?=some u:=fun j u hu=>by
  rw[<-h8,Z6] at hu;split at hu
  ·rwa [Yu] at hu
  ·cases hu
 have cell_of: ∀(W:World) (b:Nat) (cr:Array Value) (j:Nat) (u:Value),W.heap[b]?=some (.cells cr 9 (0,0))->cr[j]?=some u->W.cell? ⟨b,j,none⟩=some u:=fun W b cr j u h k=>by
  simp only[World.cell?,h];simpa using k
 by_cases hroom:n1+n2<=c1
 ·have hrun:=run_append_room_row (P:=Tryz.prog) (w:=w) 35 35 35 9 i0 (by kernel_rfl) hi g1 n1 c1 cur hh (.slice (some ⟨g2,0,none⟩) n2 c2) n2 ys hS hroom (by rw[hz1];exact h7)
  rw[hz1,Yv] at hrun;have hcut:cur.toList.take n1=xs:=by rw[<-h8,Yv]
  rw[hcut] at hrun;have hcx: ∀j u,(xs++ys)[j]?=some u->(xs++ys++cur.toList.drop (n1+ys.length)).toArray[j]?=some u:=fun j u hu=>by
   have hlt:j<(xs++ys).length:=(Zu.1 hu).1;rw[Y3,ZL hlt,hu]
  generalize (xs++ys++cur.toList.drop (n1+ys.length)).toArray=cur2 at hrun hcx;have hnew:=setRow_heap w g1 cur cur2 9 (0,0) hh;refine⟨g1,c1,_,hrun,hroom,h6,?_,fun k _ hk=>setRow_other w g1 k cur2 hk,fun j u hu=>cell_of _ _ _ _ _ hnew (hcx j u hu),fun j u hu=>cell_of _ _ _ _ _ hnew (hcx j u ?_)⟩
  ·exact⟨rfl,rfl,rfl,by simp,fun k hk=>setRow_other w g1 k cur2 (by omega)⟩
  ·rw[ZL (Zu.1 hu).1,hu]
 ·have hold:(Builtin.firstCells i0.size n1 (.slice (some ⟨g1,0,none⟩) n1 c1)).run Tryz.prog w.drew=.ok xs.toArray w.drew:=by
   rw[hz1];refine run_firstCells_some w.drew 1 n1 ⟨g1,0,none⟩ n1 c1 xs (by omega) fun j u hu=>?_
   rw[qQ,ZY];exact cell_of w g1 cur j u hh (hcell j u hu)
  have hfit:Builtin.nextslicecap (n1+n2) c1*i0.bytes<=281474976710656:=growslice_fits (by omega) (by rw[hz2];omega);have hrun:=run_append_grow_src (P:=Tryz.prog) w 35 35 35 9 i0 (.string ⟨#[]⟩) (by kernel_rfl) hi hz0 (some ⟨g1,0,none⟩) n1 c1 xs hold (.slice (some ⟨g2,0,none⟩) n2 c2) n2 ys hS (by omega) (by omega) hfit;have hge:=grownCap_ge w (n1+n2) c1 9;have hlm:=grownCap_le_maxLen w (n1+n2) c1 9 (by simp only[maxLen];omega);generalize grownCap w (n1+n2) c1 9=cp at hrun hge hlm;have hcx: ∀j u,(xs++ys)[j]?=some u->((xs++ys).toArray++Builtin.zeroCells (Value.string ⟨#[]⟩).cells (cp-(n1+n2)))[j]?=some u:=fun j u hu=>by
   have hlt:j<(xs++ys).length:=(Zu.1 hu).1;rw[Y2 (by simpa using hlt),Y3,hu]
  generalize ((xs++ys).toArray++Builtin.zeroCells (Value.string ⟨#[]⟩).cells (cp-(n1+n2)))=cur2 at hrun hcx;have hnew:(w.drew.alloc (.cells cur2 9)).heap[w.heap.size]?=some (.cells cur2 9 (0,0)):=World.alloc_heap_new w.drew _;refine⟨w.heap.size,cp,_,hrun,hge,hlm,?_,fun k hk _=>Below.heap_alloc w.drew _ k hk,fun j u hu=>cell_of _ _ _ _ _ hnew (hcx j u hu),fun j u hu=>?_⟩
  ·exact((Below.refl base w).drew).alloc hb _
  ·have hw:(w.drew.alloc (.cells cur2 9)).heap[g1]?=some (.cells cur 9 (0,0)):=(Below.heap_alloc w.drew _ g1 hgs).trans hh
   exact cell_of _ _ _ _ _ hw (hcell j u hu)
theorem zuT {W W':World} (hb:Below W.heap.size W W'):W.grownBy W' none:=⟨hb.os,hb.tape,hb.output,hb.size,fun k hk _=>hb.block k hk⟩
theorem zuU (L:List Txt) (j:Nat):(L.map tV)[j]?=(L[j]?).map tV:=Zz ..
theorem zuV (L:List Txt):((zF L).flatten.map vO)=L.map tV:=by
 induction L with
 |nil=>rfl
 |cons a L ih=>simp only[zF,Zk,Yy,ZS] at ih⊢;rw[ih];rfl
theorem strs_prep {w:World} {L:List Txt} (h0:0<L.length) {g o cap:Nat} (hg:g<w.heap.size) (h1:L.length<=cap) (h2:cap<=maxLen) (hc: ∀j u,(L.map tV)[j]?=some u->w.cell? ⟨g,o+j,none⟩=some u):
  PRep w (zV w) (zB 1 (zF L)) (.slice (some ⟨g,o,none⟩) L.length cap):=by
 have e:zB 1 (zF L)=.list 1 none (zF L):=by
  unfold zB;rw[if_neg];cases L with|nil=>cases h0|cons a L=>simp[zF]
 have e2:L.length=(zF L).length:=(zS L).symm;rw[e,e2];have hat: ∀(i j:Nat) r c,(zF L)[i]?=some r->r[j]?=some c->j=0/\ ∃s,L[i]?=some s/\c=.str s:=fun i j r c hr hc=>by
  rw[zF,Zz] at hr;cases hs:L[i]? with
  |none=>rw[hs] at hr;cases hr
  |some s=>
   rw[hs] at hr;cases hr;cases j with
   |zero=>cases hc;exact⟨rfl,s,rfl,rfl⟩
   |succ j=>simp at hc
 refine .list g o cap 1 none (zF L) (fun i _=>tV (L.getD i [])) (by simp) (by rw[zS];exact h1) h2 (fun _=>hg) (fun r hr=>by obtain⟨s,_,rfl⟩:=ZH.1 hr;rfl) (fun i j r c hr hcj=>?_) fun i j r c hr hcj=>?_
 ·obtain⟨rfl,s,hs,rfl⟩:=hat i j r c hr hcj
  rw[Yv,Yf];exact hc i _ (by rw[zuU,hs];simp[List.getD,hs])
 ·obtain⟨rfl,s,hs,rfl⟩:=hat i j r c hr hcj
  have:L.getD i []=s:=by simp[List.getD,hs]
  rw[this];exact .str s
theorem znB {W:World} {b0:Nat} {v:Value} {L:List Txt} (h:W.ownsRow b0 9 1 v (zF L).length ((zF L).flatten.map vO)) (h0:0<L.length):
  ∃g cap,v=.slice (some ⟨g,0,none⟩) L.length cap/\b0<=g/\L.length<=cap/\cap<=maxLen/\W.ownsRow b0 9 1 (.slice (some ⟨g,0,none⟩) L.length cap) L.length (L.map tV)/\ ∀j u,(L.map tV)[j]?=some u->W.cell? ⟨g,j,none⟩=some u:=by
 rw[zS,zuV] at h;have h2:=h;rcases h with⟨_,⟨_,h3⟩|⟨g,cap,cur,rfl,hg,hh,h5,h6,h7,h8⟩⟩
 ·omega
 refine⟨g,cap,rfl,hg,h5,h6,h2,fun j u hu=>?_⟩;rw[<-h8,Z6] at hu;split at hu
 ·rw[Yu] at hu
  simp only[World.cell?,hh];simpa using hu
 ·cases hu
theorem aC (d f:Txt): ∀(l:List Pln) (acc:List Txt),(fldsF d f l acc).2=true->acc.length<=(fldsF d f l acc).1.length/\(kindP l d=true->acc.length<(fldsF d f l acc).1.length)
 |[],acc,_=>⟨Zw _,fun h=>by simp[kindP] at h⟩
 |p::l,acc,h=>by
  rw[fldsF] at h⊢;by_cases hk:p.kind=d
  ·rw[if_pos hk] at h⊢
   split at h
   ·cases h
   ·rename_i hj
    rw[if_neg hj];have:=aC d f l _ h;rw[Zq] at this;simp only[Zo,ZF] at this;exact⟨by omega,fun _=>by omega⟩
  ·rw[if_neg hk] at h⊢
   have:=aC d f l acc h;refine⟨this.1,fun hq=>this.2 ?_⟩;unfold kindP at hq⊢;rw[List.any_cons,decide_eq_false hk,YC] at hq;exact hq
theorem aD {W:World} {b0:Nat} {v:Value} {L:List Txt} (h:W.ownsRow b0 9 1 v (zF L).length ((zF L).flatten.map vO)): ∃p cap,v=.slice p L.length cap:=by
 rw[zS] at h;rcases h.2 with⟨rfl,h3⟩|⟨g,cap,cur,rfl,_⟩
 ·exact⟨none,0,by rw[h3]⟩
 ·exact⟨_,cap,rfl⟩
theorem pQ {W:World} {b t:Nat} {a0 a1 a2 a3:Value} (h:W.heap[b]?=some (.cells #[a0,a1,a2,a3] t (0,0))):
  W.cell? ⟨b,0,none⟩=some a0/\W.cell? ⟨b,1,none⟩=some a1/\W.cell? ⟨b,2,none⟩=some a2/\W.cell? ⟨b,3,none⟩=some a3:=by
 refine⟨?_,?_,?_,?_⟩<;>simp[World.cell?,h]
attribute [-go_sem] Builtin.append_
theorem zuW (L M:List Txt) (A:Bool) (hA:((L++M).any fun s=> !decide (s=L.headD []))=A) (hL0:0<L.length) (hlen:L.length+M.length<=3000000) (hLl:L.length<=1000000) (W:World) (hG:yN (base W)) (bx g3 cap3 g5 cap5:Nat) (hbx:W.heap[bx]?=some (.cells #[Value.slice (some ⟨g3,0,none⟩) L.length cap3] 35 (0,0)))
  (hc3:L.length<=cap3) (hm3:cap3<=maxLen) (hc5:L.length+M.length<=cap5) (hm5:cap5<=maxLen) (hcx: ∀j u,(L.map tV++M.map tV)[j]?=some u->W.cell? ⟨g5,j,none⟩=some u) (hcl: ∀j u,(L.map tV)[j]?=some u->W.cell? ⟨g3,j,none⟩=some u):
  Calls Tryz.prog 121 #[.slice (some ⟨g5,0,none⟩) (L.length+M.length) cap5,.func (.func 330) #[] #[.pointer (some ⟨bx,0,none⟩)]] W fun ex W'=>ex=.returned (.bool A)/\Below W.heap.size W W':=by
 subst hA;have hcon:=zm7 (c:=.ro [zB 1 (zF L)] 0) (by simp only[C.norm,C.normRow,zM,xR]) (L++M) (fun s _=>zuR L hL0 hLl s) (by rw[Zq];exact hlen);have hb3:=World.block_lt_of_cell? _ _ (hcl 0 (tV L[0]) (by rw[Zz,Zf hL0];rfl));have hb5:=World.block_lt_of_cell? _ _ (hcx 0 (tV L[0]) (by rw[ZL (by simpa using hL0),Zz,Zf hL0];rfl));have hbl:=(Zs.1 hbx).1;have e:L.length+M.length=(L++M).length:=by simp
 have hP1:PRep W (zV W) (zB 1 (zF (L++M))) (.slice (some ⟨g5,0,none⟩) (L++M).length cap5):=strs_prep (by rw[<-e];omega) hb5 (by rw[<-e];exact hc5) hm5 fun j u hu=>by rw[ZY];exact hcx j u (by rw[<-ZS];exact hu)
 have hP2:PRep W (zV W) (zB 1 (zF L)) (.slice (some ⟨g3,0,none⟩) L.length cap3):=strs_prep hL0 hb3 hc3 hm3 fun j u hu=>by rw[ZY];exact hcl j u hu
 have hP3:PRep W (zV W) (.ro [zB 1 (zF L)] 0) (.pointer (some ⟨bx,0,none⟩)):=.ro bx _ 0 (fun _=> .slice (some ⟨g3,0,none⟩) L.length cap3) hbl (fun j c hc=>by
  cases j with
  |zero=>simp[World.cell?,hbx]
  |succ j=>simp at hc) fun j c hc=>by
  cases j with
  |zero=>cases hc;exact hP2
  |succ j=>simp at hc
 have hP4:PRep W (zV W) (.fn 330 [.ro [zB 1 (zF L)] 0]) (.func (.func 330) #[] #[.pointer (some ⟨bx,0,none⟩)]):=.fn 330 _ _ (fun _=> .pointer (some ⟨bx,0,none⟩)) rfl (fun j c hc=>by
  cases j with
  |zero=>rfl
  |succ j=>simp at hc) fun j c hc=>by
  cases j with
  |zero=>cases hc;exact hP3
  |succ j=>simp at hc
 rw[e];exact hcon.boolC hG (Z:=zV W) (fun _ h=>h) (wS hP1 (wS hP4 (yY _ _)))
theorem zuX (d f e g:Txt) (l:List Pln) (hl:tA l) (w:World) (hG:yN (base w)) (v2:Value) (hv:PRep w (zV w) (zB 3 (l.map xT)) v2):
  Calls Tryz.prog 327 #[.agg #[tV d,tV f,tV e,tV g],v2] w fun ex w'=>ex=.returned (.bool (agreesP d f e g l))/\Below w.heap.size w w':=by
 have k207: ∀s W,Below w.heap.size w W->Calls Tryz.prog 312 #[v2,tV s] W fun ex W'=>ex=.returned (.bool (kindP l s))/\Below W.heap.size W W':=fun s W hb=>
  (zm5 s l hl.1).boolC (hG.later (xM hb)) (Z:=zV W) (fun _ h=>h) (wS (sC hv hb) (wS (.str _) (yY _ _)))
 have k215: ∀d f W,Below w.heap.size w W->Calls Tryz.prog 320 #[v2,.agg #[tV d,tV f]] W fun ex W'=> ∃v,ex=.returned (.tuple #[v,.bool (fldsF d f l []).2])/\Below W.heap.size W W'/\W'.ownsRow W.heap.size 9 1 v (zF (fldsF d f l []).1).length ((zF (fldsF d f l []).1).flatten.map vO):=fun d f W hb=>
  (zuA d f l hl).newB (fun r hr c hc=>by obtain⟨s,_,rfl⟩:=ZH.1 hr;rw[ZT.1 hc];rfl) (fun r hr=>by obtain⟨s,_,rfl⟩:=ZH.1 hr;rfl) (hG.later (xM hb)) (Z:=zV W) (fun _ h=>h) (wS (sC hv hb) (sD (r:=[.str d,.str f]) (by simp[C.sc]) (yY _ _)))
 have hB0: ∀o,Below w.heap.size w (w.alloc o):=fun o=>(Below.refl _ w).alloc (Zw _) _
 have a207d:=k207 d;have a207e:=k207 e;have a215d:=k215 d f;have a215e:=k215 e g;have hvo:=hv.oneCell;have hp1:=fun h=>aC d f l [] h
 have hp2:=fun h=>aC e g l [] h
 have hR:agreesP d f e g l=agreesP d f e g l:=rfl
 conv at hR=>rhs;unfold agreesP
 generalize agreesP d f e g l=R at hR⊢;generalize kindP l d=b1 at a207d hR hp1;generalize kindP l e=b2 at a207e hR hp2;clear k207 k215;unfold tV at*
 cases b1 with
 |false=>
  rw[if_neg (by simp)] at hR;subst hR
  go_enter Tryz.func327,Tryz.ntmps327
  go_wp2_with (go_at_call 312;refine(a207d _ (hB0 _)).mono ?_;rintro ex w1 ⟨rfl,hb1⟩)
  go_ret
  exact⟨rfl,(hB0 _).trans (hb1.mono (hB0 _).size)⟩
 |true=>
  rw[if_pos rfl] at hR;cases b2 with
  |false=>
   rw[if_neg (by simp)] at hR;subst hR
   go_enter Tryz.func327,Tryz.ntmps327
   go_wp2_with (first|(go_at_call 312;refine(a207e _ hB1).mono ?_;rintro ex w2 ⟨rfl,hb2⟩)|(go_at_call 312;refine(a207d _ (hB0 _)).mono ?_;rintro ex w1 ⟨rfl,hb1⟩;have hB1:=(hB0 (.cells #[Value.string ⟨d.toArray⟩,Value.string ⟨f.toArray⟩,Value.string ⟨e.toArray⟩,Value.string ⟨g.toArray⟩] 270)).trans (hb1.mono (hB0 (.cells #[Value.string ⟨d.toArray⟩,Value.string ⟨f.toArray⟩,Value.string ⟨e.toArray⟩,Value.string ⟨g.toArray⟩] 270)).size);have hx1:=(hb1.block w.heap.size (by simp)).trans (World.alloc_heap_new w (.cells #[Value.string ⟨d.toArray⟩,Value.string ⟨f.toArray⟩,Value.string ⟨e.toArray⟩,Value.string ⟨g.toArray⟩] 270));obtain⟨q0,q1,q2,q3⟩:=pQ hx1))
   go_ret
   exact⟨rfl,hB1.trans (hb2.mono hB1.size)⟩
  |true=>
   rw[if_pos rfl] at hR;have n1:=jK d f l [];have n2:=jK e g l [];have hl1:=hl.1;generalize (fldsF d f l [])=r1 at a215d hR n1 hp1;generalize (fldsF e g l [])=r2 at a215e hR n2 hp2;obtain⟨L,x1⟩:=r1;obtain⟨M,x2⟩:=r2;simp only[ZF,ZY] at a215d a215e hR n1 n2 hp1 hp2;have hx12:x1=true/\x2=true\/(x1&&x2)=false:=by cases x1<;>cases x2<;>simp
   rcases hx12 with⟨rfl,rfl⟩|hx12
   ·have hL0:0<L.length:=(hp1 rfl).2 trivial
    have hM0:0<M.length:=(hp2 rfl).2 trivial;rw[ZU,ZU] at hR;obtain⟨A,hA⟩: ∃A,Aside (((L++M).any fun s=> !decide (s=L.headD []))=A):=⟨_,rfl⟩;rw[hA.out] at hR;subst hR;clear hp1 hp2
    go_enter Tryz.func327,Tryz.ntmps327
    go_wp2_with (first|(go_at_call 121;refine(zuW L M A hA.out hL0 (by omega) (by omega) w5 (hG.later (xM (hB4.trans (hB5.mono hB2.size)))) w3.heap.size g3 cap3 g5 cap5 ((hoth w3.heap.size (Zs.1 hbx).1 (Nat.ne_of_gt hgl3)).trans hbx) hc3 hm3 hq5 hq6 hcx hcl).mono ?_;rintro ex w6 ⟨rfl,hb6⟩)|(go_at_call 320;refine(a215e _ hB3).mono ?_;rintro ex w4 ⟨v4,rfl,hb4,ho4⟩;have hB4:=hB3.trans (hb4.mono hB3.size);obtain⟨g4,cap4,rfl,hg4,hc4,hm4,ho4',hcl4⟩:=znB ho4 hM0;have hbx:w4.heap[w3.heap.size]?=some (.cells #[Value.slice (some ⟨g3,0,none⟩) L.length cap3] 35 (0,0)):=(hb4.block w3.heap.size (by simp)).trans (World.alloc_heap_new w3 _);have hbc:w4.cell? ⟨w3.heap.size,0,none⟩=some (.slice (some ⟨g3,0,none⟩) L.length cap3):=(by simp[World.cell?,hbx]);obtain⟨g5,cap5,w5,hrun,hq5,hq6,hB5,hoth,hcx,hcl⟩:=zuS w4 w2.heap.size g3 L.length cap3 g4 M.length cap4 (L.map tV) (M.map tV) ((ho3'.kept (World.grownBy_alloc w3 (.cells #[Value.slice (some ⟨g3,0,none⟩) L.length cap3] 35) none) (Classical.em _)).kept (zuT hb4) (Classical.em _)) (ZX hb3.size (ZX (by simp) hb4.size)) (by simp) hcl4 (by intro u hu;obtain⟨s,_,rfl⟩:=ZH.1 hu;rfl) (by omega))|(go_at_call 320;refine(a215d _ hB2).mono ?_;rintro ex w3 ⟨v3,rfl,hb3,ho3⟩;obtain⟨g3,cap3,rfl,hg3,hc3,hm3,ho3',hcl3⟩:=znB ho3 hL0;have hgl3:g3<w3.heap.size:=World.block_lt_of_cell? _ _ (hcl3 0 (tV L[0]) (by rw[Zz,Zf hL0];rfl));have hB3:=(hB2.trans (hb3.mono hB2.size)).alloc (hB2.trans (hb3.mono hB2.size)).size (.cells #[Value.slice (some ⟨g3,0,none⟩) L.length cap3] 35);have hx3:=(Below.heap_alloc w3 (.cells #[Value.slice (some ⟨g3,0,none⟩) L.length cap3] 35) w.heap.size (ZO (Zs.1 hx2).1 hb3.size)).trans ((hb3.block w.heap.size (Zs.1 hx2).1).trans hx2);obtain⟨s0,s1,s2,s3⟩:=pQ hx3)|(go_at_call 312;refine(a207e _ hB1).mono ?_;rintro ex w2 ⟨rfl,hb2⟩;have hB2:=hB1.trans (hb2.mono hB1.size);have hx2:=(hb2.block w.heap.size (Zs.1 hx1).1).trans hx1;obtain⟨r0,r1,r2,r3⟩:=pQ hx2)|(go_at_call 312;refine(a207d _ (hB0 _)).mono ?_;rintro ex w1 ⟨rfl,hb1⟩;have hB1:=(hB0 (.cells #[Value.string ⟨d.toArray⟩,Value.string ⟨f.toArray⟩,Value.string ⟨e.toArray⟩,Value.string ⟨g.toArray⟩] 270)).trans (hb1.mono (hB0 (.cells #[Value.string ⟨d.toArray⟩,Value.string ⟨f.toArray⟩,Value.string ⟨e.toArray⟩,Value.string ⟨g.toArray⟩] 270)).size);have hx1:=(hb1.block w.heap.size (by simp)).trans (World.alloc_heap_new w (.cells #[Value.string ⟨d.toArray⟩,Value.string ⟨f.toArray⟩,Value.string ⟨e.toArray⟩,Value.string ⟨g.toArray⟩] 270));obtain⟨q0,q1,q2,q3⟩:=pQ hx1))
    go_ret
    exact⟨rfl,(hB4.trans (hB5.mono hB2.size)).trans (hb6.mono (hB4.trans (hB5.mono hB2.size)).size)⟩
   ·have hRf:R=false:=by rw[hR,<-Bool.and_assoc,hx12];rfl
    subst hRf;clear hR;cases x1 with
    |false=>
     go_enter Tryz.func327,Tryz.ntmps327
     go_wp2_with (first|(go_at_call 320;refine(a215e _ hB3).mono ?_;rintro ex w4 ⟨v4,rfl,hb4,ho4⟩;have hB4:=hB3.trans (hb4.mono hB3.size);obtain⟨p4,cap4,rfl⟩:=aD ho4)|(go_at_call 320;refine(a215d _ hB2).mono ?_;rintro ex w3 ⟨v3,rfl,hb3,ho3⟩;obtain⟨p3,cap3,rfl⟩:=aD ho3;have hB3:=(hB2.trans (hb3.mono hB2.size)).alloc (hB2.trans (hb3.mono hB2.size)).size (.cells #[Value.slice p3 L.length cap3] 35);have hx3:=(Below.heap_alloc w3 (.cells #[Value.slice p3 L.length cap3] 35) w.heap.size (ZO (Zs.1 hx2).1 hb3.size)).trans ((hb3.block w.heap.size (Zs.1 hx2).1).trans hx2);obtain⟨s0,s1,s2,s3⟩:=pQ hx3)|(go_at_call 312;refine(a207e _ hB1).mono ?_;rintro ex w2 ⟨rfl,hb2⟩;have hB2:=hB1.trans (hb2.mono hB1.size);have hx2:=(hb2.block w.heap.size (Zs.1 hx1).1).trans hx1;obtain⟨r0,r1,r2,r3⟩:=pQ hx2)|(go_at_call 312;refine(a207d _ (hB0 _)).mono ?_;rintro ex w1 ⟨rfl,hb1⟩;have hB1:=(hB0 (.cells #[Value.string ⟨d.toArray⟩,Value.string ⟨f.toArray⟩,Value.string ⟨e.toArray⟩,Value.string ⟨g.toArray⟩] 270)).trans (hb1.mono (hB0 (.cells #[Value.string ⟨d.toArray⟩,Value.string ⟨f.toArray⟩,Value.string ⟨e.toArray⟩,Value.string ⟨g.toArray⟩] 270)).size);have hx1:=(hb1.block w.heap.size (by simp)).trans (World.alloc_heap_new w (.cells #[Value.string ⟨d.toArray⟩,Value.string ⟨f.toArray⟩,Value.string ⟨e.toArray⟩,Value.string ⟨g.toArray⟩] 270));obtain⟨q0,q1,q2,q3⟩:=pQ hx1))
     go_ret
     exact⟨rfl,hB4⟩
    |true=>
     cases x2 with
     |true=>cases hx12
     |false=>
      go_enter Tryz.func327,Tryz.ntmps327
      go_wp2_with (first|(go_at_call 320;refine(a215e _ hB3).mono ?_;rintro ex w4 ⟨v4,rfl,hb4,ho4⟩;have hB4:=hB3.trans (hb4.mono hB3.size);obtain⟨p4,cap4,rfl⟩:=aD ho4)|(go_at_call 320;refine(a215d _ hB2).mono ?_;rintro ex w3 ⟨v3,rfl,hb3,ho3⟩;obtain⟨p3,cap3,rfl⟩:=aD ho3;have hB3:=(hB2.trans (hb3.mono hB2.size)).alloc (hB2.trans (hb3.mono hB2.size)).size (.cells #[Value.slice p3 L.length cap3] 35);have hx3:=(Below.heap_alloc w3 (.cells #[Value.slice p3 L.length cap3] 35) w.heap.size (ZO (Zs.1 hx2).1 hb3.size)).trans ((hb3.block w.heap.size (Zs.1 hx2).1).trans hx2);obtain⟨s0,s1,s2,s3⟩:=pQ hx3)|(go_at_call 312;refine(a207e _ hB1).mono ?_;rintro ex w2 ⟨rfl,hb2⟩;have hB2:=hB1.trans (hb2.mono hB1.size);have hx2:=(hb2.block w.heap.size (Zs.1 hx1).1).trans hx1;obtain⟨r0,r1,r2,r3⟩:=pQ hx2)|(go_at_call 312;refine(a207d _ (hB0 _)).mono ?_;rintro ex w1 ⟨rfl,hb1⟩;have hB1:=(hB0 (.cells #[Value.string ⟨d.toArray⟩,Value.string ⟨f.toArray⟩,Value.string ⟨e.toArray⟩,Value.string ⟨g.toArray⟩] 270)).trans (hb1.mono (hB0 (.cells #[Value.string ⟨d.toArray⟩,Value.string ⟨f.toArray⟩,Value.string ⟨e.toArray⟩,Value.string ⟨g.toArray⟩] 270)).size);have hx1:=(hb1.block w.heap.size (by simp)).trans (World.alloc_heap_new w (.cells #[Value.string ⟨d.toArray⟩,Value.string ⟨f.toArray⟩,Value.string ⟨e.toArray⟩,Value.string ⟨g.toArray⟩] 270));obtain⟨q0,q1,q2,q3⟩:=pQ hx1))
      go_ret
      exact⟨rfl,hB4⟩
end Go.Proofs
namespace Go.Ex
open Go.Lib Go.Wd Go.Wire Go.Abs
def zyR (fl:List Fld) (i:Nat) (pre:List Nat):Nat×(Nat->Txt):=
 pre.foldl (fun s k=>(s.1/zX (fl.getD k zY),fun j=>if j=k then textF (fl.getD k zY) (s.1 % zX (fl.getD k zY)) else s.2 j)) (i,fun _=>[])
theorem znC (fl:List Fld) (i:Nat) (pre:List Nat) (k:Nat):zyR fl i (pre++[k])=((zyR fl i pre).1/zX (fl.getD k zY),fun j=>if j=k then textF (fl.getD k zY) ((zyR fl i pre).1 % zX (fl.getD k zY)) else(zyR fl i pre).2 j):=by
 unfold zyR;rw[Xz];rfl
theorem zuY (fl:List Fld) (i:Nat) (pre:List Nat):(zyR fl i pre).1<=i:=by
 have key: ∀(pre:List Nat) (s:Nat×(Nat->Txt)),(pre.foldl (fun(s:Nat×(Nat->Txt)) k=>(s.1/zX (fl.getD k zY),fun j=>if j=k then textF (fl.getD k zY) (s.1 % zX (fl.getD k zY)) else s.2 j)) s).1<=s.1:=by
  intro pre
  induction pre with
  |nil=>intro s;exact Zw _
  |cons a l ih=>intro s;rw[YU];exact ZX (ih _) (Xv _ _)
 exact key pre _
theorem znD: ∀(l:List Fld) (i:Nat),(vC l i).1.length=l.length
 |[],_=>rfl
 |f::l,i=>by rw[vC,Zo,znD l,Zo]
theorem znE (fl:List Fld) (i:Nat): ∀k,k<=fl.length->(zyR fl i ((YF (fl.length-k) k).reverse)).1=(vC (fl.drop (fl.length-k)) i).2/\ ∀j,j<k->(zyR fl i ((YF (fl.length-k) k).reverse)).2 (fl.length-k+j)=(vC (fl.drop (fl.length-k)) i).1.getD j []
 |0,_=>by simp[zyR,vC]
 |k+1,hk=>by
  have h:=znE fl i k (by omega);have e:YF (fl.length-(k+1)) (k+1)=(fl.length-(k+1))::YF (fl.length-k) k:=by
   rw[Xo];congr 2;omega
  have hlt:fl.length-(k+1)<fl.length:=by omega
  have hd:fl.drop (fl.length-(k+1))=fl.getD (fl.length-(k+1)) zY::fl.drop (fl.length-k):=by
   rw[ZE hlt];simp only[List.getD,Zf hlt,YZ];congr 2;omega
  rw[e,List.reverse_cons,znC,hd,vC,h.1];refine⟨rfl,fun j hj=>?_⟩;cases j with
  |zero=>simp
  |succ j=>
   simp only[];rw[if_neg (by omega)];have:=h.2 j (by omega);rw[show fl.length-k+j=fl.length-(k+1)+(j+1) by omega] at this;rw[this];simp
end Go.Ex
namespace Go.Proofs
open Go.RowKit Go.Shelf Go.Abs Go.Wd Go.Wire Go.Ex
attribute [local go_sem] Oper.semAt_some
theorem zuZ (v:Value) (hv:v.oneCell'=true) (w:World):Calls Tryz.prog 245 #[v] w fun e w'=>e=.returned (.func (.func 266) #[] #[.pointer (some ⟨w.heap.size,0,none⟩)])/\w'=w.alloc (.cells #[v] 67):=by
 go_enter Tryz.func245,Tryz.ntmps245
 go_wp2
 go_ret
 exact⟨rfl,rfl⟩
structure FldAt (w:World) (fl:List Fld) (p:Option Addr) (b o:Nat) (fv:Nat->Value×Value):Prop where
 ad:0<fl.length->p=some ⟨b,o,none⟩/\b<w.heap.size
 cl: ∀k,k<fl.length->w.cell? ⟨b,o+k*2,none⟩=some (fv k).1/\w.cell? ⟨b,o+k*2+1,none⟩=some (fv k).2
 rp: ∀k,k<fl.length->yG w (zV w) (zP (fl.getD k zY)) [(fv k).1,(fv k).2]
 o1: ∀k,(fv k).1.oneCell'=true
 o2: ∀k,(fv k).2.oneCell'=true
theorem zcM {w:World} {Z:Bk->Prop} (hz: ∀b,Z b->b.2<w.heap.size) {fl:List Fld} {v:Value} (h:PRep w Z (zB 2 (fl.map zP)) v): ∃p cap b o fv,v=.slice p fl.length cap/\FldAt w fl p b o fv:=by
 by_cases h0:fl=[]
 ·subst h0
  have h':PRep w Z (.list 0 none []) v:=h;have hd: ∀p,FldAt w [] p 0 0 fun _=>(.bool true,.bool true):=fun p=>⟨fun q=>absurd q (by simp),fun k q=>absurd q (by simp),fun k q=>absurd q (by simp),fun _=>rfl,fun _=>rfl⟩
  cases h' with
  |nil=>exact⟨none,0,0,0,_,rfl,hd _⟩
  |emp _ _ a _=>exact⟨some a,0,0,0,_,rfl,hd _⟩
  |list b o cap _ _ _ _ _ _ _ _ _ _ _=>exact⟨some ⟨b,o,none⟩,cap,0,0,_,rfl,hd _⟩
 ·have hne:(fl.map zP).isEmpty=false:=by cases fl<;>simp_all
  have hpos:=Ye.2 h0;have h':PRep w Z (.list 2 none (fl.map zP)) v:=by
   unfold zB at h;rw[hne,if_neg (by simp)] at h;exact h
  generalize hrw:fl.map zP=rows at h';cases h' with
  |nil=>simp at hrw;exact absurd hrw h0
  |emp _ _ a _=>simp at hrw;exact absurd hrw h0
  |list b o cap _ _ _ val h1 h2 h3 h4 h5 h6 h7=>
   subst hrw;have hat: ∀k,k<fl.length->(fl.map zP)[k]?=some (zP (fl.getD k zY)):=fun k hk=>by
    rw[Zz,Zf hk];simp[List.getD,hk]
   have hlen:(fl.map zP).length=fl.length:=Zg ..;have hb:b<w.heap.size:=hz _ (h4 (by rw[<-Ye,hlen];exact hpos));refine⟨some ⟨b,o,none⟩,cap,b,o,fun k=>if k<fl.length then(val k 0,val k 1) else(.bool true,.bool true),by rw[hlen],fun _=>⟨rfl,hb⟩,fun k hk=>?_,fun k hk=>?_,fun k=>?_,fun k=>?_⟩
   ·simp only[if_pos hk]
    exact⟨h6 k 0 _ _ (hat k hk) rfl,by have:=h6 k 1 _ _ (hat k hk) rfl;rwa [<-YK] at this⟩
   ·simp only[if_pos hk]
    refine⟨rfl,fun j c u hc hu=>?_⟩
    match j with
    |0=>cases hc;cases hu;exact oK hz (h7 k 0 _ _ (hat k hk) rfl)
    |1=>cases hc;cases hu;exact oK hz (h7 k 1 _ _ (hat k hk) rfl)
    |j+2=>simp[zP] at hc
   ·by_cases hk:k<fl.length
    ·simp only[if_pos hk];exact(h7 k 0 _ _ (hat k hk) rfl).oneCell
    ·simp only[if_neg hk];rfl
   ·by_cases hk:k<fl.length
    ·simp only[if_pos hk];exact(h7 k 1 _ _ (hat k hk) rfl).oneCell
    ·simp only[if_neg hk];rfl
def fvO (fl:List Fld) (pf:Nat->Option Addr×Nat) (k:Nat):Value×Value:=(.string ⟨(fl.getD k zY).name.toArray⟩,.slice (pf k).1 (fl.getD k zY).words.length (pf k).2)
theorem zu0 {w:World} {Z:Bk->Prop} {sz:Nat} {rows:List (List C)} {v:Value} (h:PRep w Z (zB sz rows) v): ∃p cap,v=.slice p rows.length cap:=by
 unfold zB at h;split at h
 ·rename_i he
  have:rows=[]:=by simpa using he
  subst this;cases h with
  |nil=>exact⟨none,0,rfl⟩
  |emp _ _ a _=>exact⟨some a,0,rfl⟩
  |list b o cap _ _ _ _ _ _ _ _ _ _ _=>exact⟨some ⟨b,o,none⟩,cap,rfl⟩
 ·cases h with
  |nil=>exact⟨none,0,rfl⟩
  |emp _ _ a _=>exact⟨some a,0,rfl⟩
  |list b o cap _ _ _ _ _ _ _ _ _ _ _=>exact⟨some ⟨b,o,none⟩,cap,rfl⟩
theorem zu1 {w:World} {fl:List Fld} {p:Option Addr} {b o:Nat} {fv:Nat->Value×Value} (h:FldAt w fl p b o fv): ∃pf,FldAt w fl p b o (fvO fl pf):=by
 have key: ∀k,∃q:Option Addr×Nat,k<fl.length->fv k=fvO fl (fun _=>q) k:=fun k=>by
  by_cases hk:k<fl.length
  ·have hr:=h.rp k hk
   have h1:=vX (hr.2 0 (.str (fl.getD k zY).name) (fv k).1 rfl rfl);obtain⟨q,cap,h2⟩:=zu0 (hr.2 1 (zB 1 ((fl.getD k zY).words.map yH)) (fv k).2 rfl rfl);rw[Zg] at h2;refine⟨(q,cap),fun _=>?_⟩;unfold fvO;exact Prod.ext h1 h2
  ·exact⟨(none,0),fun q=>absurd q hk⟩
 refine⟨fun k=>(key k).choose,?_⟩;have e: ∀k,k<fl.length->fvO fl (fun k=>(key k).choose) k=fv k:=fun k hk=>((key k).choose_spec hk).symm
 exact⟨h.ad,fun k hk=>by rw[e k hk];exact h.cl k hk,fun k hk=>by rw[e k hk];exact h.rp k hk,fun _=>rfl,fun _=>rfl⟩
attribute [local go_sem] Oper.semAt_some
def mk0 (n:Nat):Array Value:=madeCells (Value.string ⟨#[]⟩).cells n
theorem zcN (n:Nat):(mk0 n).size=n:=size_madeCells _ _
theorem znF {n j:Nat} (h:j<n):(mk0 n)[j]?=some (tV []):=by
 have h1:j<(mk0 n).size:=by rw[zcN];exact h
 rw[Ya h1];simp[mk0,madeCells,Value.cells,tV,Nat.mod_one]
theorem zu2 (n:Nat) (hn:n<=1000000) (W:World):(Instr.makeSlice 35 (.int .i64 (n:Int)) (.int .i64 (n:Int))).run Tryz.prog W=.ok (.slice (some ⟨W.heap.size,0,none⟩) n n) (W.alloc (.cells (mk0 n) 9)):=by
 obtain⟨i0,hi,hz0,hz1,hz2⟩:=info_parts (show(Tryz.prog.info? 9).map (fun i=>(i.zero,i.size,i.bytes))=some (some (.string ⟨#[]⟩),1,16) by kernel_rfl);have:=run_make (P:=Tryz.prog) W 35 9 i0 (.string ⟨#[]⟩) (by kernel_rfl) hi hz0 .i64 .i64 n n (by omega) (by omega) (by rw[hz2];omega) (by omega);rw[this,hz1];simp[mk0]
theorem wT (w:World) (a b c:Obj):(((w.alloc a).alloc b).alloc c).heap[w.heap.size]?=some a/\(((w.alloc a).alloc b).alloc c).heap[w.heap.size+1]?=some b/\(((w.alloc a).alloc b).alloc c).heap[w.heap.size+1+1]?=some c:=by
 have h:(((w.alloc a).alloc b).alloc c).heap=((w.heap.push a).push b).push c:=rfl;rw[h];refine⟨?_,?_,?_⟩
 ·rw[YR,if_neg (by simp;omega),YR,if_neg (by simp),YR,if_pos rfl]
 ·rw[YR,if_neg (by simp),YR,if_pos (by simp)]
 ·rw[YR,if_pos (by simp)]
theorem sR {W:World} {b t:Nat} {a0:Value} (h:W.heap[b]?=some (.cells #[a0] t (0,0))):W.cell? ⟨b,0,none⟩=some a0:=by simp[World.cell?,h]
theorem pA {W:World} {b t:Nat} {a0 a1:Value} (h:W.heap[b]?=some (.cells #[a0,a1] t (0,0))):W.cell? ⟨b,0,none⟩=some a0/\W.cell? ⟨b,1,none⟩=some a1:=by constructor<;>simp[World.cell?,h]
def qB (k:Nat):Code->Option Code
 | .region i o d=>if i=k then some (.region i o d) else none
 | .seq a b=>match qB k a with|some c=>some c|none=>qB k b
 | .cond _ a b=>match qB k a with|some c=>some c|none=>qB k b
 | .block _ c=>qB k c
 | .loop c=>qB k c
 | .scope c=>qB k c
 |_=>none
def lK (f:Func):Code:=f.body.getD .skip
theorem uB (W:World):Below W.heap.size W W.drew:=(Below.refl _ W).drew
theorem zu3 (kd:Txt) (p:Option Addr) (n cap i b2 b3 b4:Nat) (cn:Int) (hn:n<=12) (z11 z12 z13 z14 z15 z16 z17 z18 z19 z20 z21 z22 z23 z24 z25 z26 z27 z28:Value) (w1:World) (q2:w1.heap[b2]?=some (.cells #[.string ⟨kd.toArray⟩,.slice p n cap] 69 (0,0))) (Q:Exit->Act->World->Prop)
  (hQ: ∀(gn gt b8:Nat) (z31 z32 z33 z34 z35 z36 z37 z38 z39 z40 z41:Value) (W:World),gn≠gt->gn≠b8->gt≠b8->w1.heap.size<=gn->w1.heap.size<=gt->w1.heap.size<=b8->W.heap[gn]?=some (.cells (mk0 n) 9 (0,0))->W.heap[gt]?=some (.cells (mk0 n) 9 (0,0))->W.heap[b8]?=some (.cells #[.string ⟨kd.toArray⟩,.slice (some ⟨gn,0,none⟩) n n,.slice (some ⟨gt,0,none⟩) n n] 155 (0,0))->Below w1.heap.size w1 W->Q .normal {tmps:= #[.agg #[.string ⟨kd.toArray⟩,.slice p n cap],.int .i64 (i:Int),.pointer (some ⟨b2,0,none⟩),.pointer (some ⟨b3,0,none⟩),.pointer (some ⟨b4,0,none⟩),.int .i64 0,.int .i64 cn,.int .i64 0,.pointer (some ⟨b8,0,none⟩),undef,undef,z11,z12,z13,z14,z15,z16,z17,z18,z19,z20,z21,z22,z23,z24,z25,z26,z27,z28,undef,undef,z31,z32,z33,z34,z35,z36,z37,z38,z39,z40,z41,undef,undef,undef,undef,undef,undef,undef,undef,undef,undef,undef,undef,undef,undef,undef,undef,undef,undef,undef,undef,undef,undef,undef,undef,undef,undef],defers:=[]} W)
  (c:Code) (hc:qB 6 (lK Tryz.f182)=some c):c.wpIn Fence.wide 8 Tryz.prog Q {tmps:= #[.agg #[.string ⟨kd.toArray⟩,.slice p n cap],.int .i64 (i:Int),.pointer (some ⟨b2,0,none⟩),.pointer (some ⟨b3,0,none⟩),.pointer (some ⟨b4,0,none⟩),.int .i64 0,.int .i64 cn,.int .i64 0,undef,undef,undef,z11,z12,z13,z14,z15,z16,z17,z18,z19,z20,z21,z22,z23,z24,z25,z26,z27,z28,undef,undef,undef,undef,undef,undef,undef,undef,undef,undef,undef,undef,undef,undef,undef,undef,undef,undef,undef,undef,undef,undef,undef,undef,undef,undef,undef,undef,undef,undef,undef,undef,undef,undef,undef,undef,undef,undef,undef],defers:=[]} w1:=by
 have hn1:1<=8:=by decide
 have mixed:Tryz.prog.follows Departure.mixedOrders=true:=by kernel_rfl
 have hmk:=zu2 n (by omega);have hB3: ∀a b c,Below w1.heap.size w1 ((((w1.alloc a).alloc b).alloc c).drew):=fun a b c=>((((Below.refl _ w1).alloc (Zw _) _).alloc (by simp) _).alloc (by simp;omega) _).drew
 obtain⟨c20,c21⟩:=pA q2;have l2:b2<w1.heap.size:=(Zs.1 q2).1;have l2b:b2<w1.heap.size+1:=Nat.lt_succ_of_lt l2;have l2c:b2<w1.heap.size+1+1:=Nat.lt_succ_of_lt l2b;have hc2:some c=qB 6 (lK Tryz.f182):=hc.symm;have hc3:c=_:=Yr (hc2.trans (show qB 6 (lK Tryz.f182)=some _ from rfl));subst hc3;clear hc hc2;have kp: ∀W,Below w1.heap.size w1 W->W.cell? ⟨b2,0,none⟩=some (.string ⟨kd.toArray⟩)/\W.cell? ⟨b2,1,none⟩=some (.slice p n cap):=fun W hb=>pA ((hb.block b2 l2).trans q2)
 have kp0:=kp _ (uB w1);have kp1:=fun a=>kp _ ((((Below.refl _ w1).alloc (Zw _) a)).drew)
 have kp2:=fun a b=>kp _ ((((Below.refl _ w1).alloc (Zw _) a).alloc (by simp) b).drew)
 have kp3:=fun a b c=>kp _ (hB3 a b c)
 refine wpIn_wide.2 ?_
 go_region_held3 (fun w'=>w'.cell? ⟨b2,0,none⟩=some (.string ⟨kd.toArray⟩)/\w'.cell? ⟨b2,1,none⟩=some (.slice p n cap)) (first|exact kp0|exact kp1 _|exact kp2 _ _|exact kp3 _ _ _|go_keep) (fail)
 all_goals first
  |exact hQ w1.heap.size (w1.heap.size+1) (w1.heap.size+1+1) _ _ _ _ _ _ _ _ _ _ _ _ (by omega) (by omega) (by omega) (by omega) (by omega) (by omega) (wT w1 _ _ _).1 (wT w1 _ _ _).2.1 (wT w1 _ _ _).2.2 (hB3 _ _ _)
  |exact hQ w1.heap.size (w1.heap.size+1+1) (w1.heap.size+1) _ _ _ _ _ _ _ _ _ _ _ _ (by omega) (by omega) (by omega) (by omega) (by omega) (by omega) (wT w1 _ _ _).1 (wT w1 _ _ _).2.2 (wT w1 _ _ _).2.1 (hB3 _ _ _)
  |exact hQ (w1.heap.size+1) w1.heap.size (w1.heap.size+1+1) _ _ _ _ _ _ _ _ _ _ _ _ (by omega) (by omega) (by omega) (by omega) (by omega) (by omega) (wT w1 _ _ _).2.1 (wT w1 _ _ _).1 (wT w1 _ _ _).2.2 (hB3 _ _ _)
  |exact hQ (w1.heap.size+1) (w1.heap.size+1+1) w1.heap.size _ _ _ _ _ _ _ _ _ _ _ _ (by omega) (by omega) (by omega) (by omega) (by omega) (by omega) (wT w1 _ _ _).2.1 (wT w1 _ _ _).2.2 (wT w1 _ _ _).1 (hB3 _ _ _)
  |exact hQ (w1.heap.size+1+1) w1.heap.size (w1.heap.size+1) _ _ _ _ _ _ _ _ _ _ _ _ (by omega) (by omega) (by omega) (by omega) (by omega) (by omega) (wT w1 _ _ _).2.2 (wT w1 _ _ _).1 (wT w1 _ _ _).2.1 (hB3 _ _ _)
  |exact hQ (w1.heap.size+1+1) (w1.heap.size+1) w1.heap.size _ _ _ _ _ _ _ _ _ _ _ _ (by omega) (by omega) (by omega) (by omega) (by omega) (by omega) (wT w1 _ _ _).2.2 (wT w1 _ _ _).2.1 (wT w1 _ _ _).1 (hB3 _ _ _)
structure RB (b3 b8 Bx gn gt:Nat) (r:Int) (kd:Value) (n:Nat) (v1 v2:Value) (cN cT:Array Value) (W:World):Prop where
 h3:W.heap[b3]?=some (.cells #[.int .i64 r] 3 (0,0))
 h8:W.heap[b8]?=some (.cells #[kd,.slice (some ⟨gn,0,none⟩) n n,.slice (some ⟨gt,0,none⟩) n n] 155 (0,0))
 hx:W.heap[Bx]?=some (.cells #[v1,v2] 76 (0,0))
 hn:W.heap[gn]?=some (.cells cN 9 (0,0))
 ht:W.heap[gt]?=some (.cells cT 9 (0,0))
theorem RB.later {b3 b8 Bx gn gt:Nat} {r:Int} {kd:Value} {n:Nat} {v1 v2:Value} {cN cT:Array Value} {W W':World} (h:RB b3 b8 Bx gn gt r kd n v1 v2 cN cT W) (hb:Below W.heap.size W W'):RB b3 b8 Bx gn gt r kd n v1 v2 cN cT W':=
 ⟨(hb.block _ (Zs.1 h.h3).1).trans h.h3,(hb.block _ (Zs.1 h.h8).1).trans h.h8,(hb.block _ (Zs.1 h.hx).1).trans h.hx,(hb.block _ (Zs.1 h.hn).1).trans h.hn,(hb.block _ (Zs.1 h.ht).1).trans h.ht⟩
theorem RB.cells {b3 b8 Bx gn gt:Nat} {r:Int} {kd:Value} {n:Nat} {v1 v2:Value} {cN cT:Array Value} {W:World} (h:RB b3 b8 Bx gn gt r kd n v1 v2 cN cT W) {k:Nat} {u v:Value} (hu:cN[k]?=some u) (hv:cT[k]?=some v):
  W.cell? ⟨b3,0,none⟩=some (.int .i64 r)/\W.cell? ⟨b8,1,none⟩=some (.slice (some ⟨gn,0,none⟩) n n)/\W.cell? ⟨b8,2,none⟩=some (.slice (some ⟨gt,0,none⟩) n n)/\W.cell? ⟨Bx,0,none⟩=some v1/\W.cell? ⟨Bx,1,none⟩=some v2/\
   W.cell? ⟨gn,k,none⟩=some u/\W.cell? ⟨gt,k,none⟩=some v/\W.frozen? ⟨gn,k,none⟩=false/\W.frozen? ⟨gt,k,none⟩=false/\W.frozen? ⟨b3,0,none⟩=false:=by
 obtain⟨h1,h2,h3,h4,h5⟩:=h;refine⟨?_,?_,?_,?_,?_,?_,?_,?_,?_,?_⟩<;>simp[World.cell?,World.frozen?,h1,h2,h3,h4,h5,hu,hv]
def oO:Code->Option Code
 | .rangeFunc _ _ _ b=>some b
 | .seq a b=>match oO a with|some c=>some c|none=>oO b
 | .cond _ a b=>match oO a with|some c=>some c|none=>oO b
 | .block _ c=>oO c
 | .loop c=>oO c
 | .scope c=>oO c
 |_=>none
theorem zu7 (w:World) (kd:Value) (cN cT0:Array Value) (u v:Value) (l n k r b3 b8 Bx gn gt n2 c2 S:Nat) (tx:Txt) (v1:ByteArray) (p2:Option Addr) (hk:k<n) (hS:0<S) (n1:gn≠gt) (m1:gn≠b3) (m2:gn≠b8) (m3:gn≠Bx) (m4:gt≠b3) (m5:gt≠b8) (m6:gt≠Bx) (y0 y1 y2 y4 y5 y6 y7 y11 y12 y13 y14 y15 y16 y17 y18 y19 y20 y21 y22 y23 y24 y25 y26 y27 y28 y31 y32 y33 y34 y35 y36 y37 y38 y39 y40 y41 y42 y43 y44 y45 y46:Value) (W:World) (fd:RB b3 b8 Bx gn gt (r:Int) kd n (.string v1) (.slice p2 n2 c2) cN cT0 W.drew) (hu:cN[k]?=some u) (hv:cT0[k]?=some v) (hBd:Below w.heap.size w W.drew)
  (k61: ∀W',Below w.heap.size w W'->Calls Tryz.prog 90 #[.agg #[.string v1,.slice p2 n2 c2]] W' fun e W''=>e=.returned (.int .i64 (S:Int))/\Below W'.heap.size W' W'')
  (k100: ∀W',Below w.heap.size w W'->Calls Tryz.prog 92 #[.agg #[.string v1,.slice p2 n2 c2],.int .i64 ((r % S:Nat):Int)] W' fun e W''=>e=.returned (.string ⟨tx.toArray⟩)/\Below W'.heap.size W' W'') (Q:Exit->Act->World->Prop) (hQp: ∀c a w,¬Q (.panic c) a w) (hQo: ¬LetsOut Q) (hQn: ∀(W5:World) (z47 z48 z49 z50 z51 z52 z53 z54 z55 z56 z57 z58 z59 z60 z61 z62:Value),RB b3 b8 Bx gn gt (r:Int) kd n (.string v1) (.slice p2 n2 c2) cN cT0 W5->Below w.heap.size w W5->Below W.heap.size W W5->Q .normal {tmps:= #[y0,y1,y2,.pointer (some ⟨b3,0,none⟩),y4,y5,y6,y7,.pointer (some ⟨b8,0,none⟩),.int .i64 (k:Int),.pointer (some ⟨Bx,0,none⟩),y11,y12,y13,y14,y15,y16,y17,y18,y19,y20,y21,y22,y23,y24,y25,y26,y27,y28,undef,undef,y31,y32,y33,y34,y35,y36,y37,y38,y39,y40,y41,y42,y43,y44,y45,y46,z47,z48,z49,z50,z51,z52,z53,z54,z55,z56,z57,z58,z59,z60,z61,z62,undef,undef,undef,undef,undef],defers:=[]} ((W5.setCell ⟨gn,k,none⟩ (.string v1)).setCell ⟨gt,k,none⟩ (.string ⟨tx.toArray⟩)))
  (bd cd:Code) (hbd:oO (lK Tryz.f182)=some bd) (hcd:qB 10 bd=some cd):cd.wpIn (Fence.wide.inRound l) 6 Tryz.prog Q {tmps:= #[y0,y1,y2,.pointer (some ⟨b3,0,none⟩),y4,y5,y6,y7,.pointer (some ⟨b8,0,none⟩),.int .i64 (k:Int),.pointer (some ⟨Bx,0,none⟩),y11,y12,y13,y14,y15,y16,y17,y18,y19,y20,y21,y22,y23,y24,y25,y26,y27,y28,undef,undef,y31,y32,y33,y34,y35,y36,y37,y38,y39,y40,y41,y42,y43,y44,y45,y46,undef,undef,undef,undef,undef,undef,undef,undef,undef,undef,undef,undef,undef,undef,undef,undef,undef,undef,undef,undef,undef],defers:=[]} W:=by
 obtain rfl:bd=_:=Yr (hbd.symm.trans (show oO (lK Tryz.f182)=some _ from rfl));obtain rfl:cd=_:=Yr (hcd.symm.trans (show qB 10 _=some _ from rfl));clear hbd hcd;have hki:(k:Int)<n:=by omega
 have cS: ∀W',RB b3 b8 Bx gn gt (r:Int) kd n (.string v1) (.slice p2 n2 c2) cN cT0 W'->(fun W=>W.cell? ⟨b3,0,none⟩=some (.int .i64 (r:Int))/\W.cell? ⟨b8,1,none⟩=some (.slice (some ⟨gn,0,none⟩) n n)/\W.cell? ⟨b8,2,none⟩=some (.slice (some ⟨gt,0,none⟩) n n)/\W.cell? ⟨Bx,0,none⟩=some (.string v1)/\W.cell? ⟨Bx,1,none⟩=some (.slice p2 n2 c2)) W':=fun W' h=>by
  obtain⟨e1,e2,e3,e4,e5,_⟩:=h.cells hu hv;exact⟨e1,e2,e3,e4,e5⟩
 have hS0:=cS _ fd;have hSn: ¬(S:Int)=0:=by omega
 have hSm: ¬S=0:=by omega
 have cT: ∀(W':World) (g:Nat) (x:Value),g≠b3->g≠b8->g≠Bx->(fun W=>W.cell? ⟨b3,0,none⟩=some (.int .i64 (r:Int))/\W.cell? ⟨b8,1,none⟩=some (.slice (some ⟨gn,0,none⟩) n n)/\W.cell? ⟨b8,2,none⟩=some (.slice (some ⟨gt,0,none⟩) n n)/\W.cell? ⟨Bx,0,none⟩=some (.string v1)/\W.cell? ⟨Bx,1,none⟩=some (.slice p2 n2 c2)) W'->(fun W=>W.cell? ⟨b3,0,none⟩=some (.int .i64 (r:Int))/\W.cell? ⟨b8,1,none⟩=some (.slice (some ⟨gn,0,none⟩) n n)/\W.cell? ⟨b8,2,none⟩=some (.slice (some ⟨gt,0,none⟩) n n)/\W.cell? ⟨Bx,0,none⟩=some (.string v1)/\W.cell? ⟨Bx,1,none⟩=some (.slice p2 n2 c2)) (W'.setCell ⟨g,k,none⟩ x):=fun W' g x g1 g2 g3 h=>by
  have ne: ∀b o,g≠b->(⟨g,k,none⟩:Addr)≠⟨b,o,none⟩:=fun b o hb e=>hb (by cases e;rfl)
  obtain⟨e1,e2,e3,e4,e5⟩:=h;exact⟨(World.cell?_setCell_other _ _ _ _ (ne _ _ g1)).trans e1,(World.cell?_setCell_other _ _ _ _ (ne _ _ g2)).trans e2,(World.cell?_setCell_other _ _ _ _ (ne _ _ g2)).trans e3,(World.cell?_setCell_other _ _ _ _ (ne _ _ g3)).trans e4,(World.cell?_setCell_other _ _ _ _ (ne _ _ g3)).trans e5⟩
 have hr1:(r:Int).tmod (S:Int)=((r % S:Nat):Int):=(Int.ofNat_tmod r S).symm;have hk0:(0:Int)<=k:=by omega
 refine zu6 (S:=(fun W=>W.cell? ⟨b3,0,none⟩=some (.int .i64 (r:Int))/\W.cell? ⟨b8,1,none⟩=some (.slice (some ⟨gn,0,none⟩) n n)/\W.cell? ⟨b8,2,none⟩=some (.slice (some ⟨gt,0,none⟩) n n)/\W.cell? ⟨Bx,0,none⟩=some (.string v1)/\W.cell? ⟨Bx,1,none⟩=some (.slice p2 n2 c2))) (by kernel_rfl) (by kernel_rfl) hQo ?_;show wpAnyH _ _ _ _ _ 18 _ _ _;refine wpAnyH_take (i:=0) (v:=.pointer (some ⟨b8,1,none⟩)) rfl (by kernel_rfl) (by kernel_rfl) (by kernel_rfl) (fun c a w h=>absurd h (hQp _ _ _)) (.inl ⟨rfl,fun W hS=>?_⟩) hS0 ?_
 ·obtain⟨s1,s2,s3,s4,s5⟩:=hS
  go_simp
 simp only[Act.put,ZV,Z8,Yb];refine wpAnyH_take (i:=1) (v:=.slice (some ⟨gn,0,none⟩) n n) rfl (by kernel_rfl) (by kernel_rfl) (by kernel_rfl) (fun c a w h=>absurd h (hQp _ _ _)) (.inl ⟨rfl,fun W hS=>?_⟩) hS0 ?_
 ·obtain⟨s1,s2,s3,s4,s5⟩:=hS
  go_simp
 simp only[Act.put,ZV,Z8,Yb];refine wpAnyH_take (i:=2) (v:=.int .i64 (k:Int)) rfl (by kernel_rfl) (by kernel_rfl) (by kernel_rfl) (fun c a w h=>absurd h (hQp _ _ _)) (.inl ⟨rfl,fun W hS=>?_⟩) hS0 ?_
 ·obtain⟨s1,s2,s3,s4,s5⟩:=hS
  go_simp
 simp only[Act.put,ZV,Z8,Yb];refine wpAnyH_take (i:=3) (v:=.pointer (some ⟨b8,2,none⟩)) rfl (by kernel_rfl) (by kernel_rfl) (by kernel_rfl) (fun c a w h=>absurd h (hQp _ _ _)) (.inl ⟨rfl,fun W hS=>?_⟩) hS0 ?_
 ·obtain⟨s1,s2,s3,s4,s5⟩:=hS
  go_simp
 simp only[Act.put,ZV,Z8,Yb];refine wpAnyH_take (i:=4) (v:=.slice (some ⟨gt,0,none⟩) n n) rfl (by kernel_rfl) (by kernel_rfl) (by kernel_rfl) (fun c a w h=>absurd h (hQp _ _ _)) (.inl ⟨rfl,fun W hS=>?_⟩) hS0 ?_
 ·obtain⟨s1,s2,s3,s4,s5⟩:=hS
  go_simp
 simp only[Act.put,ZV,Z8,Yb];refine wpAnyH_take (i:=5) (v:=.int .i64 (k:Int)) rfl (by kernel_rfl) (by kernel_rfl) (by kernel_rfl) (fun c a w h=>absurd h (hQp _ _ _)) (.inl ⟨rfl,fun W hS=>?_⟩) hS0 ?_
 ·obtain⟨s1,s2,s3,s4,s5⟩:=hS
  go_simp
 simp only[Act.put,ZV,Z8,Yb];refine wpAnyH_take (i:=6) (v:=.pointer (some ⟨Bx,0,none⟩)) rfl (by kernel_rfl) (by kernel_rfl) (by kernel_rfl) (fun c a w h=>absurd h (hQp _ _ _)) (.inl ⟨rfl,fun W hS=>?_⟩) hS0 ?_
 ·obtain⟨s1,s2,s3,s4,s5⟩:=hS
  go_simp
 simp only[Act.put,ZV,Z8,Yb];refine wpAnyH_take (i:=7) (v:=.string v1) rfl (by kernel_rfl) (by kernel_rfl) (by kernel_rfl) (fun c a w h=>absurd h (hQp _ _ _)) (.inl ⟨rfl,fun W hS=>?_⟩) hS0 ?_
 ·obtain⟨s1,s2,s3,s4,s5⟩:=hS
  go_simp
 simp only[Act.put,ZV,Z8,Yb];refine wpAnyH_take (i:=8) (v:=.agg #[.string v1,.slice p2 n2 c2]) rfl (by kernel_rfl) (by kernel_rfl) (by kernel_rfl) (fun c a w h=>absurd h (hQp _ _ _)) (.inl ⟨rfl,fun W hS=>?_⟩) hS0 ?_
 ·obtain⟨s1,s2,s3,s4,s5⟩:=hS
  go_simp
 simp only[Act.put,ZV,Z8,Yb];refine wpAnyH_take (i:=9) (v:=.int .i64 (r:Int)) rfl (by kernel_rfl) (by kernel_rfl) (by kernel_rfl) (fun c a w h=>absurd h (hQp _ _ _)) (.inl ⟨rfl,fun W hS=>?_⟩) hS0 ?_
 ·obtain⟨s1,s2,s3,s4,s5⟩:=hS
  go_simp
 simp only[Act.put,ZV,Z8,Yb];refine wpAnyH_take (i:=10) (v:=.agg #[.string v1,.slice p2 n2 c2]) rfl (by kernel_rfl) (by kernel_rfl) (by kernel_rfl) (fun c a w h=>absurd h (hQp _ _ _)) (.inl ⟨rfl,fun W hS=>?_⟩) hS0 ?_
 ·obtain⟨s1,s2,s3,s4,s5⟩:=hS
  go_simp
 simp only[Act.put,ZV,Z8,Yb];refine wpAnyH_all (rs:=[11]) (by kernel_rfl) (by simp) fun i hi=>?_
 obtain rfl:=ZT.1 hi;refine Or.inl (?_:Oper.wp Tryz.prog _ _ _ _ _)
 go_wp2_with (go_at_call 90;refine(k61 _ hBd).mono ?_;rintro e W4 ⟨rfl,hb4⟩)
 have f4:=fd.later hb4;have hB4:=hBd.trans (hb4.mono hBd.size);have hS4:=cS _ f4;refine⟨hS4,?_⟩;refine wpAnyH_take (i:=12) (v:=.int .i64 ((r % S:Nat):Int)) rfl (by kernel_rfl) (by kernel_rfl) (by kernel_rfl) (fun c a w h=>absurd h (hQp _ _ _)) (.inl ⟨rfl,fun W hS=>?_⟩) hS4 ?_
 ·go_simp
 simp only[Act.put,ZV,Z8,Yb];refine wpAnyH_all (rs:=[13]) (by kernel_rfl) (by simp) fun i hi=>?_
 obtain rfl:=ZT.1 hi;refine Or.inl (?_:Oper.wp Tryz.prog _ _ _ _ _)
 go_wp2_with (go_at_call 92;refine(k100 _ hB4).mono ?_;rintro e W5 ⟨rfl,hb5⟩)
 have f5:=f4.later hb5;have hB5:=hB4.trans (hb5.mono hB4.size);have hS5:=cS _ f5;refine⟨hS5,?_⟩;refine wpAnyH_take (i:=14) (v:=.pointer (some ⟨gn,k,none⟩)) rfl (by kernel_rfl) (by kernel_rfl) (by kernel_rfl) (fun c a w h=>absurd h (hQp _ _ _)) (.inl ⟨rfl,fun W hS=>?_⟩) hS5 ?_
 ·go_simp
 simp only[Act.put,ZV,Z8,Yb];obtain⟨s1,s2,s3,s4,s5,s6,s7,s8,s9,s10⟩:=f5.cells hu hv;refine wpAnyH_all (rs:=[15]) (by kernel_rfl) (by simp) fun i hi=>?_
 obtain rfl:=ZT.1 hi;refine Or.inl (?_:Oper.wp Tryz.prog _ _ _ _ _)
 go_wp2_with fail
 have hS6:=cT _ gn (.string v1) m1 m2 m3 hS5;have z1:(W5.setCell ⟨gn,k,none⟩ (.string v1)).cell? ⟨gt,k,none⟩=some v:=(World.cell?_setCell_other _ _ _ _ (fun e=>n1 (by cases e;rfl))).trans s7;have z2:(W5.setCell ⟨gn,k,none⟩ (.string v1)).frozen? ⟨gt,k,none⟩=false:=(World.frozen?_setCell _ _ _ _).trans s9
 first|refine⟨hS6,?_⟩|skip
 refine wpAnyH_take (S:=(fun W=>W.cell? ⟨b3,0,none⟩=some (.int .i64 (r:Int))/\W.cell? ⟨b8,1,none⟩=some (.slice (some ⟨gn,0,none⟩) n n)/\W.cell? ⟨b8,2,none⟩=some (.slice (some ⟨gt,0,none⟩) n n)/\W.cell? ⟨Bx,0,none⟩=some (.string v1)/\W.cell? ⟨Bx,1,none⟩=some (.slice p2 n2 c2))) (i:=16) (v:=.pointer (some ⟨gt,k,none⟩)) rfl (by kernel_rfl) (by kernel_rfl) (by kernel_rfl) (fun c a w h=>absurd h (hQp _ _ _)) (.inl ⟨rfl,fun W hS=>?_⟩) hS6 ?_
 ·go_simp
 simp only[Act.put,ZV,Z8,Yb];refine wpAnyH_all (rs:=[17]) (by kernel_rfl) (by simp) fun i hi=>?_
 obtain rfl:=ZT.1 hi;refine Or.inl (?_:Oper.wp Tryz.prog _ _ _ _ _)
 go_wp2_with fail
 first|refine⟨cT _ gt _ m4 m5 m6 hS6,?_⟩|skip
 refine wpAnyH_done (S:=(fun W=>W.cell? ⟨b3,0,none⟩=some (.int .i64 (r:Int))/\W.cell? ⟨b8,1,none⟩=some (.slice (some ⟨gn,0,none⟩) n n)/\W.cell? ⟨b8,2,none⟩=some (.slice (some ⟨gt,0,none⟩) n n)/\W.cell? ⟨Bx,0,none⟩=some (.string v1)/\W.cell? ⟨Bx,1,none⟩=some (.slice p2 n2 c2))) (by kernel_rfl) ?_ _;exact hQn _ _ _ _ _ _ _ _ _ _ _ _ _ _ _ _ _ f5 hB5 ((uB W).trans (hb4.trans (hb5.mono hb4.size)))
attribute [local go_sem] Oper.semAt_some
def jO:Code->Code
 | .seq _ b=>b
 |c=>c
def KpR (N b3 gn gt:Nat) (A B:World):Prop:=A.heap.size<=B.heap.size/\ ∀j,j<N->j≠b3->j≠gn->j≠gt->B.heap[j]?=A.heap[j]?
structure RdI (fl:List Fld) (i:Nat) (w:World) (N b3 gn gt:Nat) (W0:World) (pre:List Nat) (W:World):Prop where
 box:W.heap[b3]?=some (.cells #[.int .i64 ((zyR fl i pre).1:Int)] 3 (0,0))
 ns: ∃c,W.heap[gn]?=some (.cells c 9 (0,0))/\c.size=fl.length/\ ∀j,j<fl.length->c[j]?=some (tV (if j∈pre then(fl.getD j zY).name else[]))
 ts: ∃c,W.heap[gt]?=some (.cells c 9 (0,0))/\c.size=fl.length/\ ∀j,j<fl.length->c[j]?=some (tV ((zyR fl i pre).2 j))
 kp:KpR N b3 gn gt W0 W
 bl:Below w.heap.size w W
theorem KpR.trans {N b3 gn gt:Nat} {A B C:World} (h:KpR N b3 gn gt A B) (k:KpR N b3 gn gt B C):KpR N b3 gn gt A C:=⟨ZX h.1 k.1,fun j h1 h2 h3 h4=>(k.2 j h1 h2 h3 h4).trans (h.2 j h1 h2 h3 h4)⟩
theorem KpR.grown {N b3 gn gt:Nat} {A B:World} {row:Option Nat} (hN:N<=A.heap.size) (hg:A.grownBy B row) (hr: ∀r,row=some r->N<=r):KpR N b3 gn gt A B:=
 ⟨hg.size,fun j hj _ _ _=>hg.block j (by omega) (fun e=>by have:=hr j e.symm;omega)⟩
theorem RdI.own {fl:List Fld} {i:Nat} {w W0:World} {N b3 gn gt:Nat} (h3:b3<N) (hn:gn<N) (ht:gt<N) (hw:w.heap.size<=N) (hW:N<=W0.heap.size): ∀(pre:List Nat) (A B:World) (row:Option Nat),RdI fl i w N b3 gn gt W0 pre A->A.grownBy B row->(∀r,row=some r->N<=r)->RdI fl i w N b3 gn gt W0 pre B:=by
 rintro pre A B row ⟨k1,⟨c1,k2,k3⟩,⟨c2,k4,k5⟩,k6,k7⟩ hg hr;have hsz:N<=A.heap.size:=ZX hW k6.1;have hb: ∀j,j<N->B.heap[j]?=A.heap[j]?:=fun j hj=>hg.block j (by omega) (fun e=>by have:=hr j e.symm;omega)
 exact⟨(hb _ h3).trans k1,⟨c1,(hb _ hn).trans k2,k3⟩,⟨c2,(hb _ ht).trans k4,k5⟩,k6.trans (KpR.grown hsz hg hr),k7.grown hg (ZX hw hsz) (fun r e=>by have:=hr r e;omega)⟩
theorem tG (w:World) (g i:Nat) (cur:Array Value) (t:TypeId) (fr:Nat×Nat) (v:Value) (hg:w.heap[g]?=some (.cells cur t fr)):(w.setCell ⟨g,i,none⟩ v).heap[g]?=some (.cells (cur.setIfInBounds i v) t fr):=by
 rw[setCell_eq_setRow w g i cur t fr v hg];exact setRow_heap w g cur _ t fr hg
theorem zyS (w:World) (a:Addr) (v:Value) (k:Nat) (h:k≠a.block):(w.setCell a v).heap[k]?=w.heap[k]?:=Below.heap_setCell _ _ _ _ h
theorem oP {w W:World} {r:List C} {cs:List Value} (h:yG w (zV w) r cs) (hb:Below w.heap.size w W):yG W (zV W) r cs:=⟨h.1,fun j c v hc hv=>sC (h.2 j c v hc hv) hb⟩
theorem zu8 (fl:List Fld) (i:Nat) (w W2 W3 W5 X W6:World) (N b3 gn gt b8 Bx:Nat) (pre:List Nat) (k:Nat) (kd:Value) (F:Fld) (S r:Nat) {pf:Option Addr} {pn pc:Nat} (cN cT:Array Value) (aF:fl.getD k zY=F) (aS:zX F=S) (aR:(zyR fl i pre).1=r)
  (aN:cN.size=fl.length/\(∀j,j<fl.length->cN[j]?=some (tV (if j∈pre then(fl.getD j zY).name else[])))/\cT.size=fl.length/\ ∀j,j<fl.length->cT[j]?=some (tV ((zyR fl i pre).2 j)))
  (r10:KpR N b3 gn gt W2 W3) (h5:Below W3.heap.size W3 W5) (oX: ∀j,j≠gn->j≠gt->X.heap[j]?=W5.heap[j]?) (szX:X.heap.size=W5.heap.size)
  (f7:RB b3 b8 Bx gn gt (r:Int) kd fl.length (.string ⟨F.name.toArray⟩) (.slice pf pn pc) (cN.setIfInBounds k (.string ⟨F.name.toArray⟩)) (cT.setIfInBounds k (.string ⟨(textF F (r % S)).toArray⟩)) W6) (hB7:Below w.heap.size w W6) (hbd:Below X.heap.size X X.drew) (hb6:Below X.drew.heap.size X.drew W6)
  (l1:b3<N) (l2:gn<N) (l3:gt<N) (n4:b3≠gn) (n5:b3≠gt) (g3:w.heap.size<=b3) (hsz:N<=W3.heap.size) (hk:k<fl.length):
  KeepsFrom N W3 (W6.setCell ⟨b3,0,none⟩ (.int .i64 ((r/S:Nat):Int)))/\KpR N b3 gn gt W3 (W6.setCell ⟨b3,0,none⟩ (.int .i64 ((r/S:Nat):Int)))/\RdI fl i w N b3 gn gt W2 (pre++[k]) (W6.setCell ⟨b3,0,none⟩ (.int .i64 ((r/S:Nat):Int))):=by
 have h6:=hbd.trans hb6;have oY: ∀j,j≠b3->(W6.setCell ⟨b3,0,none⟩ (.int .i64 ((r/S:Nat):Int))).heap[j]?=W6.heap[j]?:=fun j hj=>zyS _ _ _ _ hj
 have szY:(W6.setCell ⟨b3,0,none⟩ (.int .i64 ((r/S:Nat):Int))).heap.size=W6.heap.size:=by simp
 have s5:=h5.size;have s6:=h6.size;have all: ∀j,j<W3.heap.size->j≠b3->j≠gn->j≠gt->(W6.setCell ⟨b3,0,none⟩ (.int .i64 ((r/S:Nat):Int))).heap[j]?=W3.heap[j]?:=fun j hj h1 h2 h3=>
  (oY j h1).trans ((h6.block j (by omega)).trans ((oX j h2 h3).trans (h5.block j hj)))
 have hkp:KpR N b3 gn gt W3 (W6.setCell ⟨b3,0,none⟩ (.int .i64 ((r/S:Nat):Int))):=⟨by omega,fun j hj h1 h2 h3=>all j (by omega) h1 h2 h3⟩;refine⟨⟨by omega,fun j o hj ho _=>?_⟩,hkp,?_⟩
 ·have hlt:=(Zs.1 ho).1
  exact(all j hlt (by omega) (by omega) (by omega)).trans ho
 ·have hfs:=znC fl i pre k
  rw[aF,aS,aR] at hfs;refine⟨?_,⟨_,(oY gn n4.symm).trans f7.hn,by simp[aN.1],fun j hj=>?_⟩,⟨_,(oY gt n5.symm).trans f7.ht,by simp[aN.2.2.1],fun j hj=>?_⟩,r10.trans hkp,hB7.setCell (p:=⟨b3,0,none⟩) g3 _⟩
  ·rw[tG W6 b3 0 _ 3 (0,0) _ f7.h3,hfs];rfl
  ·rw[Yi]
   by_cases e:k=j
   ·subst e
    rw[if_pos rfl,if_pos (by rw[aN.1];exact hk),if_pos (by simp),aF];rfl
   ·rw[if_neg e,aN.2.1 j hj]
    have:(j∈pre++[k]) ↔ j∈pre:=by simp[Ne.symm e]
    simp only[this]
  ·rw[Yi,hfs]
   by_cases e:k=j
   ·subst e
    rw[if_pos rfl,if_pos (by rw[aN.2.2.1];exact hk)];simp[tV]
   ·rw[if_neg e,aN.2.2.2 j hj]
    simp only[if_neg (Ne.symm e)]
theorem lL {fn:Func} {p u:Tmp} {ty:TypeId} (h:fn.results= #[.cell p ty,.tmp u]) (tmps:Array Value) (w:World) {g:Nat} {t:TypeId} {cs:Array Value} {fr:Nat×Nat}
  (hp:tmps.getD p undef=.pointer (some ⟨g,0,none⟩)) (hg:w.heap[g]?=some (.cells cs t fr))
  {fs:Array Field} (hu:Tryz.prog.underlying ty=some (.struct fs)) (hi:(Tryz.prog.info? ty).map (·.size)=some cs.size):
  (results fn tmps).run Tryz.prog w=.ok (.tuple #[.agg cs,tmps.getD u undef]) w:=by
 have hp':tmps[p]?.getD undef=.pointer (some ⟨g,0,none⟩):=by simpa using hp
 simp[results,h,hp',asAddr,run_loadVar_row w g t ty cs fr _ hg hu rfl hi]
theorem sG {W:World} {b t:Nat} {a0 a1 a2:Value} (h:W.heap[b]?=some (.cells #[a0,a1,a2] t (0,0))):W.cell? ⟨b,0,none⟩=some a0/\W.cell? ⟨b,1,none⟩=some a1/\W.cell? ⟨b,2,none⟩=some a2:=by refine⟨?_,?_,?_⟩<;>simp[World.cell?,h]
theorem zu9 (d:Dcm) (hd:DcmR d) (hs100: ∀f∈d.flds,∀w∈f.words,∀s∈w,s.length<=100) (i:Nat) (hi:i<=4096) (cn:Int) (w:World) (hG:yN (base w)) (p:Option Addr) (cap b o:Nat) (pf:Nat->Option Addr×Nat) (hf:FldAt w d.flds p b o (fvO d.flds pf)) (b2 b3 b4 b8 gn gt:Nat) (W:World)
  (g2:w.heap.size<=b2) (g3:w.heap.size<=b3) (g4:w.heap.size<=b4) (g8:w.heap.size<=b8) (gg:w.heap.size<=gn) (gh:w.heap.size<=gt) (n1:gn≠gt) (n2:gn≠b8) (n3:gt≠b8) (n4:b3≠gn) (n5:b3≠gt) (n6:b3≠b8) (n7:b2≠b3) (n8:b2≠gn) (n9:b2≠gt) (n10:b4≠b3) (n11:b4≠gn) (n12:b4≠gt)
  (q2:W.heap[b2]?=some (.cells #[.string ⟨d.kind.toArray⟩,.slice p d.flds.length cap] 69 (0,0))) (q3:W.heap[b3]?=some (.cells #[.int .i64 (i:Int)] 3 (0,0))) (q4:W.heap[b4]?=some (.cells #[.string ⟨#[]⟩,.slice none 0 0,.slice none 0 0] 155 (0,0)))
  (q8:W.heap[b8]?=some (.cells #[.string ⟨d.kind.toArray⟩,.slice (some ⟨gn,0,none⟩) d.flds.length d.flds.length,.slice (some ⟨gt,0,none⟩) d.flds.length d.flds.length] 155 (0,0)))
  (qn:W.heap[gn]?=some (.cells (mk0 d.flds.length) 9 (0,0))) (qt:W.heap[gt]?=some (.cells (mk0 d.flds.length) 9 (0,0))) (hB:Below w.heap.size w W) (z11 z12 z13 z14 z15 z16 z17 z18 z19 z20 z21 z22 z23 z24 z25 z26 z27 z28 z31 z32 z33 z34 z35 z36 z37 z38 z39 z40 z41:Value):
  Code.wpIn Fence.wide 8 Tryz.prog (jO (jO (jO (jO (jO (lK Tryz.f182)))))) (bodyPostM Fence.wide 8 Tryz.prog Tryz.f182 (fun e w'=> ∃gn gt,e=.returned (.tuple #[.agg #[.string ⟨d.kind.toArray⟩,.slice (some ⟨gn,0,none⟩) d.flds.length d.flds.length,.slice (some ⟨gt,0,none⟩) d.flds.length d.flds.length],.int .i64 0])/\Below w.heap.size w w'/\
   w.heap.size<=gn/\w.heap.size<=gt/\(∃c,w'.heap[gn]?=some (.cells c 9 (0,0)))/\(∃c,w'.heap[gt]?=some (.cells c 9 (0,0)))/\(∀j,j<d.flds.length->w'.cell? ⟨gn,j,none⟩=some (tV (d.flds.getD j zY).name)/\w'.cell? ⟨gt,j,none⟩=some (tV ((vC d.flds i).1.getD j [])))))
   {tmps:= #[.agg #[.string ⟨d.kind.toArray⟩,.slice p d.flds.length cap],.int .i64 (i:Int),.pointer (some ⟨b2,0,none⟩),.pointer (some ⟨b3,0,none⟩),.pointer (some ⟨b4,0,none⟩),.int .i64 0,.int .i64 cn,.int .i64 0,.pointer (some ⟨b8,0,none⟩),undef,undef,z11,z12,z13,z14,z15,z16,z17,z18,z19,z20,z21,z22,z23,z24,z25,z26,z27,z28,undef,undef,z31,z32,z33,z34,z35,z36,z37,z38,z39,z40,z41,undef,undef,undef,undef,undef,undef,undef,undef,undef,undef,undef,undef,undef,undef,undef,undef,undef,undef,undef,undef,undef,undef,undef,undef,undef,undef],defers:=[]} W:=by
 have hn1:1<=8:=by decide
 have hn12:=hd.fs;have hl2:b2<W.heap.size:=(Zs.1 q2).1;have hl3:b3<W.heap.size:=(Zs.1 q3).1;have hl4:b4<W.heap.size:=(Zs.1 q4).1;have hl8:b8<W.heap.size:=(Zs.1 q8).1;have hln:gn<W.heap.size:=(Zs.1 qn).1;have hlt:gt<W.heap.size:=(Zs.1 qt).1;obtain⟨c20,c21⟩:=pA q2;obtain⟨Q,hQ⟩: ∃Q,bodyPostM Fence.wide 8 Tryz.prog Tryz.f182 (fun e w'=> ∃gn gt,e=.returned (.tuple #[.agg #[.string ⟨d.kind.toArray⟩,.slice (some ⟨gn,0,none⟩) d.flds.length d.flds.length,.slice (some ⟨gt,0,none⟩) d.flds.length d.flds.length],.int .i64 0])/\Below w.heap.size w w'/\
   w.heap.size<=gn/\w.heap.size<=gt/\(∃c,w'.heap[gn]?=some (.cells c 9 (0,0)))/\(∃c,w'.heap[gt]?=some (.cells c 9 (0,0)))/\(∀j,j<d.flds.length->w'.cell? ⟨gn,j,none⟩=some (tV (d.flds.getD j zY).name)/\w'.cell? ⟨gt,j,none⟩=some (tV ((vC d.flds i).1.getD j []))))=Q:=⟨_,rfl⟩
 rw[hQ];dsimp only[jO,lK,Tryz.f182,Option.getD];have h112:=fun W'=>zuZ (.slice p d.flds.length cap) rfl W'
 gi_wp2_with (refine⟨trivial,?_⟩;gi_at_call 245;refine(callsIn_wide.2 (h112 _)).mono ?_;rintro e W2 ⟨rfl,rfl⟩)
 obtain⟨W2,hW2⟩: ∃W2,W.alloc (.cells #[.slice p d.flds.length cap] 67)=W2:=⟨_,rfl⟩;have hN:W2.heap.size=W.heap.size+1:=by rw[<-hW2,World.size_alloc]
 have old: ∀j,j<W.heap.size->W2.heap[j]?=W.heap[j]?:=fun j hj=>by rw[<-hW2];exact Below.heap_alloc _ _ _ hj
 have hbs:W2.heap[W.heap.size]?=some (.cells #[.slice p d.flds.length cap] 67 (0,0)):=by rw[<-hW2];exact World.alloc_heap_new _ _
 have hB2:Below w.heap.size w W2:=by rw[<-hW2];exact hB.alloc hB.size _
 rw[hW2];have hwW:=hB.size;refine zcw (α:=Ix d.flds.length) rfl (by decide) (gf:=266) (lb:= #[.pointer (some ⟨W.heap.size,0,none⟩)]) rfl trivial (enters_of Tryz.func266 (by kernel_rfl) rfl)
  (zuk 7 (by decide) W.heap.size d.flds.length cap (by omega) p b o (fvO d.flds pf) hf.o1 hf.o2 (fun h=>(hf.ad h).1) W2 (KpR W2.heap.size b3 gn gt) ⟨Zw _,fun _ _ _ _ _=>rfl⟩ (fun _ _ _=>KpR.trans) ?hbx ?hcl)
  (fun _ _ _=>KpR.trans) (fun A B row hs hg hr=>KpR.grown hs hg hr) (fun _=>rfl) (fun pre=>RdI d.flds i w W2.heap.size b3 gn gt W2 (pre.map fun x=>x.1)) (fun pre A B row hI hg hr=>RdI.own (by omega) (by omega) (by omega) hB2.size (Zw _) _ A B row hI hg fun r e=>(hr r e).1) ?h0
  (fun x a' W'=> ∃Bx,W2.heap.size<=Bx/\W'.heap[Bx]?=some (.cells #[(fvO d.flds pf x.1).1,(fvO d.flds pf x.1).2] 76 (0,0))/\a'={tmps:= #[.agg #[.string ⟨d.kind.toArray⟩,.slice p d.flds.length cap],.int .i64 (i:Int),.pointer (some ⟨b2,0,none⟩),.pointer (some ⟨b3,0,none⟩),.pointer (some ⟨b4,0,none⟩),.int .i64 0,.int .i64 cn,.int .i64 0,.pointer (some ⟨b8,0,none⟩),.int .i64 (x.1:Int),.pointer (some ⟨Bx,0,none⟩),z11,z12,z13,z14,z15,z16,z17,z18,z19,z20,z21,z22,z23,z24,z25,z26,z27,z28,undef,undef,z31,z32,z33,z34,z35,z36,z37,z38,z39,z40,z41,.pointer (some ⟨b2,1,none⟩),.slice p d.flds.length cap,.func (.func 266) #[] #[.pointer (some ⟨W.heap.size,0,none⟩)],.int .i64 (x.1:Int),.agg #[(fvO d.flds pf x.1).1,(fvO d.flds pf x.1).2],undef,undef,undef,undef,undef,undef,undef,undef,undef,undef,undef,undef,undef,undef,undef,undef,undef,undef,undef,undef,undef],defers:=[]}) ?hA ?assign ?body ?done
 case hbx=>
  intro A hA;have:=(hA.2 W.heap.size (by omega) (by omega) (by omega) (by omega)).trans hbs;exact sR this
 case hcl=>
  intro A hA k hk;obtain⟨_,hb⟩:=hf.ad (by omega);have hbl:A.heap[b]?=w.heap[b]?:=(hA.2 b (by omega) (by omega) (by omega) (by omega)).trans (hB2.block b hb);obtain⟨k1,k2⟩:=hf.cl k hk;exact⟨(World.cell?_of_block (w:=w) (a:=⟨b,o+k*2,none⟩) hbl).trans k1,(World.cell?_of_block (w:=w) (a:=⟨b,o+k*2+1,none⟩) hbl).trans k2⟩
 case h0=>
  exact⟨(old b3 hl3).trans q3,⟨_,(old gn hln).trans qn,zcN _,fun j hj=>by rw[znF hj];simp⟩,⟨_,(old gt hlt).trans qt,zcN _,fun j hj=>by rw[znF hj];simp[zyR]⟩,⟨Zw _,fun _ _ _ _ _=>rfl⟩,hB2⟩
 case hA=>
  rintro x a' W' l ob ob' ⟨Bx,h1,h2,rfl⟩ hl ho hc;refine⟨Bx,h1,?_,rfl⟩;rw[World.putObj_heap_other (fun e=>?_)]
  ·exact h2
  ·subst e;rw[h2] at ho;cases ho;cases hc
 case assign=>
  intro l pre x W' K hI hsz hK;simp only[zcx,fvO]
  gi_wp2
  have hb:=(Below.refl W'.heap.size W').alloc (Zw _) (.cells #[(fvO d.flds pf x.1).1,(fvO d.flds pf x.1).2] 76);have hg:=lI hb;exact hK _ _ ⟨W'.heap.size,hsz,World.alloc_heap_new W' _,rfl⟩ (RdI.own (by omega) (by omega) (by omega) hB2.size (Zw _) _ _ _ none hI hg (fun r e=>by cases e)) (KeepsFrom.of_grownBy hg (fun r e=>by cases e)) (KpR.grown hsz hg (fun r e=>by cases e)) (ZX hsz hg.size)
 case body=>
  rintro l pre x a' W3 ⟨Bx,hBx,hbx,rfl⟩ hI hlen hsz3;obtain⟨r3,⟨cN,r4,r5,r6⟩,⟨cT,r7,r8,r9⟩,r10,r11⟩:=hI;have hxk:=x.2;obtain⟨r,hr⟩: ∃r,(zyR d.flds i (pre.map fun x=>x.1)).1=r:=⟨_,rfl⟩;have hri:r<=4096:=by rw[<-hr];exact ZX (zuY _ _ _) hi
  have hfm:d.flds.getD x.1 zY∈d.flds:=by simp[List.getD,hxk]
  have hfR:=hd.fld hfm;have hsp:=zcv hfR;have hsl:=bG hfR;have hrp:=hf.rp x.1 hxk;have k61: ∀W',Below w.heap.size w W'->Calls Tryz.prog 90 #[.agg #[(fvO d.flds pf x.1).1,(fvO d.flds pf x.1).2]] W' fun e W''=>e=.returned (.int .i64 ((zX (d.flds.getD x.1 zY):Nat):Int))/\Below W'.heap.size W' W'':=fun W' hb=>(c61 _ hfR).intC (hG.later (xM hb)) (Z:=zV W') (fun _ h=>h) (qZ (oP hrp hb) (yY _ _))
  have k100: ∀q:Nat,q<=1000000-> ∀W',Below w.heap.size w W'->Calls Tryz.prog 92 #[.agg #[(fvO d.flds pf x.1).1,(fvO d.flds pf x.1).2],.int .i64 (q:Int)] W' fun e W''=>e=.returned (.string ⟨(textF (d.flds.getD x.1 zY) q).toArray⟩)/\Below W'.heap.size W' W'':=fun q hq W' hb=>(zno _ hfR (hs100 _ hfm) q hq).strC (hG.later (xM hb)) (Z:=zV W') (fun _ h=>h) (qZ (oP hrp hb) (wS (.int _ _) (yY _ _)))
  rw[hr] at r3;have q8':=(r10.2 b8 (by omega) (by omega) (by omega) (by omega)).trans ((old b8 hl8).trans q8);have f3:RB b3 b8 Bx gn gt (r:Int) _ d.flds.length _ _ cN cT W3:=⟨r3,q8',hbx,r4,r7⟩;have fd:=f3.later (uB W3);have hBd:=r11.trans ((uB W3).mono r11.size);have hu:=r6 x.1 hxk;have hv:=r9 x.1 hxk;have hw1:1<=8-1-1:=by decide
  have mixed:Tryz.prog.follows Departure.mixedOrders=true:=by kernel_rfl
  simp only[fvO] at fd k61 k100⊢;generalize hF:d.flds.getD x.1 zY=F at*
  generalize hS:zX F=S at*
  have aF:Aside (d.flds.getD x.1 zY=F):=hF;have aS:Aside (zX F=S):=hS;have aR:Aside ((zyR d.flds i (pre.map fun x=>x.1)).1=r):=hr;have aN:Aside (cN.size=d.flds.length/\(∀j,j<d.flds.length->cN[j]?=some (tV (if j∈pre.map (fun x=>x.1) then(d.flds.getD j zY).name else[])))/\cT.size=d.flds.length/\ ∀j,j<d.flds.length->cT[j]?=some (tV ((zyR d.flds i (pre.map fun x=>x.1)).2 j))):=⟨r5,r6,r8,r9⟩;have hS0: ¬(S:Int)=0:=by omega
  have hr1:(r:Int).tmod (S:Int)=((r % S:Nat):Int):=(Int.ofNat_tmod r S).symm;have hr2:(r:Int).tdiv (S:Int)=((r/S:Nat):Int):=(Int.ofNat_tdiv r S).symm;have hq:=k100 (r % S) (by have:=Nat.mod_le r S;omega);have hki:(x.1:Int)<d.flds.length:=by omega
  obtain⟨e1,e2,e3,e4,e5,e6,e7,e8,e9,e10⟩:=f3.cells hu hv;obtain⟨y1,y2,y3,y4,y5,y6,y7,y8,y9,y10⟩:=fd.cells hu hv;have m2:=n2.symm;have m3:=n3.symm;have m4:=n4.symm;have m5:=n5.symm;have m6:=n6.symm;have m1:=n1.symm;have x1:gn≠Bx:=by omega
  have x2:gt≠Bx:=by omega
  have x3:=x1.symm;have x4:=x2.symm;clear hF hS hr r3 q8' hbx r4 r7
  gi_wp2
  refine zu7 w _ cN cT _ _ l d.flds.length x.1 r b3 b8 Bx gn gt _ _ S _ _ _ hxk (by omega) n1 m4 n2 x1 m5 n3 x2 _ _ _ _ _ _ _ _ _ _ _ _ _ _ _ _ _ _ _ _ _ _ _ _ _ _ _ _ _ _ _ _ _ _ _ _ _ _ _ _ _ W3 fd hu hv hBd k61 hq _ (fun c a w h=>?hp) ?ho ?hn _ _ rfl rfl
  case hp=>exact h
  case ho=>rintro⟨a,W',h⟩;exact h
  case hn=>
   intro W5 _ _ _ _ _ _ _ _ _ _ _ _ _ _ _ _ f5 hB5 hs5;obtain⟨X,hX⟩: ∃X,(W5.setCell ⟨gn,x.1,none⟩ (.string ⟨F.name.toArray⟩)).setCell ⟨gt,x.1,none⟩ (.string ⟨(textF F (r % S)).toArray⟩)=X:=⟨_,rfl⟩;have gX1:=tG W5 gn x.1 cN 9 (0,0) (.string ⟨F.name.toArray⟩) f5.hn;have gX2:=tG (W5.setCell ⟨gn,x.1,none⟩ (.string ⟨F.name.toArray⟩)) gt x.1 cT 9 (0,0) (.string ⟨(textF F (r % S)).toArray⟩) ((zyS _ _ _ _ m1).trans f5.ht);have oX: ∀j,j≠gn->j≠gt->X.heap[j]?=W5.heap[j]?:=fun j h1 h2=>by rw[<-hX];exact(zyS _ _ _ _ h2).trans (zyS _ _ _ _ h1)
   have f6:RB b3 b8 Bx gn gt (r:Int) (.string ⟨d.kind.toArray⟩) d.flds.length (.string ⟨F.name.toArray⟩) (.slice (pf x.1).1 F.words.length (pf x.1).2) (cN.setIfInBounds x.1 (.string ⟨F.name.toArray⟩)) (cT.setIfInBounds x.1 (.string ⟨(textF F (r % S)).toArray⟩)) X:=
    ⟨(oX _ n4 n5).trans f5.h3,(oX _ m2 m3).trans f5.h8,(oX _ x3 x4).trans f5.hx,by rw[<-hX];exact(zyS _ _ _ _ n1).trans gX1,by rw[<-hX];exact gX2⟩
   have szX:X.heap.size=W5.heap.size:=by rw[<-hX];simp
   have hBX:Below w.heap.size w X:=by rw[<-hX];exact(hB5.setCell (p:=⟨gn,x.1,none⟩) gg _).setCell (p:=⟨gt,x.1,none⟩) gh _
   have fx:=f6.later (uB X);have hBXd:=hBX.trans ((uB X).mono hBX.size);have hu6:(cN.setIfInBounds x.1 (Value.string ⟨F.name.toArray⟩))[x.1]?=some (.string ⟨F.name.toArray⟩):=by rw[Array.getElem?_setIfInBounds_self_of_lt (by omega)]
   have hv6:(cT.setIfInBounds x.1 (Value.string ⟨(textF F (r % S)).toArray⟩))[x.1]?=some (.string ⟨(textF F (r % S)).toArray⟩):=by rw[Array.getElem?_setIfInBounds_self_of_lt (by omega)]
   obtain⟨a1,a2,a3,a4,a5,a6,a7,a8,a9,a10⟩:=f6.cells hu6 hv6;obtain⟨b1',b2',b3',b4',b5',b6',b7',b8',b9',b10'⟩:=fx.cells hu6 hv6;rw[hX];clear hX gX1 gX2;dsimp only
   gi_wp2
   gi_region_with_o (refine⟨trivial,?_⟩;gi_at_call 90;refine(CallsIn.inRound l (callsIn_wide.2 (k61 _ hBXd))).mono ?_;rintro e W6 ⟨rfl,hb6⟩;have f7:=fx.later hb6;have hB7:=hBXd.trans (hb6.mono hBXd.size);obtain⟨t1,t2,t3,t4,t5,t6,t7,t8,t9,t10⟩:=f7.cells hu6 hv6)
   all_goals
    have hqd:wrap64 ((r:Int)/(S:Int))=((r/S:Nat):Int):=by
     rw[<-Int.natCast_ediv];have hd0:=Xv r S;generalize r/S=dd at hd0;unfold wrap64;omega
    rw[hqd];have hh:KeepsFrom W2.heap.size W3 (W6.setCell ⟨b3,0,none⟩ (.int .i64 ((r/S:Nat):Int)))/\KpR W2.heap.size b3 gn gt W3 (W6.setCell ⟨b3,0,none⟩ (.int .i64 ((r/S:Nat):Int)))/\RdI d.flds i w W2.heap.size b3 gn gt W2 ((pre++[x]).map fun x=>x.1) (W6.setCell ⟨b3,0,none⟩ (.int .i64 ((r/S:Nat):Int))):=by
     rw[ZS];exact zu8 d.flds i w W2 W3 W5 X W6 W2.heap.size b3 gn gt b8 Bx (pre.map fun x=>x.1) x.1 _ F S r cN cT aF.out aS.out aR.out aN.out r10 hs5 oX szX f7 hB7 (uB X) hb6 (by omega) (by omega) (by omega) n4 n5 g3 hsz3 hxk
    exact hh
 case done=>
  rintro D xs W3 hD hxs hI hK;obtain⟨r3,⟨cN,r4,r5,r6⟩,⟨cT,r7,r8,r9⟩,r10,r11⟩:=hI;have k8:=(r10.2 b8 (by omega) (by omega) (by omega) (by omega)).trans ((old b8 hl8).trans q8);have k4:=(r10.2 b4 (by omega) (by omega) (by omega) (by omega)).trans ((old b4 hl4).trans q4);obtain⟨e1,e2,e3⟩:=sG k8;obtain⟨e4,e5,e6⟩:=sG k4;have e7: ∀j,W3.frozen? ⟨b4,j,none⟩=false:=fun j=>by simp[World.frozen?,k4]
  have e8:=e7 0;have e9:=e7 1;have e10:=e7 2;refine(‹∀(a:Act) (w:World),Code.wpIn Fence.wide 8 Tryz.prog _ _ a w->_›) _ _ ?_
  gi_wp2
  rw[<-hQ];have w1':=tG W3 b4 0 _ 155 (0,0) (.string ⟨d.kind.toArray⟩) k4;have w2':=tG _ b4 1 _ 155 (0,0) (.slice (some ⟨gn,0,none⟩) d.flds.length d.flds.length) w1';have w3':=tG _ b4 2 _ 155 (0,0) (.slice (some ⟨gt,0,none⟩) d.flds.length d.flds.length) w2';have oY: ∀j,j≠b4->(((W3.setCell ⟨b4,0,none⟩ (.string ⟨d.kind.toArray⟩)).setCell ⟨b4,1,none⟩ (.slice (some ⟨gn,0,none⟩) d.flds.length d.flds.length)).setCell ⟨b4,2,none⟩ (.slice (some ⟨gt,0,none⟩) d.flds.length d.flds.length)).heap[j]?=W3.heap[j]?:=fun j hj=>(zyS _ _ _ _ hj).trans ((zyS _ _ _ _ hj).trans (zyS _ _ _ _ hj))
  have hBY:Below w.heap.size w (((W3.setCell ⟨b4,0,none⟩ (.string ⟨d.kind.toArray⟩)).setCell ⟨b4,1,none⟩ (.slice (some ⟨gn,0,none⟩) d.flds.length d.flds.length)).setCell ⟨b4,2,none⟩ (.slice (some ⟨gt,0,none⟩) d.flds.length d.flds.length)):=((r11.setCell (p:=⟨b4,0,none⟩) g4 _).setCell (p:=⟨b4,1,none⟩) g4 _).setCell (p:=⟨b4,2,none⟩) g4 _;have hKY:=(oY D (by omega)).trans hK;generalize (((W3.setCell ⟨b4,0,none⟩ (.string ⟨d.kind.toArray⟩)).setCell ⟨b4,1,none⟩ (.slice (some ⟨gn,0,none⟩) d.flds.length d.flds.length)).setCell ⟨b4,2,none⟩ (.slice (some ⟨gt,0,none⟩) d.flds.length d.flds.length))=Y at w3' oY hBY hKY⊢;have hall:=znE d.flds i d.flds.length (Zw _);rw[Xi,List.drop_zero,<-List.range_eq_range'] at hall;have hxs':(xs.map fun x=>x.1)=(List.range d.flds.length).reverse:=hxs;rw[hxs'] at r6 r9;refine⟨by simp,.inl ⟨_,_,rfl,run_takeDeferred hKY,?_⟩⟩;refine⟨_,lL rfl _ _ rfl ((World.putObj_heap_other (by omega)).trans w3') Tryz.underlying155 (by kernel_rfl),gn,gt,rfl,hBY.grown (grownBy_putObj' _ D _) hBY.size (fun k e=>by cases e;omega),gg,gh,⟨cN,(World.putObj_heap_other (by omega)).trans ((oY gn n11.symm).trans r4)⟩,⟨cT,(World.putObj_heap_other (by omega)).trans ((oY gt n12.symm).trans r7)⟩,fun j hj=>?_⟩;have hn':(Y.putObj D (.deferred none)).heap[gn]?=some (.cells cN 9 (0,0)):=(World.putObj_heap_other (by omega)).trans ((oY gn n11.symm).trans r4);have ht':(Y.putObj D (.deferred none)).heap[gt]?=some (.cells cT 9 (0,0)):=(World.putObj_heap_other (by omega)).trans ((oY gt n12.symm).trans r7);have s1:=r6 j hj;have s2:=r9 j hj;rw[if_pos (by simp[hj])] at s1;have hq:=hall.2 j hj;rw[ZY] at hq;rw[hq] at s2;constructor
  ·simp only[World.cell?,hn'];simpa using s1
  ·simp only[World.cell?,ht'];simpa using s2
end Go.Proofs
