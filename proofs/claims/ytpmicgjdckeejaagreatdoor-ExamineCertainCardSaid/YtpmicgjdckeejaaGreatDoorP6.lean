/- A part of the proof; the last text states what is proved. -/
import Derived.Test.YtpmicgjdckeejaaGreatDoorP5
import Derived.Maps.AppendAt
import Derived.Deep.AppendSrc
import Derived.RangeFuncRecord
import Derived.RangeFuncBound
import Derived.RangeFuncCalls
import Derived.Laws.MakeOwn
import Derived.Deep.RegionHeld3
import Derived.OrdersHeld
import Derived.OrdersIn
import Derived.TacticsIn
import Derived.Laws.Rows
import Derived.Shelf.SlSortCmp.NoneTotal
import Derived.Test.YtpmicgjdckeejaaGreatDoorProg
import Derived.Shelf.SlicesG.Cmp
import Derived.Below
import Derived.WalkKit
import Derived.Deep.LoopGhost
import Derived.Lib.SlicesCompact
import Derived.Shelf.SlicesQ.Reverse
import Derived.Shelf.SlSortFuncK.RowK2
import Derived.Shelf.SlSortCmp.InsertionK
import Derived.Laws.StructEq
import Derived.Shelf.SlicesE.Kit
import Derived.Shelf.RegionOpenPlain
set_option linter.unusedVariables false
set_option linter.unusedSimpArgs false
set_option maxRecDepth 100000
set_option maxHeartbeats 8000000
open Array renaming eq_empty_of_size_eq_zero → YK,getD_eq_getD_getElem? → ZP,getElem?_append_left → YQ,getElem?_eq_getElem → Z8,getElem?_eq_some_iff → Zo,getElem?_modify → Xd,getElem?_push → YD,getElem?_setIfInBounds → Yi,getElem?_toList → Yr,replicate → YB,replicate_succ → YH,replicate_zero → YG
open BitVec renaming ofInt → Z7,toNat_ofNat → Xt
open Bool renaming and_eq_true → Zp,and_false → YP,eq_iff_iff → Yn,false_and → ZO,false_eq_true → Z3,false_or → YA,not_eq_true' → Xq,true_and → ZJ,true_or → XA
open Eq renaming refl → ZG,trans → ZN
open Exists renaming intro → Z4
open Int renaming natCast_mul → Yo,reduceBNe → Y6,reduceLE → Ym,reduceNeg → Xf,toNat_natCast → Yf
open List renaming all_eq_false → Yx,all_eq_true → Zw,any_eq_true → YO,append_assoc → Z9,append_nil → Zk,append_toArray → YM,cons_append → ZR,drop_eq_getElem_cons → ZE,drop_eq_nil_of_le → ZA,ext_getElem → Xc,flatten_cons → YE,foldl_append → Xp,foldl_cons → YF,getElem?_append_left → ZC,getElem?_eq_getElem → Zh,getElem?_eq_some_iff → Zr,getElem?_map → Zv,getElem?_take → Z2,getElem?_toArray → Y1,getElem_mem → Zy,getElem_of_mem → Y5,length_append → Zu,length_cons → Zn,length_filter_le → Y0,length_map → Zg,length_nil → ZF,length_pos_iff → Yd,length_take → Yt,map_append → ZW,map_cons → Zl,map_nil → Zq,mem_append → YI,mem_cons → ZH,mem_cons_of_mem → Zz,mem_filter → Yl,mem_map → ZS,mem_of_getElem? → ZI,mem_range → Yc,mem_singleton → ZX,nil_append → Ya,nodup_cons → ZV,not_mem_nil → Zx,push_toArray → YR,range' → Xk,range_succ → XI,setIfInBounds_toArray → ZM,set_cons_succ → Z1,set_cons_zero → ZZ,size_toArray → Yv,take_length → YN,take_of_length_le → Z6,take_succ_eq_append_getElem → ZQ
open List.Pairwise renaming nil → Xx
open List.Perm renaming refl → Xb
open Nat renaming add_assoc → Yy,add_mul → Yp,add_zero → Yk,div_le_self → Xl,le_refl → Zs,le_trans → ZY,lt_of_lt_of_le → ZL,min_eq_left → Xw,mod_eq_of_lt → Xs,mod_lt → Xj,mul_le_mul → Xz,mul_le_mul_right → ZT,mul_one → YL,one_mul → Xn,reduceAdd → Zd,reduceBEq → Za,reduceEqDiff → Zt,reduceLT → Z5,reduceLeDiff → Zm,reduceMul → Yg,reduceSub → Y3,sub_zero → XE,succ_mul → Xi,zero_add → ZU,zero_le → ZB
open Option renaming getD_some → Y7,isSome_none → YJ,map_some → Yq
open Option.some renaming inj → Yj
namespace Go.Abs
open Go.Proofs Go.RowKit Go.Lib Go.Wd Go.Wire Go.Ex
theorem zmF (l0:List Txt) (h0:0<l0.length) (hl:l0.length<=1000000) (s:Txt):Spec Tryz.prog 225 [.str s,.k (.c (.ro [zC 1 (zJ l0)] 0))] (fun v=>v=.bool (!decide (s=l0.headD []))):=by
 refine Spec.of_awlS hf225 okf225 (by simp) fun S hS=>?_
 have e:l0.headD []=l0[0]:=by cases l0 with|nil=>cases h0|cons a l=>rfl
 have c1:(0:Int)<l0.length:=by omega
 rw[e] at hS;have hat:=uI h0;simp only[c1,yB,hat,Qs,Zd,Za,Ym,Ψ225];refine wJ hS ?_;simp
end Go.Abs
namespace Go.Proofs
open Go.RowKit Go.Abs Go.Wd Go.Wire Go.Ex
theorem zmG (w:World) (base g1 n1 c1 g2 n2 c2:Nat) (xs ys:List Value) (hx:w.ownsRow base 9 1 (.slice (some ⟨g1,0,none⟩) n1 c1) n1 xs) (hb:base<=w.heap.size) (hy:ys.length=n2) (hyc: ∀j u,ys[j]?=some u->w.cell? ⟨g2,j,none⟩=some u) (h1: ∀u∈ys,u.oneCell'=true)
  (hn:n1+n2<=4000000):
  ∃g' cap' w',(Builtin.append_ #[51,51] 51 #[.slice (some ⟨g1,0,none⟩) n1 c1,.slice (some ⟨g2,0,none⟩) n2 c2]).run Tryz.prog w=.ok (.slice (some ⟨g',0,none⟩) (n1+n2) cap') w'/\n1+n2<=cap'/\cap'<=maxLen/\Below base w w'/\(∀k,k<w.heap.size->k≠g1->w'.heap[k]?=w.heap[k]?)/\
   (∀j u,(xs++ys)[j]?=some u->w'.cell? ⟨g',j,none⟩=some u)/\(∀j u,xs[j]?=some u->w'.cell? ⟨g1,j,none⟩=some u):=by
 obtain⟨i0,hi,hz0,hz1,hz2⟩:=info_parts (show(Tryz.prog.info? 9).map (fun i=>(i.zero,i.size,i.bytes))=some (some (.string ⟨#[]⟩),1,16) by kernel_rfl);rcases hx with⟨hxl,⟨hc,_⟩|⟨g,cap,cur,hv,hg,hh,h5,h6,h7,h8⟩⟩
 ·cases hc
 obtain⟨rfl,rfl⟩:g1=g/\c1=cap:=by cases hv;exact⟨rfl,rfl⟩
 have hS:Src Tryz.prog i0.size 51 (.slice (some ⟨g2,0,none⟩) n2 c2) n2 ys w:=Src.ofSlice w (e':=9) (by kernel_rfl) ⟨g2,0,none⟩ n2 c2 ys (by rw[hz1,hy];omega) (fun j u hu=>by rw[sH,ZU];exact hyc j u hu) h1;have hgs:g1<w.heap.size:=(Zo.1 hh).1;have hxs:xs.length=n1:=by omega
 have hcell: ∀j u,xs[j]?=some u->cur[j]?=some u:=fun j u hu=>by
  rw[<-h8,Z2] at hu;split at hu
  ·rwa [Yr] at hu
  ·cases hu
 have cell_of: ∀(W:World) (b:Nat) (cr:Array Value) (j:Nat) (u:Value),W.heap[b]?=some (.cells cr 9 (0,0))->cr[j]?=some u->W.cell? ⟨b,j,none⟩=some u:=fun W b cr j u h k=>by
  simp only[World.cell?,h];simpa using k
 by_cases hroom:n1+n2<=c1
 ·have hrun:=run_append_room_row (P:=Tryz.prog) (w:=w) 51 51 51 9 i0 (by kernel_rfl) hi g1 n1 c1 cur hh (.slice (some ⟨g2,0,none⟩) n2 c2) n2 ys hS hroom (by rw[hz1];exact h7)
  rw[hz1,YL] at hrun;have hcut:cur.toList.take n1=xs:=by rw[<-h8,YL]
  rw[hcut] at hrun;have hcx: ∀j u,(xs++ys)[j]?=some u->(xs++ys++cur.toList.drop (n1+ys.length)).toArray[j]?=some u:=fun j u hu=>by
   have hlt:j<(xs++ys).length:=(Zr.1 hu).1;rw[Y1,ZC hlt,hu]
  generalize (xs++ys++cur.toList.drop (n1+ys.length)).toArray=cur2 at hrun hcx;have hnew:=setRow_heap w g1 cur cur2 9 (0,0) hh;refine⟨g1,c1,_,hrun,hroom,h6,?_,fun k _ hk=>setRow_other w g1 k cur2 hk,fun j u hu=>cell_of _ _ _ _ _ hnew (hcx j u hu),fun j u hu=>cell_of _ _ _ _ _ hnew (hcx j u ?_)⟩
  ·exact⟨rfl,rfl,rfl,by simp,fun k hk=>setRow_other w g1 k cur2 (by omega)⟩
  ·rw[ZC (Zr.1 hu).1,hu]
 ·have hold:(Builtin.firstCells i0.size n1 (.slice (some ⟨g1,0,none⟩) n1 c1)).run Tryz.prog w.drew=.ok xs.toArray w.drew:=by
   rw[hz1];refine run_firstCells_some w.drew 1 n1 ⟨g1,0,none⟩ n1 c1 xs (by omega) fun j u hu=>?_
   rw[sH,ZU];exact cell_of w g1 cur j u hh (hcell j u hu)
  have hfit:Builtin.nextslicecap (n1+n2) c1*i0.bytes<=281474976710656:=growslice_fits (by omega) (by rw[hz2];omega);have hrun:=run_append_grow_src (P:=Tryz.prog) w 51 51 51 9 i0 (.string ⟨#[]⟩) (by kernel_rfl) hi hz0 (some ⟨g1,0,none⟩) n1 c1 xs hold (.slice (some ⟨g2,0,none⟩) n2 c2) n2 ys hS (by omega) (by omega) hfit;have hge:=grownCap_ge w (n1+n2) c1 9;have hlm:=grownCap_le_maxLen w (n1+n2) c1 9 (by simp only[maxLen];omega);generalize grownCap w (n1+n2) c1 9=cp at hrun hge hlm;have hcx: ∀j u,(xs++ys)[j]?=some u->((xs++ys).toArray++Builtin.zeroCells (Value.string ⟨#[]⟩).cells (cp-(n1+n2)))[j]?=some u:=fun j u hu=>by
   have hlt:j<(xs++ys).length:=(Zr.1 hu).1;rw[YQ (by simpa using hlt),Y1,hu]
  generalize ((xs++ys).toArray++Builtin.zeroCells (Value.string ⟨#[]⟩).cells (cp-(n1+n2)))=cur2 at hrun hcx;have hnew:(w.drew.alloc (.cells cur2 9)).heap[w.heap.size]?=some (.cells cur2 9 (0,0)):=World.alloc_heap_new w.drew _;refine⟨w.heap.size,cp,_,hrun,hge,hlm,?_,fun k hk _=>Below.heap_alloc w.drew _ k hk,fun j u hu=>cell_of _ _ _ _ _ hnew (hcx j u hu),fun j u hu=>?_⟩
  ·exact((Below.refl base w).drew).alloc hb _
  ·have hw:(w.drew.alloc (.cells cur2 9)).heap[g1]?=some (.cells cur 9 (0,0)):=(Below.heap_alloc w.drew _ g1 hgs).trans hh
   exact cell_of _ _ _ _ _ hw (hcell j u hu)
theorem zmH {W W':World} (hb:Below W.heap.size W W'):W.grownBy W' none:=⟨hb.os,hb.tape,hb.output,hb.size,fun k hk _=>hb.block k hk⟩
theorem zmI (L:List Txt) (j:Nat):(L.map tV)[j]?=(L[j]?).map tV:=Zv ..
theorem zmJ (L:List Txt):((zJ L).flatten.map wE)=L.map tV:=by
 induction L with
 |nil=>rfl
 |cons a L ih=>simp only[zJ,Zl,YE,ZW] at ih⊢;rw[ih];rfl
theorem zhU {w:World} {L:List Txt} (h0:0<L.length) {g o cap:Nat} (hg:g<w.heap.size) (h1:L.length<=cap) (h2:cap<=maxLen) (hc: ∀j u,(L.map tV)[j]?=some u->w.cell? ⟨g,o+j,none⟩=some u):
  PRep w (zW w) (zC 1 (zJ L)) (.slice (some ⟨g,o,none⟩) L.length cap):=by
 have e:zC 1 (zJ L)=.list 1 none (zJ L):=by
  unfold zC;rw[if_neg];cases L with|nil=>cases h0|cons a L=>simp[zJ]
 have e2:L.length=(zJ L).length:=(yB L).symm;rw[e,e2];have hat: ∀(i j:Nat) r c,(zJ L)[i]?=some r->r[j]?=some c->j=0/\ ∃s,L[i]?=some s/\c=.str s:=fun i j r c hr hc=>by
  rw[zJ,Zv] at hr;cases hs:L[i]? with
  |none=>rw[hs] at hr;cases hr
  |some s=>
   rw[hs] at hr;cases hr;cases j with
   |zero=>cases hc;exact⟨rfl,s,rfl,rfl⟩
   |succ j=>simp at hc
 refine .list g o cap 1 none (zJ L) (fun i _=>tV (L.getD i [])) (by simp) (by rw[yB];exact h1) h2 (fun _=>hg) (fun r hr=>by obtain⟨s,_,rfl⟩:=ZS.1 hr;rfl) (fun i j r c hr hcj=>?_) fun i j r c hr hcj=>?_
 ·obtain⟨rfl,s,hs,rfl⟩:=hat i j r c hr hcj
  rw[YL,Yk];exact hc i _ (by rw[zmI,hs];simp[List.getD,hs])
 ·obtain⟨rfl,s,hs,rfl⟩:=hat i j r c hr hcj
  have:L.getD i []=s:=by simp[List.getD,hs]
  rw[this];exact .str s
theorem zhV {W:World} {b0:Nat} {v:Value} {L:List Txt} (h:W.ownsRow b0 9 1 v (zJ L).length ((zJ L).flatten.map wE)) (h0:0<L.length):
  ∃g cap,v=.slice (some ⟨g,0,none⟩) L.length cap/\b0<=g/\L.length<=cap/\cap<=maxLen/\W.ownsRow b0 9 1 (.slice (some ⟨g,0,none⟩) L.length cap) L.length (L.map tV)/\ ∀j u,(L.map tV)[j]?=some u->W.cell? ⟨g,j,none⟩=some u:=by
 rw[yB,zmJ] at h;have h2:=h;rcases h with⟨_,⟨_,h3⟩|⟨g,cap,cur,rfl,hg,hh,h5,h6,h7,h8⟩⟩
 ·omega
 refine⟨g,cap,rfl,hg,h5,h6,h2,fun j u hu=>?_⟩;rw[<-h8,Z2] at hu;split at hu
 ·rw[Yr] at hu
  simp only[World.cell?,hh];simpa using hu
 ·cases hu
theorem gJ (d f:Txt): ∀(l:List Pln) (acc:List Txt),(fldsF d f l acc).2=true->acc.length<=(fldsF d f l acc).1.length/\(kindP l d=true->acc.length<(fldsF d f l acc).1.length)
 |[],acc,_=>⟨Zs _,fun h=>by simp[kindP] at h⟩
 |p::l,acc,h=>by
  rw[fldsF] at h⊢;by_cases hk:p.kind=d
  ·rw[if_pos hk] at h⊢
   split at h
   ·cases h
   ·rename_i hj
    rw[if_neg hj];have:=gJ d f l _ h;rw[Zu] at this;simp only[Zn,ZF] at this;exact⟨by omega,fun _=>by omega⟩
  ·rw[if_neg hk] at h⊢
   have:=gJ d f l acc h;refine⟨this.1,fun hq=>this.2 ?_⟩;unfold kindP at hq⊢;rw[List.any_cons,decide_eq_false hk,YA] at hq;exact hq
theorem gK {W:World} {b0:Nat} {v:Value} {L:List Txt} (h:W.ownsRow b0 9 1 v (zJ L).length ((zJ L).flatten.map wE)): ∃p cap,v=.slice p L.length cap:=by
 rw[yB] at h;rcases h.2 with⟨rfl,h3⟩|⟨g,cap,cur,rfl,_⟩
 ·exact⟨none,0,by rw[h3]⟩
 ·exact⟨_,cap,rfl⟩
theorem rK {W:World} {b t:Nat} {a0 a1 a2 a3:Value} (h:W.heap[b]?=some (.cells #[a0,a1,a2,a3] t (0,0))):
  W.cell? ⟨b,0,none⟩=some a0/\W.cell? ⟨b,1,none⟩=some a1/\W.cell? ⟨b,2,none⟩=some a2/\W.cell? ⟨b,3,none⟩=some a3:=by
 refine⟨?_,?_,?_,?_⟩<;>simp[World.cell?,h]
attribute [-go_sem] Builtin.append_
theorem zmK (L M:List Txt) (A:Bool) (hA:((L++M).any fun s=> !decide (s=L.headD []))=A) (hL0:0<L.length) (hlen:L.length+M.length<=3000000) (hLl:L.length<=1000000) (W:World) (hG:yI (base W)) (bx g3 cap3 g5 cap5:Nat) (hbx:W.heap[bx]?=some (.cells #[Value.slice (some ⟨g3,0,none⟩) L.length cap3] 51 (0,0)))
  (hc3:L.length<=cap3) (hm3:cap3<=maxLen) (hc5:L.length+M.length<=cap5) (hm5:cap5<=maxLen) (hcx: ∀j u,(L.map tV++M.map tV)[j]?=some u->W.cell? ⟨g5,j,none⟩=some u) (hcl: ∀j u,(L.map tV)[j]?=some u->W.cell? ⟨g3,j,none⟩=some u):
  Calls Tryz.prog 57 #[.slice (some ⟨g5,0,none⟩) (L.length+M.length) cap5,.func (.func 225) #[] #[.pointer (some ⟨bx,0,none⟩)]] W fun ex W'=>ex=.returned (.bool A)/\Below W.heap.size W W':=by
 subst hA;have hcon:=zho (c:=.ro [zC 1 (zJ L)] 0) (by simp only[C.norm,C.normRow,zO,wD]) (L++M) (fun s _=>zmF L hL0 hLl s) (by rw[Zu];exact hlen);have hb3:=World.block_lt_of_cell? _ _ (hcl 0 (tV L[0]) (by rw[Zv,Zh hL0];rfl));have hb5:=World.block_lt_of_cell? _ _ (hcx 0 (tV L[0]) (by rw[ZC (by simpa using hL0),Zv,Zh hL0];rfl));have hbl:=(Zo.1 hbx).1;have e:L.length+M.length=(L++M).length:=by simp
 have hP1:PRep W (zW W) (zC 1 (zJ (L++M))) (.slice (some ⟨g5,0,none⟩) (L++M).length cap5):=zhU (by rw[<-e];omega) hb5 (by rw[<-e];exact hc5) hm5 fun j u hu=>by rw[ZU];exact hcx j u (by rw[<-ZW];exact hu)
 have hP2:PRep W (zW W) (zC 1 (zJ L)) (.slice (some ⟨g3,0,none⟩) L.length cap3):=zhU hL0 hb3 hc3 hm3 fun j u hu=>by rw[ZU];exact hcl j u hu
 have hP3:PRep W (zW W) (.ro [zC 1 (zJ L)] 0) (.pointer (some ⟨bx,0,none⟩)):=.ro bx _ 0 (fun _=> .slice (some ⟨g3,0,none⟩) L.length cap3) hbl (fun j c hc=>by
  cases j with
  |zero=>simp[World.cell?,hbx]
  |succ j=>simp at hc) fun j c hc=>by
  cases j with
  |zero=>cases hc;exact hP2
  |succ j=>simp at hc
 have hP4:PRep W (zW W) (.fn 225 [.ro [zC 1 (zJ L)] 0]) (.func (.func 225) #[] #[.pointer (some ⟨bx,0,none⟩)]):=.fn 225 _ _ (fun _=> .pointer (some ⟨bx,0,none⟩)) rfl (fun j c hc=>by
  cases j with
  |zero=>rfl
  |succ j=>simp at hc) fun j c hc=>by
  cases j with
  |zero=>cases hc;exact hP3
  |succ j=>simp at hc
 rw[e];exact hcon.boolC hG (Z:=zW W) (fun _ h=>h) (vH hP1 (vH hP4 (xS _ _)))
theorem zmL (d f e g:Txt) (l:List Pln) (hl:vE l) (w:World) (hG:yI (base w)) (v2:Value) (hv:PRep w (zW w) (zC 3 (l.map yM)) v2):
  Calls Tryz.prog 222 #[.agg #[tV d,tV f,tV e,tV g],v2] w fun ex w'=>ex=.returned (.bool (agreesP d f e g l))/\Below w.heap.size w w':=by
 have k207: ∀s W,Below w.heap.size w W->Calls Tryz.prog 207 #[v2,tV s] W fun ex W'=>ex=.returned (.bool (kindP l s))/\Below W.heap.size W W':=fun s W hb=>
  (zhm s l hl.1).boolC (hG.later (xM hb)) (Z:=zW W) (fun _ h=>h) (vH (vW hv hb) (vH (.str _) (xS _ _)))
 have k215: ∀d f W,Below w.heap.size w W->Calls Tryz.prog 215 #[v2,.agg #[tV d,tV f]] W fun ex W'=> ∃v,ex=.returned (.tuple #[v,.bool (fldsF d f l []).2])/\Below W.heap.size W W'/\W'.ownsRow W.heap.size 9 1 v (zJ (fldsF d f l []).1).length ((zJ (fldsF d f l []).1).flatten.map wE):=fun d f W hb=>
  (zml d f l hl).newB (fun r hr c hc=>by obtain⟨s,_,rfl⟩:=ZS.1 hr;rw[ZX.1 hc];rfl) (fun r hr=>by obtain⟨s,_,rfl⟩:=ZS.1 hr;rfl) (hG.later (xM hb)) (Z:=zW W) (fun _ h=>h) (vH (vW hv hb) (vN (r:=[.str d,.str f]) (by simp[C.sc]) (xS _ _)))
 have hB0: ∀o,Below w.heap.size w (w.alloc o):=fun o=>(Below.refl _ w).alloc (Zs _) _
 have a207d:=k207 d;have a207e:=k207 e;have a215d:=k215 d f;have a215e:=k215 e g;have hvo:=hv.oneCell;have hp1:=fun h=>gJ d f l [] h
 have hp2:=fun h=>gJ e g l [] h
 have hR:agreesP d f e g l=agreesP d f e g l:=rfl
 conv at hR=>rhs;unfold agreesP
 generalize agreesP d f e g l=R at hR⊢;generalize kindP l d=b1 at a207d hR hp1;generalize kindP l e=b2 at a207e hR hp2;clear k207 k215;unfold tV at*
 cases b1 with
 |false=>
  rw[if_neg (by simp)] at hR;subst hR
  go_enter Tryz.func222,Tryz.ntmps222
  go_wp2_with (go_at_call 207;refine(a207d _ (hB0 _)).mono ?_;rintro ex w1 ⟨rfl,hb1⟩)
  go_ret
  exact⟨rfl,(hB0 _).trans (hb1.mono (hB0 _).size)⟩
 |true=>
  rw[if_pos rfl] at hR;cases b2 with
  |false=>
   rw[if_neg (by simp)] at hR;subst hR
   go_enter Tryz.func222,Tryz.ntmps222
   go_wp2_with (first|(go_at_call 207;refine(a207e _ hB1).mono ?_;rintro ex w2 ⟨rfl,hb2⟩)|(go_at_call 207;refine(a207d _ (hB0 _)).mono ?_;rintro ex w1 ⟨rfl,hb1⟩;have hB1:=(hB0 (.cells #[Value.string ⟨d.toArray⟩,Value.string ⟨f.toArray⟩,Value.string ⟨e.toArray⟩,Value.string ⟨g.toArray⟩] 169)).trans (hb1.mono (hB0 (.cells #[Value.string ⟨d.toArray⟩,Value.string ⟨f.toArray⟩,Value.string ⟨e.toArray⟩,Value.string ⟨g.toArray⟩] 169)).size);have hx1:=(hb1.block w.heap.size (by simp)).trans (World.alloc_heap_new w (.cells #[Value.string ⟨d.toArray⟩,Value.string ⟨f.toArray⟩,Value.string ⟨e.toArray⟩,Value.string ⟨g.toArray⟩] 169));obtain⟨q0,q1,q2,q3⟩:=rK hx1))
   go_ret
   exact⟨rfl,hB1.trans (hb2.mono hB1.size)⟩
  |true=>
   rw[if_pos rfl] at hR;have n1:=mB d f l [];have n2:=mB e g l [];have hl1:=hl.1;generalize (fldsF d f l [])=r1 at a215d hR n1 hp1;generalize (fldsF e g l [])=r2 at a215e hR n2 hp2;obtain⟨L,x1⟩:=r1;obtain⟨M,x2⟩:=r2;simp only[ZF,ZU] at a215d a215e hR n1 n2 hp1 hp2;have hx12:x1=true/\x2=true\/(x1&&x2)=false:=by cases x1<;>cases x2<;>simp
   rcases hx12 with⟨rfl,rfl⟩|hx12
   ·have hL0:0<L.length:=(hp1 rfl).2 trivial
    have hM0:0<M.length:=(hp2 rfl).2 trivial;rw[ZJ,ZJ] at hR;obtain⟨A,hA⟩: ∃A,Aside (((L++M).any fun s=> !decide (s=L.headD []))=A):=⟨_,rfl⟩;rw[hA.out] at hR;subst hR;clear hp1 hp2
    go_enter Tryz.func222,Tryz.ntmps222
    go_wp2_with (first|(go_at_call 57;refine(zmK L M A hA.out hL0 (by omega) (by omega) w5 (hG.later (xM (hB4.trans (hB5.mono hB2.size)))) w3.heap.size g3 cap3 g5 cap5 ((hoth w3.heap.size (Zo.1 hbx).1 (Nat.ne_of_gt hgl3)).trans hbx) hc3 hm3 hq5 hq6 hcx hcl).mono ?_;rintro ex w6 ⟨rfl,hb6⟩)|(go_at_call 215;refine(a215e _ hB3).mono ?_;rintro ex w4 ⟨v4,rfl,hb4,ho4⟩;have hB4:=hB3.trans (hb4.mono hB3.size);obtain⟨g4,cap4,rfl,hg4,hc4,hm4,ho4',hcl4⟩:=zhV ho4 hM0;have hbx:w4.heap[w3.heap.size]?=some (.cells #[Value.slice (some ⟨g3,0,none⟩) L.length cap3] 51 (0,0)):=(hb4.block w3.heap.size (by simp)).trans (World.alloc_heap_new w3 _);have hbc:w4.cell? ⟨w3.heap.size,0,none⟩=some (.slice (some ⟨g3,0,none⟩) L.length cap3):=(by simp[World.cell?,hbx]);obtain⟨g5,cap5,w5,hrun,hq5,hq6,hB5,hoth,hcx,hcl⟩:=zmG w4 w2.heap.size g3 L.length cap3 g4 M.length cap4 (L.map tV) (M.map tV) ((ho3'.kept (World.grownBy_alloc w3 (.cells #[Value.slice (some ⟨g3,0,none⟩) L.length cap3] 51) none) (Classical.em _)).kept (zmH hb4) (Classical.em _)) (ZY hb3.size (ZY (by simp) hb4.size)) (by simp) hcl4 (by intro u hu;obtain⟨s,_,rfl⟩:=ZS.1 hu;rfl) (by omega))|(go_at_call 215;refine(a215d _ hB2).mono ?_;rintro ex w3 ⟨v3,rfl,hb3,ho3⟩;obtain⟨g3,cap3,rfl,hg3,hc3,hm3,ho3',hcl3⟩:=zhV ho3 hL0;have hgl3:g3<w3.heap.size:=World.block_lt_of_cell? _ _ (hcl3 0 (tV L[0]) (by rw[Zv,Zh hL0];rfl));have hB3:=(hB2.trans (hb3.mono hB2.size)).alloc (hB2.trans (hb3.mono hB2.size)).size (.cells #[Value.slice (some ⟨g3,0,none⟩) L.length cap3] 51);have hx3:=(Below.heap_alloc w3 (.cells #[Value.slice (some ⟨g3,0,none⟩) L.length cap3] 51) w.heap.size (ZL (Zo.1 hx2).1 hb3.size)).trans ((hb3.block w.heap.size (Zo.1 hx2).1).trans hx2);obtain⟨s0,s1,s2,s3⟩:=rK hx3)|(go_at_call 207;refine(a207e _ hB1).mono ?_;rintro ex w2 ⟨rfl,hb2⟩;have hB2:=hB1.trans (hb2.mono hB1.size);have hx2:=(hb2.block w.heap.size (Zo.1 hx1).1).trans hx1;obtain⟨r0,r1,r2,r3⟩:=rK hx2)|(go_at_call 207;refine(a207d _ (hB0 _)).mono ?_;rintro ex w1 ⟨rfl,hb1⟩;have hB1:=(hB0 (.cells #[Value.string ⟨d.toArray⟩,Value.string ⟨f.toArray⟩,Value.string ⟨e.toArray⟩,Value.string ⟨g.toArray⟩] 169)).trans (hb1.mono (hB0 (.cells #[Value.string ⟨d.toArray⟩,Value.string ⟨f.toArray⟩,Value.string ⟨e.toArray⟩,Value.string ⟨g.toArray⟩] 169)).size);have hx1:=(hb1.block w.heap.size (by simp)).trans (World.alloc_heap_new w (.cells #[Value.string ⟨d.toArray⟩,Value.string ⟨f.toArray⟩,Value.string ⟨e.toArray⟩,Value.string ⟨g.toArray⟩] 169));obtain⟨q0,q1,q2,q3⟩:=rK hx1))
    go_ret
    exact⟨rfl,(hB4.trans (hB5.mono hB2.size)).trans (hb6.mono (hB4.trans (hB5.mono hB2.size)).size)⟩
   ·have hRf:R=false:=by rw[hR,<-Bool.and_assoc,hx12];rfl
    subst hRf;clear hR;cases x1 with
    |false=>
     go_enter Tryz.func222,Tryz.ntmps222
     go_wp2_with (first|(go_at_call 215;refine(a215e _ hB3).mono ?_;rintro ex w4 ⟨v4,rfl,hb4,ho4⟩;have hB4:=hB3.trans (hb4.mono hB3.size);obtain⟨p4,cap4,rfl⟩:=gK ho4)|(go_at_call 215;refine(a215d _ hB2).mono ?_;rintro ex w3 ⟨v3,rfl,hb3,ho3⟩;obtain⟨p3,cap3,rfl⟩:=gK ho3;have hB3:=(hB2.trans (hb3.mono hB2.size)).alloc (hB2.trans (hb3.mono hB2.size)).size (.cells #[Value.slice p3 L.length cap3] 51);have hx3:=(Below.heap_alloc w3 (.cells #[Value.slice p3 L.length cap3] 51) w.heap.size (ZL (Zo.1 hx2).1 hb3.size)).trans ((hb3.block w.heap.size (Zo.1 hx2).1).trans hx2);obtain⟨s0,s1,s2,s3⟩:=rK hx3)|(go_at_call 207;refine(a207e _ hB1).mono ?_;rintro ex w2 ⟨rfl,hb2⟩;have hB2:=hB1.trans (hb2.mono hB1.size);have hx2:=(hb2.block w.heap.size (Zo.1 hx1).1).trans hx1;obtain⟨r0,r1,r2,r3⟩:=rK hx2)|(go_at_call 207;refine(a207d _ (hB0 _)).mono ?_;rintro ex w1 ⟨rfl,hb1⟩;have hB1:=(hB0 (.cells #[Value.string ⟨d.toArray⟩,Value.string ⟨f.toArray⟩,Value.string ⟨e.toArray⟩,Value.string ⟨g.toArray⟩] 169)).trans (hb1.mono (hB0 (.cells #[Value.string ⟨d.toArray⟩,Value.string ⟨f.toArray⟩,Value.string ⟨e.toArray⟩,Value.string ⟨g.toArray⟩] 169)).size);have hx1:=(hb1.block w.heap.size (by simp)).trans (World.alloc_heap_new w (.cells #[Value.string ⟨d.toArray⟩,Value.string ⟨f.toArray⟩,Value.string ⟨e.toArray⟩,Value.string ⟨g.toArray⟩] 169));obtain⟨q0,q1,q2,q3⟩:=rK hx1))
     go_ret
     exact⟨rfl,hB4⟩
    |true=>
     cases x2 with
     |true=>cases hx12
     |false=>
      go_enter Tryz.func222,Tryz.ntmps222
      go_wp2_with (first|(go_at_call 215;refine(a215e _ hB3).mono ?_;rintro ex w4 ⟨v4,rfl,hb4,ho4⟩;have hB4:=hB3.trans (hb4.mono hB3.size);obtain⟨p4,cap4,rfl⟩:=gK ho4)|(go_at_call 215;refine(a215d _ hB2).mono ?_;rintro ex w3 ⟨v3,rfl,hb3,ho3⟩;obtain⟨p3,cap3,rfl⟩:=gK ho3;have hB3:=(hB2.trans (hb3.mono hB2.size)).alloc (hB2.trans (hb3.mono hB2.size)).size (.cells #[Value.slice p3 L.length cap3] 51);have hx3:=(Below.heap_alloc w3 (.cells #[Value.slice p3 L.length cap3] 51) w.heap.size (ZL (Zo.1 hx2).1 hb3.size)).trans ((hb3.block w.heap.size (Zo.1 hx2).1).trans hx2);obtain⟨s0,s1,s2,s3⟩:=rK hx3)|(go_at_call 207;refine(a207e _ hB1).mono ?_;rintro ex w2 ⟨rfl,hb2⟩;have hB2:=hB1.trans (hb2.mono hB1.size);have hx2:=(hb2.block w.heap.size (Zo.1 hx1).1).trans hx1;obtain⟨r0,r1,r2,r3⟩:=rK hx2)|(go_at_call 207;refine(a207d _ (hB0 _)).mono ?_;rintro ex w1 ⟨rfl,hb1⟩;have hB1:=(hB0 (.cells #[Value.string ⟨d.toArray⟩,Value.string ⟨f.toArray⟩,Value.string ⟨e.toArray⟩,Value.string ⟨g.toArray⟩] 169)).trans (hb1.mono (hB0 (.cells #[Value.string ⟨d.toArray⟩,Value.string ⟨f.toArray⟩,Value.string ⟨e.toArray⟩,Value.string ⟨g.toArray⟩] 169)).size);have hx1:=(hb1.block w.heap.size (by simp)).trans (World.alloc_heap_new w (.cells #[Value.string ⟨d.toArray⟩,Value.string ⟨f.toArray⟩,Value.string ⟨e.toArray⟩,Value.string ⟨g.toArray⟩] 169));obtain⟨q0,q1,q2,q3⟩:=rK hx1))
      go_ret
      exact⟨rfl,hB4⟩
end Go.Proofs
set_option maxRecDepth 100000
set_option maxHeartbeats 8000000
namespace Go.Ex
open Go.Lib Go.Wd Go.Wire Go.Abs
def vJ (fl:List Fld) (i:Nat) (pre:List Nat):Nat×(Nat->Txt):=
 pre.foldl (fun s k=>(s.1/yQ (fl.getD k yT),fun j=>if j=k then vX (fl.getD k yT) (s.1 % yQ (fl.getD k yT)) else s.2 j)) (i,fun _=>[])
theorem zhW (fl:List Fld) (i:Nat) (pre:List Nat) (k:Nat):vJ fl i (pre++[k])=((vJ fl i pre).1/yQ (fl.getD k yT),fun j=>if j=k then vX (fl.getD k yT) ((vJ fl i pre).1 % yQ (fl.getD k yT)) else(vJ fl i pre).2 j):=by
 unfold vJ;rw[Xp];rfl
theorem zmM (fl:List Fld) (i:Nat) (pre:List Nat):(vJ fl i pre).1<=i:=by
 have key: ∀(pre:List Nat) (s:Nat×(Nat->Txt)),(pre.foldl (fun(s:Nat×(Nat->Txt)) k=>(s.1/yQ (fl.getD k yT),fun j=>if j=k then vX (fl.getD k yT) (s.1 % yQ (fl.getD k yT)) else s.2 j)) s).1<=s.1:=by
  intro pre
  induction pre with
  |nil=>intro s;exact Zs _
  |cons a l ih=>intro s;rw[YF];exact ZY (ih _) (Xl _ _)
 exact key pre _
theorem zhX: ∀(l:List Fld) (i:Nat),(wQ l i).1.length=l.length
 |[],_=>rfl
 |f::l,i=>by rw[wQ,Zn,zhX l,Zn]
theorem zhY (fl:List Fld) (i:Nat): ∀k,k<=fl.length->(vJ fl i ((Xk (fl.length-k) k).reverse)).1=(wQ (fl.drop (fl.length-k)) i).2/\ ∀j,j<k->(vJ fl i ((Xk (fl.length-k) k).reverse)).2 (fl.length-k+j)=(wQ (fl.drop (fl.length-k)) i).1.getD j []
 |0,_=>by simp[vJ,wQ]
 |k+1,hk=>by
  have h:=zhY fl i k (by omega);have e:Xk (fl.length-(k+1)) (k+1)=(fl.length-(k+1))::Xk (fl.length-k) k:=by
   rw[List.range'_succ];congr 2;omega
  have hlt:fl.length-(k+1)<fl.length:=by omega
  have hd:fl.drop (fl.length-(k+1))=fl.getD (fl.length-(k+1)) yT::fl.drop (fl.length-k):=by
   rw[ZE hlt];simp only[List.getD,Zh hlt,Y7];congr 2;omega
  rw[e,List.reverse_cons,zhW,hd,wQ,h.1];refine⟨rfl,fun j hj=>?_⟩;cases j with
  |zero=>simp
  |succ j=>
   simp only[];rw[if_neg (by omega)];have:=h.2 j (by omega);rw[show fl.length-k+j=fl.length-(k+1)+(j+1) by omega] at this;rw[this];simp
end Go.Ex
namespace Go.Proofs
open Go.RowKit Go.Shelf Go.Abs Go.Wd Go.Wire Go.Ex
attribute [local go_sem] Oper.semAt_some
theorem zmN (v:Value) (hv:v.oneCell'=true) (w:World):Calls Tryz.prog 112 #[v] w fun e w'=>e=.returned (.func (.func 154) #[] #[.pointer (some ⟨w.heap.size,0,none⟩)])/\w'=w.alloc (.cells #[v] 56):=by
 go_enter Tryz.func112,Tryz.ntmps112
 go_wp2
 go_ret
 exact⟨rfl,rfl⟩
structure FldAt (w:World) (fl:List Fld) (p:Option Addr) (b o:Nat) (fv:Nat->Value×Value):Prop where
 ad:0<fl.length->p=some ⟨b,o,none⟩/\b<w.heap.size
 cl: ∀k,k<fl.length->w.cell? ⟨b,o+k*2,none⟩=some (fv k).1/\w.cell? ⟨b,o+k*2+1,none⟩=some (fv k).2
 rp: ∀k,k<fl.length->yD w (zW w) (zR (fl.getD k yT)) [(fv k).1,(fv k).2]
 o1: ∀k,(fv k).1.oneCell'=true
 o2: ∀k,(fv k).2.oneCell'=true
theorem zmO {w:World} {Z:Bk->Prop} (hz: ∀b,Z b->b.2<w.heap.size) {fl:List Fld} {v:Value} (h:PRep w Z (zC 2 (fl.map zR)) v): ∃p cap b o fv,v=.slice p fl.length cap/\FldAt w fl p b o fv:=by
 by_cases h0:fl=[]
 ·subst h0
  have h':PRep w Z (.list 0 none []) v:=h;have hd: ∀p,FldAt w [] p 0 0 fun _=>(.bool true,.bool true):=fun p=>⟨fun q=>absurd q (by simp),fun k q=>absurd q (by simp),fun k q=>absurd q (by simp),fun _=>rfl,fun _=>rfl⟩
  cases h' with
  |nil=>exact⟨none,0,0,0,_,rfl,hd _⟩
  |emp _ _ a _=>exact⟨some a,0,0,0,_,rfl,hd _⟩
  |list b o cap _ _ _ _ _ _ _ _ _ _ _=>exact⟨some ⟨b,o,none⟩,cap,0,0,_,rfl,hd _⟩
 ·have hne:(fl.map zR).isEmpty=false:=by cases fl<;>simp_all
  have hpos:=Yd.2 h0;have h':PRep w Z (.list 2 none (fl.map zR)) v:=by
   unfold zC at h;rw[hne,if_neg (by simp)] at h;exact h
  generalize hrw:fl.map zR=rows at h';cases h' with
  |nil=>simp at hrw;exact absurd hrw h0
  |emp _ _ a _=>simp at hrw;exact absurd hrw h0
  |list b o cap _ _ _ val h1 h2 h3 h4 h5 h6 h7=>
   subst hrw;have hat: ∀k,k<fl.length->(fl.map zR)[k]?=some (zR (fl.getD k yT)):=fun k hk=>by
    rw[Zv,Zh hk];simp[List.getD,hk]
   have hlen:(fl.map zR).length=fl.length:=Zg ..;have hb:b<w.heap.size:=hz _ (h4 (by rw[<-Yd,hlen];exact hpos));refine⟨some ⟨b,o,none⟩,cap,b,o,fun k=>if k<fl.length then(val k 0,val k 1) else(.bool true,.bool true),by rw[hlen],fun _=>⟨rfl,hb⟩,fun k hk=>?_,fun k hk=>?_,fun k=>?_,fun k=>?_⟩
   ·simp only[if_pos hk]
    exact⟨h6 k 0 _ _ (hat k hk) rfl,by have:=h6 k 1 _ _ (hat k hk) rfl;rwa [<-Yy] at this⟩
   ·simp only[if_pos hk]
    refine⟨rfl,fun j c u hc hu=>?_⟩
    match j with
    |0=>cases hc;cases hu;exact nZ hz (h7 k 0 _ _ (hat k hk) rfl)
    |1=>cases hc;cases hu;exact nZ hz (h7 k 1 _ _ (hat k hk) rfl)
    |j+2=>simp[zR] at hc
   ·by_cases hk:k<fl.length
    ·simp only[if_pos hk];exact(h7 k 0 _ _ (hat k hk) rfl).oneCell
    ·simp only[if_neg hk];rfl
   ·by_cases hk:k<fl.length
    ·simp only[if_pos hk];exact(h7 k 1 _ _ (hat k hk) rfl).oneCell
    ·simp only[if_neg hk];rfl
def fvO (fl:List Fld) (pf:Nat->Option Addr×Nat) (k:Nat):Value×Value:=(.string ⟨(fl.getD k yT).name.toArray⟩,.slice (pf k).1 (fl.getD k yT).words.length (pf k).2)
theorem zmP {w:World} {Z:Bk->Prop} {sz:Nat} {rows:List (List C)} {v:Value} (h:PRep w Z (zC sz rows) v): ∃p cap,v=.slice p rows.length cap:=by
 unfold zC at h;split at h
 ·rename_i he
  have:rows=[]:=by simpa using he
  subst this;cases h with
  |nil=>exact⟨none,0,rfl⟩
  |emp _ _ a _=>exact⟨some a,0,rfl⟩
  |list b o cap _ _ _ _ _ _ _ _ _ _ _=>exact⟨some ⟨b,o,none⟩,cap,rfl⟩
 ·cases h with
  |nil=>exact⟨none,0,rfl⟩
  |emp _ _ a _=>exact⟨some a,0,rfl⟩
  |list b o cap _ _ _ _ _ _ _ _ _ _ _=>exact⟨some ⟨b,o,none⟩,cap,rfl⟩
theorem zmQ {w:World} {fl:List Fld} {p:Option Addr} {b o:Nat} {fv:Nat->Value×Value} (h:FldAt w fl p b o fv): ∃pf,FldAt w fl p b o (fvO fl pf):=by
 have key: ∀k,∃q:Option Addr×Nat,k<fl.length->fv k=fvO fl (fun _=>q) k:=fun k=>by
  by_cases hk:k<fl.length
  ·have hr:=h.rp k hk
   have h1:=uQ (hr.2 0 (.str (fl.getD k yT).name) (fv k).1 rfl rfl);obtain⟨q,cap,h2⟩:=zmP (hr.2 1 (zC 1 ((fl.getD k yT).words.map xX)) (fv k).2 rfl rfl);rw[Zg] at h2;refine⟨(q,cap),fun _=>?_⟩;unfold fvO;exact Prod.ext h1 h2
  ·exact⟨(none,0),fun q=>absurd q hk⟩
 refine⟨fun k=>(key k).choose,?_⟩;have e: ∀k,k<fl.length->fvO fl (fun k=>(key k).choose) k=fv k:=fun k hk=>((key k).choose_spec hk).symm
 exact⟨h.ad,fun k hk=>by rw[e k hk];exact h.cl k hk,fun k hk=>by rw[e k hk];exact h.rp k hk,fun _=>rfl,fun _=>rfl⟩
end Go.Proofs
set_option maxRecDepth 100000
set_option maxHeartbeats 8000000
namespace Go.Proofs
open Go.RowKit Go.Shelf Go.Abs Go.Wd Go.Wire Go.Ex
attribute [local go_sem] Oper.semAt_some
def mk0 (n:Nat):Array Value:=madeCells (Value.string ⟨#[]⟩).cells n
theorem bV (n:Nat):(mk0 n).size=n:=size_madeCells _ _
theorem zhZ {n j:Nat} (h:j<n):(mk0 n)[j]?=some (tV []):=by
 have h1:j<(mk0 n).size:=by rw[bV];exact h
 rw[Z8 h1];simp[mk0,madeCells,Value.cells,tV,Nat.mod_one]
theorem zmR (n:Nat) (hn:n<=1000000) (W:World):(Instr.makeSlice 51 (.int .i64 (n:Int)) (.int .i64 (n:Int))).run Tryz.prog W=.ok (.slice (some ⟨W.heap.size,0,none⟩) n n) (W.alloc (.cells (mk0 n) 9)):=by
 obtain⟨i0,hi,hz0,hz1,hz2⟩:=info_parts (show(Tryz.prog.info? 9).map (fun i=>(i.zero,i.size,i.bytes))=some (some (.string ⟨#[]⟩),1,16) by kernel_rfl);have:=run_make (P:=Tryz.prog) W 51 9 i0 (.string ⟨#[]⟩) (by kernel_rfl) hi hz0 .i64 .i64 n n (by omega) (by omega) (by rw[hz2];omega) (by omega);rw[this,hz1];simp[mk0]
theorem xE (w:World) (a b c:Obj):(((w.alloc a).alloc b).alloc c).heap[w.heap.size]?=some a/\(((w.alloc a).alloc b).alloc c).heap[w.heap.size+1]?=some b/\(((w.alloc a).alloc b).alloc c).heap[w.heap.size+1+1]?=some c:=by
 have h:(((w.alloc a).alloc b).alloc c).heap=((w.heap.push a).push b).push c:=rfl;rw[h];refine⟨?_,?_,?_⟩
 ·rw[YD,if_neg (by simp;omega),YD,if_neg (by simp),YD,if_pos rfl]
 ·rw[YD,if_neg (by simp),YD,if_pos (by simp)]
 ·rw[YD,if_pos (by simp)]
theorem sS {W:World} {b t:Nat} {a0:Value} (h:W.heap[b]?=some (.cells #[a0] t (0,0))):W.cell? ⟨b,0,none⟩=some a0:=by simp[World.cell?,h]
theorem oP {W:World} {b t:Nat} {a0 a1:Value} (h:W.heap[b]?=some (.cells #[a0,a1] t (0,0))):W.cell? ⟨b,0,none⟩=some a0/\W.cell? ⟨b,1,none⟩=some a1:=by constructor<;>simp[World.cell?,h]
def tK (k:Nat):Code->Option Code
 | .region i o d=>if i=k then some (.region i o d) else none
 | .seq a b=>match tK k a with|some c=>some c|none=>tK k b
 | .cond _ a b=>match tK k a with|some c=>some c|none=>tK k b
 | .block _ c=>tK k c
 | .loop c=>tK k c
 | .scope c=>tK k c
 |_=>none
def oQ (f:Func):Code:=f.body.getD .skip
theorem wW (W:World):Below W.heap.size W W.drew:=(Below.refl _ W).drew
theorem zmS (kd:Txt) (p:Option Addr) (n cap i b2 b3 b4:Nat) (cn:Int) (hn:n<=12) (z11 z12 z13 z14 z15 z16 z17 z18 z19 z20 z21 z22 z23 z24 z25 z26 z27 z28:Value) (w1:World) (q2:w1.heap[b2]?=some (.cells #[.string ⟨kd.toArray⟩,.slice p n cap] 58 (0,0))) (Q:Exit->Act->World->Prop)
  (hQ: ∀(gn gt b8:Nat) (z31 z32 z33 z34 z35 z36 z37 z38 z39 z40 z41:Value) (W:World),gn≠gt->gn≠b8->gt≠b8->w1.heap.size<=gn->w1.heap.size<=gt->w1.heap.size<=b8->W.heap[gn]?=some (.cells (mk0 n) 9 (0,0))->W.heap[gt]?=some (.cells (mk0 n) 9 (0,0))->W.heap[b8]?=some (.cells #[.string ⟨kd.toArray⟩,.slice (some ⟨gn,0,none⟩) n n,.slice (some ⟨gt,0,none⟩) n n] 53 (0,0))->Below w1.heap.size w1 W->Q .normal {tmps:= #[.agg #[.string ⟨kd.toArray⟩,.slice p n cap],.int .i64 (i:Int),.pointer (some ⟨b2,0,none⟩),.pointer (some ⟨b3,0,none⟩),.pointer (some ⟨b4,0,none⟩),.int .i64 0,.int .i64 cn,.int .i64 0,.pointer (some ⟨b8,0,none⟩),undef,undef,z11,z12,z13,z14,z15,z16,z17,z18,z19,z20,z21,z22,z23,z24,z25,z26,z27,z28,undef,undef,z31,z32,z33,z34,z35,z36,z37,z38,z39,z40,z41,undef,undef,undef,undef,undef,undef,undef,undef,undef,undef,undef,undef,undef,undef,undef,undef,undef,undef,undef,undef,undef,undef,undef,undef,undef,undef],defers:=[]} W)
  (c:Code) (hc:tK 6 (oQ Tryz.f78)=some c):c.wpIn Fence.wide 8 Tryz.prog Q {tmps:= #[.agg #[.string ⟨kd.toArray⟩,.slice p n cap],.int .i64 (i:Int),.pointer (some ⟨b2,0,none⟩),.pointer (some ⟨b3,0,none⟩),.pointer (some ⟨b4,0,none⟩),.int .i64 0,.int .i64 cn,.int .i64 0,undef,undef,undef,z11,z12,z13,z14,z15,z16,z17,z18,z19,z20,z21,z22,z23,z24,z25,z26,z27,z28,undef,undef,undef,undef,undef,undef,undef,undef,undef,undef,undef,undef,undef,undef,undef,undef,undef,undef,undef,undef,undef,undef,undef,undef,undef,undef,undef,undef,undef,undef,undef,undef,undef,undef,undef,undef,undef,undef,undef],defers:=[]} w1:=by
 have hn1:1<=8:=by decide
 have mixed:Tryz.prog.follows Departure.mixedOrders=true:=by kernel_rfl
 have hmk:=zmR n (by omega);have hB3: ∀a b c,Below w1.heap.size w1 ((((w1.alloc a).alloc b).alloc c).drew):=fun a b c=>((((Below.refl _ w1).alloc (Zs _) _).alloc (by simp) _).alloc (by simp;omega) _).drew
 obtain⟨c20,c21⟩:=oP q2;have l2:b2<w1.heap.size:=(Zo.1 q2).1;have l2b:b2<w1.heap.size+1:=Nat.lt_succ_of_lt l2;have l2c:b2<w1.heap.size+1+1:=Nat.lt_succ_of_lt l2b;have hc2:some c=tK 6 (oQ Tryz.f78):=hc.symm;have hc3:c=_:=Yj (hc2.trans (show tK 6 (oQ Tryz.f78)=some _ from rfl));subst hc3;clear hc hc2;have kp: ∀W,Below w1.heap.size w1 W->W.cell? ⟨b2,0,none⟩=some (.string ⟨kd.toArray⟩)/\W.cell? ⟨b2,1,none⟩=some (.slice p n cap):=fun W hb=>oP ((hb.block b2 l2).trans q2)
 have kp0:=kp _ (wW w1);have kp1:=fun a=>kp _ ((((Below.refl _ w1).alloc (Zs _) a)).drew)
 have kp2:=fun a b=>kp _ ((((Below.refl _ w1).alloc (Zs _) a).alloc (by simp) b).drew)
 have kp3:=fun a b c=>kp _ (hB3 a b c)
 refine wpIn_wide.2 ?_
 go_region_held3 (fun w'=>w'.cell? ⟨b2,0,none⟩=some (.string ⟨kd.toArray⟩)/\w'.cell? ⟨b2,1,none⟩=some (.slice p n cap)) (first|exact kp0|exact kp1 _|exact kp2 _ _|exact kp3 _ _ _|go_keep) (fail)
 all_goals first
  |exact hQ w1.heap.size (w1.heap.size+1) (w1.heap.size+1+1) _ _ _ _ _ _ _ _ _ _ _ _ (by omega) (by omega) (by omega) (by omega) (by omega) (by omega) (xE w1 _ _ _).1 (xE w1 _ _ _).2.1 (xE w1 _ _ _).2.2 (hB3 _ _ _)
  |exact hQ w1.heap.size (w1.heap.size+1+1) (w1.heap.size+1) _ _ _ _ _ _ _ _ _ _ _ _ (by omega) (by omega) (by omega) (by omega) (by omega) (by omega) (xE w1 _ _ _).1 (xE w1 _ _ _).2.2 (xE w1 _ _ _).2.1 (hB3 _ _ _)
  |exact hQ (w1.heap.size+1) w1.heap.size (w1.heap.size+1+1) _ _ _ _ _ _ _ _ _ _ _ _ (by omega) (by omega) (by omega) (by omega) (by omega) (by omega) (xE w1 _ _ _).2.1 (xE w1 _ _ _).1 (xE w1 _ _ _).2.2 (hB3 _ _ _)
  |exact hQ (w1.heap.size+1) (w1.heap.size+1+1) w1.heap.size _ _ _ _ _ _ _ _ _ _ _ _ (by omega) (by omega) (by omega) (by omega) (by omega) (by omega) (xE w1 _ _ _).2.1 (xE w1 _ _ _).2.2 (xE w1 _ _ _).1 (hB3 _ _ _)
  |exact hQ (w1.heap.size+1+1) w1.heap.size (w1.heap.size+1) _ _ _ _ _ _ _ _ _ _ _ _ (by omega) (by omega) (by omega) (by omega) (by omega) (by omega) (xE w1 _ _ _).2.2 (xE w1 _ _ _).1 (xE w1 _ _ _).2.1 (hB3 _ _ _)
  |exact hQ (w1.heap.size+1+1) (w1.heap.size+1) w1.heap.size _ _ _ _ _ _ _ _ _ _ _ _ (by omega) (by omega) (by omega) (by omega) (by omega) (by omega) (xE w1 _ _ _).2.2 (xE w1 _ _ _).2.1 (xE w1 _ _ _).1 (hB3 _ _ _)
end Go.Proofs
set_option maxRecDepth 10000
namespace Go
variable {n : Nat} {P : Program} {ops : Array Oper} {Q : Exit -> Act -> World -> Prop} {md : Region.Mode}
theorem Oper.wpIn_round {l:Nat} {o:Oper} (hd: ∀c,o.op≠.defer c) {a:Act} {w:World} {K:Act->World->Prop} (h:o.wp P a w K Q):o.wpIn (Fence.wide.inRound l) n P a w K Q:=by
 refine⟨fun _ _=>trivial,?_⟩;have e:Oper.semAt (Fence.wide.inRound l).round a.eval o=execOp a.eval o:=Oper.semAt_some l a.eval o hd;rw[e];unfold Oper.wp at h;generalize (execOp a.eval o).run P w=r at h;cases r with
 |ok x w'=>
  cases x with
  |value v=>exact h
  |skip=>exact h
  | «defer» d=>exact h
  |enter f args=>exact⟨fun q=>by simp[Fence.wide,Fence.inRound] at q,callsIn_wide.2 h⟩
  |row row args=>exact⟨fun q=>by simp[Fence.wide,Fence.inRound] at q,fun c cs _=>let ⟨v,w',r,s⟩:=h c cs;⟨v,w',r,stepsIn_wide.2 s⟩⟩
  |_=>exact h.elim
 |halt x w'=>cases x<;>exact h
theorem zmT {l i:Nat} (hL: ¬LetsOut Q) (hd: ∀(j:Nat) (o:Oper),ops[j]?=some o-> ∀c,o.op≠.defer c) {K K':Act->World->Prop} (hK: ∀a w,K a w->K' a w) {a:Act} {w:World} (h:wpOp P ops Q i K a w):wpOpIn (Fence.wide.inRound l) n P ops Q i K' a w:=by
 refine wpOpIn_mono hK ?_;unfold wpOp at h;unfold wpOpIn;split
 ·rename_i ho
  simp only[ho] at h;exact h
 ·rename_i o ho
  simp only[ho] at h;split
  ·rename_i hw
   simp only[hw,if_true] at h;exact Oper.wpIn_round (hd i o ho) (h.resolve_right fun q=>hL q.2)
  ·rename_i hw
   simp only[hw] at h;exact⟨fun _ _=>trivial,h⟩
theorem zh0 {l:Nat} (hL: ¬LetsOut Q) (hd: ∀(j:Nat) (o:Oper),ops[j]?=some o-> ∀c,o.op≠.defer c): ∀(fuel:Nat) (listed:Array Bool) (a:Act) (w:World),wpAny P md ops Q fuel listed a w->wpAnyIn (Fence.wide.inRound l) n P md ops Q fuel listed a w
 |0,_,_,_,h=>h
 |fuel+1,_,_,_,h=>⟨h.1,fun i hi=>zmT hL hd (fun a' w' h'=>zh0 hL hd fuel _ a' w' h') (h.2 i hi)⟩
def bZ (ops:Array Oper):Bool:=ops.toList.all fun o=>match o.op with| .defer _=>false|_=>true
theorem zmU (h:bZ ops=true): ∀(j:Nat) (o:Oper),ops[j]?=some o-> ∀c,o.op≠.defer c:=by
 intro j o ho c e;unfold bZ at h;rw[Zw] at h;have:=h o (by rw[<-Yr] at ho;exact ZI ho);rw[e] at this;cases this
theorem zmV {l id:Nat} {S:World->Prop} {a:Act} {w:World} (hm:P.follows .mixedOrders=true) (hd:bZ ops=true) (hL: ¬LetsOut Q)
  (h:wpAnyH P .any ops Q S ops.size (YB ops.size false) a w.drew):(Code.region id ops true).wpIn (Fence.wide.inRound l) n P Q a w:=
 wpIn_region_any hm (zh0 hL (zmU hd) _ _ _ _ (wpAny_of_held _ _ _ _ h))
end Go
set_option maxRecDepth 100000
namespace Go.Proofs
open Go.RowKit Go.Shelf Go.Abs Go.Wd Go.Wire Go.Ex
structure RB (b3 b8 Bx gn gt:Nat) (r:Int) (kd:Value) (n:Nat) (v1 v2:Value) (cN cT:Array Value) (W:World):Prop where
 h3:W.heap[b3]?=some (.cells #[.int .i64 r] 3 (0,0))
 h8:W.heap[b8]?=some (.cells #[kd,.slice (some ⟨gn,0,none⟩) n n,.slice (some ⟨gt,0,none⟩) n n] 53 (0,0))
 hx:W.heap[Bx]?=some (.cells #[v1,v2] 107 (0,0))
 hn:W.heap[gn]?=some (.cells cN 9 (0,0))
 ht:W.heap[gt]?=some (.cells cT 9 (0,0))
theorem RB.later {b3 b8 Bx gn gt:Nat} {r:Int} {kd:Value} {n:Nat} {v1 v2:Value} {cN cT:Array Value} {W W':World} (h:RB b3 b8 Bx gn gt r kd n v1 v2 cN cT W) (hb:Below W.heap.size W W'):RB b3 b8 Bx gn gt r kd n v1 v2 cN cT W':=
 ⟨(hb.block _ (Zo.1 h.h3).1).trans h.h3,(hb.block _ (Zo.1 h.h8).1).trans h.h8,(hb.block _ (Zo.1 h.hx).1).trans h.hx,(hb.block _ (Zo.1 h.hn).1).trans h.hn,(hb.block _ (Zo.1 h.ht).1).trans h.ht⟩
theorem RB.cells {b3 b8 Bx gn gt:Nat} {r:Int} {kd:Value} {n:Nat} {v1 v2:Value} {cN cT:Array Value} {W:World} (h:RB b3 b8 Bx gn gt r kd n v1 v2 cN cT W) {k:Nat} {u v:Value} (hu:cN[k]?=some u) (hv:cT[k]?=some v):
  W.cell? ⟨b3,0,none⟩=some (.int .i64 r)/\W.cell? ⟨b8,1,none⟩=some (.slice (some ⟨gn,0,none⟩) n n)/\W.cell? ⟨b8,2,none⟩=some (.slice (some ⟨gt,0,none⟩) n n)/\W.cell? ⟨Bx,0,none⟩=some v1/\W.cell? ⟨Bx,1,none⟩=some v2/\
   W.cell? ⟨gn,k,none⟩=some u/\W.cell? ⟨gt,k,none⟩=some v/\W.frozen? ⟨gn,k,none⟩=false/\W.frozen? ⟨gt,k,none⟩=false/\W.frozen? ⟨b3,0,none⟩=false:=by
 obtain⟨h1,h2,h3,h4,h5⟩:=h;refine⟨?_,?_,?_,?_,?_,?_,?_,?_,?_,?_⟩<;>simp[World.cell?,World.frozen?,h1,h2,h3,h4,h5,hu,hv]
end Go.Proofs
set_option maxRecDepth 100000
set_option maxHeartbeats 8000000
namespace Go.Proofs
open Go.RowKit Go.Shelf Go.Abs Go.Wd Go.Wire Go.Ex
def qE:Code->Option Code
 | .rangeFunc _ _ _ b=>some b
 | .seq a b=>match qE a with|some c=>some c|none=>qE b
 | .cond _ a b=>match qE a with|some c=>some c|none=>qE b
 | .block _ c=>qE c
 | .loop c=>qE c
 | .scope c=>qE c
 |_=>none
theorem zmW (w:World) (kd:Value) (cN cT0:Array Value) (u v:Value) (l n k r b3 b8 Bx gn gt n2 c2 S:Nat) (tx:Txt) (v1:ByteArray) (p2:Option Addr) (hk:k<n) (hS:0<S) (n1:gn≠gt) (m1:gn≠b3) (m2:gn≠b8) (m3:gn≠Bx) (m4:gt≠b3) (m5:gt≠b8) (m6:gt≠Bx) (y0 y1 y2 y4 y5 y6 y7 y11 y12 y13 y14 y15 y16 y17 y18 y19 y20 y21 y22 y23 y24 y25 y26 y27 y28 y31 y32 y33 y34 y35 y36 y37 y38 y39 y40 y41 y42 y43 y44 y45 y46:Value) (W:World) (fd:RB b3 b8 Bx gn gt (r:Int) kd n (.string v1) (.slice p2 n2 c2) cN cT0 W.drew) (hu:cN[k]?=some u) (hv:cT0[k]?=some v) (hBd:Below w.heap.size w W.drew)
  (k61: ∀W',Below w.heap.size w W'->Calls Tryz.prog 61 #[.agg #[.string v1,.slice p2 n2 c2]] W' fun e W''=>e=.returned (.int .i64 (S:Int))/\Below W'.heap.size W' W'')
  (k100: ∀W',Below w.heap.size w W'->Calls Tryz.prog 100 #[.agg #[.string v1,.slice p2 n2 c2],.int .i64 ((r % S:Nat):Int)] W' fun e W''=>e=.returned (.string ⟨tx.toArray⟩)/\Below W'.heap.size W' W'') (Q:Exit->Act->World->Prop) (hQp: ∀c a w,¬Q (.panic c) a w) (hQo: ¬LetsOut Q) (hQn: ∀(W5:World) (z47 z48 z49 z50 z51 z52 z53 z54 z55 z56 z57 z58 z59 z60 z61 z62:Value),RB b3 b8 Bx gn gt (r:Int) kd n (.string v1) (.slice p2 n2 c2) cN cT0 W5->Below w.heap.size w W5->Below W.heap.size W W5->Q .normal {tmps:= #[y0,y1,y2,.pointer (some ⟨b3,0,none⟩),y4,y5,y6,y7,.pointer (some ⟨b8,0,none⟩),.int .i64 (k:Int),.pointer (some ⟨Bx,0,none⟩),y11,y12,y13,y14,y15,y16,y17,y18,y19,y20,y21,y22,y23,y24,y25,y26,y27,y28,undef,undef,y31,y32,y33,y34,y35,y36,y37,y38,y39,y40,y41,y42,y43,y44,y45,y46,z47,z48,z49,z50,z51,z52,z53,z54,z55,z56,z57,z58,z59,z60,z61,z62,undef,undef,undef,undef,undef],defers:=[]} ((W5.setCell ⟨gn,k,none⟩ (.string v1)).setCell ⟨gt,k,none⟩ (.string ⟨tx.toArray⟩)))
  (bd cd:Code) (hbd:qE (oQ Tryz.f78)=some bd) (hcd:tK 10 bd=some cd):cd.wpIn (Fence.wide.inRound l) 6 Tryz.prog Q {tmps:= #[y0,y1,y2,.pointer (some ⟨b3,0,none⟩),y4,y5,y6,y7,.pointer (some ⟨b8,0,none⟩),.int .i64 (k:Int),.pointer (some ⟨Bx,0,none⟩),y11,y12,y13,y14,y15,y16,y17,y18,y19,y20,y21,y22,y23,y24,y25,y26,y27,y28,undef,undef,y31,y32,y33,y34,y35,y36,y37,y38,y39,y40,y41,y42,y43,y44,y45,y46,undef,undef,undef,undef,undef,undef,undef,undef,undef,undef,undef,undef,undef,undef,undef,undef,undef,undef,undef,undef,undef],defers:=[]} W:=by
 obtain rfl:bd=_:=Yj (hbd.symm.trans (show qE (oQ Tryz.f78)=some _ from rfl));obtain rfl:cd=_:=Yj (hcd.symm.trans (show tK 10 _=some _ from rfl));clear hbd hcd;have hki:(k:Int)<n:=by omega
 have cS: ∀W',RB b3 b8 Bx gn gt (r:Int) kd n (.string v1) (.slice p2 n2 c2) cN cT0 W'->(fun W=>W.cell? ⟨b3,0,none⟩=some (.int .i64 (r:Int))/\W.cell? ⟨b8,1,none⟩=some (.slice (some ⟨gn,0,none⟩) n n)/\W.cell? ⟨b8,2,none⟩=some (.slice (some ⟨gt,0,none⟩) n n)/\W.cell? ⟨Bx,0,none⟩=some (.string v1)/\W.cell? ⟨Bx,1,none⟩=some (.slice p2 n2 c2)) W':=fun W' h=>by
  obtain⟨e1,e2,e3,e4,e5,_⟩:=h.cells hu hv;exact⟨e1,e2,e3,e4,e5⟩
 have hS0:=cS _ fd;have hSn: ¬(S:Int)=0:=by omega
 have hSm: ¬S=0:=by omega
 have cT: ∀(W':World) (g:Nat) (x:Value),g≠b3->g≠b8->g≠Bx->(fun W=>W.cell? ⟨b3,0,none⟩=some (.int .i64 (r:Int))/\W.cell? ⟨b8,1,none⟩=some (.slice (some ⟨gn,0,none⟩) n n)/\W.cell? ⟨b8,2,none⟩=some (.slice (some ⟨gt,0,none⟩) n n)/\W.cell? ⟨Bx,0,none⟩=some (.string v1)/\W.cell? ⟨Bx,1,none⟩=some (.slice p2 n2 c2)) W'->(fun W=>W.cell? ⟨b3,0,none⟩=some (.int .i64 (r:Int))/\W.cell? ⟨b8,1,none⟩=some (.slice (some ⟨gn,0,none⟩) n n)/\W.cell? ⟨b8,2,none⟩=some (.slice (some ⟨gt,0,none⟩) n n)/\W.cell? ⟨Bx,0,none⟩=some (.string v1)/\W.cell? ⟨Bx,1,none⟩=some (.slice p2 n2 c2)) (W'.setCell ⟨g,k,none⟩ x):=fun W' g x g1 g2 g3 h=>by
  have ne: ∀b o,g≠b->(⟨g,k,none⟩:Addr)≠⟨b,o,none⟩:=fun b o hb e=>hb (by cases e;rfl)
  obtain⟨e1,e2,e3,e4,e5⟩:=h;exact⟨(World.cell?_setCell_other _ _ _ _ (ne _ _ g1)).trans e1,(World.cell?_setCell_other _ _ _ _ (ne _ _ g2)).trans e2,(World.cell?_setCell_other _ _ _ _ (ne _ _ g2)).trans e3,(World.cell?_setCell_other _ _ _ _ (ne _ _ g3)).trans e4,(World.cell?_setCell_other _ _ _ _ (ne _ _ g3)).trans e5⟩
 have hr1:(r:Int).tmod (S:Int)=((r % S:Nat):Int):=(Int.ofNat_tmod r S).symm;have hk0:(0:Int)<=k:=by omega
 refine zmV (S:=(fun W=>W.cell? ⟨b3,0,none⟩=some (.int .i64 (r:Int))/\W.cell? ⟨b8,1,none⟩=some (.slice (some ⟨gn,0,none⟩) n n)/\W.cell? ⟨b8,2,none⟩=some (.slice (some ⟨gt,0,none⟩) n n)/\W.cell? ⟨Bx,0,none⟩=some (.string v1)/\W.cell? ⟨Bx,1,none⟩=some (.slice p2 n2 c2))) (by kernel_rfl) (by kernel_rfl) hQo ?_;show wpAnyH _ _ _ _ _ 18 _ _ _;refine wpAnyH_take (i:=0) (v:=.pointer (some ⟨b8,1,none⟩)) rfl (by kernel_rfl) (by kernel_rfl) (by kernel_rfl) (fun c a w h=>absurd h (hQp _ _ _)) (.inl ⟨rfl,fun W hS=>?_⟩) hS0 ?_
 ·obtain⟨s1,s2,s3,s4,s5⟩:=hS
  go_simp
 simp only[Act.put,ZM,ZZ,Z1];refine wpAnyH_take (i:=1) (v:=.slice (some ⟨gn,0,none⟩) n n) rfl (by kernel_rfl) (by kernel_rfl) (by kernel_rfl) (fun c a w h=>absurd h (hQp _ _ _)) (.inl ⟨rfl,fun W hS=>?_⟩) hS0 ?_
 ·obtain⟨s1,s2,s3,s4,s5⟩:=hS
  go_simp
 simp only[Act.put,ZM,ZZ,Z1];refine wpAnyH_take (i:=2) (v:=.int .i64 (k:Int)) rfl (by kernel_rfl) (by kernel_rfl) (by kernel_rfl) (fun c a w h=>absurd h (hQp _ _ _)) (.inl ⟨rfl,fun W hS=>?_⟩) hS0 ?_
 ·obtain⟨s1,s2,s3,s4,s5⟩:=hS
  go_simp
 simp only[Act.put,ZM,ZZ,Z1];refine wpAnyH_take (i:=3) (v:=.pointer (some ⟨b8,2,none⟩)) rfl (by kernel_rfl) (by kernel_rfl) (by kernel_rfl) (fun c a w h=>absurd h (hQp _ _ _)) (.inl ⟨rfl,fun W hS=>?_⟩) hS0 ?_
 ·obtain⟨s1,s2,s3,s4,s5⟩:=hS
  go_simp
 simp only[Act.put,ZM,ZZ,Z1];refine wpAnyH_take (i:=4) (v:=.slice (some ⟨gt,0,none⟩) n n) rfl (by kernel_rfl) (by kernel_rfl) (by kernel_rfl) (fun c a w h=>absurd h (hQp _ _ _)) (.inl ⟨rfl,fun W hS=>?_⟩) hS0 ?_
 ·obtain⟨s1,s2,s3,s4,s5⟩:=hS
  go_simp
 simp only[Act.put,ZM,ZZ,Z1];refine wpAnyH_take (i:=5) (v:=.int .i64 (k:Int)) rfl (by kernel_rfl) (by kernel_rfl) (by kernel_rfl) (fun c a w h=>absurd h (hQp _ _ _)) (.inl ⟨rfl,fun W hS=>?_⟩) hS0 ?_
 ·obtain⟨s1,s2,s3,s4,s5⟩:=hS
  go_simp
 simp only[Act.put,ZM,ZZ,Z1];refine wpAnyH_take (i:=6) (v:=.pointer (some ⟨Bx,0,none⟩)) rfl (by kernel_rfl) (by kernel_rfl) (by kernel_rfl) (fun c a w h=>absurd h (hQp _ _ _)) (.inl ⟨rfl,fun W hS=>?_⟩) hS0 ?_
 ·obtain⟨s1,s2,s3,s4,s5⟩:=hS
  go_simp
 simp only[Act.put,ZM,ZZ,Z1];refine wpAnyH_take (i:=7) (v:=.string v1) rfl (by kernel_rfl) (by kernel_rfl) (by kernel_rfl) (fun c a w h=>absurd h (hQp _ _ _)) (.inl ⟨rfl,fun W hS=>?_⟩) hS0 ?_
 ·obtain⟨s1,s2,s3,s4,s5⟩:=hS
  go_simp
 simp only[Act.put,ZM,ZZ,Z1];refine wpAnyH_take (i:=8) (v:=.agg #[.string v1,.slice p2 n2 c2]) rfl (by kernel_rfl) (by kernel_rfl) (by kernel_rfl) (fun c a w h=>absurd h (hQp _ _ _)) (.inl ⟨rfl,fun W hS=>?_⟩) hS0 ?_
 ·obtain⟨s1,s2,s3,s4,s5⟩:=hS
  go_simp
 simp only[Act.put,ZM,ZZ,Z1];refine wpAnyH_take (i:=9) (v:=.int .i64 (r:Int)) rfl (by kernel_rfl) (by kernel_rfl) (by kernel_rfl) (fun c a w h=>absurd h (hQp _ _ _)) (.inl ⟨rfl,fun W hS=>?_⟩) hS0 ?_
 ·obtain⟨s1,s2,s3,s4,s5⟩:=hS
  go_simp
 simp only[Act.put,ZM,ZZ,Z1];refine wpAnyH_take (i:=10) (v:=.agg #[.string v1,.slice p2 n2 c2]) rfl (by kernel_rfl) (by kernel_rfl) (by kernel_rfl) (fun c a w h=>absurd h (hQp _ _ _)) (.inl ⟨rfl,fun W hS=>?_⟩) hS0 ?_
 ·obtain⟨s1,s2,s3,s4,s5⟩:=hS
  go_simp
 simp only[Act.put,ZM,ZZ,Z1];refine wpAnyH_all (rs:=[11]) (by kernel_rfl) (by simp) fun i hi=>?_
 obtain rfl:=ZX.1 hi;refine Or.inl (?_:Oper.wp Tryz.prog _ _ _ _ _)
 go_wp2_with (go_at_call 61;refine(k61 _ hBd).mono ?_;rintro e W4 ⟨rfl,hb4⟩)
 have f4:=fd.later hb4;have hB4:=hBd.trans (hb4.mono hBd.size);have hS4:=cS _ f4;refine⟨hS4,?_⟩;refine wpAnyH_take (i:=12) (v:=.int .i64 ((r % S:Nat):Int)) rfl (by kernel_rfl) (by kernel_rfl) (by kernel_rfl) (fun c a w h=>absurd h (hQp _ _ _)) (.inl ⟨rfl,fun W hS=>?_⟩) hS4 ?_
 ·go_simp
 simp only[Act.put,ZM,ZZ,Z1];refine wpAnyH_all (rs:=[13]) (by kernel_rfl) (by simp) fun i hi=>?_
 obtain rfl:=ZX.1 hi;refine Or.inl (?_:Oper.wp Tryz.prog _ _ _ _ _)
 go_wp2_with (go_at_call 100;refine(k100 _ hB4).mono ?_;rintro e W5 ⟨rfl,hb5⟩)
 have f5:=f4.later hb5;have hB5:=hB4.trans (hb5.mono hB4.size);have hS5:=cS _ f5;refine⟨hS5,?_⟩;refine wpAnyH_take (i:=14) (v:=.pointer (some ⟨gn,k,none⟩)) rfl (by kernel_rfl) (by kernel_rfl) (by kernel_rfl) (fun c a w h=>absurd h (hQp _ _ _)) (.inl ⟨rfl,fun W hS=>?_⟩) hS5 ?_
 ·go_simp
 simp only[Act.put,ZM,ZZ,Z1];obtain⟨s1,s2,s3,s4,s5,s6,s7,s8,s9,s10⟩:=f5.cells hu hv;refine wpAnyH_all (rs:=[15]) (by kernel_rfl) (by simp) fun i hi=>?_
 obtain rfl:=ZX.1 hi;refine Or.inl (?_:Oper.wp Tryz.prog _ _ _ _ _)
 go_wp2_with fail
 have hS6:=cT _ gn (.string v1) m1 m2 m3 hS5;have z1:(W5.setCell ⟨gn,k,none⟩ (.string v1)).cell? ⟨gt,k,none⟩=some v:=(World.cell?_setCell_other _ _ _ _ (fun e=>n1 (by cases e;rfl))).trans s7;have z2:(W5.setCell ⟨gn,k,none⟩ (.string v1)).frozen? ⟨gt,k,none⟩=false:=(World.frozen?_setCell _ _ _ _).trans s9
 first|refine⟨hS6,?_⟩|skip
 refine wpAnyH_take (S:=(fun W=>W.cell? ⟨b3,0,none⟩=some (.int .i64 (r:Int))/\W.cell? ⟨b8,1,none⟩=some (.slice (some ⟨gn,0,none⟩) n n)/\W.cell? ⟨b8,2,none⟩=some (.slice (some ⟨gt,0,none⟩) n n)/\W.cell? ⟨Bx,0,none⟩=some (.string v1)/\W.cell? ⟨Bx,1,none⟩=some (.slice p2 n2 c2))) (i:=16) (v:=.pointer (some ⟨gt,k,none⟩)) rfl (by kernel_rfl) (by kernel_rfl) (by kernel_rfl) (fun c a w h=>absurd h (hQp _ _ _)) (.inl ⟨rfl,fun W hS=>?_⟩) hS6 ?_
 ·go_simp
 simp only[Act.put,ZM,ZZ,Z1];refine wpAnyH_all (rs:=[17]) (by kernel_rfl) (by simp) fun i hi=>?_
 obtain rfl:=ZX.1 hi;refine Or.inl (?_:Oper.wp Tryz.prog _ _ _ _ _)
 go_wp2_with fail
 first|refine⟨cT _ gt _ m4 m5 m6 hS6,?_⟩|skip
 refine wpAnyH_done (S:=(fun W=>W.cell? ⟨b3,0,none⟩=some (.int .i64 (r:Int))/\W.cell? ⟨b8,1,none⟩=some (.slice (some ⟨gn,0,none⟩) n n)/\W.cell? ⟨b8,2,none⟩=some (.slice (some ⟨gt,0,none⟩) n n)/\W.cell? ⟨Bx,0,none⟩=some (.string v1)/\W.cell? ⟨Bx,1,none⟩=some (.slice p2 n2 c2))) (by kernel_rfl) ?_ _;exact hQn _ _ _ _ _ _ _ _ _ _ _ _ _ _ _ _ _ f5 hB5 ((wW W).trans (hb4.trans (hb5.mono hb4.size)))
attribute [local go_sem] Oper.semAt_some
def mF:Code->Code
 | .seq _ b=>b
 |c=>c
def KpR (N b3 gn gt:Nat) (A B:World):Prop:=A.heap.size<=B.heap.size/\ ∀j,j<N->j≠b3->j≠gn->j≠gt->B.heap[j]?=A.heap[j]?
structure RdI (fl:List Fld) (i:Nat) (w:World) (N b3 gn gt:Nat) (W0:World) (pre:List Nat) (W:World):Prop where
 box:W.heap[b3]?=some (.cells #[.int .i64 ((vJ fl i pre).1:Int)] 3 (0,0))
 ns: ∃c,W.heap[gn]?=some (.cells c 9 (0,0))/\c.size=fl.length/\ ∀j,j<fl.length->c[j]?=some (tV (if j∈pre then(fl.getD j yT).name else[]))
 ts: ∃c,W.heap[gt]?=some (.cells c 9 (0,0))/\c.size=fl.length/\ ∀j,j<fl.length->c[j]?=some (tV ((vJ fl i pre).2 j))
 kp:KpR N b3 gn gt W0 W
 bl:Below w.heap.size w W
theorem KpR.trans {N b3 gn gt:Nat} {A B C:World} (h:KpR N b3 gn gt A B) (k:KpR N b3 gn gt B C):KpR N b3 gn gt A C:=⟨ZY h.1 k.1,fun j h1 h2 h3 h4=>(k.2 j h1 h2 h3 h4).trans (h.2 j h1 h2 h3 h4)⟩
theorem KpR.grown {N b3 gn gt:Nat} {A B:World} {row:Option Nat} (hN:N<=A.heap.size) (hg:A.grownBy B row) (hr: ∀r,row=some r->N<=r):KpR N b3 gn gt A B:=
 ⟨hg.size,fun j hj _ _ _=>hg.block j (by omega) (fun e=>by have:=hr j e.symm;omega)⟩
theorem RdI.own {fl:List Fld} {i:Nat} {w W0:World} {N b3 gn gt:Nat} (h3:b3<N) (hn:gn<N) (ht:gt<N) (hw:w.heap.size<=N) (hW:N<=W0.heap.size): ∀(pre:List Nat) (A B:World) (row:Option Nat),RdI fl i w N b3 gn gt W0 pre A->A.grownBy B row->(∀r,row=some r->N<=r)->RdI fl i w N b3 gn gt W0 pre B:=by
 rintro pre A B row ⟨k1,⟨c1,k2,k3⟩,⟨c2,k4,k5⟩,k6,k7⟩ hg hr;have hsz:N<=A.heap.size:=ZY hW k6.1;have hb: ∀j,j<N->B.heap[j]?=A.heap[j]?:=fun j hj=>hg.block j (by omega) (fun e=>by have:=hr j e.symm;omega)
 exact⟨(hb _ h3).trans k1,⟨c1,(hb _ hn).trans k2,k3⟩,⟨c2,(hb _ ht).trans k4,k5⟩,k6.trans (KpR.grown hsz hg hr),k7.grown hg (ZY hw hsz) (fun r e=>by have:=hr r e;omega)⟩
theorem vO (w:World) (g i:Nat) (cur:Array Value) (t:TypeId) (fr:Nat×Nat) (v:Value) (hg:w.heap[g]?=some (.cells cur t fr)):(w.setCell ⟨g,i,none⟩ v).heap[g]?=some (.cells (cur.setIfInBounds i v) t fr):=by
 rw[setCell_eq_setRow w g i cur t fr v hg];exact setRow_heap w g cur _ t fr hg
theorem uB (w:World) (a:Addr) (v:Value) (k:Nat) (h:k≠a.block):(w.setCell a v).heap[k]?=w.heap[k]?:=Below.heap_setCell _ _ _ _ h
theorem aA {w W:World} {r:List C} {cs:List Value} (h:yD w (zW w) r cs) (hb:Below w.heap.size w W):yD W (zW W) r cs:=⟨h.1,fun j c v hc hv=>vW (h.2 j c v hc hv) hb⟩
theorem zmX (fl:List Fld) (i:Nat) (w W2 W3 W5 X W6:World) (N b3 gn gt b8 Bx:Nat) (pre:List Nat) (k:Nat) (kd:Value) (F:Fld) (S r:Nat) {pf:Option Addr} {pn pc:Nat} (cN cT:Array Value) (aF:fl.getD k yT=F) (aS:yQ F=S) (aR:(vJ fl i pre).1=r)
  (aN:cN.size=fl.length/\(∀j,j<fl.length->cN[j]?=some (tV (if j∈pre then(fl.getD j yT).name else[])))/\cT.size=fl.length/\ ∀j,j<fl.length->cT[j]?=some (tV ((vJ fl i pre).2 j)))
  (r10:KpR N b3 gn gt W2 W3) (h5:Below W3.heap.size W3 W5) (oX: ∀j,j≠gn->j≠gt->X.heap[j]?=W5.heap[j]?) (szX:X.heap.size=W5.heap.size)
  (f7:RB b3 b8 Bx gn gt (r:Int) kd fl.length (.string ⟨F.name.toArray⟩) (.slice pf pn pc) (cN.setIfInBounds k (.string ⟨F.name.toArray⟩)) (cT.setIfInBounds k (.string ⟨(vX F (r % S)).toArray⟩)) W6) (hB7:Below w.heap.size w W6) (hbd:Below X.heap.size X X.drew) (hb6:Below X.drew.heap.size X.drew W6)
  (l1:b3<N) (l2:gn<N) (l3:gt<N) (n4:b3≠gn) (n5:b3≠gt) (g3:w.heap.size<=b3) (hsz:N<=W3.heap.size) (hk:k<fl.length):
  KeepsFrom N W3 (W6.setCell ⟨b3,0,none⟩ (.int .i64 ((r/S:Nat):Int)))/\KpR N b3 gn gt W3 (W6.setCell ⟨b3,0,none⟩ (.int .i64 ((r/S:Nat):Int)))/\RdI fl i w N b3 gn gt W2 (pre++[k]) (W6.setCell ⟨b3,0,none⟩ (.int .i64 ((r/S:Nat):Int))):=by
 have h6:=hbd.trans hb6;have oY: ∀j,j≠b3->(W6.setCell ⟨b3,0,none⟩ (.int .i64 ((r/S:Nat):Int))).heap[j]?=W6.heap[j]?:=fun j hj=>uB _ _ _ _ hj
 have szY:(W6.setCell ⟨b3,0,none⟩ (.int .i64 ((r/S:Nat):Int))).heap.size=W6.heap.size:=by simp
 have s5:=h5.size;have s6:=h6.size;have all: ∀j,j<W3.heap.size->j≠b3->j≠gn->j≠gt->(W6.setCell ⟨b3,0,none⟩ (.int .i64 ((r/S:Nat):Int))).heap[j]?=W3.heap[j]?:=fun j hj h1 h2 h3=>
  (oY j h1).trans ((h6.block j (by omega)).trans ((oX j h2 h3).trans (h5.block j hj)))
 have hkp:KpR N b3 gn gt W3 (W6.setCell ⟨b3,0,none⟩ (.int .i64 ((r/S:Nat):Int))):=⟨by omega,fun j hj h1 h2 h3=>all j (by omega) h1 h2 h3⟩;refine⟨⟨by omega,fun j o hj ho _=>?_⟩,hkp,?_⟩
 ·have hlt:=(Zo.1 ho).1
  exact(all j hlt (by omega) (by omega) (by omega)).trans ho
 ·have hfs:=zhW fl i pre k
  rw[aF,aS,aR] at hfs;refine⟨?_,⟨_,(oY gn n4.symm).trans f7.hn,by simp[aN.1],fun j hj=>?_⟩,⟨_,(oY gt n5.symm).trans f7.ht,by simp[aN.2.2.1],fun j hj=>?_⟩,r10.trans hkp,hB7.setCell (p:=⟨b3,0,none⟩) g3 _⟩
  ·rw[vO W6 b3 0 _ 3 (0,0) _ f7.h3,hfs];rfl
  ·rw[Yi]
   by_cases e:k=j
   ·subst e
    rw[if_pos rfl,if_pos (by rw[aN.1];exact hk),if_pos (by simp),aF];rfl
   ·rw[if_neg e,aN.2.1 j hj]
    have:(j∈pre++[k]) ↔ j∈pre:=by simp[Ne.symm e]
    simp only[this]
  ·rw[Yi,hfs]
   by_cases e:k=j
   ·subst e
    rw[if_pos rfl,if_pos (by rw[aN.2.2.1];exact hk)];simp[tV]
   ·rw[if_neg e,aN.2.2.2 j hj]
    simp only[if_neg (Ne.symm e)]
theorem oR {fn:Func} {p u:Tmp} {ty:TypeId} (h:fn.results= #[.cell p ty,.tmp u]) (tmps:Array Value) (w:World) {g:Nat} {t:TypeId} {cs:Array Value} {fr:Nat×Nat}
  (hp:tmps.getD p undef=.pointer (some ⟨g,0,none⟩)) (hg:w.heap[g]?=some (.cells cs t fr))
  {fs:Array Field} (hu:Tryz.prog.underlying ty=some (.struct fs)) (hi:(Tryz.prog.info? ty).map (·.size)=some cs.size):
  (results fn tmps).run Tryz.prog w=.ok (.tuple #[.agg cs,tmps.getD u undef]) w:=by
 have hp':tmps[p]?.getD undef=.pointer (some ⟨g,0,none⟩):=by simpa using hp
 simp[results,h,hp',asAddr,run_loadVar_row w g t ty cs fr _ hg hu rfl hi]
theorem uC {W:World} {b t:Nat} {a0 a1 a2:Value} (h:W.heap[b]?=some (.cells #[a0,a1,a2] t (0,0))):W.cell? ⟨b,0,none⟩=some a0/\W.cell? ⟨b,1,none⟩=some a1/\W.cell? ⟨b,2,none⟩=some a2:=by refine⟨?_,?_,?_⟩<;>simp[World.cell?,h]
theorem zmY (d:Dcm) (hd:DcmR d) (hs100: ∀f∈d.flds,∀w∈f.words,∀s∈w,s.length<=100) (i:Nat) (hi:i<=4096) (cn:Int) (w:World) (hG:yI (base w)) (p:Option Addr) (cap b o:Nat) (pf:Nat->Option Addr×Nat) (hf:FldAt w d.flds p b o (fvO d.flds pf)) (b2 b3 b4 b8 gn gt:Nat) (W:World)
  (g2:w.heap.size<=b2) (g3:w.heap.size<=b3) (g4:w.heap.size<=b4) (g8:w.heap.size<=b8) (gg:w.heap.size<=gn) (gh:w.heap.size<=gt) (n1:gn≠gt) (n2:gn≠b8) (n3:gt≠b8) (n4:b3≠gn) (n5:b3≠gt) (n6:b3≠b8) (n7:b2≠b3) (n8:b2≠gn) (n9:b2≠gt) (n10:b4≠b3) (n11:b4≠gn) (n12:b4≠gt)
  (q2:W.heap[b2]?=some (.cells #[.string ⟨d.kind.toArray⟩,.slice p d.flds.length cap] 58 (0,0))) (q3:W.heap[b3]?=some (.cells #[.int .i64 (i:Int)] 3 (0,0))) (q4:W.heap[b4]?=some (.cells #[.string ⟨#[]⟩,.slice none 0 0,.slice none 0 0] 53 (0,0)))
  (q8:W.heap[b8]?=some (.cells #[.string ⟨d.kind.toArray⟩,.slice (some ⟨gn,0,none⟩) d.flds.length d.flds.length,.slice (some ⟨gt,0,none⟩) d.flds.length d.flds.length] 53 (0,0)))
  (qn:W.heap[gn]?=some (.cells (mk0 d.flds.length) 9 (0,0))) (qt:W.heap[gt]?=some (.cells (mk0 d.flds.length) 9 (0,0))) (hB:Below w.heap.size w W) (z11 z12 z13 z14 z15 z16 z17 z18 z19 z20 z21 z22 z23 z24 z25 z26 z27 z28 z31 z32 z33 z34 z35 z36 z37 z38 z39 z40 z41:Value):
  Code.wpIn Fence.wide 8 Tryz.prog (mF (mF (mF (mF (mF (oQ Tryz.f78)))))) (bodyPostM Fence.wide 8 Tryz.prog Tryz.f78 (fun e w'=> ∃gn gt,e=.returned (.tuple #[.agg #[.string ⟨d.kind.toArray⟩,.slice (some ⟨gn,0,none⟩) d.flds.length d.flds.length,.slice (some ⟨gt,0,none⟩) d.flds.length d.flds.length],.int .i64 0])/\Below w.heap.size w w'/\
   w.heap.size<=gn/\w.heap.size<=gt/\(∃c,w'.heap[gn]?=some (.cells c 9 (0,0)))/\(∃c,w'.heap[gt]?=some (.cells c 9 (0,0)))/\(∀j,j<d.flds.length->w'.cell? ⟨gn,j,none⟩=some (tV (d.flds.getD j yT).name)/\w'.cell? ⟨gt,j,none⟩=some (tV ((wQ d.flds i).1.getD j [])))))
   {tmps:= #[.agg #[.string ⟨d.kind.toArray⟩,.slice p d.flds.length cap],.int .i64 (i:Int),.pointer (some ⟨b2,0,none⟩),.pointer (some ⟨b3,0,none⟩),.pointer (some ⟨b4,0,none⟩),.int .i64 0,.int .i64 cn,.int .i64 0,.pointer (some ⟨b8,0,none⟩),undef,undef,z11,z12,z13,z14,z15,z16,z17,z18,z19,z20,z21,z22,z23,z24,z25,z26,z27,z28,undef,undef,z31,z32,z33,z34,z35,z36,z37,z38,z39,z40,z41,undef,undef,undef,undef,undef,undef,undef,undef,undef,undef,undef,undef,undef,undef,undef,undef,undef,undef,undef,undef,undef,undef,undef,undef,undef,undef],defers:=[]} W:=by
 have hn1:1<=8:=by decide
 have hn12:=hd.fs;have hl2:b2<W.heap.size:=(Zo.1 q2).1;have hl3:b3<W.heap.size:=(Zo.1 q3).1;have hl4:b4<W.heap.size:=(Zo.1 q4).1;have hl8:b8<W.heap.size:=(Zo.1 q8).1;have hln:gn<W.heap.size:=(Zo.1 qn).1;have hlt:gt<W.heap.size:=(Zo.1 qt).1;obtain⟨c20,c21⟩:=oP q2;obtain⟨Q,hQ⟩: ∃Q,bodyPostM Fence.wide 8 Tryz.prog Tryz.f78 (fun e w'=> ∃gn gt,e=.returned (.tuple #[.agg #[.string ⟨d.kind.toArray⟩,.slice (some ⟨gn,0,none⟩) d.flds.length d.flds.length,.slice (some ⟨gt,0,none⟩) d.flds.length d.flds.length],.int .i64 0])/\Below w.heap.size w w'/\
   w.heap.size<=gn/\w.heap.size<=gt/\(∃c,w'.heap[gn]?=some (.cells c 9 (0,0)))/\(∃c,w'.heap[gt]?=some (.cells c 9 (0,0)))/\(∀j,j<d.flds.length->w'.cell? ⟨gn,j,none⟩=some (tV (d.flds.getD j yT).name)/\w'.cell? ⟨gt,j,none⟩=some (tV ((wQ d.flds i).1.getD j []))))=Q:=⟨_,rfl⟩
 rw[hQ];dsimp only[mF,oQ,Tryz.f78,Option.getD];have h112:=fun W'=>zmN (.slice p d.flds.length cap) rfl W'
 gi_wp2_with (refine⟨trivial,?_⟩;gi_at_call 112;refine(callsIn_wide.2 (h112 _)).mono ?_;rintro e W2 ⟨rfl,rfl⟩)
 obtain⟨W2,hW2⟩: ∃W2,W.alloc (.cells #[.slice p d.flds.length cap] 56)=W2:=⟨_,rfl⟩;have hN:W2.heap.size=W.heap.size+1:=by rw[<-hW2,World.size_alloc]
 have old: ∀j,j<W.heap.size->W2.heap[j]?=W.heap[j]?:=fun j hj=>by rw[<-hW2];exact Below.heap_alloc _ _ _ hj
 have hbs:W2.heap[W.heap.size]?=some (.cells #[.slice p d.flds.length cap] 56 (0,0)):=by rw[<-hW2];exact World.alloc_heap_new _ _
 have hB2:Below w.heap.size w W2:=by rw[<-hW2];exact hB.alloc hB.size _
 rw[hW2];have hwW:=hB.size;refine zhj (α:=Ix d.flds.length) rfl (by decide) (gf:=154) (lb:= #[.pointer (some ⟨W.heap.size,0,none⟩)]) rfl trivial (enters_of Tryz.func154 (by kernel_rfl) rfl)
  (zl5 7 (by decide) W.heap.size d.flds.length cap (by omega) p b o (fvO d.flds pf) hf.o1 hf.o2 (fun h=>(hf.ad h).1) W2 (KpR W2.heap.size b3 gn gt) ⟨Zs _,fun _ _ _ _ _=>rfl⟩ (fun _ _ _=>KpR.trans) ?hbx ?hcl)
  (fun _ _ _=>KpR.trans) (fun A B row hs hg hr=>KpR.grown hs hg hr) (fun _=>rfl) (fun pre=>RdI d.flds i w W2.heap.size b3 gn gt W2 (pre.map fun x=>x.1)) (fun pre A B row hI hg hr=>RdI.own (by omega) (by omega) (by omega) hB2.size (Zs _) _ A B row hI hg fun r e=>(hr r e).1) ?h0
  (fun x a' W'=> ∃Bx,W2.heap.size<=Bx/\W'.heap[Bx]?=some (.cells #[(fvO d.flds pf x.1).1,(fvO d.flds pf x.1).2] 107 (0,0))/\a'={tmps:= #[.agg #[.string ⟨d.kind.toArray⟩,.slice p d.flds.length cap],.int .i64 (i:Int),.pointer (some ⟨b2,0,none⟩),.pointer (some ⟨b3,0,none⟩),.pointer (some ⟨b4,0,none⟩),.int .i64 0,.int .i64 cn,.int .i64 0,.pointer (some ⟨b8,0,none⟩),.int .i64 (x.1:Int),.pointer (some ⟨Bx,0,none⟩),z11,z12,z13,z14,z15,z16,z17,z18,z19,z20,z21,z22,z23,z24,z25,z26,z27,z28,undef,undef,z31,z32,z33,z34,z35,z36,z37,z38,z39,z40,z41,.pointer (some ⟨b2,1,none⟩),.slice p d.flds.length cap,.func (.func 154) #[] #[.pointer (some ⟨W.heap.size,0,none⟩)],.int .i64 (x.1:Int),.agg #[(fvO d.flds pf x.1).1,(fvO d.flds pf x.1).2],undef,undef,undef,undef,undef,undef,undef,undef,undef,undef,undef,undef,undef,undef,undef,undef,undef,undef,undef,undef,undef],defers:=[]}) ?hA ?assign ?body ?done
 case hbx=>
  intro A hA;have:=(hA.2 W.heap.size (by omega) (by omega) (by omega) (by omega)).trans hbs;exact sS this
 case hcl=>
  intro A hA k hk;obtain⟨_,hb⟩:=hf.ad (by omega);have hbl:A.heap[b]?=w.heap[b]?:=(hA.2 b (by omega) (by omega) (by omega) (by omega)).trans (hB2.block b hb);obtain⟨k1,k2⟩:=hf.cl k hk;exact⟨(World.cell?_of_block (w:=w) (a:=⟨b,o+k*2,none⟩) hbl).trans k1,(World.cell?_of_block (w:=w) (a:=⟨b,o+k*2+1,none⟩) hbl).trans k2⟩
 case h0=>
  exact⟨(old b3 hl3).trans q3,⟨_,(old gn hln).trans qn,bV _,fun j hj=>by rw[zhZ hj];simp⟩,⟨_,(old gt hlt).trans qt,bV _,fun j hj=>by rw[zhZ hj];simp[vJ]⟩,⟨Zs _,fun _ _ _ _ _=>rfl⟩,hB2⟩
 case hA=>
  rintro x a' W' l ob ob' ⟨Bx,h1,h2,rfl⟩ hl ho hc;refine⟨Bx,h1,?_,rfl⟩;rw[World.putObj_heap_other (fun e=>?_)]
  ·exact h2
  ·subst e;rw[h2] at ho;cases ho;cases hc
 case assign=>
  intro l pre x W' K hI hsz hK;simp only[bI,fvO]
  gi_wp2
  have hb:=(Below.refl W'.heap.size W').alloc (Zs _) (.cells #[(fvO d.flds pf x.1).1,(fvO d.flds pf x.1).2] 107);have hg:=nY hb;exact hK _ _ ⟨W'.heap.size,hsz,World.alloc_heap_new W' _,rfl⟩ (RdI.own (by omega) (by omega) (by omega) hB2.size (Zs _) _ _ _ none hI hg (fun r e=>by cases e)) (KeepsFrom.of_grownBy hg (fun r e=>by cases e)) (KpR.grown hsz hg (fun r e=>by cases e)) (ZY hsz hg.size)
 case body=>
  rintro l pre x a' W3 ⟨Bx,hBx,hbx,rfl⟩ hI hlen hsz3;obtain⟨r3,⟨cN,r4,r5,r6⟩,⟨cT,r7,r8,r9⟩,r10,r11⟩:=hI;have hxk:=x.2;obtain⟨r,hr⟩: ∃r,(vJ d.flds i (pre.map fun x=>x.1)).1=r:=⟨_,rfl⟩;have hri:r<=4096:=by rw[<-hr];exact ZY (zmM _ _ _) hi
  have hfm:d.flds.getD x.1 yT∈d.flds:=by simp[List.getD,hxk]
  have hfR:=hd.fld hfm;have hsp:=zhi hfR;have hsl:=bF hfR;have hrp:=hf.rp x.1 hxk;have k61: ∀W',Below w.heap.size w W'->Calls Tryz.prog 61 #[.agg #[(fvO d.flds pf x.1).1,(fvO d.flds pf x.1).2]] W' fun e W''=>e=.returned (.int .i64 ((yQ (d.flds.getD x.1 yT):Nat):Int))/\Below W'.heap.size W' W'':=fun W' hb=>(c61 _ hfR).intC (hG.later (xM hb)) (Z:=zW W') (fun _ h=>h) (iZ (aA hrp hb) (xS _ _))
  have k100: ∀q:Nat,q<=1000000-> ∀W',Below w.heap.size w W'->Calls Tryz.prog 100 #[.agg #[(fvO d.flds pf x.1).1,(fvO d.flds pf x.1).2],.int .i64 (q:Int)] W' fun e W''=>e=.returned (.string ⟨(vX (d.flds.getD x.1 yT) q).toArray⟩)/\Below W'.heap.size W' W'':=fun q hq W' hb=>(zmz _ hfR (hs100 _ hfm) q hq).strC (hG.later (xM hb)) (Z:=zW W') (fun _ h=>h) (iZ (aA hrp hb) (vH (.int _ _) (xS _ _)))
  rw[hr] at r3;have q8':=(r10.2 b8 (by omega) (by omega) (by omega) (by omega)).trans ((old b8 hl8).trans q8);have f3:RB b3 b8 Bx gn gt (r:Int) _ d.flds.length _ _ cN cT W3:=⟨r3,q8',hbx,r4,r7⟩;have fd:=f3.later (wW W3);have hBd:=r11.trans ((wW W3).mono r11.size);have hu:=r6 x.1 hxk;have hv:=r9 x.1 hxk;have hw1:1<=8-1-1:=by decide
  have mixed:Tryz.prog.follows Departure.mixedOrders=true:=by kernel_rfl
  simp only[fvO] at fd k61 k100⊢;generalize hF:d.flds.getD x.1 yT=F at*
  generalize hS:yQ F=S at*
  have aF:Aside (d.flds.getD x.1 yT=F):=hF;have aS:Aside (yQ F=S):=hS;have aR:Aside ((vJ d.flds i (pre.map fun x=>x.1)).1=r):=hr;have aN:Aside (cN.size=d.flds.length/\(∀j,j<d.flds.length->cN[j]?=some (tV (if j∈pre.map (fun x=>x.1) then(d.flds.getD j yT).name else[])))/\cT.size=d.flds.length/\ ∀j,j<d.flds.length->cT[j]?=some (tV ((vJ d.flds i (pre.map fun x=>x.1)).2 j))):=⟨r5,r6,r8,r9⟩;have hS0: ¬(S:Int)=0:=by omega
  have hr1:(r:Int).tmod (S:Int)=((r % S:Nat):Int):=(Int.ofNat_tmod r S).symm;have hr2:(r:Int).tdiv (S:Int)=((r/S:Nat):Int):=(Int.ofNat_tdiv r S).symm;have hq:=k100 (r % S) (by have:=Nat.mod_le r S;omega);have hki:(x.1:Int)<d.flds.length:=by omega
  obtain⟨e1,e2,e3,e4,e5,e6,e7,e8,e9,e10⟩:=f3.cells hu hv;obtain⟨y1,y2,y3,y4,y5,y6,y7,y8,y9,y10⟩:=fd.cells hu hv;have m2:=n2.symm;have m3:=n3.symm;have m4:=n4.symm;have m5:=n5.symm;have m6:=n6.symm;have m1:=n1.symm;have x1:gn≠Bx:=by omega
  have x2:gt≠Bx:=by omega
  have x3:=x1.symm;have x4:=x2.symm;clear hF hS hr r3 q8' hbx r4 r7
  gi_wp2
  refine zmW w _ cN cT _ _ l d.flds.length x.1 r b3 b8 Bx gn gt _ _ S _ _ _ hxk (by omega) n1 m4 n2 x1 m5 n3 x2 _ _ _ _ _ _ _ _ _ _ _ _ _ _ _ _ _ _ _ _ _ _ _ _ _ _ _ _ _ _ _ _ _ _ _ _ _ _ _ _ _ W3 fd hu hv hBd k61 hq _ (fun c a w h=>?hp) ?ho ?hn _ _ rfl rfl
  case hp=>exact h
  case ho=>rintro⟨a,W',h⟩;exact h
  case hn=>
   intro W5 _ _ _ _ _ _ _ _ _ _ _ _ _ _ _ _ f5 hB5 hs5;obtain⟨X,hX⟩: ∃X,(W5.setCell ⟨gn,x.1,none⟩ (.string ⟨F.name.toArray⟩)).setCell ⟨gt,x.1,none⟩ (.string ⟨(vX F (r % S)).toArray⟩)=X:=⟨_,rfl⟩;have gX1:=vO W5 gn x.1 cN 9 (0,0) (.string ⟨F.name.toArray⟩) f5.hn;have gX2:=vO (W5.setCell ⟨gn,x.1,none⟩ (.string ⟨F.name.toArray⟩)) gt x.1 cT 9 (0,0) (.string ⟨(vX F (r % S)).toArray⟩) ((uB _ _ _ _ m1).trans f5.ht);have oX: ∀j,j≠gn->j≠gt->X.heap[j]?=W5.heap[j]?:=fun j h1 h2=>by rw[<-hX];exact(uB _ _ _ _ h2).trans (uB _ _ _ _ h1)
   have f6:RB b3 b8 Bx gn gt (r:Int) (.string ⟨d.kind.toArray⟩) d.flds.length (.string ⟨F.name.toArray⟩) (.slice (pf x.1).1 F.words.length (pf x.1).2) (cN.setIfInBounds x.1 (.string ⟨F.name.toArray⟩)) (cT.setIfInBounds x.1 (.string ⟨(vX F (r % S)).toArray⟩)) X:=
    ⟨(oX _ n4 n5).trans f5.h3,(oX _ m2 m3).trans f5.h8,(oX _ x3 x4).trans f5.hx,by rw[<-hX];exact(uB _ _ _ _ n1).trans gX1,by rw[<-hX];exact gX2⟩
   have szX:X.heap.size=W5.heap.size:=by rw[<-hX];simp
   have hBX:Below w.heap.size w X:=by rw[<-hX];exact(hB5.setCell (p:=⟨gn,x.1,none⟩) gg _).setCell (p:=⟨gt,x.1,none⟩) gh _
   have fx:=f6.later (wW X);have hBXd:=hBX.trans ((wW X).mono hBX.size);have hu6:(cN.setIfInBounds x.1 (Value.string ⟨F.name.toArray⟩))[x.1]?=some (.string ⟨F.name.toArray⟩):=by rw[Array.getElem?_setIfInBounds_self_of_lt (by omega)]
   have hv6:(cT.setIfInBounds x.1 (Value.string ⟨(vX F (r % S)).toArray⟩))[x.1]?=some (.string ⟨(vX F (r % S)).toArray⟩):=by rw[Array.getElem?_setIfInBounds_self_of_lt (by omega)]
   obtain⟨a1,a2,a3,a4,a5,a6,a7,a8,a9,a10⟩:=f6.cells hu6 hv6;obtain⟨b1',b2',b3',b4',b5',b6',b7',b8',b9',b10'⟩:=fx.cells hu6 hv6;rw[hX];clear hX gX1 gX2;dsimp only
   gi_wp2
   gi_region_with_o (refine⟨trivial,?_⟩;gi_at_call 61;refine(CallsIn.inRound l (callsIn_wide.2 (k61 _ hBXd))).mono ?_;rintro e W6 ⟨rfl,hb6⟩;have f7:=fx.later hb6;have hB7:=hBXd.trans (hb6.mono hBXd.size);obtain⟨t1,t2,t3,t4,t5,t6,t7,t8,t9,t10⟩:=f7.cells hu6 hv6)
   all_goals
    have hqd:wrap64 ((r:Int)/(S:Int))=((r/S:Nat):Int):=by
     rw[<-Int.natCast_ediv];have hd0:=Xl r S;generalize r/S=dd at hd0;unfold wrap64;omega
    rw[hqd];have hh:KeepsFrom W2.heap.size W3 (W6.setCell ⟨b3,0,none⟩ (.int .i64 ((r/S:Nat):Int)))/\KpR W2.heap.size b3 gn gt W3 (W6.setCell ⟨b3,0,none⟩ (.int .i64 ((r/S:Nat):Int)))/\RdI d.flds i w W2.heap.size b3 gn gt W2 ((pre++[x]).map fun x=>x.1) (W6.setCell ⟨b3,0,none⟩ (.int .i64 ((r/S:Nat):Int))):=by
     rw[ZW];exact zmX d.flds i w W2 W3 W5 X W6 W2.heap.size b3 gn gt b8 Bx (pre.map fun x=>x.1) x.1 _ F S r cN cT aF.out aS.out aR.out aN.out r10 hs5 oX szX f7 hB7 (wW X) hb6 (by omega) (by omega) (by omega) n4 n5 g3 hsz3 hxk
    exact hh
 case done=>
  rintro D xs W3 hD hxs hI hK;obtain⟨r3,⟨cN,r4,r5,r6⟩,⟨cT,r7,r8,r9⟩,r10,r11⟩:=hI;have k8:=(r10.2 b8 (by omega) (by omega) (by omega) (by omega)).trans ((old b8 hl8).trans q8);have k4:=(r10.2 b4 (by omega) (by omega) (by omega) (by omega)).trans ((old b4 hl4).trans q4);obtain⟨e1,e2,e3⟩:=uC k8;obtain⟨e4,e5,e6⟩:=uC k4;have e7: ∀j,W3.frozen? ⟨b4,j,none⟩=false:=fun j=>by simp[World.frozen?,k4]
  have e8:=e7 0;have e9:=e7 1;have e10:=e7 2;refine(‹∀(a:Act) (w:World),Code.wpIn Fence.wide 8 Tryz.prog _ _ a w->_›) _ _ ?_
  gi_wp2
  rw[<-hQ];have w1':=vO W3 b4 0 _ 53 (0,0) (.string ⟨d.kind.toArray⟩) k4;have w2':=vO _ b4 1 _ 53 (0,0) (.slice (some ⟨gn,0,none⟩) d.flds.length d.flds.length) w1';have w3':=vO _ b4 2 _ 53 (0,0) (.slice (some ⟨gt,0,none⟩) d.flds.length d.flds.length) w2';have oY: ∀j,j≠b4->(((W3.setCell ⟨b4,0,none⟩ (.string ⟨d.kind.toArray⟩)).setCell ⟨b4,1,none⟩ (.slice (some ⟨gn,0,none⟩) d.flds.length d.flds.length)).setCell ⟨b4,2,none⟩ (.slice (some ⟨gt,0,none⟩) d.flds.length d.flds.length)).heap[j]?=W3.heap[j]?:=fun j hj=>(uB _ _ _ _ hj).trans ((uB _ _ _ _ hj).trans (uB _ _ _ _ hj))
  have hBY:Below w.heap.size w (((W3.setCell ⟨b4,0,none⟩ (.string ⟨d.kind.toArray⟩)).setCell ⟨b4,1,none⟩ (.slice (some ⟨gn,0,none⟩) d.flds.length d.flds.length)).setCell ⟨b4,2,none⟩ (.slice (some ⟨gt,0,none⟩) d.flds.length d.flds.length)):=((r11.setCell (p:=⟨b4,0,none⟩) g4 _).setCell (p:=⟨b4,1,none⟩) g4 _).setCell (p:=⟨b4,2,none⟩) g4 _;have hKY:=(oY D (by omega)).trans hK;generalize (((W3.setCell ⟨b4,0,none⟩ (.string ⟨d.kind.toArray⟩)).setCell ⟨b4,1,none⟩ (.slice (some ⟨gn,0,none⟩) d.flds.length d.flds.length)).setCell ⟨b4,2,none⟩ (.slice (some ⟨gt,0,none⟩) d.flds.length d.flds.length))=Y at w3' oY hBY hKY⊢;have hall:=zhY d.flds i d.flds.length (Zs _);rw[Nat.sub_self,List.drop_zero,<-List.range_eq_range'] at hall;have hxs':(xs.map fun x=>x.1)=(List.range d.flds.length).reverse:=hxs;rw[hxs'] at r6 r9;refine⟨by simp,.inl ⟨_,_,rfl,run_takeDeferred hKY,?_⟩⟩;refine⟨_,oR rfl _ _ rfl ((World.putObj_heap_other (by omega)).trans w3') Tryz.underlying53 (by kernel_rfl),gn,gt,rfl,hBY.grown (grownBy_putObj' _ D _) hBY.size (fun k e=>by cases e;omega),gg,gh,⟨cN,(World.putObj_heap_other (by omega)).trans ((oY gn n11.symm).trans r4)⟩,⟨cT,(World.putObj_heap_other (by omega)).trans ((oY gt n12.symm).trans r7)⟩,fun j hj=>?_⟩;have hn':(Y.putObj D (.deferred none)).heap[gn]?=some (.cells cN 9 (0,0)):=(World.putObj_heap_other (by omega)).trans ((oY gn n11.symm).trans r4);have ht':(Y.putObj D (.deferred none)).heap[gt]?=some (.cells cT 9 (0,0)):=(World.putObj_heap_other (by omega)).trans ((oY gt n12.symm).trans r7);have s1:=r6 j hj;have s2:=r9 j hj;rw[if_pos (by simp[hj])] at s1;have hq:=hall.2 j hj;rw[ZU] at hq;rw[hq] at s2;constructor
  ·simp only[World.cell?,hn'];simpa using s1
  ·simp only[World.cell?,ht'];simpa using s2
end Go.Proofs
set_option maxRecDepth 100000
set_option maxHeartbeats 8000000
namespace Go.Ex
open Go.Lib Go.Wd Go.Wire Go.Abs
def rdE (d:Dcm) (i:Int):Int:=if (cntD d).2≠0 then(cntD d).2 else if i<0\/i>=(cntD d).1 then 4 else 0
def zmZ:Pln:=⟨[],[],[]⟩
def rdR (d:Dcm) (i:Int):Pln:=if rdE d i=0 then rdD d i.toNat else zmZ
theorem zm0 {s:Txt} (h:vM s=true):s.length<=20:=by
 unfold vM at h;rw[Zp,Zp,decide_eq_true_eq,decide_eq_true_eq] at h;exact h.2.1
theorem zm1 {d:Dcm} (hd:DcmS d) (h:docE d=0): ∀f∈d.flds,∀w∈f.words,∀s∈w,s.length<=20:=by
 intro f hf w hw s hs;obtain⟨k,hk,rfl⟩:=Y5 hf;have hr:=oM hd h;obtain⟨_,_,_,h4⟩:=bE hk (hd.fl _ hf) (hr.fe k hk);exact zm0 (Zw.1 (bC (h4 w hw)).2.2.1 s hs)
theorem kC {d:Dcm} (h:(cntD d).2=0):docE d=0:=by
 unfold cntD at h;split at h
 ·assumption
 ·rename_i h2;exact absurd h h2
end Go.Ex
namespace Go.Proofs
open Go.RowKit Go.Shelf Go.Abs Go.Wd Go.Wire Go.Ex
attribute [local go_sem] Oper.semAt_some
theorem aB {W:World} {b4:Nat} {a0 a1 a2 v0 v1 v2:Value} (q:W.heap[b4]?=some (.cells #[a0,a1,a2] 53 (0,0))):(((W.setCell ⟨b4,0,none⟩ v0).setCell ⟨b4,1,none⟩ v1).setCell ⟨b4,2,none⟩ v2).heap[b4]?=some (.cells #[v0,v1,v2] 53 (0,0)):=by
 have w1':=vO W b4 0 _ 53 (0,0) v0 q;have w2':=vO _ b4 1 _ 53 (0,0) v1 w1';exact vO _ b4 2 _ 53 (0,0) v2 w2'
theorem zm2 (d:Dcm) (hd:DcmS d) (i:Int) (w:World) (hG:yI (base w)) (p:Option Addr) (cap b o:Nat) (fv:Nat->Value×Value) (hf:FldAt w d.flds p b o fv)
  (h77: ∀W,Below w.heap.size w W->Calls Tryz.prog 77 #[.agg #[.string ⟨d.kind.toArray⟩,.slice p d.flds.length cap]] W fun e W'=>e=.returned (.tuple #[.int .i64 (cntD d).1,.int .i64 (cntD d).2])/\Below W.heap.size W W'):
  Calls Tryz.prog 78 #[.agg #[.string ⟨d.kind.toArray⟩,.slice p d.flds.length cap],.int .i64 i] w fun e w'=>(rdE d i≠0/\e=.returned (.tuple #[.agg #[.string ⟨#[]⟩,.slice none 0 0,.slice none 0 0],.int .i64 (rdE d i)])/\Below w.heap.size w w')\/
   (rdE d i=0/\ ∃gn gt,e=.returned (.tuple #[.agg #[.string ⟨d.kind.toArray⟩,.slice (some ⟨gn,0,none⟩) d.flds.length d.flds.length,.slice (some ⟨gt,0,none⟩) d.flds.length d.flds.length],.int .i64 0])/\Below w.heap.size w w'/\
    w.heap.size<=gn/\w.heap.size<=gt/\(∃c,w'.heap[gn]?=some (.cells c 9 (0,0)))/\(∃c,w'.heap[gt]?=some (.cells c 9 (0,0)))/\(∀j,j<d.flds.length->w'.cell? ⟨gn,j,none⟩=some (tV (d.flds.getD j yT).name)/\w'.cell? ⟨gt,j,none⟩=some (tV ((wQ d.flds i.toNat).1.getD j [])))):=by
 refine(callsIn_wide (n:=8)).1 ?_;have hn1:1<=8:=by decide
 have hB0: ∀a b c,Below w.heap.size w (((w.alloc a).alloc b).alloc c):=fun a b c=>(((Below.refl _ w).alloc (Zs _) _).alloc (by simp) _).alloc (by simp;omega) _
 have hcr:=iX (d:=d);obtain⟨cn,hcn⟩: ∃cn,(cntD d).1=cn:=⟨_,rfl⟩;obtain⟨ce,hce⟩: ∃ce,(cntD d).2=ce:=⟨_,rfl⟩;rw[hcn] at hcr;rw[hcn,hce] at h77;have hE:rdE d i=if ce≠0 then ce else if i<0\/i>=cn then 4 else 0:=by unfold rdE;rw[hcn,hce]
 by_cases h0:ce=0
 ·subst h0
  rw[if_neg (by simp)] at hE;by_cases hi0:i<0
  ·rw[if_pos (.inl hi0)] at hE
   rw[hE];refine callsIn_of_wp_marks Tryz.func78 rfl trivial ?_;simp only[Tryz.ntmps78,Yv,Zn,ZF,Zd,Y3,YH,YG,YR,YM,Ya,ZR]
   gi_wp2_with (refine⟨trivial,?_⟩;gi_at_call 77;refine(callsIn_wide.2 (h77 _ (hB0 _ _ _))).mono ?_;rintro e w1 ⟨rfl,hb1⟩;have q2:=(hb1.block w.heap.size (by simp only[World.size_alloc];omega)).trans (xE w _ _ _).1;have q3:=(hb1.block (w.heap.size+1) (by simp only[World.size_alloc];omega)).trans (xE w _ _ _).2.1;have q4:=(hb1.block (w.heap.size+1+1) (by simp only[World.size_alloc];omega)).trans (xE w _ _ _).2.2;obtain⟨c20,c21⟩:=oP q2;have c30:=sS q3;obtain⟨c40,c41,c42⟩:=uC q4;have e7: ∀j,w1.frozen? ⟨w.heap.size+1+1,j,none⟩=false:=(fun j=>by simp[World.frozen?,q4]);have e8:=e7 0;have e9:=e7 1;have e10:=e7 2;have hB1:=(hB0 (.cells #[.string ⟨d.kind.toArray⟩,.slice p d.flds.length cap] 58) (.cells #[.int .i64 i] 3) (.cells #[.string ⟨#[]⟩,.slice none 0 0,.slice none 0 0] 53)).trans (hb1.mono (hB0 _ _ _).size))
   refine⟨_,oR rfl _ _ rfl (aB q4) Tryz.underlying53 (by kernel_rfl),.inl ⟨by decide,rfl,((hB1.setCell (p:=⟨w.heap.size+1+1,0,none⟩) (show w.heap.size<=w.heap.size+1+1 by omega) _).setCell (p:=⟨w.heap.size+1+1,1,none⟩) (show w.heap.size<=w.heap.size+1+1 by omega) _).setCell (p:=⟨w.heap.size+1+1,2,none⟩) (show w.heap.size<=w.heap.size+1+1 by omega) _⟩⟩
  by_cases hi1:i>=cn
  ·rw[if_pos (.inr hi1)] at hE
   rw[hE];refine callsIn_of_wp_marks Tryz.func78 rfl trivial ?_;simp only[Tryz.ntmps78,Yv,Zn,ZF,Zd,Y3,YH,YG,YR,YM,Ya,ZR]
   gi_wp2_with (refine⟨trivial,?_⟩;gi_at_call 77;refine(callsIn_wide.2 (h77 _ (hB0 _ _ _))).mono ?_;rintro e w1 ⟨rfl,hb1⟩;have q2:=(hb1.block w.heap.size (by simp only[World.size_alloc];omega)).trans (xE w _ _ _).1;have q3:=(hb1.block (w.heap.size+1) (by simp only[World.size_alloc];omega)).trans (xE w _ _ _).2.1;have q4:=(hb1.block (w.heap.size+1+1) (by simp only[World.size_alloc];omega)).trans (xE w _ _ _).2.2;obtain⟨c20,c21⟩:=oP q2;have c30:=sS q3;obtain⟨c40,c41,c42⟩:=uC q4;have e7: ∀j,w1.frozen? ⟨w.heap.size+1+1,j,none⟩=false:=(fun j=>by simp[World.frozen?,q4]);have e8:=e7 0;have e9:=e7 1;have e10:=e7 2;have hB1:=(hB0 (.cells #[.string ⟨d.kind.toArray⟩,.slice p d.flds.length cap] 58) (.cells #[.int .i64 i] 3) (.cells #[.string ⟨#[]⟩,.slice none 0 0,.slice none 0 0] 53)).trans (hb1.mono (hB0 _ _ _).size))
   refine⟨_,oR rfl _ _ rfl (aB q4) Tryz.underlying53 (by kernel_rfl),.inl ⟨by decide,rfl,((hB1.setCell (p:=⟨w.heap.size+1+1,0,none⟩) (show w.heap.size<=w.heap.size+1+1 by omega) _).setCell (p:=⟨w.heap.size+1+1,1,none⟩) (show w.heap.size<=w.heap.size+1+1 by omega) _).setCell (p:=⟨w.heap.size+1+1,2,none⟩) (show w.heap.size<=w.heap.size+1+1 by omega) _⟩⟩
  rw[if_neg (by omega)] at hE;rw[hE];have hR:DcmR d:=oM hd (kC hce);have hsw: ∀f∈d.flds,∀w∈f.words,∀s∈w,s.length<=100:=fun f hf w hw s hs=>ZY (zm1 hd (kC hce) f hf w hw s hs) (by decide)
  have hnf:=hR.fs;obtain⟨m,rfl⟩: ∃m:Nat,i=m:=⟨i.toNat,by omega⟩;obtain⟨pf,hf'⟩:=zmQ hf;have ht:((m:Int)).toNat=m:=by simp
  rw[ht];refine CallsIn.mono (R:=fun e w'=> ∃gn gt,e=.returned (.tuple #[.agg #[.string ⟨d.kind.toArray⟩,.slice (some ⟨gn,0,none⟩) d.flds.length d.flds.length,.slice (some ⟨gt,0,none⟩) d.flds.length d.flds.length],.int .i64 0])/\Below w.heap.size w w'/\
    w.heap.size<=gn/\w.heap.size<=gt/\(∃c,w'.heap[gn]?=some (.cells c 9 (0,0)))/\(∃c,w'.heap[gt]?=some (.cells c 9 (0,0)))/\(∀j,j<d.flds.length->w'.cell? ⟨gn,j,none⟩=some (tV (d.flds.getD j yT).name)/\w'.cell? ⟨gt,j,none⟩=some (tV ((wQ d.flds m).1.getD j [])))) ?_ fun e w' h=> .inr ⟨rfl,h⟩
  refine callsIn_of_wp_marks Tryz.func78 rfl trivial ?_;simp only[Tryz.ntmps78,Yv,Zn,ZF,Zd,Y3,YH,YG,YR,YM,Ya,ZR]
  gi_wp2_with (refine⟨trivial,?_⟩;gi_at_call 77;refine(callsIn_wide.2 (h77 _ (hB0 _ _ _))).mono ?_;rintro e w1 ⟨rfl,hb1⟩;have q2:=(hb1.block w.heap.size (by simp only[World.size_alloc];omega)).trans (xE w _ _ _).1;have q3:=(hb1.block (w.heap.size+1) (by simp only[World.size_alloc];omega)).trans (xE w _ _ _).2.1;have q4:=(hb1.block (w.heap.size+1+1) (by simp only[World.size_alloc];omega)).trans (xE w _ _ _).2.2;obtain⟨c20,c21⟩:=oP q2;have c30:=sS q3;obtain⟨c40,c41,c42⟩:=uC q4;have e7: ∀j,w1.frozen? ⟨w.heap.size+1+1,j,none⟩=false:=(fun j=>by simp[World.frozen?,q4]);have e8:=e7 0;have e9:=e7 1;have e10:=e7 2;have hB1:=(hB0 (.cells #[.string ⟨d.kind.toArray⟩,.slice p d.flds.length cap] 58) (.cells #[.int .i64 (m:Int)] 3) (.cells #[.string ⟨#[]⟩,.slice none 0 0,.slice none 0 0] 53)).trans (hb1.mono (hB0 _ _ _).size))
  refine zmS d.kind p d.flds.length cap m w.heap.size (w.heap.size+1) (w.heap.size+1+1) cn (by omega) _ _ _ _ _ _ _ _ _ _ _ _ _ _ _ _ _ _ w1 q2 _ ?_ _ rfl;intro gn gt b8 u31 u32 u33 u34 u35 u36 u37 u38 u39 u40 u41 W n1 n2 n3 l1 l2 l3 g1 g2 g3 hbW;have hs1:w.heap.size+1+1<w1.heap.size:=(Zo.1 q4).1;refine(‹∀(a:Act) (w:World),Code.wpIn Fence.wide 8 Tryz.prog _ _ a w->_›) _ _ ?_;exact zmY d hR hsw m (by omega) cn w hG p cap b o pf hf' w.heap.size (w.heap.size+1) (w.heap.size+1+1) b8 gn gt W (by omega) (by omega) (by omega) (by omega) (by omega) (by omega) n1 n2 n3 (by omega) (by omega) (by omega) (by omega) (by omega) (by omega) (by omega) (by omega) (by omega)
   ((hbW.block _ (by omega)).trans q2) ((hbW.block _ (by omega)).trans q3) ((hbW.block _ (by omega)).trans q4) g3 g1 g2 (hB1.trans (hbW.mono hB1.size)) _ _ _ _ _ _ _ _ _ _ _ _ _ _ _ _ _ _ _ _ _ _ _ _ _ _ _ _ _
 ·rw[if_pos h0] at hE
  rw[hE];have h0':(ce==0)=false:=by simp[h0]
  have h0n:(ce !=0)=true:=by simp[h0]
  refine callsIn_of_wp_marks Tryz.func78 rfl trivial ?_;simp only[Tryz.ntmps78,Yv,Zn,ZF,Zd,Y3,YH,YG,YR,YM,Ya,ZR]
  gi_wp2_with (refine⟨trivial,?_⟩;gi_at_call 77;refine(callsIn_wide.2 (h77 _ (hB0 _ _ _))).mono ?_;rintro e w1 ⟨rfl,hb1⟩;have q2:=(hb1.block w.heap.size (by simp only[World.size_alloc];omega)).trans (xE w _ _ _).1;have q3:=(hb1.block (w.heap.size+1) (by simp only[World.size_alloc];omega)).trans (xE w _ _ _).2.1;have q4:=(hb1.block (w.heap.size+1+1) (by simp only[World.size_alloc];omega)).trans (xE w _ _ _).2.2;obtain⟨c20,c21⟩:=oP q2;have c30:=sS q3;obtain⟨c40,c41,c42⟩:=uC q4;have e7: ∀j,w1.frozen? ⟨w.heap.size+1+1,j,none⟩=false:=(fun j=>by simp[World.frozen?,q4]);have e8:=e7 0;have e9:=e7 1;have e10:=e7 2;have hB1:=(hB0 (.cells #[.string ⟨d.kind.toArray⟩,.slice p d.flds.length cap] 58) (.cells #[.int .i64 i] 3) (.cells #[.string ⟨#[]⟩,.slice none 0 0,.slice none 0 0] 53)).trans (hb1.mono (hB0 _ _ _).size))
  refine⟨_,oR rfl _ _ rfl (aB q4) Tryz.underlying53 (by kernel_rfl),.inl ⟨h0,rfl,((hB1.setCell (p:=⟨w.heap.size+1+1,0,none⟩) (show w.heap.size<=w.heap.size+1+1 by omega) _).setCell (p:=⟨w.heap.size+1+1,1,none⟩) (show w.heap.size<=w.heap.size+1+1 by omega) _).setCell (p:=⟨w.heap.size+1+1,2,none⟩) (show w.heap.size<=w.heap.size+1+1 by omega) _⟩⟩
end Go.Proofs
namespace Go.Abs
open Go.Proofs Go.RowKit Go.Lib Go.Wd Go.Wire Go.Ex
theorem zh1 {w w':World} {Z:Bk->Prop} {r:V} {v:Value} (hG:yI (base w)) (hk:xG w w') (hr: ∀n,r.reg n=(r,[])) (hp:zD w' (fun b=>w.heap.size<=b.2/\b.2<w'.heap.size/\sA w' b.2) (fun _=>none) (fun _=>none) r v) (hn: ∀τ,r.noRef τ=true):mN (base w) Z r v w':=by
 intro n;have e0:(zS n (r.reg n).2:Nat->Option O)=fun _=>none:=by
  funext τ;rw[hr];simp[zS]
 rw[e0,hr];refine⟨fun _=>none,hk,hG,fun τ b h=>absurd rfl h,fun τ τ' b h=>absurd rfl h,fun τ ob h=>(by cases h),fun s=>?_⟩;by_cases hs:s=0
 ·subst hs
  exact zD.mono (fun _ _=>rfl) (fun b hb=>⟨.inr ⟨by have:=hb.1;simp;omega,hb.2.2⟩,hb.2.1,fun τ h=>absurd rfl h⟩) (τs:=fun _=>False) (fun τ hτ=>hτ.elim) (fun τ hτ=>absurd (show r.noRef τ=false from hτ) (by rw[hn τ];simp)) hp
 ·simp only[hs,if_false];trivial
theorem Spec.int2C {P:Program} {f:FuncId} {xs:List V} {k k':IntKind} {n m:Int} (h:Spec P f xs (fun r'=>r'=.tup [.int k n,.int k' m])) {W:World} (hG:yI (base W)) {Z:Bk->Prop} (hz: ∀b,Z b->b.2<W.heap.size) {vs:Array Value} (ha:wH W Z xs vs.toList):
  Calls P f vs W fun e W'=>e=.returned (.tuple #[.int k n,.int k' m])/\Below W.heap.size W W':=by
 refine(h.2 W Z vs hG hz ha).mono ?_;rintro e w' ⟨v,r',rfl,rfl,_,hrep⟩;obtain⟨κ,hi⟩:=hrep 0;have h0:=hi.tmps 0;obtain⟨us,hu,hl,hv⟩:=h0;have hu':v=.tuple us:=hu;subst hu';obtain⟨l⟩:=us
 match l,hl,hv with
 |[x,y],_,hv=>
  have h1:=vB hv.1.2;have h2:=vB hv.2.1.2;subst h1 h2;exact⟨rfl,iU hi.kept⟩
theorem zh2 {w:World} {Z:Bk->Prop} {L:List Txt} {g:Nat} (hZ:Z (1,g)) (h2:L.length<=maxLen) (hc: ∀j,j<L.length->w.cell? ⟨g,j,none⟩=some (tV (L.getD j []))):
  PRep w Z (zC 1 (zJ L)) (.slice (some ⟨g,0,none⟩) L.length L.length):=by
 by_cases h0:L=[]
 ·subst h0
  exact .emp 0 none ⟨g,0,none⟩ (by simp)
 have e:zC 1 (zJ L)=.list 1 none (zJ L):=by
  unfold zC;rw[if_neg];cases L with|nil=>exact absurd rfl h0|cons a L=>simp[zJ]
 have e2:L.length=(zJ L).length:=(yB L).symm;have hat: ∀(i j:Nat) r c,(zJ L)[i]?=some r->r[j]?=some c->j=0/\ ∃s,L[i]?=some s/\c=.str s:=fun i j r c hr hc=>by
  rw[zJ,Zv] at hr;cases hs:L[i]? with
  |none=>rw[hs] at hr;cases hr
  |some s=>
   rw[hs] at hr;cases hr;cases j with
   |zero=>cases hc;exact⟨rfl,s,rfl,rfl⟩
   |succ j=>simp at hc
 rw[e];have key:PRep w Z (.list 1 none (zJ L)) (.slice (some ⟨g,0,none⟩) (zJ L).length L.length):=by
  refine .list g 0 L.length 1 none (zJ L) (fun i _=>tV (L.getD i [])) (by simp) (by rw[yB];exact Zs _) h2 (fun _=>hZ) (fun r hr=>by obtain⟨s,_,rfl⟩:=ZS.1 hr;rfl) (fun i j r c hr hcj=>?_) fun i j r c hr hcj=>?_
  ·obtain⟨rfl,s,hs,rfl⟩:=hat i j r c hr hcj
   rw[YL,Yk,ZU];exact hc i (Zr.1 hs).1
  ·obtain⟨rfl,s,hs,rfl⟩:=hat i j r c hr hcj
   have:L.getD i []=s:=by simp[List.getD,hs]
   rw[this];exact .str s
 rw[yB] at key;exact key
theorem c78 (d:Dcm) (hd:DcmS d) (i:Int):Spec Tryz.prog 78 [.agg (zV d),.int .i64 i] (fun v=>v=.tup [.agg (yM (rdR d i)),.int .i64 (rdE d i)]):=by
 refine⟨rH (by kernel_rfl),fun w Z vs hG hz ha=>?_⟩;obtain⟨vl⟩:=vs
 match vl,ha with
 |[],ha=>exact absurd ha.1 (by simp)
 |[_],ha=>exact absurd ha.1 (by simp)
 |_::_::_::_,ha=>exact absurd ha.1 (by simp)
 |[v,v2],ha=>
  have e2:=vB (ha.2 1 _ v2 rfl rfl).2.2;subst e2;obtain⟨us,rfl,hrow⟩:=(ha.2 0 _ v rfl rfl).2;obtain⟨ul⟩:=us
  match ul,hrow with
  |[],hrow=>exact absurd hrow.1 (by simp[zV])
  |[_],hrow=>exact absurd hrow.1 (by simp[zV])
  |_::_::_::_,hrow=>exact absurd hrow.1 (by simp[zV])
  |[u0,u1],hrow=>
   have e0:=uQ (hrow.2 0 (.str d.kind) u0 rfl rfl);subst e0;have h1:PRep w Z (zC 2 (d.flds.map zR)) u1:=hrow.2 1 _ u1 rfl rfl;obtain⟨p,cap,b,o,fv,rfl,hf⟩:=zmO hz h1;have hrow':yD w (zW w) (zV d) [.string ⟨d.kind.toArray⟩,.slice p d.flds.length cap]:=⟨hrow.1,fun j c v hc hv=>nZ hz (hrow.2 j c v hc hv)⟩;refine(zm2 d hd i w hG p cap b o fv hf fun W hb=>(c77 d hd).int2C (hG.later (xM hb)) (Z:=zW W) (fun _ h=>h) (iZ (aA hrow' hb) (xS _ _))).mono ?_;rintro e w' (⟨h0,rfl,hb⟩|⟨h0,gn,gt,rfl,hb,l1,l2,⟨cN,k1⟩,⟨cT,k2⟩,hc⟩)
   ·refine⟨_,_,rfl,rfl,fun _=>rfl,oG hG (xM hb) (fun _=>rfl) fun Z=>⟨_,rfl,rfl,⟨_,rfl,?_⟩,⟨rfl,.int _ _⟩,trivial⟩⟩
    unfold rdR;rw[if_neg h0];refine⟨rfl,fun j c v hc hv=>?_⟩
    match j with
    |0=>cases hc;cases hv;exact .str _
    |1=>cases hc;cases hv;exact .nil 0 none (by simp)
    |2=>cases hc;cases hv;exact .nil 0 none (by simp)
    |j+3=>simp[yM] at hc
   ·have hR:=oM hd (kC (d:=d) (by by_cases h:(cntD d).2=0;exact h;unfold rdE at h0;rw[if_pos h] at h0;exact h0))
    have hnf:=hR.fs;have ht:=zhX d.flds i.toNat;have sN:sA w' gn:=fun cur e f h=>by rw[k1] at h;cases h;rfl
    have sT:sA w' gt:=fun cur e f h=>by rw[k2] at h;cases h;rfl
    have zN:=(Zo.1 k1).1;have zT:=(Zo.1 k2).1;have hm:d.flds.length<=maxLen:=by unfold maxLen;omega
    refine⟨_,_,rfl,rfl,fun _=>rfl,zh1 hG (xM hb) (fun _=>rfl) ⟨_,rfl,rfl,⟨_,rfl,?_⟩,⟨rfl,by rw[h0];exact .int _ _⟩,trivial⟩ (fun _=>rfl)⟩;unfold rdR;rw[if_pos h0];refine⟨rfl,fun j c v hc' hv=>?_⟩
    match j with
    |0=>cases hc';cases hv;exact .str _
    |1=>
     cases hc';cases hv;have:=zh2 (w:=w') (Z:=fun b=>w.heap.size<=b.2/\b.2<w'.heap.size/\sA w' b.2) (L:=d.flds.map Fld.name) (g:=gn) ⟨l1,zN,sN⟩ (by simp;exact hm) (fun j hj=>by
      rw[Zg] at hj
      have:=(hc j hj).1
      rw[this]
      simp[List.getD,hj])
     rw[Zg] at this;exact this
    |2=>
     cases hc';cases hv;have:=zh2 (w:=w') (Z:=fun b=>w.heap.size<=b.2/\b.2<w'.heap.size/\sA w' b.2) (L:=(wQ d.flds i.toNat).1) (g:=gt) ⟨l2,zT,sT⟩ (by rw[ht];exact hm) (fun j hj=>by
      rw[ht] at hj
      exact(hc j hj).2)
     rw[ht] at this;exact this
    |j+3=>simp[yM] at hc'
end Go.Abs
set_option maxRecDepth 100000
set_option maxHeartbeats 8000000
namespace Go.Proofs
open Go.RowKit Go.Abs Go.Wd Go.Wire Go.Ex
theorem Tryz.m165demand (us:Array Value) (w:World):(method 369 165 (.agg us) "allonge/require.demand").run Tryz.prog w=.ok (203,.agg us) w:=by kernel_rfl
theorem Tryz.m165met (us:Array Value) (w:World):(method 369 165 (.agg us) "allonge/require.met").run Tryz.prog w=.ok (204,.agg us) w:=by kernel_rfl
theorem Tryz.m165named (us:Array Value) (w:World):(method 369 165 (.agg us) "allonge/require.named").run Tryz.prog w=.ok (205,.agg us) w:=by kernel_rfl
theorem Tryz.m165words (us:Array Value) (w:World):(method 369 165 (.agg us) "allonge/require.words").run Tryz.prog w=.ok (206,.agg us) w:=by kernel_rfl
theorem Tryz.m167demand (us:Array Value) (w:World):(method 369 167 (.agg us) "allonge/require.demand").run Tryz.prog w=.ok (211,.agg us) w:=by kernel_rfl
theorem Tryz.m167met (us:Array Value) (w:World):(method 369 167 (.agg us) "allonge/require.met").run Tryz.prog w=.ok (212,.agg us) w:=by kernel_rfl
theorem Tryz.m167named (us:Array Value) (w:World):(method 369 167 (.agg us) "allonge/require.named").run Tryz.prog w=.ok (213,.agg us) w:=by kernel_rfl
theorem Tryz.m167words (us:Array Value) (w:World):(method 369 167 (.agg us) "allonge/require.words").run Tryz.prog w=.ok (214,.agg us) w:=by kernel_rfl
theorem Tryz.m169demand (us:Array Value) (w:World):(method 369 169 (.agg us) "allonge/require.demand").run Tryz.prog w=.ok (221,.agg us) w:=by kernel_rfl
theorem Tryz.m169met (us:Array Value) (w:World):(method 369 169 (.agg us) "allonge/require.met").run Tryz.prog w=.ok (222,.agg us) w:=by kernel_rfl
theorem Tryz.m169named (us:Array Value) (w:World):(method 369 169 (.agg us) "allonge/require.named").run Tryz.prog w=.ok (223,.agg us) w:=by kernel_rfl
theorem Tryz.m169words (us:Array Value) (w:World):(method 369 169 (.agg us) "allonge/require.words").run Tryz.prog w=.ok (224,.agg us) w:=by kernel_rfl
theorem Tryz.m171demand (us:Array Value) (w:World):(method 369 171 (.agg us) "allonge/require.demand").run Tryz.prog w=.ok (226,.agg us) w:=by kernel_rfl
theorem Tryz.m171met (us:Array Value) (w:World):(method 369 171 (.agg us) "allonge/require.met").run Tryz.prog w=.ok (227,.agg us) w:=by kernel_rfl
theorem Tryz.m171named (us:Array Value) (w:World):(method 369 171 (.agg us) "allonge/require.named").run Tryz.prog w=.ok (228,.agg us) w:=by kernel_rfl
theorem Tryz.m171words (us:Array Value) (w:World):(method 369 171 (.agg us) "allonge/require.words").run Tryz.prog w=.ok (229,.agg us) w:=by kernel_rfl
def zh3 (m:Dmd):Value:=.agg #[.int .i64 m.op,tV m.doc,tV m.fld,tV m.oth,tV m.sec,tV m.txt,.int .i64 m.lo,.int .i64 m.hi]
theorem zm3 (m:Dmd) (l:List Pln) (hl:vE l) (w:World) (hG:yI (base w)) (v2:Value) (hv:PRep w (zW w) (zC 3 (l.map yM)) v2):
  Calls Tryz.prog 39 #[zh3 m,v2] w fun ex w'=>ex=.returned (.bool (wV m l))/\Below w.heap.size w w':=by
 have hvo:=hv.oneCell;obtain⟨op,d,f,o,s,t,lo,hi⟩:=m;have k79:=zhl op d f o s t lo hi;have hB0: ∀ob,Below w.heap.size w (w.alloc ob):=fun ob=>(Below.refl _ w).alloc (Zs _) _
 have k222: ∀W,Below w.heap.size w W->Calls Tryz.prog 222 #[.agg #[tV d,tV f,tV o,tV s],v2] W fun ex W'=>ex=.returned (.bool (agreesP d f o s l))/\Below W.heap.size W W':=fun W hb=>zmL d f o s l hl W (hG.later (xM hb)) v2 (vW hv hb)
 unfold zh3;simp only[];unfold tV at*
 by_cases h0:op=0
 ·subst h0
  have e:wV ⟨0,d,f,o,s,t,lo,hi⟩ l=kindP l d:=rfl;rw[e];have hc:clV 0 d f o s t lo hi=.iface 165 (.agg #[.string ⟨d.toArray⟩]):=rfl;have ho:okO 0=true:=rfl;rw[hc,ho] at k79;have hm:=Tryz.m165met;have kc: ∀W,Below w.heap.size w W->Calls Tryz.prog 204 #[.agg #[.string ⟨d.toArray⟩],v2] W fun ex W'=>ex=.returned (.bool (kindP l d))/\Below W.heap.size W W':=fun W hb=>(zl9 d l hl.1).boolC (hG.later (xM hb)) (Z:=zW W) (fun _ h=>h) (vN (r:=[.str d]) (by simp[C.sc]) (vH (vW hv hb) (xS _ _)))
  generalize kindP l d=R at kc⊢;clear e
  go_enter Tryz.func39,Tryz.ntmps39
  go_wp2_with (first|(go_at_call 204;refine(kc _ hB1).mono ?_;rintro ex w2 ⟨rfl,hb2⟩)|(go_at_call 79;refine(k79 _).mono ?_;rintro ex w1 ⟨rfl,hb1⟩;have hB1:=(hB0 (.cells #[Value.int .i64 0,Value.string ⟨d.toArray⟩,Value.string ⟨f.toArray⟩,Value.string ⟨o.toArray⟩,Value.string ⟨s.toArray⟩,Value.string ⟨t.toArray⟩,Value.int .i64 lo,Value.int .i64 hi] 46)).trans (hb1.mono (hB0 (.cells #[Value.int .i64 0,Value.string ⟨d.toArray⟩,Value.string ⟨f.toArray⟩,Value.string ⟨o.toArray⟩,Value.string ⟨s.toArray⟩,Value.string ⟨t.toArray⟩,Value.int .i64 lo,Value.int .i64 hi] 46)).size)))
  go_ret
  exact⟨rfl,hB1.trans (hb2.mono hB1.size)⟩
 by_cases h1:op=1
 ·subst h1
  have e:wV ⟨1,d,f,o,s,t,lo,hi⟩ l=readsP d f t l:=rfl;rw[e];have hc:clV 1 d f o s t lo hi=.iface 167 (.agg #[.string ⟨d.toArray⟩,.string ⟨f.toArray⟩,.string ⟨t.toArray⟩]):=rfl;have ho:okO 1=true:=rfl;rw[hc,ho] at k79;have hm:=Tryz.m167met;have kc: ∀W,Below w.heap.size w W->Calls Tryz.prog 212 #[.agg #[.string ⟨d.toArray⟩,.string ⟨f.toArray⟩,.string ⟨t.toArray⟩],v2] W fun ex W'=>ex=.returned (.bool (readsP d f t l))/\Below W.heap.size W W':=fun W hb=>(zmc d f t l hl).boolC (hG.later (xM hb)) (Z:=zW W) (fun _ h=>h) (vN (r:=[.str d,.str f,.str t]) (by simp[C.sc]) (vH (vW hv hb) (xS _ _)))
  generalize readsP d f t l=R at kc⊢;clear e
  go_enter Tryz.func39,Tryz.ntmps39
  go_wp2_with (first|(go_at_call 212;refine(kc _ hB1).mono ?_;rintro ex w2 ⟨rfl,hb2⟩)|(go_at_call 79;refine(k79 _).mono ?_;rintro ex w1 ⟨rfl,hb1⟩;have hB1:=(hB0 (.cells #[Value.int .i64 1,Value.string ⟨d.toArray⟩,Value.string ⟨f.toArray⟩,Value.string ⟨o.toArray⟩,Value.string ⟨s.toArray⟩,Value.string ⟨t.toArray⟩,Value.int .i64 lo,Value.int .i64 hi] 46)).trans (hb1.mono (hB0 (.cells #[Value.int .i64 1,Value.string ⟨d.toArray⟩,Value.string ⟨f.toArray⟩,Value.string ⟨o.toArray⟩,Value.string ⟨s.toArray⟩,Value.string ⟨t.toArray⟩,Value.int .i64 lo,Value.int .i64 hi] 46)).size)))
  go_ret
  exact⟨rfl,hB1.trans (hb2.mono hB1.size)⟩
 by_cases h3:op=3
 ·subst h3
  have e:wV ⟨3,d,f,o,s,t,lo,hi⟩ l=agreesP d f o s l:=rfl;rw[e];have hc:clV 3 d f o s t lo hi=.iface 169 (.agg #[.string ⟨d.toArray⟩,.string ⟨f.toArray⟩,.string ⟨o.toArray⟩,.string ⟨s.toArray⟩]):=rfl;have ho:okO 3=true:=rfl;rw[hc,ho] at k79;have hm:=Tryz.m169met;have kc: ∀W,Below w.heap.size w W->Calls Tryz.prog 222 #[.agg #[.string ⟨d.toArray⟩,.string ⟨f.toArray⟩,.string ⟨o.toArray⟩,.string ⟨s.toArray⟩],v2] W fun ex W'=>ex=.returned (.bool (agreesP d f o s l))/\Below W.heap.size W W':=fun W hb=>k222 W hb
  generalize agreesP d f o s l=R at kc⊢;clear e
  go_enter Tryz.func39,Tryz.ntmps39
  go_wp2_with (first|(go_at_call 222;refine(kc _ hB1).mono ?_;rintro ex w2 ⟨rfl,hb2⟩)|(go_at_call 79;refine(k79 _).mono ?_;rintro ex w1 ⟨rfl,hb1⟩;have hB1:=(hB0 (.cells #[Value.int .i64 3,Value.string ⟨d.toArray⟩,Value.string ⟨f.toArray⟩,Value.string ⟨o.toArray⟩,Value.string ⟨s.toArray⟩,Value.string ⟨t.toArray⟩,Value.int .i64 lo,Value.int .i64 hi] 46)).trans (hb1.mono (hB0 (.cells #[Value.int .i64 3,Value.string ⟨d.toArray⟩,Value.string ⟨f.toArray⟩,Value.string ⟨o.toArray⟩,Value.string ⟨s.toArray⟩,Value.string ⟨t.toArray⟩,Value.int .i64 lo,Value.int .i64 hi] 46)).size)))
  go_ret
  exact⟨rfl,hB1.trans (hb2.mono hB1.size)⟩
 by_cases h2:op=2
 ·subst h2
  have e:wV ⟨2,d,f,o,s,t,lo,hi⟩ l=limP d f lo hi false l:=rfl;rw[e];have hc:clV 2 d f o s t lo hi=.iface 171 (.agg #[.string ⟨d.toArray⟩,.string ⟨f.toArray⟩,.int .i64 lo,.int .i64 hi,.bool false]):=rfl;have ho:okO 2=true:=rfl;rw[hc,ho] at k79;have hm:=Tryz.m171met;have kc: ∀W,Below w.heap.size w W->Calls Tryz.prog 227 #[.agg #[.string ⟨d.toArray⟩,.string ⟨f.toArray⟩,.int .i64 lo,.int .i64 hi,.bool false],v2] W fun ex W'=>ex=.returned (.bool (limP d f lo hi false l))/\Below W.heap.size W W':=fun W hb=>(zhs d f lo hi false l hl).boolC (hG.later (xM hb)) (Z:=zW W) (fun _ h=>h) (vN (r:=[.str d,.str f,.int .i64 lo,.int .i64 hi,.bool false]) (by simp[C.sc]) (vH (vW hv hb) (xS _ _)))
  generalize limP d f lo hi false l=R at kc⊢;clear e
  go_enter Tryz.func39,Tryz.ntmps39
  go_wp2_with (first|(go_at_call 227;refine(kc _ hB1).mono ?_;rintro ex w2 ⟨rfl,hb2⟩)|(go_at_call 79;refine(k79 _).mono ?_;rintro ex w1 ⟨rfl,hb1⟩;have hB1:=(hB0 (.cells #[Value.int .i64 2,Value.string ⟨d.toArray⟩,Value.string ⟨f.toArray⟩,Value.string ⟨o.toArray⟩,Value.string ⟨s.toArray⟩,Value.string ⟨t.toArray⟩,Value.int .i64 lo,Value.int .i64 hi] 46)).trans (hb1.mono (hB0 (.cells #[Value.int .i64 2,Value.string ⟨d.toArray⟩,Value.string ⟨f.toArray⟩,Value.string ⟨o.toArray⟩,Value.string ⟨s.toArray⟩,Value.string ⟨t.toArray⟩,Value.int .i64 lo,Value.int .i64 hi] 46)).size)))
  go_ret
  exact⟨rfl,hB1.trans (hb2.mono hB1.size)⟩
 by_cases h4:op=4
 ·subst h4
  have e:wV ⟨4,d,f,o,s,t,lo,hi⟩ l=limP d f lo hi true l:=rfl;rw[e];have hc:clV 4 d f o s t lo hi=.iface 171 (.agg #[.string ⟨d.toArray⟩,.string ⟨f.toArray⟩,.int .i64 lo,.int .i64 hi,.bool true]):=rfl;have ho:okO 4=true:=rfl;rw[hc,ho] at k79;have hm:=Tryz.m171met;have kc: ∀W,Below w.heap.size w W->Calls Tryz.prog 227 #[.agg #[.string ⟨d.toArray⟩,.string ⟨f.toArray⟩,.int .i64 lo,.int .i64 hi,.bool true],v2] W fun ex W'=>ex=.returned (.bool (limP d f lo hi true l))/\Below W.heap.size W W':=fun W hb=>(zhs d f lo hi true l hl).boolC (hG.later (xM hb)) (Z:=zW W) (fun _ h=>h) (vN (r:=[.str d,.str f,.int .i64 lo,.int .i64 hi,.bool true]) (by simp[C.sc]) (vH (vW hv hb) (xS _ _)))
  generalize limP d f lo hi true l=R at kc⊢;clear e
  go_enter Tryz.func39,Tryz.ntmps39
  go_wp2_with (first|(go_at_call 227;refine(kc _ hB1).mono ?_;rintro ex w2 ⟨rfl,hb2⟩)|(go_at_call 79;refine(k79 _).mono ?_;rintro ex w1 ⟨rfl,hb1⟩;have hB1:=(hB0 (.cells #[Value.int .i64 4,Value.string ⟨d.toArray⟩,Value.string ⟨f.toArray⟩,Value.string ⟨o.toArray⟩,Value.string ⟨s.toArray⟩,Value.string ⟨t.toArray⟩,Value.int .i64 lo,Value.int .i64 hi] 46)).trans (hb1.mono (hB0 (.cells #[Value.int .i64 4,Value.string ⟨d.toArray⟩,Value.string ⟨f.toArray⟩,Value.string ⟨o.toArray⟩,Value.string ⟨s.toArray⟩,Value.string ⟨t.toArray⟩,Value.int .i64 lo,Value.int .i64 hi] 46)).size)))
  go_ret
  exact⟨rfl,hB1.trans (hb2.mono hB1.size)⟩
 have e1:clV op d f o s t lo hi=.nilIface:=by unfold clV;rw[if_neg h0,if_neg h1,if_neg h3,if_neg h2,if_neg h4]
 have e2:okO op=false:=by unfold okO;simp[h0,h1,h2,h3,h4]
 have e3:wV ⟨op,d,f,o,s,t,lo,hi⟩ l=false:=by unfold wV;simp only[];rw[if_neg h0,if_neg h1,if_neg h2,if_neg h3,if_neg h4]
 rw[e1,e2] at k79;rw[e3];clear e1 e2 e3 k222
 go_enter Tryz.func39,Tryz.ntmps39
 go_wp2_with (go_at_call 79;refine(k79 _).mono ?_;rintro ex w1 ⟨rfl,hb1⟩;have hB1:=(hB0 (.cells #[Value.int .i64 op,Value.string ⟨d.toArray⟩,Value.string ⟨f.toArray⟩,Value.string ⟨o.toArray⟩,Value.string ⟨s.toArray⟩,Value.string ⟨t.toArray⟩,Value.int .i64 lo,Value.int .i64 hi] 46)).trans (hb1.mono (hB0 (.cells #[Value.int .i64 op,Value.string ⟨d.toArray⟩,Value.string ⟨f.toArray⟩,Value.string ⟨o.toArray⟩,Value.string ⟨s.toArray⟩,Value.string ⟨t.toArray⟩,Value.int .i64 lo,Value.int .i64 hi] 46)).size))
 go_ret
 exact⟨rfl,hB1⟩
end Go.Proofs
namespace Go.Abs
open Go.Proofs Go.RowKit Go.Lib Go.Wd Go.Wire Go.Ex
theorem zh4 (m:Dmd): ∀c∈zQ m,c.sc=true:=by simp[zQ,C.sc]
theorem c39 (m:Dmd) (l:List Pln) (hl:vE l):Spec Tryz.prog 39 [.agg (zQ m),lst 3 (l.map yM)] (fun v=>v=.bool (wV m l)):=by
 refine⟨rH (by kernel_rfl),fun w Z vs hG hz ha=>?_⟩;obtain⟨vl⟩:=vs
 match vl,ha with
 |[],ha=>exact absurd ha.1 (by simp)
 |[_],ha=>exact absurd ha.1 (by simp)
 |_::_::_::_,ha=>exact absurd ha.1 (by simp)
 |[v,v2],ha=>
  obtain⟨us,rfl,hrow⟩:=(ha.2 0 _ v rfl rfl).2;have h2:PRep w Z (zC 3 (l.map yM)) v2:=(ha.2 1 _ v2 rfl rfl).2.2;obtain⟨ul⟩:=us;have hu:ul=(zQ m).map wE:=iY (zh4 m) hrow;subst hu;refine(zm3 m l hl w hG v2 (nZ hz h2)).mono ?_;rintro e w' ⟨rfl,hb⟩;exact⟨_,_,rfl,rfl,fun _=>rfl,oG hG (xM hb) (fun _=>rfl) (fun _=>⟨rfl,.bool _⟩)⟩
end Go.Abs
set_option maxRecDepth 100000
set_option maxHeartbeats 8000000
namespace Go.Abs
open Go.Proofs Go.RowKit Go.Lib Go.Wd Go.Wire Go.Ex
theorem gL {L:List Dmd} {i:Nat} (h:i<L.length):(L.map zQ).getD i []=[.int .i64 (L.getD i yZ).op,.str (L.getD i yZ).doc,.str (L.getD i yZ).fld,.str (L.getD i yZ).oth,.str (L.getD i yZ).sec,.str (L.getD i yZ).txt,.int .i64 (L.getD i yZ).lo,.int .i64 (L.getD i yZ).hi]:=by simp[List.getD,h,zQ]
def oS (L:List Dmd) (p:List Pln) (n:Nat):List Int:=((List.range n).filter fun i=> !wV (L.getD i yZ) p).map fun(i:Nat)=>(i:Int)
theorem zm4 (L:List Dmd) (p:List Pln) (n:Nat):oS L p (n+1)=oS L p n++if wV (L.getD n yZ) p=true then[] else[(n:Int)]:=by
 unfold oS;rw[XI,List.filter_append,ZW];congr 1;rw[List.filter_cons,List.filter_nil];cases h:wV (L.getD n yZ) p
 ·simp
 ·simp
theorem zm5 (L:List Dmd) (p:List Pln) (n:Nat):(oS L p n).length<=n:=by
 unfold oS;rw[Zg];exact ZY (Y0 _ _) (by simp)
def zh5 (L:List Dmd) (p:List Pln):List Int:=(sR L p).map fun(i:Nat)=>(i:Int)
theorem zm6 (L:List Dmd) (p:List Pln):zh5 L p=oS L p L.length:=rfl
theorem c15 (L:List Dmd) (p:List Pln) (hL:L.length<=1000000) (hp:vE p):Spec Tryz.prog 15 [lst 8 (L.map zQ),lst 3 (p.map yM)] (fun v=>v=lst 1 (zM (zh5 L p))):=by
 refine Spec.of_awlP hf15 okf15 (by simp) fun S hS=>?_
 rw[zm6] at hS;simp only[zI,Qs,bne_iff_ne,ne_eq,Zd,Zt,Za,Zg,Ψ15];rw[uu f15l16.eq_1];refine yA (fun x:Nat×Option Bool=>[(1,lst 3 (p.map yM)),(5,.k (.own 5)),(8,lst 8 (L.map zQ)),(9,.int .i64 L.length),(10,.int .i64 x.1)]) (fun x=>[(5,.arr 3 1 x.2 (zM (oS L p x.1)))]) (fun x=>x.1<=L.length) (fun x=>L.length-x.1) (0,some true) rfl rfl (ZB _) ?_;rintro⟨i,nl⟩ hi;simp only[] at hi;have hfl:=zm5 L p i;by_cases hlt:i<L.length
 ·have d1:(i:Int)<L.length:=by omega
  have c4:IntKind.i64.wrap ((i:Int)+1)=(i:Int)+1:=wrap_in (by omega) (by omega);have hat:=gL hlt;have hs:=zm4 L p i;generalize L.getD i yZ=m at hat hs;have g1:=c39 m p hp;unfold zQ at g1;cases hm:wV m p with
  |true=>
   rw[hm] at g1;rw[hm,if_pos rfl,Zk] at hs;simp only[d1,hat,zI,Qs,bne_iff_ne,ne_eq,Zk,Zd,Zt,Za,Zg,Ψ15];refine zF g1 ?_ (ha:=by simp only[Zl,Zq,zB,V.norm,C.norm,yG sQ,C.normRow]<;>rfl);simp only[c4,Qs,Za,Ψ15];exact Next.intro (i+1,nl) rfl (by simp[hs];rfl) (by simp only;omega) (by simp only;omega)
  |false=>
   rw[hm] at g1;rw[hm,if_neg (by simp)] at hs;simp only[d1,hat,zI,Qs,bne_iff_ne,ne_eq,Zk,Zd,Zt,Za,Zg,Ψ15];refine zF g1 ?_ (ha:=by simp only[Zl,Zq,zB,V.norm,C.norm,yG sQ,C.normRow]<;>rfl);simp only[c4,yL,Qs,forall_eq,bne_iff_ne,ne_eq,ZH,Zt,Zm,Z5,Za,Zx,Ψ15];refine⟨by omega,by omega,Next.intro (i+1,some false) rfl (by simp[hs,cU];rfl) (by simp only;omega) (by simp only;omega)⟩
 ·have d1: ¬(i:Int)<L.length:=by omega
  obtain rfl:i=L.length:=by omega
  simp only[d1,Qs,ZV,Za,Zx,Ψ15];refine hS _ ?_;simp only[V.fz,V.fzL,V.nrm,V.nrmL,qB (vC _)]
  try rfl
end Go.Abs
set_option maxRecDepth 100000
set_option maxHeartbeats 8000000
namespace Go.Ex
open Go.Lib Go.Wd Go.Wire Go.Abs
def lkI (m:Dmd) (p:Pln) (i n:Nat):List Plc:=((List.range n).filter (kA m p)).map fun(k:Nat)=>⟨(i:Int),(k:Int)⟩
theorem zm7 (m:Dmd) (p:Pln) (i n:Nat):lkI m p i (n+1)=lkI m p i n++if kA m p n=true then[⟨(i:Int),(n:Int)⟩] else[]:=by
 unfold lkI;rw[XI,List.filter_append,ZW,List.filter_cons,List.filter_nil];congr 1;split<;>rfl
theorem zm8 (m:Dmd) (p:Pln) (i n:Nat):(lkI m p i n).length<=n:=by
 unfold lkI;rw[Zg];exact ZY (Y0 _ _) (by simp)
end Go.Ex
namespace Go.Abs
open Go.Proofs Go.RowKit Go.Lib Go.Wd Go.Wire Go.Ex
def sU (c:Plc):List C:=[.int .i64 c.doc,.int .i64 c.fld]
def pls (l:List Plc):List (List C):=l.map sU
theorem uY (l:List Plc):(pls l).length=l.length:=by simp[pls]
theorem zm9 (l:List Plc) (a b:Int):pls l++[[.int .i64 a,.int .i64 b]]=pls (l++[⟨a,b⟩]):=by simp[pls,sU]
theorem rL (l:List Plc):C.normRows (pls l)=pls l:=zP (fun m=>by simp only[sU,C.normRow,C.norm]) l
theorem c16 (m:Dmd) (l:List Pln) (hl:vE l):Spec Tryz.prog 16 [.agg (zQ m),lst 3 (l.map yM)] (fun v=>v=lst 2 (pls (uX m l))):=by
 refine Spec.of_awlP hf16 okf16 (by simp) fun S hS=>?_
 have hlen:=hl.1;unfold zQ;unfold uX at hS;by_cases ho1:m.op<=0
 ·rw[if_pos (.inl ho1)] at hS
  simp only[ho1,Qs,zeS,bne_iff_ne,ne_eq,BEq.rfl,ZV,Zd,Zt,Zm,Za,Zx,Ψ16];exact hS _ rfl
 by_cases ho2:m.op>=5
 ·rw[if_pos (.inr ho2)] at hS
  simp only[ho1,ho2,Qs,bne_iff_ne,ne_eq,BEq.rfl,ZV,Zd,Zt,Zm,Za,Zx,Ψ16];exact hS _ rfl
 rw[if_neg (by omega)] at hS;simp only[ho1,ho2,zI,Qs,bne_iff_ne,ne_eq,Zd,Zt,Zm,Za,Zg,Ψ16];rw[uu f16l35.eq_1];refine yA (fun x:Nat×List Plc×Option Bool=>[(2,.k (.c (.ro [.int .i64 m.op,.str m.doc,.str m.fld,.str m.oth,.str m.sec,.str m.txt,.int .i64 m.lo,.int .i64 m.hi] 0))),(5,.k (.own 5)),(21,lst 3 (l.map yM)),(22,.int .i64 l.length),(23,.int .i64 x.1)]) (fun x=>[(5,.arr 64 2 x.2.2 (pls x.2.1))]) (fun x=>x.1<=l.length/\x.2.1.length<=x.1*1000000/\x.2.1++tJ m (l.drop x.1) x.1=tJ m l 0) (fun x=>l.length-x.1) (0,[],some true) rfl rfl ⟨ZB _,by simp,by simp⟩ ?_;rintro⟨i,L,nl⟩ ⟨hi,hL,hD⟩;simp only[] at hi hL hD;by_cases hlt:i<l.length
 ·have d1:(i:Int)<l.length:=by omega
  have c4:IntKind.i64.wrap ((i:Int)+1)=(i:Int)+1:=wrap_in (by omega) (by omega);have hat:=zpl hlt;rw[ZE hlt,tJ,<-Z9] at hD;have hp:=hl.2 _ (Zy hlt);generalize l[i]=p at hD hat hp;have hns:=hp.ns;simp only[d1,hat,yB,Qs,bne_iff_ne,ne_eq,Zk,Zd,Zt,Zm,Za,Zg,Ψ16];rw[uu f16l23.eq_1];refine yA (fun x:Nat×Option Bool=>[(2,.k (.c (.ro [.int .i64 m.op,.str m.doc,.str m.fld,.str m.oth,.str m.sec,.str m.txt,.int .i64 m.lo,.int .i64 m.hi] 0))),(5,.k (.own 5)),(6,.int .i64 i),(7,.k (.c (.ro [.str p.kind,zC 1 (zJ p.names),zC 1 (zJ p.texts)] 0))),(21,lst 3 (l.map yM)),(22,.int .i64 l.length),(23,.int .i64 i),(29,lst 1 (zJ p.names)),(30,.int .i64 p.names.length),(31,.int .i64 x.1)]) (fun x=>[(5,.arr 64 2 x.2 (pls (L++lkI m p i x.1)))]) (fun x=>x.1<=p.names.length) (fun x=>p.names.length-x.1) (0,nl) rfl (by simp[lkI];rfl) (ZB _) ?_;rintro⟨k,nl2⟩ hk;simp only[] at hk;have hlk:=zm8 m p i k;by_cases hkl:k<p.names.length
  ·have dk:(k:Int)<p.names.length:=by omega
   have ck:IntKind.i64.wrap ((k:Int)+1)=(k:Int)+1:=wrap_in (by omega) (by omega);have hs:=zm7 m p i k;have hgd:p.names.getD k []=p.names[k]:=by simp[List.getD,hkl]
   have hlB:kA m p k=((decide (fstN (fun x=>decide (p.names[k]=x)) p.names 0=(k:Int))&&decide (k<p.texts.length))&&((decide (p.kind=m.doc)&&decide (p.names[k]=m.fld))||(decide (m.op=3)&&(decide (p.kind=m.oth)&&decide (p.names[k]=m.sec))))):=by unfold kA;rw[hgd]
   have g1:=c40 p.names p.names[k] (big hns);have hsk:=uI hkl;generalize p.names[k]=nm at hlB g1 hsk;generalize fstN (fun x=>decide (nm=x)) p.names 0=j at hlB g1;have bq: ∀a b:Txt,(a==b)=decide (a=b):=fun a b=>by rw[Yn];simp
   have e1:(j==(k:Int))=decide (j=(k:Int)):=rfl;have e3:=bq p.kind m.doc;have e4:=bq nm m.fld;have e5:(m.op==3)=decide (m.op=3):=rfl;have e6:=bq p.kind m.oth;have e7:=bq nm m.sec;have H2:(k:Int)<p.texts.length/\decide (k<p.texts.length)=true\/ ¬(k:Int)<p.texts.length/\decide (k<p.texts.length)=false:=by
    by_cases h:k<p.texts.length
    ·exact .inl ⟨by omega,by simp[h]⟩
    ·exact .inr ⟨by omega,by simp[h]⟩
   generalize decide (k<p.texts.length)=a2 at hlB H2;generalize decide (j=(k:Int))=a1 at hlB e1;generalize decide (p.kind=m.doc)=a3 at hlB e3;generalize decide (nm=m.fld)=a4 at hlB e4;generalize decide (m.op=3)=a5 at hlB e5;generalize decide (p.kind=m.oth)=a6 at hlB e6;generalize decide (nm=m.sec)=a7 at hlB e7;rw[hlB] at hs;have K1:a1=false\/a1=true:=by cases a1<;>simp
   have K3:a3=false\/(a3=true/\a4=false)\/(a3=true/\a4=true):=by cases a3<;>cases a4<;>simp
   have K5:a5=false\/(a5=true/\a6=false)\/(a5=true/\a6=true/\a7=false)\/(a5=true/\a6=true/\a7=true):=by cases a5<;>cases a6<;>cases a7<;>simp
   simp only[dk,yB,hsk,Qs,Zd,Zm,Za,Ψ16];refine zF g1 ?_ (ha:=by simp only[Zl,Zq,zB,V.norm,C.norm,zO,wD]<;>rfl);rcases K1 with rfl|rfl
   ·have hs0:=hs
    simp only[ZO,if_neg Bool.false_ne_true,Zk] at hs0;rcases K3 with rfl|⟨rfl,rfl⟩|⟨rfl,rfl⟩
    all_goals rcases K5 with rfl|⟨rfl,rfl⟩|⟨rfl,rfl,rfl⟩|⟨rfl,rfl,rfl⟩
    all_goals simp only[e1,e3,e4,e5,e6,e7,ck,Qs,Zd,Zm,Za,Ψ16]
    all_goals exact Next.intro (k+1,nl2) rfl (by simp[hs0];rfl) (by simp only;omega) (by simp only;omega)
   rcases H2 with⟨d2,rfl⟩|⟨d2,rfl⟩
   rotate_left
   ·have hs0:=hs
    simp only[YP,ZO,if_neg Bool.false_ne_true,Zk] at hs0;rcases K3 with rfl|⟨rfl,rfl⟩|⟨rfl,rfl⟩
    all_goals rcases K5 with rfl|⟨rfl,rfl⟩|⟨rfl,rfl,rfl⟩|⟨rfl,rfl,rfl⟩
    all_goals simp only[e1,d2,e3,e4,e5,e6,e7,ck,yB,Qs,Zd,Zm,Za,Ψ16]
    all_goals exact Next.intro (k+1,nl2) rfl (by simp[hs0];rfl) (by simp only;omega) (by simp only;omega)
   have hlb:(L++lkI m p i k).length+1<=1000000000001:=by
    rw[Zu];have:i*1000000<=1000000*1000000:=ZT _ (by omega);have h2:L.length<=999999*1000000:=ZY hL (ZT _ (by omega));omega
   rcases K3 with rfl|⟨rfl,rfl⟩|⟨rfl,rfl⟩
   all_goals rcases K5 with rfl|⟨rfl,rfl⟩|⟨rfl,rfl,rfl⟩|⟨rfl,rfl,rfl⟩
   all_goals simp only[YP,ZO,Bool.and_true,ZJ,Bool.or_false,YA,Bool.or_true,XA,if_neg Bool.false_ne_true,if_true,Zk] at hs
   all_goals simp only[e1,d2,e3,e4,e5,e6,e7,ck,yB,uY,Qs,zeS,zlq,forall_eq,bne_iff_ne,ne_eq,Zk,ZH,Zd,Zt,Zm,Z5,Za,Zx,Ψ16]
   all_goals first
    |exact Next.intro (k+1,nl2) rfl (by simp[hs];rfl) (by simp only;omega) (by simp only;omega)
    |exact⟨by omega,by omega,Next.intro (k+1,some false) rfl (by rw[hs,zm9,Z9];rfl) (by simp only;omega) (by simp only;omega)⟩
  ·obtain rfl:k=p.names.length:=by omega
   have dk: ¬(p.names.length:Int)<p.names.length:=by omega
   have hq:lkI m p i p.names.length=mE m p i:=rfl;rw[hq] at hlk;simp only[dk,yB,c4,hq,Qs,reduceCtorEq,Za,Ψ16];exact Next.intro (i+1,L++mE m p i,nl2) rfl rfl ⟨by simp only;omega,by simp only[Zu];rw[Xi];omega,hD⟩ (by simp only;omega)
 ·have d1: ¬(i:Int)<l.length:=by omega
  rw[ZA (by omega),tJ,Zk] at hD;rw[<-hD] at hS;simp only[d1,Qs,ZV,Za,Zx,Ψ16];refine hS _ ?_;simp only[V.fz,V.fzL,V.nrm,V.nrmL,rL,qB (rL _)]
  try rfl
end Go.Abs
set_option maxRecDepth 100000
set_option maxHeartbeats 8000000
namespace Go.Ex
open Go.Lib Go.Wd Go.Wire Go.Abs
theorem zh6: ∀{l:List Dcm} {acc:List Int} {n:Nat},(wK l acc n).2.2=0->(wK l acc n).1=acc++l.map (fun d=>(cntD d).1)/\(∀d∈l,(cntD d).2=0)/\(n<=4096->(wK l acc n).2.1<=4096)/\(wK l acc n).2.1=(l.foldl (fun a d=>a*(cntD d).1.toNat) n:Nat)
 |[],acc,n,_=>by simp[wK];omega
 |d::l,acc,n,h=>by
  rw[wK] at h⊢;split at h
  ·cases h
  ·rename_i hd
   rw[if_neg hd];have h2:(cntD d).2=0:=by
    by_cases q:(cntD d).2=0
    ·exact q
    ·exact absurd (.inl q) hd
   have hc:=iX (d:=d);obtain⟨a1,a2,a3,a4⟩:=zh6 h;refine⟨by rw[a1];simp,fun x hx=>?_,fun hn=>a3 ?_,by rw[a4];rfl⟩
   ·rcases ZH.1 hx with rfl|hx
    ·exact h2
    ·exact a2 x hx
   ·have: ¬(n:Int)*(cntD d).1>4096:=fun q=>hd (.inr q)
    obtain⟨c,hc2⟩: ∃c:Nat,(cntD d).1=c:=⟨(cntD d).1.toNat,by omega⟩;rw[hc2] at this⊢;simp only[Yf];have e:((n*c:Nat):Int)=(n:Int)*c:=Yo n c;omega
structure CntOk (D:List Dcm):Prop where
 len:D.length<=8
 l:(cnts D).1=D.map fun d=>(cntD d).1
 e: ∀d∈D,(cntD d).2=0
 n:(cnts D).2.1=(xY D:Nat)
 le:xY D<=4096
 p:xY D=D.foldl (fun a d=>a*(cntD d).1.toNat) 1
theorem rM {D:List Dcm} (h:(cnts D).2.2=0):CntOk D:=by
 unfold cnts at h;split at h
 ·cases h
 ·rename_i h8
  split at h
  ·rename_i hf
   have hc:cnts D=wK D [] 1:=by unfold cnts;rw[if_neg h8,if_pos hf]
   obtain⟨a1,a2,a3,a4⟩:=zh6 h;have hn:(cnts D).2.1=(xY D:Nat):=by unfold xY;rw[hc,a4];simp
   refine⟨by omega,by rw[hc,a1];simp,a2,hn,?_,?_⟩
   ·have:=a3 (by decide);rw[<-hc,hn] at this;omega
   ·have:=a4;rw[<-hc,hn] at this;omega
  ·rename_i hf;exact absurd h hf
theorem zh7 {d:Dcm} (hd:DcmS d) (h:(cntD d).2=0):1<=(cntD d).1:=by
 have h0:=kC h;have hR:=oM hd h0;unfold cntD at h⊢;rw[if_pos h0] at h⊢;have key: ∀(l:List Fld) (n:Nat),1<=n->(∀f∈l,1<=yQ f)->(vD l n).2=0->1<=(vD l n).1:=by
  intro l
  induction l with
  |nil=>intro n hn _ _;simp only[vD];omega
  |cons f l ih=>
   intro n hn hf h;rw[vD] at h⊢;split at h
   ·cases h
   ·rename_i hq
    rw[if_neg hq];exact ih _ (Xz hn (hf f (by simp))) (fun x hx=>hf x (Zz _ hx)) h
 exact key d.flds 1 (Zs _) (fun f hf=>zhi (hR.fld hf)) h
theorem zh8 {d:Dcm} {q:Nat} (h:(cntD d).2=0) (hq:(q:Int)<(cntD d).1):rdE d q=0:=by
 unfold rdE;rw[if_neg (by simp[h]),if_neg (by omega)]
theorem zna {d:Dcm} {q:Nat} (h:(cntD d).2=0) (hq:(q:Int)<(cntD d).1):rdR d q=rdD d q:=by
 unfold rdR;rw[if_pos (zh8 h hq)];simp
end Go.Ex
namespace Go.Ex
open Go.Lib Go.Wd Go.Wire Go.Abs
theorem zh9: ∀(D:List Dcm) (cs:List Nat) (i:Nat),cs.length=D.length->(xN D cs i).1.length=D.length
 |[],[],_,_=>rfl
 |d::D,c::cs,i,h=>by rw[xN,Zn,zh9 D cs i (by simpa using h),Zn]
 |[],_::_,_,h=>by simp at h
 |_::_,[],_,h=>by simp at h
theorem zia: ∀(D:List Dcm) (cs:List Nat) (i:Nat),(xN D cs i).2<=i
 |d::D,c::cs,i=>by rw[xN];exact ZY (Xl _ _) (zia D cs i)
 |[],_,_=>by simp[xN]
 |_::_,[],_=>by simp[xN]
theorem znb {D:List Dcm} {cs:List Nat} {i k:Nat} (hk:k<D.length) (hc:k<cs.length):xN (D.drop k) (cs.drop k) i=(rdD D[k] ((xN (D.drop (k+1)) (cs.drop (k+1)) i).2 % cs.getD k 0)::(xN (D.drop (k+1)) (cs.drop (k+1)) i).1,(xN (D.drop (k+1)) (cs.drop (k+1)) i).2/cs.getD k 0):=by
 have e:cs.getD k 0=cs[k]:=by simp[List.getD,hc]
 rw[ZE hk,ZE hc,xN,e]
end Go.Ex
namespace Go.Abs
open Go.Proofs Go.RowKit Go.Lib Go.Wd Go.Wire Go.Ex
def vF (l:List Pln):List (List C):=l.map yM
theorem znc (l:List Pln):(vF l).length=l.length:=by simp[vF]
theorem oT (l:List Pln):C.normRows (vF l)=vF l:=zP sQ l
theorem c38 (D:List Dcm) (hD:sP D) (hok:CntOk D) (i:Nat) (hi:i<xY D):Spec Tryz.prog 38 [lst 2 (D.map zV),lst 1 (zM (cnts D).1),.int .i64 i] (fun v=>v=lst 3 (vF (rdsD D i))):=by
 refine Spec.of_awlP hf38 okf38 (by simp) fun S hS=>?_
 have h8:=hok.len;have hle:=hok.le;have hcl:(cnts D).1.length=D.length:=by rw[hok.l];simp
 simp only[zI,Qs,zk6,zdH,zln,bne_iff_ne,ne_eq,Zd,Zt,Za,Zg,Ψ38];have w0:IntKind.i64.wrap ((D.length:Int)-1)=(D.length:Int)-1:=wrap_in (by omega) (by omega);rw[w0];refine⟨by omega,by omega,by omega,?_⟩;obtain⟨zr,hzr⟩: ∃zr,[C.str [],C.list 0 (some true) [],C.list 0 (some true) []]=zr:=⟨_,rfl⟩;rw[hzr];have hcs:(vZ D).length=D.length:=by unfold vZ;rw[Zg,hcl]
 rw[uu f38l13.eq_1];refine yA (fun k:Nat=>[(0,lst 2 (D.map zV)),(1,lst 1 (zM (cnts D).1)),(2,.int .i64 ((xN (D.drop k) ((vZ D).drop k) i).2:Nat)),(7,.k (.own 11)),(8,.int .i64 ((k:Int)-1))]) (fun k=>[(11,.arr 53 3 (some false) ((List.replicate D.length zr).take k++vF (xN (D.drop k) ((vZ D).drop k) i).1))]) (fun k=>k<=D.length) (fun k=>k) D.length (by rw[ZA (Zs _)];rfl) (by rw[ZA (Zs _)];simp[xN,vF];rfl) (Zs _) ?_;intro k hk;by_cases hk0:k=0
 ·subst hk0
  have d1: ¬((0:Nat):Int)-1>=0:=by omega
  simp only[d1,Qs,Xf,ZV,Za,Int.reduceGE,Int.reduceSub,Zx,Ψ38];refine hS _ ?_;simp only[V.fz,V.fzL,V.nrm,V.nrmL,oT,qB (oT _)]
  try rfl
 ·obtain⟨m,rfl⟩: ∃m,k=m+1:=⟨k-1,by omega⟩
  have hm:m<D.length:=by omega
  have d1:(m:Int)>=0:=by omega
  have d2:(m:Int)<D.length:=by omega
  have hmc:m<(vZ D).length:=by omega
  have hml:m<(cnts D).1.length:=by omega
  have e6:((m+1:Nat):Int)-1=(m:Int):=by omega
  have hst:=znb (i:=i) hm hmc;have hat:=nX hm;have hce:=hok.e _ (Zy hm);have hds:=hD.2 _ (Zy hm);have hcp:=zh7 hds hce;have hci:(cnts D).1[m]=(cntD D[m]).1:=by simp[hok.l]
  have hia:=zlB hml;rw[hci] at hia;have hcn:((vZ D).getD m 0:Int)=(cntD D[m]).1:=by
   unfold vZ;simp only[List.getD,Zv,Zh hml,hci,Yq,Y7];omega
  have hqle:=zia (D.drop (m+1)) ((vZ D).drop (m+1)) i;have hpl:=zh9 (D.drop (m+1)) ((vZ D).drop (m+1)) i (by rw[List.length_drop,List.length_drop,hcs]);obtain⟨q,hq⟩: ∃q,(xN (D.drop (m+1)) ((vZ D).drop (m+1)) i).2=q:=⟨_,rfl⟩;obtain⟨L,hL⟩: ∃L,(xN (D.drop (m+1)) ((vZ D).drop (m+1)) i).1=L:=⟨_,rfl⟩;rw[hq] at hqle;rw[hL] at hpl;rw[hq,hL,e6];obtain⟨c,hc⟩: ∃c,(vZ D).getD m 0=c:=⟨_,rfl⟩;rw[hc] at hcn;rw[hq,hL,hc] at hst;generalize D[m]=d at hat hce hds hcp hia hcn hst;rw[<-hcn] at hia hcp;have hc0: ¬(c:Int)=0:=by omega
  have hmod:q % c<c:=Xj _ (by omega);have hr1:(q:Int).tmod (c:Int)=((q % c:Nat):Int):=(Int.ofNat_tmod q c).symm;have hr2:(q:Int).tdiv (c:Int)=((q/c:Nat):Int):=(Int.ofNat_tdiv q c).symm;have g1:=c78 d hds ((q % c:Nat):Int);rw[zna hce (by rw[<-hcn];omega),zh8 hce (by rw[<-hcn];omega)] at g1;unfold zV yM at g1;simp only[d1,d2,hat,zI,hia,yL,hml,hc0,hr1,hr2,Qs,iL,zdb,zlc,ne_eq,Za,Zg,Ψ38,vv f38r5o0.eq_1,vv f38r5o1.eq_1,vv f38r5o2.eq_1,vv f38r5o3.eq_1,vv f38r5o4.eq_1,vv f38r5o5.eq_1,vv f38r5o6.eq_1,vv f38r5o7.eq_1,vv f38r5o8.eq_1,vv f38r5o9.eq_1,vv f38r5o10.eq_1,vv f38r5o11.eq_1,vv f38r5o12.eq_1,vv f38r5o13.eq_1,vv f38r5o14.eq_1,vv f38r5o15.eq_1,vv f38r5o16.eq_1,vv f38r5o17.eq_1,zlz,Ψ38];have hrl:((List.replicate D.length zr).take (m+1)++vF L).length=D.length:=by rw[Zu,Yt,List.length_replicate,znc,hpl,List.length_drop];omega
  have w2:IntKind.i64.wrap ((q/c:Nat):Int)=((q/c:Nat):Int):=by
   have hdl:=Xl q c;generalize q/c=t at hdl;exact wrap_in (by omega) (by omega)
  have w3:IntKind.i64.wrap ((m:Int)-1)=(m:Int)-1:=wrap_in (by omega) (by omega);refine⟨by omega,zg6 g1 ?_ (ha:=by simp only[Zl,Zq,zB,V.norm,C.norm,C.normRow,yG wO]<;>rfl)⟩;simp only[d1,d2,hat,zI,hia,yL,hml,hc0,hr1,hr2,hrl,w2,w3,Qs,zcg,zk2,iL,zk3,zk9,cC,zdh,zdq,zdr,zds,zdt,zdu,zdv,zdH,zlb,zd8,zd9,zll,zlm,zls,cJ,cK,cL,ne_eq,Zd,Za];have hset:((List.replicate D.length zr).take (m+1)++vF L).set m [C.str (rdD d (q % c)).kind,zC 1 (zJ (rdD d (q % c)).names),zC 1 (zJ (rdD d (q % c)).texts)]=(List.replicate D.length zr).take m++vF (rdD d (q % c)::L):=by
   rw[List.take_replicate,List.take_replicate,Xw (by omega),Xw (by omega),List.replicate_succ',Z9,List.set_append_right _ _ (by simp),List.length_replicate,Nat.sub_self];rfl
  refine⟨by omega,Next.intro m (by rw[hst];rfl) (by rw[hst,hset];rfl) (by omega) (by omega)⟩
end Go.Abs
set_option maxRecDepth 100000
set_option maxHeartbeats 8000000
namespace Go.Ex
open Go.Lib Go.Wd Go.Wire Go.Abs
def zpd (D:List Dcm) (i:Int):Int:=if (cnts D).2.2≠0 then(cnts D).2.2 else if i<0\/i>=(cnts D).2.1 then 4 else 0
def zo9 (D:List Dcm) (i:Int):List Pln:=if zpd D i=0 then rdsD D i.toNat else[]
end Go.Ex
namespace Go.Abs
open Go.Proofs Go.RowKit Go.Lib Go.Wd Go.Wire Go.Ex
theorem c14 (D:List Dcm) (hD:sP D) (i:Int):Spec Tryz.prog 14 [lst 2 (D.map zV),.int .i64 i] (fun v=>v=.tup [lst 3 (vF (zo9 D i)),.int .i64 (zpd D i)]):=by
 refine Spec.of_awlP hf14 okf14 (by simp) fun S hS=>?_
 have g1:=c37 D hD;have hE:zpd D i=if (cnts D).2.2≠0 then(cnts D).2.2 else if i<0\/i>=(cnts D).2.1 then 4 else 0:=rfl
 by_cases h0:(cnts D).2.2=0
 ·have hok:=rM h0
  have hn:=hok.n;rw[if_neg (by simp[h0])] at hE;rw[h0] at g1;by_cases hi0:i<0
  ·rw[if_pos (.inl hi0)] at hE
   have hr:zo9 D i=[]:=by unfold zo9;rw[hE];rfl
   rw[hr,hE] at hS;simp only[Qs,Zd,Za,Ψ14];refine xI g1 ?_ (ha:=by simp only[Zl,Zq,zB,V.norm,C.norm,yG yU]<;>rfl);simp only[hi0,Qs,zeS,BEq.rfl,Zk,ZV,Zd,Yg,Za,Y6,Zx,Ψ14];exact hS _ rfl
  by_cases hi1:i>=(cnts D).2.1
  ·rw[if_pos (.inr hi1)] at hE
   have hr:zo9 D i=[]:=by unfold zo9;rw[hE];rfl
   rw[hr,hE] at hS;simp only[Qs,Zd,Za,Ψ14];refine xI g1 ?_ (ha:=by simp only[Zl,Zq,zB,V.norm,C.norm,yG yU]<;>rfl);simp only[hi0,hi1,Qs,BEq.rfl,Zk,ZV,Zd,Yg,Za,Y6,Zx,Ψ14];exact hS _ rfl
  ·rw[if_neg (by omega)] at hE
   have hr:zo9 D i=rdsD D i.toNat:=by unfold zo9;rw[if_pos hE]
   rw[hr,hE] at hS;obtain⟨m,rfl⟩: ∃m:Nat,i=m:=⟨i.toNat,by omega⟩;have g2:=c38 D hD hok m (by omega);simp only[Yf] at hS;simp only[Qs,Zd,Za,Ψ14];refine xI g1 ?_ (ha:=by simp only[Zl,Zq,zB,V.norm,C.norm,yG yU]<;>rfl);simp only[hi0,hi1,Qs,Zk,Zd,Yg,Za,Y6,Ψ14];refine xI g2 ?_ (ha:=by simp only[Zl,Zq,zB,V.norm,C.norm,yG yU,zO,vC]<;>rfl);simp only[Qs,Zk,Za];refine hS _ ?_;simp only[oT,V.fz,V.fzL,V.nrm,V.nrmL,Abs.K.fz,Abs.K.nrm,zO]
   try rfl
 ·rw[if_pos h0] at hE
  have hr:zo9 D i=[]:=by unfold zo9;rw[hE,if_neg h0]
  rw[hr,hE] at hS;have h1:((cnts D).2.2 !=0)=true:=by simp[h0]
  simp only[Qs,Zd,Za,Ψ14];refine xI g1 ?_ (ha:=by simp only[Zl,Zq,zB,V.norm,C.norm,yG yU]<;>rfl);simp only[h1,Qs,BEq.rfl,Zk,ZV,Zd,Yg,Za,Zx,Ψ14];exact hS _ rfl
end Go.Abs
set_option maxRecDepth 100000
set_option maxHeartbeats 4000000
namespace Go.Abs
open Go.Sort Go.Proofs Go.Shelf Go.Lib Go.RowKit
def zK (e:TypeId) (k τ:Nat) (rows:List (List C)):Nat->Option O:=fun s=>if s=τ then some (.arr e k none rows) else none
def aC (w:World) (Z:Bk->Prop) (r:List C) (v:List Value):Prop:=v.length=r.length/\ ∀(j:Nat) c u,r[j]?=some c->v[j]?=some u->PRep w Z c u
theorem zib {w:World} {b:Nat} {cur F:Array Value} {e:TypeId} (hb:w.heap[b]?=some (.cells cur e (0,0))) (hF:F.size<=cur.size) (h: ∀j,j<F.size->cur[j]?=some F[j]!):Holds id w b 0 F:=by
 intro j hj;refine⟨?_,by simp[World.frozen?,hb]⟩;simp only[World.cell?,hb,ZU];simp only[YJ,Z3,if_false];exact h j hj
theorem zic {w:World} {g n:Nat} {os:Array Obj} {cur:Array Value} {e:TypeId} {fr:Nat×Nat} (d:Array Value) (hb:w.heap[g]?=some (.cells cur e fr)):
  (grow (putRow id (Sort.ahead w n) g 0 d) os).heap[g]?=some (.cells (putCells id 0 d cur) e fr):=by
 have hg:g<w.heap.size:=(Zo.1 hb).1;rw[heap_grow_old _ _ (by simpa using hg)];simp[putRow,mapBlock,Sort.ahead,Xd,hb,onCells]
theorem gM {w:World} {g n:Nat} {os:Array Obj} (d:Array Value):w.grownBy (grow (putRow id (Sort.ahead w n) g 0 d) os) (some g):=by
 refine⟨rfl,rfl,rfl,by simp,fun k hk hne=>?_⟩;rw[heap_grow_old _ _ (by simpa using hk)];have:g≠k:=fun e=>hne (by rw[e])
 simp[putRow,mapBlock,Sort.ahead,Xd,this]
theorem zid {vs:Array Value} (h:vs.size=2): ∃a b,vs= #[a,b]:=by
 obtain⟨l⟩:=vs
 match l,h with
 |[a,b],_=>exact⟨a,b,rfl⟩
theorem zie {τ:Nat} {x y r:V} (o:Nat->Option O) (ob:O) (h: ∀s,s≠τ->o s=none):(((⟨fun s=>[x,y].getD s .any,o⟩:St).scrub τ).setO τ ob).put 0 r=⟨fun s=>if s=0 then r else(([x,y].getD s .any).scrub τ),fun s=>if s=τ then some ob else none⟩:=by
 simp only[St.put,St.setO,St.scrub,St.mk.injEq];refine⟨trivial,?_⟩;funext s;by_cases hs:s=τ
 ·simp[hs]
 ·simp[hs,h s hs]
theorem znd {P:Program} {ρ:Ren} (L:SlLaysF0.n6 P ρ) (hc:sB P (ρ.f 6)) (e:TypeId) (k:Nat) (k0:0<k) (aE: ∀w,(isAgg (ρ.t 24)).run P w=.ok true w) (zE: ∀w,(Go.sizeOf (ρ.t 24)).run P w=.ok k w)
  {β:Type} (encR:β->List C) (hk: ∀x,(encR x).length=k) (cf:β->β->Int) (lt:β->β->Bool) (hlt: ∀x y,decide (cf x y<0)=lt x y) (hO:SWO lt) (g:Nat) (eg: ∀args w,(callFunc g args).run P w=.ok (.enter g args) w)
  (τ:Nat) (ks:List β) (hm:ks.length<4611686018427387904)
  (hcl: ∀x∈ks,∀y∈ks,∀(W:World) (Z:Bk->Prop) (vx vy:List Value),(∀b,Z b->b.2<W.heap.size)->aC W Z (encR x) vx->aC W Z (encR y) vy->
   Calls P g #[.agg vx.toArray,.agg vy.toArray] W fun e w'=>e=.returned (.int .i64 (cf x y))/\ ∃q os',w'=grow (W.drewN q) os'):
  wB P (ρ.f 6) [.k (.own τ),.k (.c (.fn g []))] (zK e k τ (ks.map encR)) [τ] (fun r o'=>r=.tup []/\ ∃out:List β,out.Perm ks/\out.Pairwise (fun x y=>lt y x=false)/\o'=zK e k τ (out.map encR)):=by
 refine⟨hc,fun w0 Z0 κ w vs hsz hi=>?_⟩;obtain⟨v,fv,rfl⟩:=zid hsz;have ho:(zK e k τ (ks.map encR)) τ=some (.arr e k none (ks.map encR)):=by simp[zK]
 have hno: ∀s,s≠τ->zK e k τ (ks.map encR) s=none:=fun s hs=>by simp[zK,hs]
 have hob:=hi.objs τ _ ho;have htm:zD w (Zof w0 Z0 κ (zK e k τ (ks.map encR)) w) κ (zK e k τ (ks.map encR)) (.k (.own τ)) v:=by simpa using hi.tmps 0
 have htf:zD w (Zof w0 Z0 κ (zK e k τ (ks.map encR)) w) κ (zK e k τ (ks.map encR)) (.k (.c (.fn g []))) fv:=by simpa using hi.tmps 1
 have hfv:fv=.func (.func g) #[] #[]:=by
  have:=htf.2;unfold yK at this;cases this with
  |fn f caps us val h1 h2 h3=>
   have:us= #[]:=YK h1;rw[this]
 subst hfv;have none_case: ∀(p:Option Addr) (cap:Nat),ks=[]->v=.slice p 0 cap->Calls P (ρ.f 6) #[v,.func (.func g) #[] #[]] w fun e_1 w'=> ∃v κ' r o',e_1=.returned v/\(r=.tup []/\ ∃out:List β,out.Perm ks/\out.Pairwise (fun x y=>lt y x=false)/\o'=zK e k τ (out.map encR))/\yO (fun τ_1=>τ_1∈[τ]) (zK e k τ (ks.map encR)) o' κ κ' w w'/\Inv w0 Z0 κ' ⟨fun s=>if s=0 then r else .any,o'⟩ #[v] w':=by
  intro p cap hnil hv;subst hnil hv;refine(AnyF.slices_SortFunc_none L p cap _ w).mono ?_;rintro ex w' ⟨rfl,hw⟩;rw[hw];have hI:=hi.moveG (τ:=τ) (d:=0) (ob:=.arr e k none []) (v:=.tup []) (u:=.tuple #[]) (bo:=κ τ) (w':=w) ho (by simp) rfl rfl rfl (Zs _) (fun _ _ _=>rfl) (fun b hb=> .inr hb)
   (fun Z hZ=>?_) ⟨#[],rfl,rfl,trivial⟩
  ·have hI2:=hI.only (T:=[τ]) (r:=.tup []) (v:=.tuple #[]) ⟨#[],rfl,rfl,trivial⟩ rfl (fun t ht ob hob=>by
    simp only[ZX] at ht
    subst ht
    simp[St.put,St.setO] at hob
    subst hob;rfl)
   have htab:yE [τ] ((((⟨fun s=>[V.k (.own τ),.k (.c (.fn g []))].getD s .any,zK e k τ (([]:List β).map encR)⟩:St).scrub τ).setO τ (.arr e k none [])).put 0 (.tup [])).o=zK e k τ (([]:List β).map encR):=by
    funext t;unfold yE zK;by_cases ht:t=τ
    ·subst ht;simp[St.put,St.setO]
    ·simp[ht]
   rw[htab] at hI2;refine⟨.tuple #[],_,.tup [],_,rfl,⟨rfl,[],Xb _,Xx,rfl⟩,?_,hI2⟩;intro s hs;simp only[ZX] at hs;subst hs;refine⟨by simp[yC,zK],by simp,fun _ b hb cur e' f hcur=>⟨cur,hcur,rfl⟩⟩
  ·have hZ':=hob
   rcases hZ' with⟨h1,_,_⟩|⟨b,cur,cap',h1,h2,h3,h4,h5,h6,_,h8,_⟩
   ·exact .inl ⟨by simp[h1],rfl,by simp⟩
   ·exact .inr ⟨b,cur,cap',by simp[h1],h2,h3,h4,by simp,h6,by simp,by simp,fun i j r c hr=>by simp at hr⟩
 rcases hob with⟨hκ,hrows,_⟩|⟨b,cur,cap,hκ,hheap,h0,hcs,hlen,hcap,_,hall,hrr⟩
 ·have hl0:ks=[]:=by simpa using hrows
  have hv:v=.slice none 0 0:=by
   rcases htm.2 e k none _ ho with⟨_,hv⟩|⟨b,_,_,hb,_⟩
   ·exact hv
   ·rw[hκ] at hb;cases hb
  exact none_case none 0 hl0 hv
 ·obtain⟨cap',hv,hcap'⟩: ∃cap',v=.slice (some ⟨b,0,none⟩) ks.length cap'/\cur.size=cap'*k:=by
   rcases htm.2 e k none _ ho with⟨hn,_⟩|⟨b',cur',cap',hb,hh,hc2,hv⟩
   ·rw[hκ] at hn;cases hn
   ·rw[hκ] at hb;cases hb
    rw[hheap] at hh;cases hh;exact⟨cap',by simpa using hv,hc2⟩
  by_cases hks:ks=[]
  ·exact none_case _ cap' hks (by rw[hv,hks];rfl)
  have hpos:0<ks.length:=Yd.2 hks;subst hv;have hlt':b<w.heap.size:=xV hheap;rw[Zg] at hlen;have hcsz:ks.length*k<=cur.size:=by rw[hcs];exact ZT k hlen
  haveI:Inhabited (Fin ks.length):=⟨⟨0,hpos⟩⟩
  let enc:Fin ks.length->List Value:=fun i=>(List.range k).map fun j=>cur.getD (i.1*k+j) (.bool true)
  have enck: ∀x,(enc x).length=k:=fun x=>by simp[enc]
  have hcell: ∀(i:Fin ks.length) (j:Nat) c,(encR ks[i.1])[j]?=some c-> ∃u,cur[i.1*k+j]?=some u/\(enc i)[j]?=some u/\PRep w (Zof w0 Z0 κ (zK e k τ (ks.map encR)) w) c u:=by
   intro i j c hcj;have hj:j<k:=by rw[<-hk ks[i.1]];exact(Zr.1 hcj).1
   obtain⟨u,hu,hp⟩:=hrr i.1 j (encR ks[i.1]) c (by rw[Zv,Zh i.2];rfl) hcj;refine⟨u,hu,?_,hp⟩;simp only[enc,Zv,List.getElem?_range hj,Yq];rw[ZP,hu];rfl
  have henc1: ∀x,∀u∈enc x,u.oneCell'=true:=by
   intro x u hu;obtain⟨j,hj,rfl⟩:=Y5 hu;have hj':j<k:=by rwa [enck] at hj
   obtain⟨u2,_,h2,h3⟩:=hcell x j _ (Zh (by rw[hk];exact hj'));rw[Zh hj] at h2;cases h2;exact h3.oneCell
  let d:Array (Fin ks.length):=Array.ofFn fun i=>i
  have hds:d.size=ks.length:=by simp[d]
  have hdi: ∀i (h:i<ks.length),d[i]! =⟨i,h⟩:=fun i h=>by simp[d,h]
  have hflat: ∀(d':Array (Fin ks.length)),d'.size=ks.length-> ∀t,t<ks.length*k->(flatK enc k d')[t]! =cur.getD (d'[t/k]!.1*k+t % k) (.bool true):=by
   intro d' hd' t ht;rw[get_flatK _ _ _ _ (by rw[hd'];exact ht)];have hm2:t % k<k:=Xj _ k0;simp only[enc];rw[getElem!_pos _ _ (by simpa using hm2)];simp
  have hH:HoldsK enc k w b 0 d:=by
   refine zib hheap (by simp[hds];exact hcsz) fun t ht=>?_
   rw[size_flatK,hds] at ht;rw[hflat d hds t ht];have hq:t/k<ks.length:=(Nat.div_lt_iff_lt_mul k0).2 ht;rw[hdi _ hq];have e1:t/k*k+t % k=t:=Nat.div_add_mod' t k;show cur[t]?=some (cur.getD (t/k*k+t % k) _);rw[e1,ZP,Z8 (by omega)];rfl
  let cfF:Fin ks.length->Fin ks.length->Int:=fun i j=>cf ks[i.1] ks[j.1]
  have hltF: ∀x y,ltOf cfF x y=lt ks[x.1] ks[y.1]:=fun x y=>by unfold ltOf;exact hlt _ _
  have hOF:SWO (ltOf cfF):=⟨fun x=>by rw[hltF];exact hO.irrefl _,fun x y z h1 h2=>by rw[hltF] at*;exact hO.trans _ _ _ h1 h2,fun x y z h1 h2=>by rw[hltF] at*;exact hO.ntrans _ _ _ h1 h2⟩;have hcmp:CmpLays P g #[] enc k cfF b 0 d.size w:=by
   intro m os dk hdk x y;have hsame:yV (Zof w0 Z0 κ (zK e k τ (ks.map encR)) w) w (sortWorldK enc k w b 0 m dk os):=by
    intro bk hbk;have hne:bk.2≠b:=fun e2=>hbk.2.2 τ (by rw[ho];simp) (by rw[hκ,e2])
    exact(gM (flatK enc k dk)).block bk.2 hbk.2.1 (fun e2=>hne (by cases e2;rfl))
   have hrow: ∀i:Fin ks.length,aC (sortWorldK enc k w b 0 m dk os) (Zof w0 Z0 κ (zK e k τ (ks.map encR)) w) (encR ks[i.1]) (enc i):=by
    intro i;refine⟨by rw[enck,hk],fun j c u hcj hu=>?_⟩;obtain⟨u2,_,h2,h3⟩:=hcell i j c hcj;rw[h2] at hu;cases hu;exact h3.mono hsame fun _ h=>h
   have hsz2:w.heap.size<=(sortWorldK enc k w b 0 m dk os).heap.size:=(gM (flatK enc k dk)).size;have:=hcl ks[x.1] (Zy _) ks[y.1] (Zy _) (sortWorldK enc k w b 0 m dk os) (Zof w0 Z0 κ (zK e k τ (ks.map encR)) w) (enc x) (enc y) (fun bk hbk=>ZL hbk.2.1 hsz2) (hrow x) (hrow y);rw[show(#[.agg (enc x).toArray,.agg (enc y).toArray]++ #[]:Array Value)= #[.agg (enc x).toArray,.agg (enc y).toArray] from rfl];exact this
  have hcon:=AnyQ.slices_SortFunc L k aE zE enc enck henc1 cfF hOF g #[] b 0 cap' d w eg hcmp hH hlt' (by rw[hds];exact hm);rw[hds] at hcon;refine hcon.mono ?_;rintro ex w' ⟨rfl,d',n,os,⟨p1,p2,p3⟩,hs,rfl⟩;rw[hds] at p1;have hfull: ∀a:Array (Fin ks.length),a.size=ks.length->a.extract 0 ks.length=a:=fun a ha=>by
   apply Array.ext
   ·simp[ha]
   ·intro i h1 h2;simp
  rw[hfull d' p1,hfull d hds] at p3
  let out:List β:=d'.toList.map fun i=>ks[i.1]
  have hol:out.length=ks.length:=by simp[out,p1]
  have hperm:out.Perm ks:=by
   have h1:(d.toList.map fun i:Fin ks.length=>ks[i.1])=ks:=by
    apply Xc
    ·simp[d]
    ·intro i h1 h2;simp[d]
   have h2:(d'.toList.map fun i:Fin ks.length=>ks[i.1]).Perm (d.toList.map fun i:Fin ks.length=>ks[i.1]):=p3.map _;rw[h1] at h2;exact h2
  have hpw:out.Pairwise fun x y=>lt y x=false:=by
   rw[List.pairwise_iff_getElem];intro i j h1 h2 hij;have hi1:i<d'.size:=by rw[p1,<-hol];exact h1
   have hj1:j<d'.size:=by rw[p1,<-hol];exact h2
   have:=hs i j (ZB _) hij (by rw[<-p1];exact hj1);rw[hltF,getElem!_pos d' i hi1,getElem!_pos d' j hj1] at this;simpa [out] using this
  have hh2:=zic (w:=w) (n:=n) (os:=os) (flatK enc k d') hheap;obtain⟨g1,g2,g3,g4,g5⟩:=gM (w:=w) (g:=b) (n:=n) (os:=os) (flatK enc k d');have hsz2:(putCells id 0 (flatK enc k d') cur).size=cur.size:=by simp[putCells]
  have hzsame:yV (Zof w0 Z0 κ (zK e k τ (ks.map encR)) w) w (sortWorldK enc k w b 0 n d' os):=by
   intro bk hbk;have hne:bk.2≠b:=fun e2=>hbk.2.2 τ (by rw[ho];simp) (by rw[hκ,e2])
   exact g5 bk.2 hbk.2.1 (fun e2=>hne (by cases e2;rfl))
  have hI:=hi.moveG (τ:=τ) (d:=0) (ob:=.arr e k none (out.map encR)) (v:=.tup []) (u:=.tuple #[]) (bo:=some b) (w':=sortWorldK enc k w b 0 n d' os) ho (by simp) g1 g2 g3 g4
   (fun q hq hne=>g5 q hq (by rw[hκ] at hne;exact fun h=>hne (by cases h;rfl))) (fun b' hb=> .inr (by cases hb;exact hκ))
   (fun Z hZ=> .inr ⟨b,_,cap,by simp,hh2,h0,by rw[hsz2];exact hcs,by rw[Zg,hol];exact hlen,hcap,by simp,fun r hr=>by obtain⟨x,_,rfl⟩:=ZS.1 hr;exact hk x,fun i j r c hr hcj=>?_⟩) ⟨#[],rfl,rfl,trivial⟩
  ·rw[zie _ _ hno] at hI
   have hI2:=hI.only (T:=[τ]) (r:=.tup []) (v:=.tuple #[]) ⟨#[],rfl,rfl,trivial⟩ rfl (fun t ht ob hob=>by
    simp only[ZX] at ht
    subst ht
    simp at hob
    subst hob;rfl)
   have htab:yE [τ] (fun s=>if s=τ then some (O.arr e k none (out.map encR)) else none)=zK e k τ (out.map encR):=by
    funext t;unfold yE zK;by_cases ht:t=τ
    ·subst ht;simp
    ·simp[ht]
   rw[htab] at hI2;refine⟨.tuple #[],_,.tup [],_,rfl,⟨rfl,out,hperm,hpw,rfl⟩,?_,hI2⟩;intro s hs;simp only[ZX] at hs;subst hs;refine⟨by simp[zK,yC,hol],by simp[hκ],fun _ b' hb cur0 e0 f0 hc0=>?_⟩;rw[hκ] at hb;cases hb;rw[hheap] at hc0;cases hc0;exact⟨_,hh2,hsz2⟩
  ·
   have hi':i<ks.length:=by have:=(Zr.1 hr).1;rwa [Zg,hol] at this
   have hid:i<d'.size:=by rw[p1];exact hi'
   have hout:out[i]'(by rw[hol];exact hi')=ks[(d'[i]).1]:=by simp[out]
   have hr':r=encR ks[(d'[i]).1]:=by
    rw[Zv,Zh (by rw[hol];exact hi')] at hr;have:=Yj hr;rw[<-this,hout]
   subst hr';have hj:j<k:=by rw[<-hk ks[(d'[i]).1]];exact(Zr.1 hcj).1
   obtain⟨u,hu,_,hp⟩:=hcell d'[i] j c hcj;have hlt2:i*k+j<ks.length*k:=by
    have:=ZT k (show i+1<=ks.length from hi');rw[Yp,Xn] at this;omega
   have e1:(i*k+j)/k=i:=(blk_iff k i _ k0).1 ⟨by omega,by omega⟩;have e2:(i*k+j) % k=j:=by rw[Nat.mod_eq_sub_div_mul,e1];omega
   refine⟨u,?_,hp.mono hzsame hZ⟩;have hf:=hflat d' p1 (i*k+j) hlt2;rw[e1,e2,getElem!_pos d' i hid,ZP,hu] at hf;have hfs:i*k+j<(flatK enc k d').size:=by rw[size_flatK,p1];exact hlt2
   have hcs2:i*k+j<cur.size:=by omega
   simp only[putCells];rw[Array.getElem?_mapIdx,Z8 hcs2];simp only[Yq,ZB,true_and,ZU,hfs,if_true,XE,id];rw[hf];rfl
end Go.Abs
set_option maxRecDepth 100000
namespace Go.Proofs
open Go.Shelf Go.RowKit Go.Lib Go.Sort
def Tryz.laysSortP_ren:Go.Shelf.Ren:=
 {
  f:=fun x=>
   match x with
   |6=>72
   |15=>107
   |14=>109
   |28=>143
   |29=>144
   |20=>146
   |21=>147
   |22=>148
   |23=>149
   |24=>150
   |25=>151
   |26=>152
   |27=>153
   |46=>168
   |47=>164
   |48=>165
   |49=>169
   |50=>170
   |57=>178
   |n=>n,
  t:=fun x=>
   match x with
   |22=>31
   |24=>64
   |25=>125
   |3=>3
   |39=>71
   |0=>0
   |53=>152
   |55=>154
   |4=>4
   |46=>196
   |45=>195
   |50=>200
   |5=>5
   |9=>9
   |66=>215
   |70=>219
   |76=>230
   |77=>231
   |n=>n,
  g:=fun n=>n}
theorem Tryz.laysSortP:SlLaysF0.n6 Tryz.prog Tryz.laysSortP_ren:=
 {mixed:=by kernel_rfl,
  f6:=
   Z4 "slices.SortFunc[[]allonge/api.Place,allonge/api.Place]"
    ⟨of_decide_eq_true (id (ZG true)),
     ZN Tryz.func72
      (congrArg some
       (ZG
        {SlBodyF.n6 Tryz.laysSortP_ren with name:= "slices.SortFunc[[]allonge/api.Place,allonge/api.Place]" }))⟩,
  f14:=
   Z4 "slices.pdqsortCmpFunc[allonge/api.Place]"
    ⟨of_decide_eq_true (id (ZG true)),
     ZN Tryz.func109
      (congrArg some
       (ZG
        {SlBodyF.n14 Tryz.laysSortP_ren with name:= "slices.pdqsortCmpFunc[allonge/api.Place]" }))⟩,
  f15:=ZN Tryz.func107 (congrArg some (ZG (SlBodyF.n15 Tryz.laysSortP_ren))),
  f20:=
   Z4 "slices.insertionSortCmpFunc[allonge/api.Place]"
    ⟨of_decide_eq_true (id (ZG true)),
     ZN Tryz.func146
      (congrArg some
       (ZG
        {SlBodyF.n20 Tryz.laysSortP_ren with name:= "slices.insertionSortCmpFunc[allonge/api.Place]" }))⟩,
  f21:=
   Z4 "slices.heapSortCmpFunc[allonge/api.Place]"
    ⟨of_decide_eq_true (id (ZG true)),
     ZN Tryz.func147
      (congrArg some
       (ZG
        {SlBodyF.n21 Tryz.laysSortP_ren with name:= "slices.heapSortCmpFunc[allonge/api.Place]" }))⟩,
  f22:=
   Z4 "slices.breakPatternsCmpFunc[allonge/api.Place]"
    ⟨of_decide_eq_true (id (ZG true)),
     ZN Tryz.func148
      (congrArg some
       (ZG
        {SlBodyF.n22 Tryz.laysSortP_ren with name:= "slices.breakPatternsCmpFunc[allonge/api.Place]" }))⟩,
  f23:=
   Z4 "slices.choosePivotCmpFunc[allonge/api.Place]"
    ⟨of_decide_eq_true (id (ZG true)),
     ZN Tryz.func149
      (congrArg some
       (ZG
        {SlBodyF.n23 Tryz.laysSortP_ren with name:= "slices.choosePivotCmpFunc[allonge/api.Place]" }))⟩,
  f24:=
   Z4 "slices.reverseRangeCmpFunc[allonge/api.Place]"
    ⟨of_decide_eq_true (id (ZG true)),
     ZN Tryz.func150
      (congrArg some
       (ZG
        {SlBodyF.n24 Tryz.laysSortP_ren with name:= "slices.reverseRangeCmpFunc[allonge/api.Place]" }))⟩,
  f25:=
   Z4 "slices.partialInsertionSortCmpFunc[allonge/api.Place]"
    ⟨of_decide_eq_true (id (ZG true)),
     ZN Tryz.func151
      (congrArg some
       (ZG
        {SlBodyF.n25 Tryz.laysSortP_ren with name:= "slices.partialInsertionSortCmpFunc[allonge/api.Place]" }))⟩,
  f26:=
   Z4 "slices.partitionEqualCmpFunc[allonge/api.Place]"
    ⟨of_decide_eq_true (id (ZG true)),
     ZN Tryz.func152
      (congrArg some
       (ZG
        {SlBodyF.n26 Tryz.laysSortP_ren with name:= "slices.partitionEqualCmpFunc[allonge/api.Place]" }))⟩,
  f27:=
   Z4 "slices.partitionCmpFunc[allonge/api.Place]"
    ⟨of_decide_eq_true (id (ZG true)),
     ZN Tryz.func153
      (congrArg some
       (ZG
        {SlBodyF.n27 Tryz.laysSortP_ren with name:= "slices.partitionCmpFunc[allonge/api.Place]" }))⟩,
  f28:=ZN Tryz.func143 (congrArg some (ZG (SlBodyF.n28 Tryz.laysSortP_ren))),
  f29:=ZN Tryz.func144 (congrArg some (ZG (SlBodyF.n29 Tryz.laysSortP_ren))),
  f46:=
   Z4 "slices.siftDownCmpFunc[allonge/api.Place]"
    ⟨of_decide_eq_true (id (ZG true)),
     ZN Tryz.func168
      (congrArg some
       (ZG
        {SlBodyF.n46 Tryz.laysSortP_ren with name:= "slices.siftDownCmpFunc[allonge/api.Place]" }))⟩,
  f47:=ZN Tryz.func164 (congrArg some (ZG (SlBodyF.n47 Tryz.laysSortP_ren))),
  f48:=ZN Tryz.func165 (congrArg some (ZG (SlBodyF.n48 Tryz.laysSortP_ren))),
  f49:=
   Z4 "slices.medianAdjacentCmpFunc[allonge/api.Place]"
    ⟨of_decide_eq_true (id (ZG true)),
     ZN Tryz.func169
      (congrArg some
       (ZG
        {SlBodyF.n49 Tryz.laysSortP_ren with name:= "slices.medianAdjacentCmpFunc[allonge/api.Place]" }))⟩,
  f50:=
   Z4 "slices.medianCmpFunc[allonge/api.Place]"
    ⟨of_decide_eq_true (id (ZG true)),
     ZN Tryz.func170
      (congrArg some
       (ZG
        {SlBodyF.n50 Tryz.laysSortP_ren with name:= "slices.medianCmpFunc[allonge/api.Place]" }))⟩,
  f57:=
   Z4 "slices.order2CmpFunc[allonge/api.Place]"
    ⟨of_decide_eq_true (id (ZG true)),
     ZN Tryz.func178
      (congrArg some
       (ZG
        {SlBodyF.n57 Tryz.laysSortP_ren with name:= "slices.order2CmpFunc[allonge/api.Place]" }))⟩,
  t0:=Tryz.underlying0,a0:=Tryz.isAgg0,z0:=Tryz.sizeOf0,v0:=Tryz.zeroValue0,t3:=Tryz.underlying3,
  a3:=Tryz.isAgg3,z3:=Tryz.sizeOf3,v3:=Tryz.zeroValue3,t4:=Tryz.underlying4,a4:=Tryz.isAgg4,
  z4:=Tryz.sizeOf4,v4:=Tryz.zeroValue4,t5:=Tryz.underlying5,a5:=Tryz.isAgg5,z5:=Tryz.sizeOf5,
  v5:=Tryz.zeroValue5,t9:=Tryz.underlying9,a9:=Tryz.isAgg9,z9:=Tryz.sizeOf9,v9:=Tryz.zeroValue9,
  t22:=Tryz.underlying31,a22:=Tryz.isAgg31,z22:=Tryz.sizeOf31,v22:=Tryz.zeroValue31,
  t25:=Tryz.underlying125,a25:=Tryz.isAgg125,z25:=Tryz.sizeOf125,v25:=Tryz.zeroValue125,
  t39:=Tryz.underlying71,a39:=Tryz.isAgg71,z39:=Tryz.sizeOf71,v39:=Tryz.zeroValue71,
  t45:=Tryz.underlying195,a45:=Tryz.isAgg195,z45:=Tryz.sizeOf195,v45:=Tryz.zeroValue195,
  t46:=Tryz.underlying196,a46:=Tryz.isAgg196,z46:=Tryz.sizeOf196,v46:=Tryz.zeroValue196,
  t50:=Tryz.underlying200,a50:=Tryz.isAgg200,z50:=Tryz.sizeOf200,v50:=Tryz.zeroValue200,
  t53:=Tryz.underlying152,a53:=Tryz.isAgg152,z53:=Tryz.sizeOf152,v53:=Tryz.zeroValue152,
  t55:=Tryz.underlying154,a55:=Tryz.isAgg154,z55:=Tryz.sizeOf154,v55:=Tryz.zeroValue154,
  t66:=Tryz.underlying215,a66:=Tryz.isAgg215,z66:=Tryz.sizeOf215,v66:=Tryz.zeroValue215,
  t70:=Tryz.underlying219,a70:=Tryz.isAgg219,z70:=Tryz.sizeOf219,v70:=Tryz.zeroValue219,
  t76:=Tryz.underlying230,a76:=Tryz.isAgg230,z76:=Tryz.sizeOf230,v76:=Tryz.zeroValue230,
  t77:=Tryz.underlying231,a77:=Tryz.isAgg231,z77:=Tryz.sizeOf231,v77:=Tryz.zeroValue231}
def Tryz.laysSortC_ren:Go.Shelf.Ren:=
 {
  f:=fun x=>
   match x with
   |6=>69
   |15=>107
   |14=>106
   |28=>143
   |29=>144
   |20=>135
   |21=>136
   |22=>137
   |23=>138
   |24=>139
   |25=>140
   |26=>141
   |27=>142
   |46=>163
   |47=>164
   |48=>165
   |49=>166
   |50=>167
   |57=>177
   |n=>n,
  t:=fun x=>
   match x with
   |22=>76
   |24=>30
   |25=>123
   |3=>3
   |39=>71
   |0=>0
   |53=>152
   |55=>154
   |4=>4
   |46=>196
   |45=>195
   |50=>200
   |5=>5
   |9=>9
   |66=>215
   |70=>219
   |76=>230
   |77=>231
   |n=>n,
  g:=fun n=>n}
theorem Tryz.laysSortC:SlLaysF.n6 Tryz.prog Tryz.laysSortC_ren:=
 {mixed:=by kernel_rfl,
  f6:=
   Z4 "slices.SortFunc[[][]int,[]int]"
    ⟨of_decide_eq_true (id (ZG true)),
     ZN Tryz.func69
      (congrArg some
       (ZG
        {SlBodyF.n6 Tryz.laysSortC_ren with name:= "slices.SortFunc[[][]int,[]int]" }))⟩,
  f14:=
   Z4 "slices.pdqsortCmpFunc[[]int]"
    ⟨of_decide_eq_true (id (ZG true)),
     ZN Tryz.func106
      (congrArg some
       (ZG
        {SlBodyF.n14 Tryz.laysSortC_ren with name:= "slices.pdqsortCmpFunc[[]int]" }))⟩,
  f15:=ZN Tryz.func107 (congrArg some (ZG (SlBodyF.n15 Tryz.laysSortC_ren))),
  f20:=
   Z4 "slices.insertionSortCmpFunc[[]int]"
    ⟨of_decide_eq_true (id (ZG true)),
     ZN Tryz.func135
      (congrArg some
       (ZG
        {SlBodyF.n20 Tryz.laysSortC_ren with name:= "slices.insertionSortCmpFunc[[]int]" }))⟩,
  f21:=
   Z4 "slices.heapSortCmpFunc[[]int]"
    ⟨of_decide_eq_true (id (ZG true)),
     ZN Tryz.func136
      (congrArg some
       (ZG
        {SlBodyF.n21 Tryz.laysSortC_ren with name:= "slices.heapSortCmpFunc[[]int]" }))⟩,
  f22:=
   Z4 "slices.breakPatternsCmpFunc[[]int]"
    ⟨of_decide_eq_true (id (ZG true)),
     ZN Tryz.func137
      (congrArg some
       (ZG
        {SlBodyF.n22 Tryz.laysSortC_ren with name:= "slices.breakPatternsCmpFunc[[]int]" }))⟩,
  f23:=
   Z4 "slices.choosePivotCmpFunc[[]int]"
    ⟨of_decide_eq_true (id (ZG true)),
     ZN Tryz.func138
      (congrArg some
       (ZG
        {SlBodyF.n23 Tryz.laysSortC_ren with name:= "slices.choosePivotCmpFunc[[]int]" }))⟩,
  f24:=
   Z4 "slices.reverseRangeCmpFunc[[]int]"
    ⟨of_decide_eq_true (id (ZG true)),
     ZN Tryz.func139
      (congrArg some
       (ZG
        {SlBodyF.n24 Tryz.laysSortC_ren with name:= "slices.reverseRangeCmpFunc[[]int]" }))⟩,
  f25:=
   Z4 "slices.partialInsertionSortCmpFunc[[]int]"
    ⟨of_decide_eq_true (id (ZG true)),
     ZN Tryz.func140
      (congrArg some
       (ZG
        {SlBodyF.n25 Tryz.laysSortC_ren with name:= "slices.partialInsertionSortCmpFunc[[]int]" }))⟩,
  f26:=
   Z4 "slices.partitionEqualCmpFunc[[]int]"
    ⟨of_decide_eq_true (id (ZG true)),
     ZN Tryz.func141
      (congrArg some
       (ZG
        {SlBodyF.n26 Tryz.laysSortC_ren with name:= "slices.partitionEqualCmpFunc[[]int]" }))⟩,
  f27:=
   Z4 "slices.partitionCmpFunc[[]int]"
    ⟨of_decide_eq_true (id (ZG true)),
     ZN Tryz.func142
      (congrArg some
       (ZG
        {SlBodyF.n27 Tryz.laysSortC_ren with name:= "slices.partitionCmpFunc[[]int]" }))⟩,
  f28:=ZN Tryz.func143 (congrArg some (ZG (SlBodyF.n28 Tryz.laysSortC_ren))),
  f29:=ZN Tryz.func144 (congrArg some (ZG (SlBodyF.n29 Tryz.laysSortC_ren))),
  f46:=
   Z4 "slices.siftDownCmpFunc[[]int]"
    ⟨of_decide_eq_true (id (ZG true)),
     ZN Tryz.func163
      (congrArg some
       (ZG
        {SlBodyF.n46 Tryz.laysSortC_ren with name:= "slices.siftDownCmpFunc[[]int]" }))⟩,
  f47:=ZN Tryz.func164 (congrArg some (ZG (SlBodyF.n47 Tryz.laysSortC_ren))),
  f48:=ZN Tryz.func165 (congrArg some (ZG (SlBodyF.n48 Tryz.laysSortC_ren))),
  f49:=
   Z4 "slices.medianAdjacentCmpFunc[[]int]"
    ⟨of_decide_eq_true (id (ZG true)),
     ZN Tryz.func166
      (congrArg some
       (ZG
        {SlBodyF.n49 Tryz.laysSortC_ren with name:= "slices.medianAdjacentCmpFunc[[]int]" }))⟩,
  f50:=
   Z4 "slices.medianCmpFunc[[]int]"
    ⟨of_decide_eq_true (id (ZG true)),
     ZN Tryz.func167
      (congrArg some
       (ZG
        {SlBodyF.n50 Tryz.laysSortC_ren with name:= "slices.medianCmpFunc[[]int]" }))⟩,
  f57:=
   Z4 "slices.order2CmpFunc[[]int]"
    ⟨of_decide_eq_true (id (ZG true)),
     ZN Tryz.func177
      (congrArg some
       (ZG
        {SlBodyF.n57 Tryz.laysSortC_ren with name:= "slices.order2CmpFunc[[]int]" }))⟩,
  t0:=Tryz.underlying0,a0:=Tryz.isAgg0,z0:=Tryz.sizeOf0,v0:=Tryz.zeroValue0,t3:=Tryz.underlying3,
  a3:=Tryz.isAgg3,z3:=Tryz.sizeOf3,v3:=Tryz.zeroValue3,t4:=Tryz.underlying4,a4:=Tryz.isAgg4,
  z4:=Tryz.sizeOf4,v4:=Tryz.zeroValue4,t5:=Tryz.underlying5,a5:=Tryz.isAgg5,z5:=Tryz.sizeOf5,
  v5:=Tryz.zeroValue5,t9:=Tryz.underlying9,a9:=Tryz.isAgg9,z9:=Tryz.sizeOf9,v9:=Tryz.zeroValue9,
  t22:=Tryz.underlying76,a22:=Tryz.isAgg76,z22:=Tryz.sizeOf76,v22:=Tryz.zeroValue76,a24:=Tryz.isAgg30,
  z24:=Tryz.sizeOf30,t25:=Tryz.underlying123,a25:=Tryz.isAgg123,z25:=Tryz.sizeOf123,
  v25:=Tryz.zeroValue123,t39:=Tryz.underlying71,a39:=Tryz.isAgg71,z39:=Tryz.sizeOf71,
  v39:=Tryz.zeroValue71,t45:=Tryz.underlying195,a45:=Tryz.isAgg195,z45:=Tryz.sizeOf195,
  v45:=Tryz.zeroValue195,t46:=Tryz.underlying196,a46:=Tryz.isAgg196,z46:=Tryz.sizeOf196,
  v46:=Tryz.zeroValue196,t50:=Tryz.underlying200,a50:=Tryz.isAgg200,z50:=Tryz.sizeOf200,
  v50:=Tryz.zeroValue200,t53:=Tryz.underlying152,a53:=Tryz.isAgg152,z53:=Tryz.sizeOf152,
  v53:=Tryz.zeroValue152,t55:=Tryz.underlying154,a55:=Tryz.isAgg154,z55:=Tryz.sizeOf154,
  v55:=Tryz.zeroValue154,t66:=Tryz.underlying215,a66:=Tryz.isAgg215,z66:=Tryz.sizeOf215,
  v66:=Tryz.zeroValue215,t70:=Tryz.underlying219,a70:=Tryz.isAgg219,z70:=Tryz.sizeOf219,
  v70:=Tryz.zeroValue219,t76:=Tryz.underlying230,a76:=Tryz.isAgg230,z76:=Tryz.sizeOf230,
  v76:=Tryz.zeroValue230,t77:=Tryz.underlying231,a77:=Tryz.isAgg231,z77:=Tryz.sizeOf231,
  v77:=Tryz.zeroValue231}
def Tryz.laysCmp_ren:Go.Shelf.Ren:=
 {
  f:=fun x=>
   match x with
   |5=>108
   |7=>145
   |n=>n,
  t:=fun x=>
   match x with
   |22=>3
   |3=>3
   |4=>4
   |n=>n,
  g:=fun n=>n}
theorem Tryz.laysCmp:SlLaysC2.n5 Tryz.prog Tryz.laysCmp_ren:=
 {mixed:=by kernel_rfl,
  f5:=
   Z4 "cmp.Compare[int]"
    ⟨of_decide_eq_true (id (ZG true)),
     ZN Tryz.func108
      (congrArg some
       (ZG
        {SlBodyC2.n5 Tryz.laysCmp_ren with name:= "cmp.Compare[int]" }))⟩,
  f7:=
   Z4 "cmp.isNaN[int]"
    ⟨of_decide_eq_true (id (ZG true)),
     ZN Tryz.func145
      (congrArg some
       (ZG
        {SlBodyC2.n7 Tryz.laysCmp_ren with name:= "cmp.isNaN[int]" }))⟩,
  t3:=Tryz.underlying3,a3:=Tryz.isAgg3,z3:=Tryz.sizeOf3,v3:=Tryz.zeroValue3,t4:=Tryz.underlying4,
  a4:=Tryz.isAgg4,z4:=Tryz.sizeOf4,v4:=Tryz.zeroValue4,t22:=Tryz.underlying3,a22:=Tryz.isAgg3,
  z22:=Tryz.sizeOf3,v22:=Tryz.zeroValue3}
end Go.Proofs
set_option maxRecDepth 100000
set_option maxHeartbeats 8000000
namespace Go.Abs
open Go.Proofs Go.RowKit Go.Lib Go.Wd Go.Wire Go.Ex
theorem mG (s:Nat):Z7 64 (s:Int)=BitVec.ofNat 64 s:=by
 apply BitVec.eq_of_toNat_eq;rw[BitVec.toNat_ofInt,Xt];omega
theorem oU {n:Nat} (h:n<18446744073709551616):IntKind.u64.wrap (n:Int)=n:=by
 simp only[IntKind.wrap,IntKind.bits,IntKind.signed,ZO,Z3,if_false];omega
theorem kD {s t:Nat} (hs:s<18446744073709551616) (ht:t<18446744073709551616):IntKind.u64.wrap ((Z7 IntKind.u64.bits (s:Int)&&&Z7 IntKind.u64.bits (t:Int)).toNat:Int)=((s&&&t:Nat):Int):=by
 show IntKind.u64.wrap ((Z7 64 (s:Int)&&&Z7 64 (t:Int)).toNat:Int)=_;rw[mG,mG,BitVec.toNat_and,Xt,Xt,Xs (by omega),Xs (by omega)];exact oU (Nat.lt_of_le_of_lt Nat.and_le_left hs)
theorem c68 (s t:Nat) (hs:s<1024) (ht:t<1024):Spec Tryz.prog 68 [.int .u64 (s:Int),.k (.c (.ro [.int .u64 (t:Int)] 0))] (fun v=>v=.bool (s&&&t==0)):=by
 refine Spec.of_awlS hf68 okf68 (by simp) fun S hS=>?_
 simp only[Qs,Zd,Za,Ψ68];rw[kD (by omega) (by omega)];refine wJ hS ?_;generalize s&&&t=r;simp only[beq_iff_eq];omega
def bW (x:Int):Int:=IntKind.u64.wrap x
def bA (a b:Int):Int:=IntKind.u64.wrap ((Z7 IntKind.u64.bits a&&&Z7 IntKind.u64.bits b).toNat:Int)
def bH (a:Int) (k:Nat):Int:=a.fdiv (2 ^ min k IntKind.u64.bits)
def b1 (x:Int):Int:=bW (bA (bH x 1) 6148914691236517205+bA x 6148914691236517205)
def b2 (x:Int):Int:=bW (bA (bH x 2) 3689348814741910323+bA x 3689348814741910323)
def b3 (x:Int):Int:=bA (bW (bH x 4+x)) 1085102592571150095
def b4 (k:Nat) (x:Int):Int:=bW (x+bH x k)
def bR (x:Int):Int:=IntKind.i64.wrap ((Z7 IntKind.i64.bits (IntKind.i64.wrap x)&&&Z7 IntKind.i64.bits 127).toNat:Int)
def zne (x:Int):Int:=bR (b4 32 (b4 16 (b4 8 (b3 (b2 (b1 x))))))
theorem znf: ∀x:Nat,x<256->zne x=((bitsN x).length:Int):=by decide+kernel
theorem zng (x:Nat) (hx:x<256):Spec Tryz.prog 104 [.int .u64 (x:Int)] (fun v=>v=.int .i64 ((bitsN x).length:Int)):=by
 refine Spec.of_awlS hf104 okf104 (by simp) fun S hS=>?_
 rw[<-znf x hx] at hS;simp only[Qs,zcJ,zdE,zdV,Za,Ym,Int.reduceToNat,Ψ104];exact hS
theorem c65 (x:Nat) (hx:x<256):Spec Tryz.prog 65 [.int .u64 (x:Int)] (fun v=>v=.int .i64 ((bitsN x).length:Int)):=by
 refine Spec.of_awlS hf65 okf65 (by simp) fun S hS=>?_
 have g:=zng x hx;simp only[Qs,Za,zdp,Ψ65];refine zF g ?_ (ha:=by rfl);simp only[Qs];exact hS
end Go.Abs
set_option maxRecDepth 100000
set_option maxHeartbeats 8000000
namespace Go.Proofs
open Go.RowKit Go.Abs Go.Wd Go.Wire Go.Ex
def tzN (x:Nat):Nat:=(bitsN x).headD 0
def tzI (x:Nat):Int:=IntKind.u64.wrap (bits BinOp.and IntKind.u64 (x:Int) (IntKind.u64.wrap (-(x:Int)))*285870213051353865)/288230376151711744
theorem znh: ∀x,x<256->x≠0->0<=tzI x/\tzI x<64/\gZ[(tzI x).toNat]?=some (tzN x:Int)/\tzN x<64:=by decide+kernel
theorem zni (x:Nat) (hx:x<256) (h0:x≠0) (w:World) {T:TypeId} {F:Nat×Nat} (hg:w.heap[1]?=some (.cells (gZ.map fun z=>Value.int .u8 z).toArray T F)):Calls Tryz.prog 111 #[.int .u64 (x:Int)] w fun e w'=>e=.returned (.int .i64 (tzN x:Int))/\w'=w:=by
 have hx0: ¬(x:Int)=0:=by omega
 obtain⟨k1,k2,k3,k4⟩:=znh x hx h0;obtain⟨j,hj⟩: ∃j:Nat,tzI x=j:=⟨(tzI x).toNat,by omega⟩;rw[hj] at k1 k2 k3;have hj':IntKind.u64.wrap (bits BinOp.and IntKind.u64 (x:Int) (IntKind.u64.wrap (-(x:Int)))*285870213051353865)/288230376151711744=(j:Int):=hj;have hc:w.cell? ⟨1,j,none⟩=some (.int .u8 (tzN x:Int)):=by
  simp only[World.cell?,hg];simp only[Yf] at k3;simp[k3]
 have hw:IntKind.i64.wrap (tzN x:Int)=(tzN x:Int):=Go.Abs.wrap_in (by omega) (by omega);generalize tzN x=z at hc hw k3 k4⊢;clear hj k3
 go_enter Tryz.func111,Tryz.ntmps111
 go_wp2
 go_ret
 exact⟨rfl,rfl⟩
end Go.Proofs
namespace Go.Abs
open Go.Proofs Go.RowKit Go.Lib Go.Wd Go.Wire Go.Ex
theorem znj (x:Nat) (hx:x<256) (h0:x≠0):Spec Tryz.prog 111 [.int .u64 (x:Int)] (fun v=>v=.int .i64 (tzN x:Int)):=by
 refine⟨rH (by kernel_rfl),fun w Z vs hG hz ha=>?_⟩;obtain⟨l⟩:=vs
 match l,ha with
 |[],ha=>exact absurd ha.1 (by simp)
 |_::_::_,ha=>exact absurd ha.1 (by simp)
 |[v1],ha=>
  have e1:=vB (ha.2 0 _ v1 rfl rfl).2.2;subst e1;obtain⟨_,b,hb,hp⟩:=hG.2 1 _ rfl;cases b with
  |cells cs t f=>
   have hp':cs=_:=hp;subst hp';refine(zni x hx h0 w hb).mono ?_;rintro e w' ⟨rfl,rfl⟩;exact⟨_,_,rfl,rfl,fun _=>rfl,oG hG ⟨rfl,rfl,rfl,Zs _,fun _ _=>rfl⟩ (fun _=>rfl) (fun _=>⟨rfl,.int _ _⟩)⟩
  |_=>exact hp.elim
theorem c75 (x:Nat) (hx:x<256) (h0:x≠0):Spec Tryz.prog 75 [.int .u64 (x:Int)] (fun v=>v=.int .i64 (tzN x:Int)):=by
 refine Spec.of_awlS hf75 okf75 (by simp) fun S hS=>?_
 have g:=znj x hx h0;simp only[Qs,Za,zdp,Ψ75];refine zF g ?_ (ha:=by rfl);simp only[Qs];exact hS
end Go.Abs
set_option maxRecDepth 100000
set_option maxHeartbeats 8000000
namespace Go.Abs
open Go.Proofs Go.RowKit Go.Lib Go.Wd Go.Wire Go.Ex
def natI (l:List Nat):List Int:=l.map fun(k:Nat)=>(k:Int)
theorem znk: ∀s,s<256->s≠0->bitsN s=tzN s::bitsN (s&&&(s-1))/\s&&&(s-1)<s:=by decide+kernel
theorem pG: ∀s,s<256->(bitsN s).length<=8:=by decide+kernel
theorem zif (l:List Nat) (k:Nat):natI l++[(k:Int)]=natI (l++[k]):=by simp[natI]
theorem uD (l:List Nat):(natI l).length=l.length:=by simp[natI]
theorem c35 (s0:Nat) (hs0:s0<256):Spec Tryz.prog 35 [.int .u64 (s0:Int)] (fun v=>v=lst 1 (zM (natI (bitsN s0)))):=by
 refine Spec.of_awlP hf35 okf35 (by simp) fun S hS=>?_
 have hb0:=pG s0 hs0;simp only[Qs,bne_iff_ne,ne_eq,Zt,Za,Ψ35];rw[uu f35l11.eq_1];refine yA (fun x:Nat×List Nat×Option Bool=>[(0,.int .u64 (x.1:Int)),(3,.k (.own 3))]) (fun x=>[(3,.arr 3 1 x.2.2 (zM (natI x.2.1)))]) (fun x=>x.1<256/\x.2.1++bitsN x.1=bitsN s0) (fun x=>x.1) (s0,[],some true) rfl rfl ⟨hs0,rfl⟩ ?_;rintro⟨s,L,nl⟩ ⟨hs,hL⟩;simp only[] at hs hL;by_cases h0:s=0
 ·subst h0
  have e:bitsN 0=[]:=rfl;rw[e,Zk] at hL;subst hL;simp only[Int.natCast_zero,Qs,ZV,Za,Y6,Zx,Ψ35];refine hS _ ?_;simp only[V.fz,V.fzL,V.nrm,V.nrmL,qB (vC _)]
  try rfl
 ·obtain⟨hb,hlt⟩:=znk s hs h0
  rw[hb] at hL;have hl:L.length+1<=8:=by
   have:=congrArg List.length hL;rw[Zu,Zn] at this;omega
  have n0:((s:Int) !=0)=true:=by
   rw[bne_iff_ne];omega
  have w1:IntKind.u64.wrap ((s:Int)-1)=((s-1:Nat):Int):=by
   rw[show(s:Int)-1=((s-1:Nat):Int) by omega];exact oU (by omega)
  have ha:=kD (s:=s) (t:=s-1) (by omega) (by omega);have g:=c75 s hs h0;generalize tzN s=z at g hL;simp only[n0,Qs,Za,Ψ35];refine zF g ?_ (ha:=by rfl);simp only[w1,ha,yL,uD,Qs,zdH,forall_eq,bne_iff_ne,ne_eq,ZH,Zt,Zm,Z5,Za,Zx];refine⟨by omega,by omega,Next.intro (s&&&(s-1),L++[z],some false) rfl (by simp only[cU,zif];rfl) ⟨by simp only;omega,by simp only[Z9,ZR,Ya];exact hL⟩ (by simp only;omega)⟩
def sets (l:List Nat):List (List C):=l.map fun(s:Nat)=>[.int .u64 (s:Int)]
theorem uZ (l:List Nat):(sets l).length=l.length:=by simp[sets]
theorem aD {l:List Nat} {i:Nat} (h:i<l.length):(sets l).getD i []=[.int .u64 (l[i]:Int)]:=by simp[sets,h]
theorem oV (l:List Nat):C.normRows (sets l)=sets l:=by
 induction l with
 |nil=>rfl
 |cons a l ih=>
  have h:sets (a::l)=[.int .u64 (a:Int)]::sets l:=rfl;rw[h,iR,ih];rfl
theorem zig (l:List Nat) (s:Nat):sets l++[[.int .u64 (s:Int)]]=sets (l++[s]):=by simp[sets]
theorem c76 (l:List Nat) (s:Nat) (hl:l.length<=1000000):Spec Tryz.prog 76 [lst 1 (sets l),.int .u64 (s:Int)] (fun v=>v=.int .i64 (fstN (fun x=>decide (s=x)) l 0)):=by
 refine Spec.of_awlS hf76 okf76 (by simp) fun S hS=>?_
 simp only[uZ,Qs,Zd,Za,Ψ76];rw[uu f76l17.eq_1];refine yA (fun i:Nat=>[(0,lst 1 (sets l)),(1,.int .u64 (s:Int)),(7,.int .i64 l.length),(8,.int .i64 i)]) (fun _=>[]) (fun i=>i<=l.length/\fstN (fun x=>decide (s=x)) (l.drop i) i=fstN (fun x=>decide (s=x)) l 0) (fun i=>l.length-i) 0 rfl rfl ⟨ZB _,by simp⟩ ?_;rintro i ⟨hi,hD⟩;by_cases hlt:i<l.length
 ·have c1:(i:Int)<l.length:=by omega
  have c4:IntKind.i64.wrap ((i:Int)+1)=(i:Int)+1:=wrap_in (by omega) (by omega);have hat:=aD hlt;rw[oJ hlt] at hD;generalize l[i]=y at hD hat;by_cases he:s=y
  ·have e1:((s:Int)==(y:Int))=true:=by rw[beq_iff_eq];omega
   rw[if_pos (decide_eq_true he)] at hD;rw[<-hD] at hS;simp only[c1,e1,uZ,hat,Qs,Za,Ψ76];exact hS
  ·have e1:((s:Int)==(y:Int))=false:=by rw[beq_eq_false_iff_ne];omega
   rw[if_neg (by rw[decide_eq_false he];simp)] at hD;simp only[c1,c4,e1,uZ,hat,Qs,Za,Ψ76];exact Next.intro (i+1) rfl rfl ⟨by omega,hD⟩ (by omega)
 ·have c1: ¬(i:Int)<l.length:=by omega
  rw[ZA (by omega)] at hD;rw[<-hD] at hS;simp only[c1,Qs,Xf,Za,Ψ76];exact hS
theorem c36 (l:List Nat) (s:Nat) (hl:l.length<=1000000):Spec Tryz.prog 36 [lst 1 (sets l),.int .u64 (s:Int)] (fun v=>v=.bool (decide (s∈l))):=by
 refine Spec.of_awlS hf36 okf36 (by simp) fun S hS=>?_
 have g1:=c76 l s hl;have hp:=pE (p:=fun x=>decide (s=x)) l 0;generalize fstN (fun x=>decide (s=x)) l 0=x at g1 hp;simp only[Qs,Zd,Za,Ψ36];refine zF g1 ?_ (ha:=by simp only[Zl,Zq,zB,V.norm,zO,C.norm,oV]<;>rfl);simp only[Qs];refine wJ hS ?_;rw[decide_eq_true_eq,decide_eq_true_eq,hp,YO];simp
theorem znl (t:Nat) (ht:t<1024) (l:List Nat) (hs: ∀s∈l,s<1024) (hl:l.length<=1000000):Spec Tryz.prog 105 [lst 1 (sets l),.k (.c (.fn 68 [.ro [.int .u64 (t:Int)] 0]))] (fun v=>v=.int .i64 (fstN (fun s=>s&&&t==0) l 0)):=by
 refine Spec.of_awlS hf105 okf105 (by simp) fun S hS=>?_
 simp only[uZ,Qs,Zd,Za,Ψ105];rw[uu f105l17.eq_1];refine yA (fun i:Nat=>[(0,lst 1 (sets l)),(1,.k (.c (.fn 68 [.ro [.int .u64 (t:Int)] 0]))),(7,.int .i64 l.length),(8,.int .i64 i)]) (fun _=>[]) (fun i=>i<=l.length/\fstN (fun s=>s&&&t==0) (l.drop i) i=fstN (fun s=>s&&&t==0) l 0) (fun i=>l.length-i) 0 rfl rfl ⟨ZB _,by simp⟩ ?_;rintro i ⟨hi,hD⟩;by_cases hlt:i<l.length
 ·have c1:(i:Int)<l.length:=by omega
  have c4:IntKind.i64.wrap ((i:Int)+1)=(i:Int)+1:=wrap_in (by omega) (by omega);have hat:=aD hlt;have gi:=c68 l[i] t (hs _ (Zy hlt)) ht;rw[oJ hlt] at hD;simp only[c1,uZ,hat,Qs,Za,Ψ105];refine pC gi ?_ (ha:=by simp only[Zl,Zq,ZR,Ya,zB,V.norm,C.norm,C.normRow]<;>rfl);cases hp:(l[i]&&&t==0) with
  |true=>
   rw[if_pos hp] at hD;rw[<-hD] at hS;simp only[Qs,Za,Ψ105];exact hS
  |false=>
   rw[if_neg (by rw[hp];simp)] at hD;simp only[c4,Qs,Za,Ψ105];exact Next.intro (i+1) rfl rfl ⟨by omega,hD⟩ (by omega)
 ·have c1: ¬(i:Int)<l.length:=by omega
  rw[ZA (by omega)] at hD;rw[<-hD] at hS;simp only[c1,Qs,Xf,Za,Ψ105];exact hS
theorem c67 (t:Nat) (ht:t<1024) (l:List Nat) (hs: ∀s∈l,s<1024) (hl:l.length<=1000000):Spec Tryz.prog 67 [lst 1 (sets l),.k (.c (.fn 68 [.ro [.int .u64 (t:Int)] 0]))] (fun v=>v=.bool (!hitP l t)):=by
 refine Spec.of_awlS hf67 okf67 (by simp) fun S hS=>?_
 have g1:=znl t ht l hs hl;have hp:=pE (p:=fun s=>s&&&t==0) l 0;generalize fstN (fun s=>s&&&t==0) l 0=x at g1 hp;simp only[Qs,Zd,Za,Ψ67];refine zF g1 ?_ (ha:=by simp only[Zl,Zq,zB,V.norm,zO,C.norm,C.normRow,oV]<;>rfl);simp only[Qs];refine wJ hS ?_;rw[decide_eq_true_eq,hp];unfold hitP;rw[Xq,YO,Yx];simp
theorem c66 (t nv db:Nat) (ht:t<1024) (l:List Nat) (hs: ∀s∈l,s<1024) (hl:l.length<=1000000):Spec Tryz.prog 66 [.int .u64 (t:Int),.k (.c (.ro [zC 1 (sets l),.int .u64 (nv:Int),.int .u64 (db:Int)] 0))] (fun v=>v=.bool (hitP l t)):=by
 refine Spec.of_awlS hf66 okf66 (by simp) fun S hS=>?_
 have g:=c67 t ht l hs hl;generalize hitP l t=b at g hS;simp only[Qs,zes,Zd,Zm,Za,zgK,zgL,zgM,zgN,zgO,Ψ66];refine zF g ?_ (ha:=by simp only[Zl,Zq,zB,V.norm,zO,C.norm,C.normRow,oV]<;>rfl);simp only[Qs,Bool.not_not];cases b<;>exact hS
end Go.Abs
set_option maxRecDepth 100000
set_option maxHeartbeats 4000000
namespace Go.Abs
def tA:List Int->List Int->Int
 |[],[]=>0
 |[],_::_=> -1
 |_::_,[]=>1
 |a::x,b::y=>if Lib.compareInt a b≠0 then Lib.compareInt a b else tA x y
def rN (a b:List Int):Int:=if (a.length:Int)-b.length≠0 then(a.length:Int)-b.length else tA a b
theorem znm (a b:Int):(a<b/\Lib.compareInt a b= -1)\/(a=b/\Lib.compareInt a b=0)\/(b<a/\Lib.compareInt a b=1):=by
 unfold Lib.compareInt;rcases Int.lt_trichotomy a b with h|h|h
 ·exact .inl ⟨h,by simp[h]⟩
 ·exact .inr (.inl ⟨h,by subst h;simp⟩)
 ·refine .inr (.inr ⟨h,?_⟩)
  rw[if_neg (by omega),if_pos h]
end Go.Abs
namespace Go.Proofs
open Go.Shelf Go.RowKit Go.Lib Go.Sort Go.Abs
theorem aG {p:Prop} (h:p):Aside p:=h
def mH (w:World) (p:Option Addr) (b o:Nat) (x:List Int):Prop:=(x.length≠0->p=some ⟨b,o,none⟩)/\ ∀j,j<x.length->w.cell? ⟨b,o+j,none⟩=some (.int .i64 (x.getD j 0))
theorem znn (b1 o1 c1 b2 o2 c2:Nat) (p1 p2:Option Addr) (x y:List Int) (w:World) (hx:x.length<=1000) (hy:y.length<=1000) (I:Aside (mH w p1 b1 o1 x/\mH w p2 b2 o2 y)):
  Calls Tryz.prog 71 #[.slice p1 x.length c1,.slice p2 y.length c2] w fun e w'=>e=.returned (.int .i64 (tA x y))/\w'=w:=by
 have hc108: ∀a b W,Calls Tryz.prog 108 #[.int .i64 a,.int .i64 b] W fun e w'=>e=.returned (.int .i64 (Lib.compareInt a b))/\w'=W:=fun a b W=>AnyG.cmp_Compare_int Tryz.laysCmp a b W
 go_enter Tryz.func71,Tryz.ntmps71
 go_wp2
 go_loopg [11] x.length (fun g i wr=> ∃k,k<=x.length/\g=x.length-k/\i=.int .i64 (k:Nat)/\wr=w/\k<=y.length/\tA (x.drop k) (y.drop k)=tA x y)
 case atStart=>exact⟨0,ZB _,rfl,rfl,rfl,ZB _,rfl⟩
 case round=>
  obtain⟨k,hk,rfl,rfl,rfl,hky,hR⟩:=hrel;by_cases hlt:k<x.length
  ·have hlt':(k:Int)<x.length:=by omega
   obtain rfl:=I.out.1.1 (by omega);have f1:=I.out.1.2 k hlt;by_cases hyt:k<y.length
   ·have hyt':(k:Int)<y.length:=by omega
    obtain rfl:=I.out.2.1 (by omega);have f2:=I.out.2.2 k hyt;have e1:x.getD k 0=x[k]:=by simp[List.getD,hlt]
    have e2:y.getD k 0=y[k]:=by simp[List.getD,hyt]
    rw[ZE hlt,ZE hyt,tA,<-e1,<-e2] at hR;generalize x.getD k 0=a at f1 hR;generalize y.getD k 0=b at f2 hR;have c108:=hc108 a b;generalize Lib.compareInt a b=r at c108 hR;have R:=aG hR;clear hR e1 e2 hc108;by_cases hr:r=0
    ·subst hr
     go_wp2_with (go_at_call 108;refine(c108 _).mono ?_;rintro e w1 ⟨rfl,rfl⟩)
     have wk:IntKind.i64.wrap ((k:Int)+1)=((k+1:Nat):Int):=by rw[Go.Abs.wrap_in (by omega) (by omega)];omega
     go_roundg (x.length-(k+1))
     case rel=>exact⟨k+1,hlt,rfl,by go_num,rfl,hyt,by have:=R.out;rwa [if_neg (by simp)] at this⟩
     case measure=>omega
    ·go_wp2_with (go_at_call 108;refine(c108 _).mono ?_;rintro e w1 ⟨rfl,rfl⟩)
     go_ret
     have:=R.out;rw[if_pos hr] at this;exact⟨by rw[<-this];rfl,rfl⟩
   ·have hyt':(k:Int)>=y.length:=by omega
    have e1:y.drop k=[]:=List.drop_of_length_le (by omega);rw[e1,ZE hlt,tA] at hR;have R:=aG hR;clear hR e1 hc108
    go_wp2
    go_ret
    exact⟨by rw[<-R.out];rfl,rfl⟩
  ·obtain rfl:k=x.length:=by omega
   rw[List.drop_length] at hR;have R:=aG hR;clear hR hc108;by_cases hyt:x.length<y.length
   ·have hyt':(x.length:Int)<y.length:=by omega
    go_wp2
    go_ret
    have:=R.out;rw[ZE hyt,tA] at this;exact⟨by rw[<-this];rfl,rfl⟩
   ·have hyt': ¬(x.length:Int)<y.length:=by omega
    go_wp2
    go_ret
    have:=R.out;rw[List.drop_of_length_le (by omega),tA] at this;exact⟨by rw[<-this];rfl,rfl⟩
theorem zno (b1 o1 c1 b2 o2 c2:Nat) (p1 p2:Option Addr) (x y:List Int) (w:World) (hx:x.length<=1000) (hy:y.length<=1000) (I:Aside (mH w p1 b1 o1 x/\mH w p2 b2 o2 y)):
  Calls Tryz.prog 70 #[.slice p1 x.length c1,.slice p2 y.length c2] w fun e w'=>e=.returned (.int .i64 (rN x y))/\w'=w:=by
 have c71:=znn b1 o1 c1 b2 o2 c2 p1 p2 x y w hx hy I;by_cases hd:(x.length:Int)-y.length=0
 ·have hd':((x.length:Int)-y.length !=0)=false:=by simp[hd]
  have R:Aside (rN x y=tA x y):=by show rN x y=_;unfold rN;rw[if_neg (by simpa using hd)]
  go_enter Tryz.func70,Tryz.ntmps70
  go_wp2_with (go_at_call 71;refine c71.mono ?_;rintro e w1 ⟨rfl,rfl⟩)
  go_ret
  exact⟨by rw[R.out];rfl,rfl⟩
 ·have hd':((x.length:Int)-y.length !=0)=true:=by simp[hd]
  have R:Aside (rN x y=(x.length:Int)-y.length):=by show rN x y=_;unfold rN;rw[if_pos hd]
  clear c71
  go_enter Tryz.func70,Tryz.ntmps70
  go_wp2
  go_ret
  exact⟨by rw[R.out];rfl,rfl⟩
end Go.Proofs
set_option maxRecDepth 100000
set_option maxHeartbeats 4000000
namespace Go.Abs
open Go.Sort Go.Proofs Go.Shelf Go.Lib Go.RowKit
theorem heap_row {α:Type} [Inhabited α] {w:World} {g n:Nat} {os:Array Obj} {cur:Array Value} {e:TypeId} {fr:Nat×Nat} (enc:α->Value) (d:Array α) (hb:w.heap[g]?=some (.cells cur e fr)):
  (grow (putRow enc (Sort.ahead w n) g 0 d) os).heap[g]?=some (.cells (putCells enc 0 d cur) e fr):=by
 have hg:g<w.heap.size:=(Zo.1 hb).1;rw[heap_grow_old _ _ (by simpa using hg)];simp[putRow,mapBlock,Sort.ahead,Xd,hb,onCells]
theorem zpD {α:Type} [Inhabited α] {w:World} {g n:Nat} {os:Array Obj} (enc:α->Value) (d:Array α):w.grownBy (grow (putRow enc (Sort.ahead w n) g 0 d) os) (some g):=by
 refine⟨rfl,rfl,rfl,by simp,fun k hk hne=>?_⟩;rw[heap_grow_old _ _ (by simpa using hk)];have:g≠k:=fun e=>hne (by rw[e])
 simp[putRow,mapBlock,Sort.ahead,Xd,this]
theorem znp {P:Program} {ρ:Ren} (L:SlLaysF.n6 P ρ) (hc:sB P (ρ.f 6)) (e:TypeId)
  {β:Type} (encC:β->C) (cf:β->β->Int) (lt:β->β->Bool) (hlt: ∀x y,decide (cf x y<0)=lt x y) (hO:SWO lt) (g:Nat) (eg: ∀args w,(callFunc g args).run P w=.ok (.enter g args) w)
  (τ:Nat) (ks:List β) (hm:ks.length<4611686018427387904)
  (hcl: ∀x∈ks,∀y∈ks,∀(W:World) (Z:Bk->Prop) (vx vy:Value),(∀b,Z b->b.2<W.heap.size)->PRep W Z (encC x) vx->PRep W Z (encC y) vy->
   Calls P g #[vx,vy] W fun e w'=>e=.returned (.int .i64 (cf x y))/\ ∃q os',w'=grow (W.drewN q) os'):
  wB P (ρ.f 6) [.k (.own τ),.k (.c (.fn g []))] (zK e 1 τ (ks.map fun x=>[encC x])) [τ] (fun r o'=>r=.tup []/\ ∃out:List β,out.Perm ks/\out.Pairwise (fun x y=>lt y x=false)/\o'=zK e 1 τ (out.map fun x=>[encC x])):=by
 obtain⟨encR,hEn⟩: ∃encR:β->List C,encR=fun x=>[encC x]:=⟨_,rfl⟩
 have hk: ∀x,(encR x).length=1:=fun x=>by rw[hEn];rfl
 have k0:0<1:=by decide
 rw[<-hEn];refine⟨hc,fun w0 Z0 κ w vs hsz hi=>?_⟩;obtain⟨v,fv,rfl⟩:=zid hsz;have ho:(zK e 1 τ (ks.map encR)) τ=some (.arr e 1 none (ks.map encR)):=by simp[zK]
 have hno: ∀s,s≠τ->zK e 1 τ (ks.map encR) s=none:=fun s hs=>by simp[zK,hs]
 have hob:=hi.objs τ _ ho;have htm:zD w (Zof w0 Z0 κ (zK e 1 τ (ks.map encR)) w) κ (zK e 1 τ (ks.map encR)) (.k (.own τ)) v:=by simpa using hi.tmps 0
 have htf:zD w (Zof w0 Z0 κ (zK e 1 τ (ks.map encR)) w) κ (zK e 1 τ (ks.map encR)) (.k (.c (.fn g []))) fv:=by simpa using hi.tmps 1
 have hfv:fv=.func (.func g) #[] #[]:=by
  have:=htf.2;unfold yK at this;cases this with
  |fn f caps us val h1 h2 h3=>
   have:us= #[]:=YK h1;rw[this]
 subst hfv;have none_case: ∀(p:Option Addr) (cap:Nat),ks=[]->v=.slice p 0 cap->Calls P (ρ.f 6) #[v,.func (.func g) #[] #[]] w fun e_1 w'=> ∃v κ' r o',e_1=.returned v/\(r=.tup []/\ ∃out:List β,out.Perm ks/\out.Pairwise (fun x y=>lt y x=false)/\o'=zK e 1 τ (out.map encR))/\yO (fun τ_1=>τ_1∈[τ]) (zK e 1 τ (ks.map encR)) o' κ κ' w w'/\Inv w0 Z0 κ' ⟨fun s=>if s=0 then r else .any,o'⟩ #[v] w':=by
  intro p cap hnil hv;subst hnil hv;refine(AnyF.slices_SortFunc_none {L with} p cap _ w).mono ?_;rintro ex w' ⟨rfl,hw⟩;rw[hw];have hI:=hi.moveG (τ:=τ) (d:=0) (ob:=.arr e 1 none []) (v:=.tup []) (u:=.tuple #[]) (bo:=κ τ) (w':=w) ho (by simp) rfl rfl rfl (Zs _) (fun _ _ _=>rfl) (fun b hb=> .inr hb)
   (fun Z hZ=>?_) ⟨#[],rfl,rfl,trivial⟩
  ·have hI2:=hI.only (T:=[τ]) (r:=.tup []) (v:=.tuple #[]) ⟨#[],rfl,rfl,trivial⟩ rfl (fun t ht ob hob=>by
    simp only[ZX] at ht
    subst ht
    simp[St.put,St.setO] at hob
    subst hob;rfl)
   have htab:yE [τ] ((((⟨fun s=>[V.k (.own τ),.k (.c (.fn g []))].getD s .any,zK e 1 τ (([]:List β).map encR)⟩:St).scrub τ).setO τ (.arr e 1 none [])).put 0 (.tup [])).o=zK e 1 τ (([]:List β).map encR):=by
    funext t;unfold yE zK;by_cases ht:t=τ
    ·subst ht;simp[St.put,St.setO]
    ·simp[ht]
   rw[htab] at hI2;refine⟨.tuple #[],_,.tup [],_,rfl,⟨rfl,[],Xb _,Xx,rfl⟩,?_,hI2⟩;intro s hs;simp only[ZX] at hs;subst hs;refine⟨by simp[yC,zK],by simp,fun _ b hb cur e' f hcur=>⟨cur,hcur,rfl⟩⟩
  ·have hZ':=hob
   rcases hZ' with⟨h1,_,_⟩|⟨b,cur,cap',h1,h2,h3,h4,h5,h6,_,h8,_⟩
   ·exact .inl ⟨by simp[h1],rfl,by simp⟩
   ·exact .inr ⟨b,cur,cap',by simp[h1],h2,h3,h4,by simp,h6,by simp,by simp,fun i j r c hr=>by simp at hr⟩
 rcases hob with⟨hκ,hrows,_⟩|⟨b,cur,cap,hκ,hheap,h0,hcs,hlen,hcap,_,hall,hrr⟩
 ·have hl0:ks=[]:=by simpa using hrows
  have hv:v=.slice none 0 0:=by
   rcases htm.2 e 1 none _ ho with⟨_,hv⟩|⟨b,_,_,hb,_⟩
   ·exact hv
   ·rw[hκ] at hb;cases hb
  exact none_case none 0 hl0 hv
 ·obtain⟨cap',hv,hcap'⟩: ∃cap',v=.slice (some ⟨b,0,none⟩) ks.length cap'/\cur.size=cap'*1:=by
   rcases htm.2 e 1 none _ ho with⟨hn,_⟩|⟨b',cur',cap',hb,hh,hc2,hv⟩
   ·rw[hκ] at hn;cases hn
   ·rw[hκ] at hb;cases hb
    rw[hheap] at hh;cases hh;exact⟨cap',by simpa using hv,hc2⟩
  by_cases hks:ks=[]
  ·exact none_case _ cap' hks (by rw[hv,hks];rfl)
  have hpos:0<ks.length:=Yd.2 hks;subst hv;have hlt':b<w.heap.size:=xV hheap;rw[Zg] at hlen;have hcsz:ks.length<=cur.size:=by rw[hcs,YL];exact hlen
  haveI:Inhabited (Fin ks.length):=⟨⟨0,hpos⟩⟩
  let enc:Fin ks.length->Value:=fun i=>cur.getD i.1 (.bool true)
  have hcell: ∀i:Fin ks.length,∃u,cur[i.1]?=some u/\enc i=u/\PRep w (Zof w0 Z0 κ (zK e 1 τ (ks.map encR)) w) (encC ks[i.1]) u:=by
   intro i;obtain⟨u,hu,hp⟩:=hrr i.1 0 [encC ks[i.1]] (encC ks[i.1]) (by rw[Zv,Zh i.2,hEn];rfl) rfl;rw[YL,Yk] at hu;exact⟨u,hu,by simp[enc,ZP,hu],hp⟩
  have henc1:OneCell enc:=fun x=>by obtain⟨u,_,h2,h3⟩:=hcell x;rw[h2];exact h3.oneCell
  let d:Array (Fin ks.length):=Array.ofFn fun i=>i
  have hds:d.size=ks.length:=by simp[d]
  have hdi: ∀i (h:i<ks.length),d[i]! =⟨i,h⟩:=fun i h=>by simp[d,h]
  have hH:Holds enc w b 0 d:=by
   intro j hj;rw[hds] at hj;refine⟨?_,by simp[World.frozen?,hheap]⟩;obtain⟨u,hu,h2,_⟩:=hcell ⟨j,hj⟩;rw[hdi j hj,h2];simp only[World.cell?,hheap,ZU];simpa using hu
  let cfF:Fin ks.length->Fin ks.length->Int:=fun i j=>cf ks[i.1] ks[j.1]
  have hltF: ∀x y,ltOf cfF x y=lt ks[x.1] ks[y.1]:=fun x y=>by unfold ltOf;exact hlt _ _
  have hOF:SWO (ltOf cfF):=⟨fun x=>by rw[hltF];exact hO.irrefl _,fun x y z h1 h2=>by rw[hltF] at*;exact hO.trans _ _ _ h1 h2,fun x y z h1 h2=>by rw[hltF] at*;exact hO.ntrans _ _ _ h1 h2⟩;have hcmp:CmpLays1 P g #[] enc cfF b 0 d.size w:=by
   intro m os dk hdk x y;have hsame:yV (Zof w0 Z0 κ (zK e 1 τ (ks.map encR)) w) w (sortWorld enc w b 0 m dk os):=by
    intro bk hbk;have hne:bk.2≠b:=fun e2=>hbk.2.2 τ (by rw[ho];simp) (by rw[hκ,e2])
    exact(zpD enc dk).block bk.2 hbk.2.1 (fun e2=>hne (by cases e2;rfl))
   have hrow: ∀i:Fin ks.length,PRep (sortWorld enc w b 0 m dk os) (Zof w0 Z0 κ (zK e 1 τ (ks.map encR)) w) (encC ks[i.1]) (enc i):=by
    intro i;obtain⟨u2,_,h2,h3⟩:=hcell i;rw[h2];exact h3.mono hsame fun _ h=>h
   have hsz2:w.heap.size<=(sortWorld enc w b 0 m dk os).heap.size:=(zpD enc dk).size;have:=hcl ks[x.1] (Zy _) ks[y.1] (Zy _) (sortWorld enc w b 0 m dk os) (Zof w0 Z0 κ (zK e 1 τ (ks.map encR)) w) (enc x) (enc y) (fun bk hbk=>ZL hbk.2.1 hsz2) (hrow x) (hrow y);rw[show(#[enc x,enc y]++ #[]:Array Value)= #[enc x,enc y] from rfl];exact this
  have hcon:=Any.slices_SortFunc L enc henc1 cfF hOF g #[] b 0 cap' d w eg hcmp hH hlt' (by rw[hds];exact hm);rw[hds] at hcon;refine hcon.mono ?_;rintro ex w' ⟨rfl,d',n,os,⟨p1,p2,p3⟩,hs,rfl⟩;rw[hds] at p1;have hfull: ∀a:Array (Fin ks.length),a.size=ks.length->a.extract 0 ks.length=a:=fun a ha=>by
   apply Array.ext
   ·simp[ha]
   ·intro i h1 h2;simp
  rw[hfull d' p1,hfull d hds] at p3
  let out:List β:=d'.toList.map fun i=>ks[i.1]
  have hol:out.length=ks.length:=by simp[out,p1]
  have hperm:out.Perm ks:=by
   have h1:(d.toList.map fun i:Fin ks.length=>ks[i.1])=ks:=by
    apply Xc
    ·simp[d]
    ·intro i h1 h2;simp[d]
   have h2:(d'.toList.map fun i:Fin ks.length=>ks[i.1]).Perm (d.toList.map fun i:Fin ks.length=>ks[i.1]):=p3.map _;rw[h1] at h2;exact h2
  have hpw:out.Pairwise fun x y=>lt y x=false:=by
   rw[List.pairwise_iff_getElem];intro i j h1 h2 hij;have hi1:i<d'.size:=by rw[p1,<-hol];exact h1
   have hj1:j<d'.size:=by rw[p1,<-hol];exact h2
   have:=hs i j (ZB _) hij (by rw[<-p1];exact hj1);rw[hltF,getElem!_pos d' i hi1,getElem!_pos d' j hj1] at this;simpa [out] using this
  have hh2:=heap_row (w:=w) (n:=n) (os:=os) enc d' hheap;obtain⟨g1,g2,g3,g4,g5⟩:=zpD (w:=w) (g:=b) (n:=n) (os:=os) enc d';have hsz2:(putCells enc 0 d' cur).size=cur.size:=by simp[putCells]
  have hzsame:yV (Zof w0 Z0 κ (zK e 1 τ (ks.map encR)) w) w (sortWorld enc w b 0 n d' os):=by
   intro bk hbk;have hne:bk.2≠b:=fun e2=>hbk.2.2 τ (by rw[ho];simp) (by rw[hκ,e2])
   exact g5 bk.2 hbk.2.1 (fun e2=>hne (by cases e2;rfl))
  have hI:=hi.moveG (τ:=τ) (d:=0) (ob:=.arr e 1 none (out.map encR)) (v:=.tup []) (u:=.tuple #[]) (bo:=some b) (w':=sortWorld enc w b 0 n d' os) ho (by simp) g1 g2 g3 g4
   (fun q hq hne=>g5 q hq (by rw[hκ] at hne;exact fun h=>hne (by cases h;rfl))) (fun b' hb=> .inr (by cases hb;exact hκ))
   (fun Z hZ=> .inr ⟨b,_,cap,by simp,hh2,h0,by rw[hsz2];exact hcs,by rw[Zg,hol];exact hlen,hcap,by simp,fun r hr=>by obtain⟨x,_,rfl⟩:=ZS.1 hr;exact hk x,fun i j r c hr hcj=>?_⟩) ⟨#[],rfl,rfl,trivial⟩
  ·rw[zie _ _ hno] at hI
   have hI2:=hI.only (T:=[τ]) (r:=.tup []) (v:=.tuple #[]) ⟨#[],rfl,rfl,trivial⟩ rfl (fun t ht ob hob=>by
    simp only[ZX] at ht
    subst ht
    simp at hob
    subst hob;rfl)
   have htab:yE [τ] (fun s=>if s=τ then some (O.arr e 1 none (out.map encR)) else none)=zK e 1 τ (out.map encR):=by
    funext t;unfold yE zK;by_cases ht:t=τ
    ·subst ht;simp
    ·simp[ht]
   rw[htab] at hI2;refine⟨.tuple #[],_,.tup [],_,rfl,⟨rfl,out,hperm,hpw,rfl⟩,?_,hI2⟩;intro s hs;simp only[ZX] at hs;subst hs;refine⟨by simp[zK,yC,hol],by simp[hκ],fun _ b' hb cur0 e0 f0 hc0=>?_⟩;rw[hκ] at hb;cases hb;rw[hheap] at hc0;cases hc0;exact⟨_,hh2,hsz2⟩
  ·
   have hi':i<ks.length:=by have:=(Zr.1 hr).1;rwa [Zg,hol] at this
   have hid:i<d'.size:=by rw[p1];exact hi'
   have hout:out[i]'(by rw[hol];exact hi')=ks[(d'[i]).1]:=by simp[out]
   have hr':r=encR ks[(d'[i]).1]:=by
    rw[Zv,Zh (by rw[hol];exact hi')] at hr;have:=Yj hr;rw[<-this,hout]
   subst hr';have hj:j<1:=by rw[<-hk ks[(d'[i]).1]];exact(Zr.1 hcj).1
   obtain rfl:j=0:=by omega
   have hc1:c=encC ks[(d'[i]).1]:=by rw[hEn] at hcj;cases hcj;rfl
   subst hc1;obtain⟨u,hu,he,hp⟩:=hcell d'[i];refine⟨u,?_,hp.mono hzsame hZ⟩;have hcs2:i<cur.size:=by omega
   simp only[putCells,YL,Yk];rw[Array.getElem?_mapIdx,Z8 hcs2];simp only[Yq,ZB,true_and,ZU,hid,if_true,XE];rw[getElem!_pos d' i hid,he]
end Go.Abs
set_option maxRecDepth 100000
set_option maxHeartbeats 4000000
namespace Go.Abs
open Go.Sort Go.Proofs Go.Shelf Go.Lib Go.RowKit Go.Ex
theorem zih: ∀x y:List Nat,x.length=y.length->(tA (natI x) (natI y)<0 ↔ uJ x y=true)
 |[],[],_=>by simp[tA,uJ,natI]
 |[],_::_,h=>by simp at h
 |_::_,[],h=>by simp at h
 |a::x,b::y,h=>by
  have e1:natI (a::x)=(a:Int)::natI x:=rfl;have e2:natI (b::y)=(b:Int)::natI y:=rfl;rw[e1,e2,tA,uJ];rcases znm (a:Int) b with⟨h1,h2⟩|⟨h1,h2⟩|⟨h1,h2⟩
  ·rw[h2,if_pos (by decide),if_neg (by omega)];simp;omega
  ·rw[h2,if_neg (by decide),if_pos (by omega)]
   exact zih x y (by simpa using h)
  ·rw[h2,if_pos (by decide),if_neg (by omega)];simp;omega
theorem znq (x y:List Nat):decide (rN (natI x) (natI y)<0)=ltC x y:=by
 unfold rN ltC;rw[uD,uD];by_cases h:x.length=y.length
 ·rw[if_neg (by omega),if_pos h,Yn,decide_eq_true_eq,zih _ _ h]
 ·rw[if_pos (by omega),if_neg h,Yn,decide_eq_true_eq,decide_eq_true_eq];omega
theorem zii {α:Type} {lt:α->α->Bool} (h:Strict lt):SWO lt where
 irrefl:=h.irr
 trans:=h.tr
 ntrans x y z h1 h2:=by
  cases q:lt x z with
  |false=>rfl
  |true=>
   exfalso;cases q2:lt z y with
   |true=>have:=h.tr _ _ _ q q2;rw[h1] at this;cases this
   |false=>
    have e:=h.tot y z h2 q2;subst e;rw[h1] at q;cases q
theorem aH {w:World} {Z:Bk->Prop} {x:List Nat} {v:Value} (h:PRep w Z (zC 1 (zM (natI x))) v): ∃p b o cap,v=.slice p (natI x).length cap/\mH w p b o (natI x):=by
 obtain⟨p,cap,rfl,hq,_⟩:=(zlJ (natI x)).slice h;rw[yL] at hq;by_cases h0:(natI x).length=0
 ·exact⟨p,0,0,cap,by rw[yL],fun hk=>absurd h0 hk,fun j hj=>absurd hj (by omega)⟩
 ·obtain⟨b,o,rfl,hc⟩:=hq (by omega)
  refine⟨_,b,o,cap,by rw[yL],fun _=>rfl,fun j hj=>hc j _ ?_⟩;have:qA (zM (natI x))=(natI x).map fun n=>Value.int .i64 n:=by
   generalize natI x=l
   induction l with
   |nil=>rfl
   |cons a l ih=>simp only[qA,zM,Zl,YE,ZW] at ih⊢;rw[ih];rfl
  rw[this,Zv,Zh hj];simp[List.getD,hj]
def cfs (L:List (List Nat)):List (List C):=L.map fun x=>[zC 1 (zM (natI x))]
theorem c69 (τ:Nat) (L:List (List Nat)) (hm:L.length<=1000000) (hk: ∀x∈L,x.length<=1000):wB Tryz.prog 69 [.k (.own τ),.k (.c (.fn 70 []))] (zK 30 1 τ (cfs L)) [τ] (fun r o'=>r=.tup []/\o'=zK 30 1 τ (cfs (sortO ltC L))):=by
 refine(znp Tryz.laysSortC (rH (by kernel_rfl)) 30 (fun x=>zC 1 (zM (natI x))) (fun x y=>rN (natI x) (natI y)) ltC znq (zii zhQ) 70 (enters_of Tryz.func70 (by kernel_rfl) rfl) τ L (by omega) ?_).mono ?_
 ·intro x hx y hy W Z vx vy hZ hvx hvy
  obtain⟨p1,b1,o1,c1,rfl,q1⟩:=aH hvx;obtain⟨p2,b2,o2,c2,rfl,q2⟩:=aH hvy;have hx':=hk x hx;have hy':=hk y hy;refine(zno b1 o1 c1 b2 o2 c2 p1 p2 (natI x) (natI y) W (by rw[uD];exact hx') (by rw[uD];exact hy') ⟨q1,q2⟩).mono ?_;rintro e w' ⟨rfl,rfl⟩;exact⟨rfl,0,#[],by rw[grow_empty];rfl⟩
 ·rintro r o' ⟨rfl,out,hp,hs,rfl⟩
  rw[zhM zhQ hp hs];exact⟨rfl,rfl⟩
end Go.Abs
set_option maxRecDepth 100000
set_option maxHeartbeats 4000000
namespace Go.Proofs
open Go.RowKit Go.Lib Go.Sort Go.Abs Go.Ex
def pH (a b:Plc):Int:=if a.doc≠b.doc then a.doc-b.doc else a.fld-b.fld
theorem znr (a b:Plc) (ha:0<=a.doc/\a.doc<=1000000/\0<=a.fld/\a.fld<=1000000) (hb:0<=b.doc/\b.doc<=1000000/\0<=b.fld/\b.fld<=1000000) (w:World):
  Calls Tryz.prog 73 #[.agg #[.int .i64 a.doc,.int .i64 a.fld],.agg #[.int .i64 b.doc,.int .i64 b.fld]] w fun e w'=>e=.returned (.int .i64 (pH a b))/\ ∃q os',w'=grow (w.drewN q) os':=by
 obtain⟨a1,a2⟩:=a;obtain⟨b1,b2⟩:=b;simp only[] at ha hb;have w1:IntKind.i64.wrap (a1-b1)=a1-b1:=Go.Abs.wrap_in (by omega) (by omega);have w2:IntKind.i64.wrap (a2-b2)=a2-b2:=Go.Abs.wrap_in (by omega) (by omega);by_cases h:a1=b1
 ·subst h
  have e:pH ⟨a1,a2⟩ ⟨a1,b2⟩=a2-b2:=by unfold pH;rw[if_neg (by simp)]
  rw[e]
  go_enter Tryz.func73,Tryz.ntmps73
  go_wp2
  go_ret
  exact⟨rfl,0,_,by rw[alloc_eq_grow,alloc_eq_grow,grow_grow];rfl⟩
 ·have e:pH ⟨a1,a2⟩ ⟨b1,b2⟩=a1-b1:=by unfold pH;rw[if_pos h]
  have hne:(a1==b1)=false:=by simp[h]
  rw[e]
  go_enter Tryz.func73,Tryz.ntmps73
  go_wp2
  go_ret
  exact⟨rfl,0,_,by rw[alloc_eq_grow,alloc_eq_grow,grow_grow];rfl⟩
end Go.Proofs
namespace Go.Abs
open Go.Sort Go.Proofs Go.Shelf Go.Lib Go.RowKit Go.Ex
theorem zns (a b:Plc):decide (pH a b<0)=uA a b:=by
 unfold pH uA;by_cases h:a.doc=b.doc
 ·rw[if_neg (by simp[h]),if_pos h,Yn,decide_eq_true_eq,decide_eq_true_eq];omega
 ·rw[if_pos h,if_neg h,Yn,decide_eq_true_eq,decide_eq_true_eq];omega
def gN (a:Plc):Prop:=0<=a.doc/\a.doc<=1000000/\0<=a.fld/\a.fld<=1000000
theorem c72 (τ:Nat) (L:List Plc) (hm:L.length<=100000000000000) (hk: ∀x∈L,gN x):wB Tryz.prog 72 [.k (.own τ),.k (.c (.fn 73 []))] (zK 64 2 τ (pls L)) [τ] (fun r o'=>r=.tup []/\o'=zK 64 2 τ (pls (sortO uA L))):=by
 refine(znd Tryz.laysSortP (rH (by kernel_rfl)) 64 2 (by decide) Tryz.isAgg64 Tryz.sizeOf64 sU (fun _=>rfl) pH uA zns (zii zhS) 73 (enters_of Tryz.func73 (by kernel_rfl) rfl) τ L (by omega) ?_).mono ?_
 ·intro x hx y hy W Z vx vy hZ hvx hvy
  have e1:=iY (r:=sU x) (by simp[sU,C.sc]) hvx;have e2:=iY (r:=sU y) (by simp[sU,C.sc]) hvy;subst e1 e2;exact znr x y (hk x hx) (hk y hy) W
 ·rintro r o' ⟨rfl,out,hp,hs,rfl⟩
  rw[zhM zhS hp hs];exact⟨rfl,rfl⟩
end Go.Abs
namespace Go.Ex
open Go.Lib
section
variable {α : Type} [Inhabited α] [DecidableEq α]
def cfG (a:α):List α->List α
 |[]=>[]
 |b::l=>if a=b then cfG b l else b::cfG b l
def gO:List α->List α
 |[]=>[]
 |a::l=>a::cfG a l
omit [Inhabited α] in
theorem zij (b:α): ∀(l:List α) (a:α),cfG a (l++[b])=cfG a l++(if (a::l).getLast (by simp)=b then[] else[b])
 |[],a=>rfl
 |c::l,a=>by
  rw[ZR,cfG,cfG,zij b l c];have:(a::c::l).getLast (by simp)=(c::l).getLast (by simp):=by simp
  rw[this];split<;>simp
theorem zik (a:α) (l:List α): ∀m,m<=l.length->compactUpTo (a::l).toArray (m+1)=a::cfG a (l.take m)
 |0,_=>by
  rw[compactUpTo_succ,keeps_lt_one _ 0 (by decide)];simp[compactUpTo,cfG]
 |m+1,h=>by
  rw[compactUpTo_succ,zik a l m (by omega)];have hm:m<l.length:=by omega
  have e1:(a::l).toArray[m+1]! =l[m]:=by
   rw[getElem!_pos _ _ (by simp;omega)];simp
  have e2:(a::l).toArray[m]! =(a::l.take m).getLast (by simp):=by
   rw[getElem!_pos _ _ (by simp;omega),List.getLast_eq_getElem];simp only[List.getElem_toArray,Zn,Yt,Xw (show m<=l.length by omega),Nat.add_sub_cancel];cases m with
   |zero=>simp
   |succ m=>simp
  rw[ZQ hm,zij];have e3:keeps (a::l).toArray (m+1)= !decide ((a::l.take m).getLast (by simp)=l[m]):=by
   unfold keeps;rw[Nat.add_sub_cancel,e1,e2];simp[eq_comm]
  rw[e3,e1];by_cases q:(a::l.take m).getLast (by simp)=l[m]<;>simp[q]
theorem znt: ∀l:List α,compact l=gO l
 |[]=>by simp[compact,compactUpTo,gO]
 |a::l=>by
  unfold compact;rw[Zn,zik a l _ (Zs _),YN,gO]
end
end Go.Ex
set_option maxRecDepth 1000000
set_option maxHeartbeats 8000000
namespace Go.Proofs
open Go.RowKit Go.Lib Go.Sort Go.Ex
instance:Inhabited Plc:=⟨⟨0,0⟩⟩
def plV (x:Plc):List Value:=[.int .i64 x.doc,.int .i64 x.fld]
theorem zil (x:Plc):(plV x).length=2:=rfl
theorem zim (x y:Plc):(x.doc==y.doc&&x.fld==y.fld)=decide (x=y):=by
 obtain⟨a,b⟩:=x;obtain⟨c,d⟩:=y;rw[Yn,Zp,beq_iff_eq,beq_iff_eq,decide_eq_true_eq,Plc.mk.injEq]
theorem znu (x y:Plc) (w:World):Sem.run Tryz.prog (binOp .eql 64 (.agg #[.int .i64 x.doc,.int .i64 x.fld]) (.agg #[.int .i64 y.doc,.int .i64 y.fld])) w=.ok (.bool (decide (x=y))) w:=by
 rw[run_eql_struct,run_equalIn_agg (P:=Tryz.prog) w 9999 64 _ _ (by kernel_rfl) (by kernel_rfl),<-zim];simp[go_sem];by_cases h1:x.doc=y.doc<;>by_cases h2:x.fld=y.fld<;>simp[h1,h2]
theorem znv (x y:Plc) (w:World):Sem.run Tryz.prog (binOp .neq 64 (.agg #[.int .i64 x.doc,.int .i64 x.fld]) (.agg #[.int .i64 y.doc,.int .i64 y.fld])) w=.ok (.bool (!decide (x=y))) w:=by
 rw[run_neq_struct,run_equalIn_agg (P:=Tryz.prog) w 9999 64 _ _ (by kernel_rfl) (by kernel_rfl),<-zim];simp[go_sem];by_cases h1:x.doc=y.doc<;>by_cases h2:x.fld=y.fld<;>simp[h1,h2]
theorem znw (op:BinOp) (a b:Operand) (x y:Plc) (w:World):Sem.run Tryz.prog (eqGuard op 64 a b (.agg #[.int .i64 x.doc,.int .i64 x.fld]) (.agg #[.int .i64 y.doc,.int .i64 y.fld])) w=.ok () w:=run_eqGuard_agg _ _ _ _ _ _ _ (by kernel_rfl)
theorem znx (d:Array Plc) (i:Nat) (x:Plc) (hi:i<d.size):setMany (flatK plV 2 d) (i*2) (plV x)=flatK plV 2 (d.setIfInBounds i x):=by
 refine ext_get! (by simp) fun t ht=>?_
 have ht':t<d.size*2:=by simpa using ht
 rw[get_setMany _ _ _ t (by simpa using ht'),get_flatK _ _ _ t ht',get_flatK _ _ _ t (by simpa using ht'),zil];by_cases a:t/2=i
 ·rw[if_pos (by omega),show t-i*2=t % 2 by omega,a]
  simp[hi]
 ·rw[if_neg (by omega)]
  congr 2;rw[getElem!_pos d _ (by omega),getElem!_pos (d.setIfInBounds i x) _ (by simp;omega),Array.getElem_setIfInBounds,if_neg (Ne.symm a)]
theorem zny {w wr:World} {n blk off:Nat} {dk:Array Plc} {i:Nat} (hi:i<dk.size) (hwr:wr=putRowK plV 2 (Sort.ahead w n) blk off dk) (x:Plc):wr.setCells blk (off+i*2) (plV x)=putRowK plV 2 (Sort.ahead w n) blk off (dk.setIfInBounds i x):=by
 subst hwr;unfold putRowK;rw[setCells_putRow _ _ _ _ _ _ (by rw[zil,size_flatK];omega),znx _ _ _ hi]
theorem kE {W:World} {blk off:Nat} {d:Array Plc} (h:HoldsK plV 2 W blk off d) {i:Nat} (hi:i<d.size):
  W.cell? ⟨blk,off+i*2,none⟩=some (.int .i64 d[i]!.doc)/\W.cell? ⟨blk,off+i*2+1,none⟩=some (.int .i64 d[i]!.fld):=by
 have h0:=(h.cell (c:=0) hi (by decide)).1;have h1:=(h.cell (c:=1) hi (by decide)).1;exact⟨h0,h1⟩
theorem znz: ∀w,(zeroValue 64).run Tryz.prog w=.ok (.agg #[.int .i64 0,.int .i64 0]) w:=by
 intro w;simp[go_sem]
theorem znA (w:World) (ty:TypeId) (b o n c:Nat) (hn:0<n)
  (hc: ∀j,j<n*2->(w.cell? ⟨b,o+j,none⟩).isSome=true) (hf: ∀j,j<n*2->w.frozen? ⟨b,o+j,none⟩=false):
  (Builtin.clear_ #[31] ty #[.slice (some ⟨b,o,none⟩) n c]).run Tryz.prog w=.ok (.tuple #[]) (w.setCells b o (List.replicate (n*2) (.int .i64 0))):=by
 have hzc:(Builtin.zeroCells #[.int .i64 0,.int .i64 0] n).toList=List.replicate (n*2) (.int .i64 0):=by
  simp[Builtin.zeroCells];apply Xc
  ·simp[Nat.mul_comm]
  ·intro i h1 h2
   simp;rcases Nat.mod_two_eq_zero_or_one i with h|h<;>simp[h]
 have hst:=run_storeCells_cells (P:=Tryz.prog) b o (List.replicate (n*2) (.int .i64 0)) 0 w (by simpa using hc) (by simpa using hf) (by intro v hv';rw[List.eq_of_mem_replicate hv'];rfl);simp only[Yk] at hst;obtain⟨m,rfl⟩: ∃m,n=m+1:=⟨n-1,by omega⟩;simp only[Builtin.clear_];simp[go_sem,run_underlying Tryz.underlying31,znz,hzc,hst,Value.cells]
theorem zqF {α:Type} [Inhabited α] (d:Array α):(List.range d.size).map (d[·]!)=d.toList:=by
 apply Xc
 ·simp
 ·intro i h1 h2
  simp at h1;simp[h1]
theorem znB (blk off cap:Nat) (d:Array Plc) (w:World) (hH:HoldsK plV 2 w blk off d) (hsz:d.size<=100000000000000) (hcap:d.size<=cap):
  Calls Tryz.prog 74 #[.slice (some ⟨blk,off,none⟩) d.size cap] w fun e w'=>e=.returned (.slice (some ⟨blk,off,none⟩) (compactUpTo d d.size).length cap)/\(compactUpTo d d.size).length<=d.size/\ ∃(q:Nat) (F:Array Value),F.size=d.size*2/\(∀j,j<(compactUpTo d d.size).length*2->F[j]! =(flatK plV 2 (compactUpTo d d.size).toArray)[j]!)/\w'=putRow id (Sort.ahead w q) blk off F:=by
 have same: ∀q,(∀j,j<d.size->keeps d j=true)->(compactUpTo d d.size).length=d.size/\w.drewN q=putRow id (Sort.ahead w q) blk off (flatK plV 2 d)/\ ∀j,j<(compactUpTo d d.size).length*2->(flatK plV 2 d)[j]! =(flatK plV 2 (compactUpTo d d.size).toArray)[j]! :=by
  intro q hall;have e:compactUpTo d d.size=d.toList:=by rw[compactUpTo_all d _ hall];exact zqF d
  rw[e];exact⟨by simp,(putRowK_self plV 2 (Sort.ahead w q) blk off d (holdsK_ahead plV 2 w q blk off d hH)).symm,fun j _=>by simp⟩
 have HS:Aside (∀q,(∀j,j<d.size->keeps d j=true)->(compactUpTo d d.size).length=d.size/\w.drewN q=putRow id (Sort.ahead w q) blk off (flatK plV 2 d)/\ ∀j,j<(compactUpTo d d.size).length*2->(flatK plV 2 d)[j]! =(flatK plV 2 (compactUpTo d d.size).toArray)[j]!):=same;clear same;have heq':=znu;have hne':=znv;have hgd':=znw;have mixed:Tryz.prog.follows Departure.mixedOrders=true:=by kernel_rfl
 have HH:Aside (HoldsK plV 2 w blk off d):=hH;clear hH;by_cases h2:d.size<2
 ·go_enter Tryz.func74,Tryz.ntmps74
  go_wp2
  go_ret
  obtain⟨e1,e2,e3⟩:=HS.out 0 (fun j hj=>keeps_lt_one d j (by omega));exact⟨by rw[e1];rfl,by omega,0,_,by simp,e3,e2⟩
 ·go_enter Tryz.func74,Tryz.ntmps74
  go_wp2
  go_loopg [3] d.size (fun g s3 wr=> ∃k q:Nat,1<=k/\k<=d.size/\d.size-k<=g/\s3=.int .i64 k/\wr=w.drewN q/\ ∀j,j<k->keeps d j=true)
  case atStart=>exact⟨1,0,Zs _,by omega,by omega,rfl,rfl,keeps_lt_one d⟩
  case round=>
   obtain⟨k,q,hk1,hk,hg,rfl,rfl,hall⟩:=hrel;by_cases hlt:k<d.size
   ·obtain⟨c1,f1⟩:=kE HH.out hlt
    obtain⟨c0,f0⟩:=kE HH.out (show k-1<d.size by omega);have A:Aside (∀j,j<k->keeps d j=true):=hall;clear hall;obtain⟨x,hx⟩: ∃x,d[k]! =x:=⟨_,rfl⟩;obtain⟨y,hy⟩: ∃y,d[k-1]! =y:=⟨_,rfl⟩;rw[hx] at c1 f1;rw[hy] at c0 f0;have B:Aside (d[k]! =x/\d[k-1]! =y):=⟨hx,hy⟩;clear hx hy;by_cases hdup:x=y
    ·subst hdup
     go_wp2_with fail
     go_region_o
     go_wp2
     clear c0 c1 f0 f1
     go_loopg [3,5] d.size (fun g s3 s5 wr=> ∃(kk k2 q2:Nat) (dk:Array Plc),s3=.int .i64 kk/\s5=.int .i64 k2/\1<=k2/\k+k2<=d.size/\d.size-(k+k2)<=g/\wr=putRowK plV 2 (Sort.ahead w q2) blk off dk/\CompInv d (k+k2) kk dk)
     case atStart=>exact⟨k,1,q+1,d,rfl,rfl,Zs _,by omega,by omega,(putRowK_self plV 2 (Sort.ahead w (q+1)) blk off d (holdsK_ahead plV 2 w (q+1) blk off d HH.out)).symm,CompInv.start A.out (keeps_neg (by omega) (by rw[B.out.1,B.out.2]))⟩
     case round=>
      obtain⟨kk,k2,q2,dk,rfl,rfl,h1,hle,hg2,hwr,hI⟩:=hrel;have hkk:=hI.lt;have hds:=hI.size;have hHk:HoldsK plV 2 wr blk off dk:=by rw[hwr];exact holdsK_putRowK plV 2 _ blk off d dk (holdsK_ahead plV 2 w q2 blk off d HH.out) hds
      have W2:Aside (wr=putRowK plV 2 (Sort.ahead w q2) blk off dk):=hwr;have I2:Aside (CompInv d (k+k2) kk dk):=hI;clear hwr;by_cases hlt2:k+k2<d.size
      ·obtain⟨cm,cm'⟩:=kE hHk (show k+k2<dk.size by omega)
       obtain⟨cp,cp'⟩:=kE hHk (show k+k2-1<dk.size by omega);rw[hI.high (k+k2) (by omega),show off+(k+k2)*2=off+k*2+k2*2 by omega] at cm cm';rw[hI.high (k+k2-1) (by omega),show off+(k+k2-1)*2=off+k*2+(k2-1)*2 by omega] at cp cp';obtain⟨ck,ck'⟩:=kE hHk (show kk<dk.size by omega);have fk:=(hHk.cell (c:=0) (show kk<dk.size by omega) (by decide)).2;have fk':=(hHk.cell (c:=1) (show kk<dk.size by omega) (by decide)).2;rw[Yk] at fk;have ne1:(⟨blk,off+kk*2,none⟩:Addr)≠⟨blk,off+kk*2+1,none⟩:=by intro h;injection h;omega
       have ck2: ∀x,(wr.setCell ⟨blk,off+kk*2,none⟩ x).cell? ⟨blk,off+kk*2+1,none⟩=some (.int .i64 dk[kk]!.fld):=fun x=>(World.cell?_setCell_other _ _ _ _ ne1).trans ck'
       clear hHk hI;obtain⟨u,hu⟩: ∃u,d[k+k2]! =u:=⟨_,rfl⟩;obtain⟨v,hv⟩: ∃v,d[k+k2-1]! =v:=⟨_,rfl⟩;rw[hu] at cm cm';rw[hv] at cp cp';have C:Aside (d[k+k2]! =u/\d[k+k2-1]! =v):=⟨hu,hv⟩;clear hu hv;by_cases huv:u=v
       ·subst huv
        go_wp2_with fail
        go_region_o
        go_wp2
        go_roundg (d.size-(k+(k2+1)))
        case measure=>omega
        case rel=>exact⟨kk,k2+1,q2+1,dk,rfl,by go_num,by omega,by omega,Zs _,by rw[W2.out];rfl,I2.out.skip (keeps_neg (by omega) (by rw[C.out.1,C.out.2]))⟩
       ·go_wp2_with fail
        go_region_o
        go_wp2
        go_roundg (d.size-(k+(k2+1)))
        case measure=>omega
        case rel=>exact⟨kk+1,k2+1,q2+1,dk.setIfInBounds kk u,by go_num,by go_num,by omega,by omega,Zs _,by
         have:=zny (i:=kk) (by omega) W2.out u
         simp only[plV,World.setCells] at this
         rw[this];rfl,by have:=I2.out.keep hlt2 (keeps_pos (by rw[C.out.1,C.out.2];exact huv));rwa [C.out.1] at this⟩
      ·have hend:k+k2=d.size:=by omega
       have hcl: ∀ty,(Builtin.clear_ #[31] ty #[.slice (some ⟨blk,off+kk*2,none⟩) (d.size-kk) (cap-kk)]).run Tryz.prog wr=.ok (.tuple #[]) (wr.setCells blk (off+kk*2) (List.replicate ((d.size-kk)*2) (.int .i64 0))):=
        fun ty=>znA wr ty blk (off+kk*2) _ _ (by omega) (fun j hj=>by rw[show off+kk*2+j=off+(kk*2+j) by omega,(hHk (kk*2+j) (by simp;omega)).1];rfl) (fun j hj=>by rw[show off+kk*2+j=off+(kk*2+j) by omega];exact(hHk (kk*2+j) (by simp;omega)).2)
       clear hHk hI
       go_wp2
       go_ret
       have hI:=I2.out;rw[hend] at hI;refine⟨by rw[hI.len];rfl,by rw[hI.len];omega,q2,setMany (flatK plV 2 dk) (kk*2) (List.replicate ((d.size-kk)*2) (.int .i64 0)),by simp;omega,fun j hj=>?_,?_⟩
       ·rw[hI.len] at hj
        rw[get_setMany _ _ _ _ (by simp;omega),if_neg (by omega),get_flatK _ _ _ _ (by omega),get_flatK _ _ _ _ (by simp;rw[hI.len];exact hj)];congr 2;have hlo:=hI.low (j/2) (by omega);have hj2:j/2<(compactUpTo d d.size).length:=by rw[hI.len];omega
        rw[Zh hj2] at hlo;rw[getElem!_pos (compactUpTo d d.size).toArray (j/2) (by simpa using hj2)];simpa using(Yj hlo).symm
       ·rw[W2.out]
        unfold putRowK;rw[setCells_putRow _ _ _ _ _ _ (by simp;omega)]
    ·go_wp2_with fail
     go_region_o
     go_wp2
     go_roundg (d.size-(k+1))
     case measure=>omega
     case rel=>
      refine⟨k+1,q+1,by omega,by omega,Zs _,by go_num,rfl,fun j hj=>?_⟩;by_cases e:j=k
      ·subst e
       exact keeps_pos (by rw[B.out.1,B.out.2];exact hdup)
      ·exact A.out j (by omega)
   ·have:k=d.size:=by omega
    subst this
    go_wp2
    go_ret
    obtain⟨e1,e2,e3⟩:=HS.out q hall;exact⟨by rw[e1];rfl,by omega,q,_,by simp,e3,e2⟩
end Go.Proofs
set_option maxRecDepth 100000
set_option maxHeartbeats 4000000
namespace Go.Proofs
open Go.RowKit Go.Lib Go.Sort Go.Ex
theorem znC (p:Option Addr) (cap:Nat) (w:World):Calls Tryz.prog 74 #[.slice p 0 cap] w fun e w'=>e=.returned (.slice p 0 cap)/\w'=w:=by
 go_enter Tryz.func74,Tryz.ntmps74
 go_wp2
 go_ret
 exact⟨rfl,rfl⟩
end Go.Proofs
namespace Go.Abs
open Go.Sort Go.Proofs Go.Shelf Go.Lib Go.RowKit Go.Ex
theorem znD: ∀L:List Plc,uK L=compact L:=by
 intro L;rw[znt];have key: ∀(l:List Plc) (a:Plc),uK (a::l)=a::cfG a l:=by
  intro l
  induction l with
  |nil=>intro a;rfl
  |cons b l ih=>
   intro a;rw[uK,cfG];by_cases h:a=b
   ·subst h;rw[if_pos rfl,if_pos rfl,ih]
   ·rw[if_neg h,if_neg h,ih]
 cases L with
 |nil=>rfl
 |cons a l=>rw[key,gO]
theorem c74 (τ:Nat) (L:List Plc) (hm:L.length<=100000000000000):wB Tryz.prog 74 [.k (.own τ)] (zK 64 2 τ (pls L)) [] (fun r o'=>r=.k (.own τ)/\o'=zK 64 2 τ (pls (uK L))):=by
 refine⟨rH (by kernel_rfl),fun w0 Z0 κ w vs hsz hi=>?_⟩;obtain⟨v,rfl⟩:=zlu hsz;have ho:(zK 64 2 τ (pls L)) τ=some (.arr 64 2 none (pls L)):=by simp[zK]
 have hno: ∀s,s≠τ->zK 64 2 τ (pls L) s=none:=fun s hs=>by simp[zK,hs]
 have hob:=hi.objs τ _ ho;have htm:zD w (Zof w0 Z0 κ (zK 64 2 τ (pls L)) w) κ (zK 64 2 τ (pls L)) (.k (.own τ)) v:=by simpa using hi.tmps 0
 rcases hob with⟨hκ,hrows,_⟩|⟨b,cur,cap,hκ,hheap,h0,hcs,hlen,hcap,_,hall,hrr⟩
 ·have hl0:L=[]:=by simpa [pls] using hrows
  subst hl0;have hv:v=.slice none 0 0:=by
   rcases htm.2 64 2 none _ ho with⟨_,hv⟩|⟨b,_,_,hb,_⟩
   ·exact hv
   ·rw[hκ] at hb;cases hb
  subst hv;refine(znC none 0 w).mono ?_;rintro ex w' ⟨rfl,hw⟩;rw[hw];have hI:=hi.moveG (τ:=τ) (d:=0) (ob:=.arr 64 2 none (pls [])) (v:=.k (.own τ)) (u:=.slice none 0 0) (bo:=none) (w':=w) ho (by simp) rfl rfl rfl (Zs _) (fun _ _ _=>rfl) (fun b hb=>by cases hb)
   (fun Z _=> .inl ⟨by simp,rfl,by simp⟩) ⟨rfl,fun _ _ _ _ _=> .inl ⟨by simp,rfl⟩⟩
  rw[zgQ _ _ hno] at hI;exact⟨.slice none 0 0,_,.k (.own τ),_,rfl,⟨rfl,rfl⟩,fun s hs=>by simp at hs,hI⟩
 ·rw[uY] at hlen
  obtain⟨cap',hv,hcap'⟩: ∃cap',v=.slice (some ⟨b,0,none⟩) L.length cap'/\cur.size=cap'*2:=by
   rcases htm.2 64 2 none _ ho with⟨hn,_⟩|⟨b',cur',cap',hb,hh,hc2,hv⟩
   ·rw[hκ] at hn;cases hn
   ·rw[hκ] at hb;cases hb
    rw[hheap] at hh;cases hh;exact⟨cap',by simpa [uY] using hv,hc2⟩
  subst hv;have hlt:b<w.heap.size:=xV hheap;have hcell: ∀(i:Nat) (h:i<L.length) (j:Nat),j<2->cur[i*2+j]?=some (plV L[i])[j]! :=by
   intro i h j hj;have hr:(pls L)[i]?=some (sU L[i]):=by simp[pls,h]
   match j,hj with
   |0,_=>
    obtain⟨u,hu,hp⟩:=hrr i 0 _ _ hr rfl;rw[vB hp] at hu;exact hu
   |1,_=>
    obtain⟨u,hu,hp⟩:=hrr i 1 _ _ hr rfl;rw[vB hp] at hu;exact hu
  have hH:HoldsK plV 2 w b 0 L.toArray:=by
   refine zib hheap (by simp;omega) fun t ht=>?_
   have ht':t<L.length*2:=by simpa using ht
   rw[get_flatK _ _ _ _ (by simpa using ht')];have:=hcell (t/2) (by omega) (t % 2) (by omega);rw[show t/2*2+t % 2=t by omega] at this;rw[this,getElem!_pos L.toArray _ (by simp;omega)];simp
  have hcon:=znB b 0 cap' L.toArray w hH (by simpa using hm) (by simp;omega);have e1:compactUpTo L.toArray L.toArray.size=uK L:=by rw[znD];rfl
  rw[e1] at hcon;rw[show L.toArray.size=L.length from rfl] at hcon;refine hcon.mono ?_;rintro ex w' ⟨rfl,hle,q,F,hF,hFc,rfl⟩;have hh2:=zic (w:=w) (n:=q) (os:= #[]) F hheap;have hg:=gM (w:=w) (g:=b) (n:=q) (os:= #[]) F;rw[grow_empty] at hh2 hg;have hsz2:(putCells id 0 F cur).size=cur.size:=by simp[putCells]
  obtain⟨g1,g2,g3,g4,g5⟩:=hg;have hI:=hi.moveG (τ:=τ) (d:=0) (ob:=.arr 64 2 none (pls (uK L))) (v:=.k (.own τ)) (u:=.slice (some ⟨b,0,none⟩) (uK L).length cap') (bo:=some b) (w':=putRow id (Sort.ahead w q) b 0 F) ho (by simp) g1 g2 g3 g4
   (fun k hk hne=>g5 k hk (by rw[hκ] at hne;exact fun h=>hne (by cases h;rfl))) (fun b' hb=> .inr (by cases hb;exact hκ))
   (fun Z _=> .inr ⟨b,_,cap,by simp,hh2,by omega,by rw[hsz2];exact hcs,by rw[uY];omega,hcap,by simp,fun r hr=>by obtain⟨x,_,rfl⟩:=ZS.1 hr;rfl,fun i j r c hr hcj=>?_⟩) (by
    refine⟨rfl,fun e2 sz2 nl2 rows2 h2=>?_⟩
    simp[St.put,St.setO] at h2
    obtain⟨rfl,rfl,rfl,rfl⟩:=h2
    exact .inr ⟨b,_,cap',by simp,hh2,by rw[hsz2];exact hcap',by simp[uY]⟩)
  ·rw[zgQ _ _ hno] at hI
   exact⟨_,_,.k (.own τ),_,rfl,⟨rfl,rfl⟩,fun s hs=>by simp at hs,hI⟩
  ·have hi':i<(uK L).length:=by have:=(Zr.1 hr).1;rwa [uY] at this
   have hr':r=sU (uK L)[i]:=by simp[pls,hi'] at hr;exact hr.symm
   subst hr';have hj:j<2:=(Zr.1 hcj).1;have hfc:=hFc (i*2+j) (by omega);rw[get_flatK _ _ _ _ (by simp;omega),show(i*2+j)/2=i by omega,show(i*2+j) % 2=j by omega,getElem!_pos (uK L).toArray i (by simpa using hi')] at hfc;have hcs2:i*2+j<cur.size:=by omega
   have hfs:i*2+j<F.size:=by omega
   refine⟨F[i*2+j]!,?_,?_⟩
   ·simp only[putCells]
    rw[Array.getElem?_mapIdx,Z8 hcs2];simp only[Yq,ZB,true_and,ZU,hfs,if_true,XE,id]
   ·rw[hfc]
    match j,hj with
    |0,_=>cases hcj;exact .int _ _
    |1,_=>cases hcj;exact .int _ _
theorem znE {P:Program} {f d τ e k:Nat} {xs:List AX} {K:KK} {ts:TS} {os:OS} {nl:Option Bool} {X:Prop} {rows rows':List (List C)} (rows0:List (List C))
  (hs:wB P f [.k (.own τ)] (zK e k τ rows) [] (fun r o'=>r=.k (.own τ)/\o'=zK e k τ rows')) (ho:lookO τ os=some (.arr e k nl rows0)) (hn:C.normRows rows0=rows)
  (hk:K (insT d (.k (.own τ)) (mapT (V.scrub τ) ts)) (insO τ (.arr e k none rows') (mapO (O.scrub τ) os))):X\/lC P f [.k (.own τ)] xs K (some d) ts os:=by
 refine .inr (.inl ?_);refine⟨[τ],[],[τ],fun r o'=>r=.k (.own τ)/\o'=zK e k τ rows',by simp[V.within,Abs.K.within],rfl,?_,fun s hs=> .inr hs,?_,?_⟩
 ·intro s hs ob hob
  simp only[ZX] at hs;subst hs;rw[ho] at hob;cases hob;rfl
 ·have e1:(yE [τ] fun s=>(lookO s os).map O.nrm)=zK e k τ rows:=by
   funext s;by_cases h:s=τ
   ·subst h
    simp[yE,ho,zK,O.nrm,hn]
   ·simp[yE,zK,h]
  rw[e1];exact hs
 ·rintro r o' ⟨rfl,rfl⟩
  refine⟨fun s hs=>by simp at hs;simp[zK,hs],by simp[V.within,Abs.K.within],fun s ob h=>?_,?_⟩
  ·unfold zK at h
   split at h
   ·cases h;rfl
   ·cases h
  ·have e2:(mkS ts os).back [τ] [τ] (zK e k τ rows')=mkS (mapT (V.scrub τ) ts) (insO τ (.arr e k none rows') (mapO (O.scrub τ) os)):=by
    simp only[St.back,mkS,St.mk.injEq];refine⟨by funext s;rw[nQ _ rfl];rfl,?_⟩;funext s;rw[mY];by_cases h:s=τ
    ·subst h;simp[zK]
    ·simp only[List.contains_cons,List.contains_nil,Bool.or_false,beq_iff_eq,h,if_false,lA]
     cases lookO s os<;>rfl
   show onS K (((mkS ts os).back [τ] [τ] (zK e k τ rows')).put d (.k (.own τ)));rw[e2,tF];exact yX hk
end Go.Abs
set_option maxRecDepth 100000
set_option maxHeartbeats 8000000
namespace Go.Abs
open Go.Sort Go.Proofs Go.Shelf Go.Lib Go.RowKit Go.Wd Go.Wire Go.Ex
theorem zin {P:Program} {f d τ g e k:Nat} {xs:List AX} {K:KK} {ts:TS} {os:OS} {nl:Option Bool} {X:Prop} {β:Type} {encR:β->List C} {Q:List β->Prop} (rows0:List (List C)) (ks:List β)
  (hs:wB P f [.k (.own τ),.k (.c (.fn g []))] (zK e k τ (ks.map encR)) [τ] (fun r o'=>r=.tup []/\ ∃out,Q out/\o'=zK e k τ (out.map encR))) (ho:lookO τ os=some (.arr e k nl rows0)) (hn:C.normRows rows0=ks.map encR)
  (hk: ∀out,Q out->K (insT d (.tup []) ts) (insO τ (.arr e k none (out.map encR)) os)):X\/lC P f [.k (.own τ),.k (.c (.fn g []))] xs K (some d) ts os:=by
 refine .inr (.inl ?_);refine⟨[τ],[τ],[],fun r o'=>r=.tup []/\ ∃out,Q out/\o'=zK e k τ (out.map encR),by simp[V.within,Abs.K.within],rfl,?_,fun s hs=> .inl hs,?_,?_⟩
 ·intro s hs ob hob
  simp only[ZX] at hs;subst hs;rw[ho] at hob;cases hob;rfl
 ·have e1:(yE [τ] fun s=>(lookO s os).map O.nrm)=zK e k τ (ks.map encR):=by
   funext s;by_cases h:s=τ
   ·subst h
    simp[yE,ho,zK,O.nrm,hn]
   ·simp[yE,zK,h]
  rw[e1];exact hs
 ·rintro r o' ⟨rfl,out,hQ,rfl⟩
  refine⟨fun s hs=>by simp at hs;simp[zK,hs],rfl,fun s ob h=>?_,?_⟩
  ·unfold zK at h
   split at h
   ·cases h;rfl
   ·cases h
  ·have e2:(mkS ts os).back [τ] [] (zK e k τ (out.map encR))=mkS ts (insO τ (.arr e k none (out.map encR)) os):=by
    simp only[St.back,mkS,St.mk.injEq];refine⟨by funext s;rfl,?_⟩;funext s;rw[mY];by_cases h:s=τ
    ·subst h;simp[zK]
    ·simp only[List.contains_cons,List.contains_nil,Bool.or_false,beq_iff_eq,h,if_false]
     cases lookO s os<;>rfl
   show onS K (((mkS ts os).back [τ] [] (zK e k τ (out.map encR))).put d (.tup []));rw[e2,tF];exact yX (hk out hQ)
theorem zio (m:Dmd): ∀(l:List Pln) (i:Nat),(∀p∈l,PlnS p)->(tJ m l i).length<=l.length*1000000
 |[],_,_=>by simp[tJ]
 |p::l,i,h=>by
  rw[tJ,Zu,Zn,Xi];have h1:=zio m l (i+1) fun q hq=>h q (Zz _ hq)
  have h2:=(h p (by simp)).ns;have h3:(mE m p i).length<=p.names.length:=by
   unfold mE;rw[Zg];exact ZY (Y0 _ _) (by simp)
  omega
theorem zip (m:Dmd) (l:List Pln) (hl:vE l):(uX m l).length<=1000000000000:=by
 unfold uX;split
 ·simp
 ·have:=zio m l 0 hl.2
  have h:=hl.1;omega
theorem ziq (m:Dmd): ∀(l:List Pln) (i:Nat),(∀p∈l,PlnS p)-> ∀x∈tJ m l i,(i:Int)<=x.doc/\x.doc<i+l.length/\0<=x.fld/\x.fld<1000000
 |[],_,_,x,hx=>by simp[tJ] at hx
 |p::l,i,h,x,hx=>by
  rw[tJ,YI] at hx;rcases hx with hx|hx
  ·unfold mE at hx
   obtain⟨k,hk,rfl⟩:=ZS.1 hx;have hk:=Yc.1 (Yl.1 hk).1;have h2:=(h p (by simp)).ns;simp only[Zn];omega
  ·have:=ziq m l (i+1) (fun q hq=>h q (Zz _ hq)) x hx
   simp only[Zn];omega
theorem znF (m:Dmd) (l:List Pln) (hl:vE l): ∀x∈uX m l,gN x:=by
 intro x hx;unfold uX at hx;split at hx
 ·cases hx
 ·have:=ziq m l 0 hl.2 x hx
  have h:=hl.1;unfold gN;omega
def rawP (L:List Dmd) (which:List Nat) (l:List Pln) (i:Nat):List Plc:=((which.take i).map fun k=>uX (L.getD k yZ) l).flatten
theorem zir (L:List Dmd) (which:List Nat) (l:List Pln) {i:Nat} (h:i<which.length):rawP L which l (i+1)=rawP L which l i++uX (L.getD which[i] yZ) l:=by
 unfold rawP;rw[ZQ h,ZW,List.flatten_append,List.map_singleton,YE,List.flatten_nil,Zk]
theorem aI (L:List Dmd) (which:List Nat) (l:List Pln) (hl:vE l): ∀i,(rawP L which l i).length<=i*1000000000000
 |0=>by simp[rawP]
 |i+1=>by
  have ih:=aI L which l hl i;by_cases h:i<which.length
  ·rw[zir _ _ _ h,Zu,Xi]
   exact Nat.add_le_add ih (zip (L.getD which[i] yZ) l hl)
  ·have:rawP L which l (i+1)=rawP L which l i:=by unfold rawP;rw[Z6 (by omega),Z6 (by omega)]
   rw[this,Xi];exact ZY ih (Nat.le_add_right _ _)
theorem c34 (L:List Dmd) (which:List Nat) (p:List Pln) (hL:L.length<=1000000) (hw:which.length<=8) (hk: ∀k∈which,k<L.length) (hp:vE p):Spec Tryz.prog 34 [lst 8 (L.map zQ),lst 1 (zM (natI which)),lst 3 (p.map yM)] (fun v=>v=lst 2 (pls (xU L which p))):=by
 refine Spec.of_awlP hf34 okf34 (by simp) fun S hS=>?_
 have hwl:(natI which).length=which.length:=uD which;simp only[yL,hwl,Qs,bne_iff_ne,ne_eq,Zd,Zt,Za,Ψ34];rw[uu f34l15.eq_1];refine yA (fun x:Nat×Option Bool=>[(0,lst 8 (L.map zQ)),(2,lst 3 (p.map yM)),(7,.k (.own 7)),(10,lst 1 (zM (natI which))),(11,.int .i64 which.length),(12,.int .i64 x.1)]) (fun x=>[(7,.arr 64 2 x.2 (pls (rawP L which p x.1)))]) (fun x=>x.1<=which.length) (fun x=>which.length-x.1) (0,some true) rfl rfl (ZB _) ?_;rintro⟨i,nl⟩ hi;simp only[] at hi;have hrl:=aI L which p hp i;by_cases hlt:i<which.length
 ·have d1:(i:Int)<which.length:=by omega
  have c4:IntKind.i64.wrap ((i:Int)+1)=(i:Int)+1:=wrap_in (by omega) (by omega);have hat:(zM (natI which)).getD i []=[.int .i64 (which[i]:Int)]:=by simp[zM,natI,hlt]
  have hki:=hk _ (Zy hlt);have hs:=zir L which p hlt;have hd:=gL hki;generalize which[i]=k at hat hki hs hd;have d2:(0:Int)<=(k:Int)/\(k:Int)<L.length:=⟨by omega,by omega⟩;have g1:=c16 (L.getD k yZ) p hp;have hl1:=zip (L.getD k yZ) p hp;generalize L.getD k yZ=m at hs hd g1 hl1;unfold zQ at g1;simp only[d1,d2,hat,hd,hwl,yL,zI,Yf,Qs,Za,Zg,Ψ34];refine xI g1 ?_ (ha:=by simp only[Zl,Zq,zB,V.norm,C.norm,yG sQ,C.normRow]<;>rfl);simp only[c4,uY,Qs,Za,zlC];have hb:(rawP L which p i).length+(uX m p).length<=8000000000000:=by
   rw[<-Zu,<-hs];exact ZY (aI L which p hp (i+1)) (ZT 1000000000000 (ZY hlt hw))
  have hpp:pls (rawP L which p i)++pls (uX m p)=pls (rawP L which p (i+1)):=by rw[hs];simp[pls]
  rw[hpp];generalize (rawP L which p i).length+(uX m p).length=q at hb;exact⟨ZY hb (by decide),ZY (ZT 16 hb) (by decide),Next.intro (i+1,nlApp nl (pls (uX m p))) rfl rfl (by simp only;omega) (by simp only;omega)⟩
 ·have d1: ¬(i:Int)<which.length:=by omega
  obtain rfl:i=which.length:=by omega
  simp only[d1,Qs,Za,Ψ34];have hall: ∀x∈rawP L which p which.length,gN x:=by
   intro x hx;unfold rawP at hx;obtain⟨l,hl,hx⟩:=List.mem_flatten.1 hx;obtain⟨k,_,rfl⟩:=ZS.1 hl;exact znF _ p hp x hx
  have hle:(rawP L which p which.length).length<=8000000000000:=ZY hrl (ZT 1000000000000 hw);have e:xU L which p=uK (sortO uA (rawP L which p which.length)):=by unfold xU rawP;rw[YN]
  rw[e] at hS;generalize rawP L which p which.length=R at hall hle hS;have g1:=c72 7 R (by omega) hall;have hsl:(sortO uA R).length=R.length:=(qD uA R).length_eq;have g2:=c74 7 (sortO uA R) (by omega);refine zin (Q:=fun out=>out=sortO uA R) (pls R) R (g1.mono fun r o ⟨h1,h2⟩=>⟨h1,_,rfl,h2⟩) rfl (rL _) ?_;rintro out rfl;simp only[Qs,Za,Ψ34];refine znE (pls (sortO uA R)) g2 rfl (rL _) ?_;simp only[Qs,ze3,ZV,Zx];refine hS _ ?_;simp only[V.fz,V.fzL,V.nrm,V.nrmL,rL,qB (rL _)]
end Go.Abs
