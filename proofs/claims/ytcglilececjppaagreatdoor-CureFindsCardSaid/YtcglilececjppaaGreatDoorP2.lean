/- A part of the proof; the last text states what is proved. -/
import Derived.Test.YtcglilececjppaaGreatDoorP1
import Derived.Deep.AppendSrc
import Derived.Deep.Upon
import Derived.Orders
import Derived.Shelf.Sort.Plain
import Derived.Shelf.Slices.CompactI
import Derived.Sort.OwnSortedInts
import Derived.Shelf.Slices.In.SortNone
import Derived.Shelf.Spec.SlicesGrow
import Derived.Shelf.Strconv.Itoa3
import Derived.Shelf.Strings.Cut
import Derived.Handed
import Derived.ChangeFn
import Derived.ChangeArms
import Derived.ChangeReads
import Derived.ReadAgain
import Derived.ChangeSame
import Derived.ChangeOld
import Derived.ChangeStays
import Derived.RowKit
import Derived.Test.YtcglilececjppaaGreatDoorProg
set_option linter.unusedVariables false
set_option linter.unusedSimpArgs false
set_option maxRecDepth 100000
set_option maxHeartbeats 8000000
open And renaming intro → Zx
open Array renaming eq_empty_of_size_eq_zero → YM,ext' → XQ,getD_eq_getD_getElem? → ZW,getElem?_append_left → Y2,getElem?_eq_getElem → Ya,getElem?_setIfInBounds → Yi,getElem?_toList → Yu,length_toList → Xt,replicate → YX,toArray_toList → ZR
open Bool renaming and_eq_true → Zr,and_false → YW,false_and → Z4,false_eq_true → Z1,or_eq_true → Yp,true_and → ZU,true_or → XC
open Function renaming comp → Y5
open List renaming all_cons → Yz,all_eq_false → YP,all_eq_true → ZA,all_map → Y4,any_eq_true → Yt,append_assoc → Z3,append_nil → Ze,cons_append → ZQ,contains_cons → Xl,drop_eq_nil_of_le → ZB,eq_nil_of_length_eq_zero → Yg,flatMap_cons → XR,flatten_cons → Yy,getD_eq_getElem?_getD → Zi,getElem?_append_left → ZL,getElem?_append_right → ZM,getElem?_drop → YJ,getElem?_eq_getElem → Zf,getElem?_eq_none → Xe,getElem?_eq_some_iff → Zu,getElem?_map → Zz,getElem?_of_mem → XL,getElem?_take → Z6,getElem?_toArray → Y3,getElem_mem → Zv,length_append → Zq,length_cons → Zo,length_map → Zg,length_nil → ZF,length_pos_iff → Ye,length_take → Yl,mapM_cons → YE,map_append → ZS,map_congr_left → Xj,map_cons → Zk,map_map → Xm,map_nil → Zp,mem_append → Yo,mem_cons → ZJ,mem_cons_of_mem → Zy,mem_cons_self → Yj,mem_flatMap → XU,mem_map → ZH,mem_of_getElem? → ZP,nil_append → Yd,range' → YF,range'_succ → Xo,size_toArray → Yx
open Nat renaming add_assoc → YK,add_comm → Y8,add_mul → YD,add_zero → Yf,eq_of_mul_eq_mul_right → XF,le_mul_of_pos_right → XK,le_of_not_lt → Xu,le_refl → Zw,le_trans → ZX,lt_of_lt_of_le → ZO,lt_or_ge → Y7,mod_lt → XE,mul_le_mul_right → ZZ,sub_zero → XG,zero_add → ZY,zero_le → ZC
open Option renaming bind_eq_bind → Zj,bind_eq_some_iff → Zb,bind_some → YG,getD_some → YZ,isSome_none → YT,isSome_some → Xq,map_eq_some_iff → Zd,map_some → YA,none_or → XN,pure_def → Zm
open Option.some renaming injEq → Zh
open Prod.mk renaming injEq → Xd
namespace Go.Abs
section
variable {P : Program} {w0 : Base} {w : World} {Z0 : Bk -> Prop} {κ : Kap} {σ : St} {a : Act}
def vB (w:World) (Z:Bk->Prop) (sz:Nat) (rows:List (List C)) (f:Nat->Option Value):Prop:=
 (∀r,r∈rows->r.length=sz)/\ ∀(i j:Nat) r c,rows[i]?=some r->r[j]?=some c-> ∃v,f (i*sz+j)=some v/\PRep w Z c v
theorem vB.nil (w:World) (Z:Bk->Prop) (sz:Nat) (f:Nat->Option Value):vB w Z sz [] f:=⟨by simp,by simp⟩
theorem vB.at {Z:Bk->Prop} {sz:Nat} {rows:List (List C)} {f:Nat->Option Value} (h:vB w Z sz rows f) (h0:0<sz) (k:Nat) (hk:k<rows.length*sz): ∃v c,f k=some v/\PRep w Z c v:=by
 have h1:k/sz<rows.length:=Nat.div_lt_of_lt_mul (by rwa [Nat.mul_comm]);have h2:k % sz<sz:=XE _ h0;have h3:(rows[k/sz]'h1).length=sz:=h.1 _ (Zv h1);obtain⟨v,hv,hp⟩:=h.2 (k/sz) (k % sz) (rows[k/sz]'h1) ((rows[k/sz]'h1)[k % sz]'(by omega)) (Zf h1) (Zf _);have:k/sz*sz+k % sz=k:=by rw[Nat.mul_comm];exact Nat.div_add_mod k sz
 rw[this] at hv;exact⟨v,_,hv,hp⟩
theorem vB.append {Z:Bk->Prop} {sz:Nat} {xs ys:List (List C)} {f g h:Nat->Option Value} (hf:vB w Z sz xs f) (hg:vB w Z sz ys g)
  (h1: ∀k,k<xs.length*sz->h k=f k) (h2: ∀k,k<ys.length*sz->h (xs.length*sz+k)=g k):vB w Z sz (xs++ys) h:=by
 have bd: ∀(l:List (List C)) (i j:Nat) r c,(∀r,r∈l->r.length=sz)->l[i]?=some r->r[j]?=some c->i*sz+j<l.length*sz:=by
  intro l i j r c hl hr hc;have hj:j<sz:=by rw[<-hl r (ZP hr)];exact(Zu.1 hc).1
  have hi:i<l.length:=(Zu.1 hr).1;have:(i+1)*sz<=l.length*sz:=ZZ _ hi;rw[YD] at this;omega
 refine⟨fun r hr=>?_,fun i j r c hr hc=>?_⟩
 ·rcases Yo.1 hr with hr|hr
  ·exact hf.1 r hr
  ·exact hg.1 r hr
 ·by_cases hi:i<xs.length
  ·rw[ZL hi] at hr
   rw[h1 _ (bd xs i j r c hf.1 hr hc)];exact hf.2 i j r c hr hc
  ·rw[ZM (by omega)] at hr
   have e:i*sz+j=xs.length*sz+((i-xs.length)*sz+j):=by
    have:i*sz=xs.length*sz+(i-xs.length)*sz:=by rw[<-YD];congr 1;omega
    omega
   rw[e,h2 _ (bd ys _ j r c hg.1 hr hc)];exact hg.2 _ j r c hr hc
theorem vB.mono {w':World} {Z Z':Bk->Prop} {sz:Nat} {rows:List (List C)} {f:Nat->Option Value} (h:vB w Z sz rows f) (hs:xY Z w w') (hz: ∀b,Z b->Z' b):vB w' Z' sz rows f:=
 ⟨h.1,fun i j r c hr hc=>let ⟨v,hv,hp⟩:=h.2 i j r c hr hc;⟨v,hv,hp.mono hs hz⟩⟩
theorem zrg {Z:Bk->Prop} {sz:Nat} {rows:List (List C)} {f:Nat->Option Value} (h:vB w Z sz rows f) (h0:0<sz):
  ∃news:List Value,news.length=rows.length*sz/\(∀k v,news[k]?=some v->f k=some v/\v.oneCell'=true)/\vB w Z sz rows (fun k=>news[k]?):=by
 refine⟨(List.range (rows.length*sz)).map fun k=>(f k).getD undef,by simp,fun k v hk=>?_,h.1,fun i j r c hr hc=>?_⟩
 ·simp only[Zz,Zd] at hk
  obtain⟨k',hk',rfl⟩:=hk;have hlt:k<rows.length*sz:=by have:=(Zu.1 hk').1;simpa using this
  rw[List.getElem?_range hlt] at hk';cases hk';obtain⟨v,c,hv,hp⟩:=h.at h0 k hlt;simp[hv,hp.oneCell]
 ·obtain⟨v,hv,hp⟩:=h.2 i j r c hr hc
  refine⟨v,?_,hp⟩;have hj:j<sz:=by rw[<-h.1 r (ZP hr)];exact(Zu.1 hc).1
  have hi:i<rows.length:=(Zu.1 hr).1;have hlt:i*sz+j<rows.length*sz:=by
   have:(i+1)*sz<=rows.length*sz:=ZZ _ hi;rw[YD] at this;omega
  simp[List.getElem?_range hlt,hv]
theorem zrh (hi:Inv w0 Z0 κ σ a.tmps w) {t e:TypeId} (ht:P.underlying t=some (.slice e)) {sz:Nat} (h0:0<sz) {y:Operand} {y':AX} (hy:ax y=some y') {Kp:List (List C)->Prop} (h:yC.srcP σ e sz y' Kp):
  ∃ys news,Kp ys/\Src P sz t (a.eval y) ys.length news w/\vB w (Zof w0 Z0 κ σ.o w) sz ys (fun k=>news[k]?):=by
 simp only[yC.srcP] at h;obtain⟨h,hv⟩:=yS hi hy h;generalize (y'.ev σ).strip.1=v at h hv;have mk: ∀(ys:List (List C)) b q cap,vB w (Zof w0 Z0 κ σ.o w) sz ys (fun k=>w.cell? ⟨b,q+k,none⟩)->a.eval y=.slice (some ⟨b,q,none⟩) ys.length cap->
   ∃news,Src P sz t (a.eval y) ys.length news w/\vB w (Zof w0 Z0 κ σ.o w) sz ys (fun k=>news[k]?):=by
  intro ys b q cap hc hv;obtain⟨news,hl,hn,hr⟩:=zrg hc h0;refine⟨news,?_,hr⟩;rw[hv];refine Src.ofSlice w ht _ _ cap news hl (fun j u hu=>?_) (fun u hu=>?_)
  ·rw[qQ];exact(hn j u hu).1
  ·obtain⟨j,hj⟩:=XL hu
   exact(hn j u hj).2
 split at h
 ·rename_i sz' nl rows
  obtain⟨h1,h2⟩:=h;rcases mX (hv rfl).2 with⟨rfl,hp,_⟩|⟨b,q,cap,hp,_,_,_,hl⟩|⟨rfl,a0,hp,_⟩
  ·exact⟨[],[],h2,by rw[hp];exact Src.ofNil w ht 0,vB.nil _ _ _ _⟩
  ·have hc:vB w (Zof w0 Z0 κ σ.o w) sz rows (fun k=>w.cell? ⟨b,q+k,none⟩):=by
    rcases h1 with rfl|rfl
    ·exact⟨hl.2.1,hl.2.2⟩
    ·exact vB.nil _ _ _ _
   obtain⟨news,hs,hr⟩:=mk rows b q cap hc hp;exact⟨rows,news,h2,hs,hr⟩
  ·exact⟨[],[],h2,by rw[hp];exact Src.ofSlice w ht _ _ 0 [] (by simp) (fun j u hu=>by simp at hu) (fun u hu=>by simp at hu),vB.nil _ _ _ _⟩
 ·rename_i τ
  split at h
  ·rename_i e' sz' nl rows ho
   obtain⟨rfl,h2⟩:=h;rcases hi.objs τ _ ho with⟨hκ,hr,hnl⟩|⟨b,cur,cap,hκ,hheap,_,hcs,hlen,hcap,hnl,hall,hrr⟩
   ·subst hr
    rcases(hv rfl).2 _ _ _ _ ho with⟨_,hp⟩|⟨b,_,_,hκ',_⟩
    ·exact⟨[],[],h2,by rw[hp];exact Src.ofNil w ht 0,vB.nil _ _ _ _⟩
    ·rw[hκ] at hκ';simp at hκ'
   ·rcases(hv rfl).2 _ _ _ _ ho with⟨hκ',_⟩|⟨b',cur',cap',hκ',hheap',hcs',hp⟩
    ·rw[hκ] at hκ';simp at hκ'
    ·obtain rfl:b=b':=by rw[hκ] at hκ';simpa using hκ'
     obtain⟨news,hs,hr⟩:=mk rows b 0 cap' ⟨hall,fun i j r c h1 h2=>by
      obtain⟨v,hv,hp⟩:=hrr i j r c h1 h2
      refine⟨v,?_,hp⟩
      show w.cell? ⟨b,0+(i*_+j),none⟩=some v
      rw[ZY,cell_of_row w b _ cur e' (0,0) hheap]
      exact hv⟩ hp
     exact⟨rows,news,h2,hs,hr⟩
  ·exact h.elim
 ·exact h.elim
theorem run_append_room_row (t tx ty e:TypeId) (i:TypeInfo) (ht:P.underlying t=some (.slice e)) (hi:P.info? e=some i) (b sLen sCap:Nat) (cur:Array Value) (hh:w.heap[b]?=some (.cells cur e (0,0))) (x:Value) (n:Nat) (news:List Value) (hs:Src P i.size tx x n news w)
  (hroom:sLen+n<=sCap) (hc:cur.size=sCap*i.size):
  (Builtin.append_ #[t,tx] ty #[.slice (some ⟨b,0,none⟩) sLen sCap,x]).run P w=.ok (.slice (some ⟨b,0,none⟩) (sLen+n) sCap) (w.setRow b (cur.toList.take (sLen*i.size)++news++cur.toList.drop (sLen*i.size+news.length)).toArray):=by
 have hle:sLen*i.size+news.length<=cur.size:=by
  rw[hc,hs.newsLen,<-YD];exact ZZ _ hroom
 have hst:=run_storeCells_at P b (sLen*i.size) e news 0 cur w hh (by omega) hs.one;simp only[Yf] at hst;rcases hs.kind with⟨e',hk⟩|hk<;>simp[Builtin.append_,run_underlying ht,run_underlying hk,sizeOf,typeInfo,hi,hs.len,hroom,hs.cells,Addr.add_lit,hst]
theorem dF {nl:Option Bool} {ys:List (List C)} (h:nl≠some true\/ys≠[]):nlApp nl ys≠some true:=by
 cases ys<;>simp_all [nlApp]
theorem zri (hi:Inv w0 Z0 κ σ a.tmps w) {t ty e d:Nat} (hd:d<a.tmps.size) (ht:P.underlying t=some (.slice e)) {i:TypeInfo} (hinfo:P.info? e=some i) {z:Value} (hz:i.zero=some z) (h0:0<i.size) (hzs:z.cells.size=i.size)
  {x y:Operand} {x' y':AX} (hx:ax x=some x') (hy:ax y=some y') {Kp:St->Prop} (h:yC P σ (.append d e i.size i.bytes x' y') Kp):
  qS P w0 Z0 a w Kp (some d) (do pure (.value (<-Builtin.append_ #[t,t] ty #[a.eval x,a.eval y]))):=by
 simp only[yC] at h;obtain⟨h,hv⟩:=yS hi hx h;obtain⟨ys,news,h,hs,hcr⟩:=zrh hi ht h0 hy h;generalize (x'.ev σ).strip.1=v at h hv;have hnl:=hs.newsLen;have grow: ∀(base:Option Addr) (sLen sCap:Nat) (olds:List Value) (xs:List (List C)),a.eval x=.slice base sLen sCap->(Builtin.firstCells i.size sLen (.slice base sLen sCap)).run P w.drew=.ok olds.toArray w.drew->sCap<sLen+ys.length->sLen<=sCap->
   sLen+ys.length<=9223372036854775807->(sLen+ys.length)*i.bytes<=140737488355328->xs.length=sLen->olds.length=sLen*i.size->vB w (Zof w0 Z0 κ σ.o w) i.size xs (fun k=>olds[k]?)->
   ∃cur cap,(Builtin.append_ #[t,t] ty #[a.eval x,a.eval y]).run P w=.ok (.slice (some ⟨w.heap.size,0,none⟩) (xs++ys).length cap) (w.drew.alloc (.cells cur e))/\cur.size=cap*i.size/\(xs++ys).length<=cap/\cap<=maxLen/\
    vB w (Zof w0 Z0 κ σ.o w) i.size (xs++ys) (fun k=>cur[k]?):=by
  intro base sLen sCap olds xs hv hold hg hle h63 hb hxl hol hcx;have hfit:Builtin.nextslicecap (sLen+ys.length) sCap*i.bytes<=281474976710656:=growslice_fits hg hb;have hrun:=run_append_grow_src (P:=P) w t t ty e i z ht hinfo hz base sLen sCap olds hold (a.eval y) ys.length news hs hg (by omega) hfit;have hge:=grownCap_ge w (sLen+ys.length) sCap e;have hlm:=grownCap_le_maxLen w (sLen+ys.length) sCap e (by simp only[maxLen];omega);generalize grownCap w (sLen+ys.length) sCap e=cap at hrun hge hlm;refine⟨(olds++news).toArray++Builtin.zeroCells z.cells (cap-(sLen+ys.length)),cap,?_,?_,by simp;omega,hlm,?_⟩
  ·rw[hv,hrun];simp[hxl]
  ·simp only[Yx,Array.size_append,Zq,Builtin.zeroCells,Array.size_map,Array.size_range,hol,hnl,hzs]
   rw[<-YD,<-YD];congr 1;omega
  ·refine hcx.append hcr (fun k hk=>?_) (fun k hk=>?_)
   ·rw[hxl] at hk
    rw[Y2 (by simp;omega)];simp only[Y3];rw[ZL (by omega)]
   ·rw[Y2 (by simp;rw[hxl];omega)]
    simp only[Y3];rw[ZM (by rw[hxl];omega)];congr 1;rw[hxl];omega
 split at h
 ·rename_i τ
  split at h
  ·rename_i e' sz' nl xs ho
   obtain⟨rfl,rfl,b1,b2,hk⟩:=h;rcases hi.objs τ _ ho with⟨hκ,hr,hnl'⟩|⟨b,cur,cap,hκ,hheap,_,hcs,hlen,hcap,hnl',hall,hrr⟩
   ·subst hr
    rcases(hv rfl).2 _ _ _ _ ho with⟨_,hp⟩|⟨b,_,_,hκ',_⟩
    ·by_cases hys:ys=[]
     ·subst hys
      have hnn:news=[]:=Yg (by simpa using hnl);subst hnn;refine tY (u:=.slice none 0 0) (w':=w) ?_ (hi.moveG (ob:=.arr e' i.size (nlApp nl []) ([]++[])) (v:=.k (.own τ)) (bo:=none) ho hd rfl rfl rfl (Zw _) (fun _ _ _=>rfl) (by simp) (fun Z hZ=> .inl ⟨by simp,rfl,by simpa [nlApp] using hnl'⟩) ⟨rfl,fun e2 sz2 nl2 rows2 h2=> .inl ⟨by simp,rfl⟩⟩) hk;rw[hp];exact run_append_nothing w t t ty e' i ht hinfo none 0 0 (Zw _) (a.eval y) hs
     ·obtain⟨cur,cap,hrun,c1,c2,c3,c4⟩:=grow none 0 0 [] [] hp (run_firstCells_none w.drew i.size 0 0 0) (by have:=Ye.2 hys;omega) (Zw _) (by simpa using b1) (by simpa using b2) rfl (by simp) (vB.nil _ _ _ _)
      refine tY hrun (hi.moveG (ob:=.arr e' i.size (nlApp nl ys) ([]++ys)) (v:=.k (.own τ)) (bo:=some w.heap.size) ho hd rfl rfl rfl (by simp) (fun k hk _=>(rT w.drew _).block k hk) (by intro b hb;cases hb;exact .inl ⟨Zw _,by simp⟩) (fun Z hZ=>?_) ⟨rfl,fun e2 sz2 nl2 rows2 h2=>?_⟩) hk
      ·refine .inr ⟨w.heap.size,cur,cap,by simp,alloc_get w.drew _,h0,c1,c2,c3,dF (.inr hys),c4.1,(c4.mono ((rT w.drew _).same _ (fun b hb=>hb.2.1)) hZ).2⟩
      ·have:(((σ.scrub τ).setO τ (.arr e' i.size (nlApp nl ys) ([]++ys))).put d (.k (.own τ))).o τ=some (.arr e' i.size (nlApp nl ys) ([]++ys)):=by simp[St.put,St.setO]
       rw[this] at h2;cases h2;exact .inr ⟨w.heap.size,cur,cap,by simp,alloc_get w.drew _,c1,rfl⟩
    ·rw[hκ] at hκ';simp at hκ'
   ·rcases(hv rfl).2 _ _ _ _ ho with⟨hκ',_⟩|⟨b',cur',cap',hκ',hheap',hcs',hp⟩
    ·rw[hκ] at hκ';simp at hκ'
    obtain rfl:b=b':=by rw[hκ] at hκ';simpa using hκ'
    rw[hheap] at hheap';cases hheap';obtain rfl:cap=cap':=by rw[hcs] at hcs';exact XF h0 hcs'
    have hxs:vB w (Zof w0 Z0 κ σ.o w) i.size xs (fun k=>cur[k]?):=⟨hall,hrr⟩;have hle:xs.length*i.size<=cur.size:=by rw[hcs];exact ZZ _ hlen
    have hst:(((σ.scrub τ).setO τ (.arr e' i.size (nlApp nl ys) (xs++ys))).put d (.k (.own τ))).o τ=some (.arr e' i.size (nlApp nl ys) (xs++ys)):=by simp[St.put,St.setO]
    by_cases hroom:xs.length+ys.length<=cap
    ·have hrun:=run_append_room_row (P:=P) t t ty e' i ht hinfo b xs.length cap cur hheap (a.eval y) ys.length news hs hroom hcs
     have hb:xs.length*i.size+news.length<=cur.size:=by
      rw[hcs,hnl,<-YD];exact ZZ _ hroom
     have hz1:(cur.toList.take (xs.length*i.size)++news++cur.toList.drop (xs.length*i.size+news.length)).toArray.size=cur.size:=by simp;omega
     have hA:vB w (Zof w0 Z0 κ σ.o w) i.size (xs++ys) (fun k=>(cur.toList.take (xs.length*i.size)++news++cur.toList.drop (xs.length*i.size+news.length)).toArray[k]?):=by
      refine hxs.append hcr (fun k hk=>?_) (fun k hk=>?_)
      ·simp only[Y3]
       rw[Z3,ZL (by simp;omega),Z6,if_pos hk];simp
      ·simp only[Y3]
       rw[Z3,ZM (by simp;omega),ZL (by simp;omega)];simp only[Yl,Xt];congr 1;omega
     generalize (cur.toList.take (xs.length*i.size)++news++cur.toList.drop (xs.length*i.size+news.length)).toArray=cur2 at hrun hz1 hA;have hsame:xY (Zof w0 Z0 κ σ.o w) w (w.setRow b cur2):=fun k hk'=>setRow_other w b k.2 _ (by intro hkb;exact hk'.2.2 τ (by simp[ho]) (by rw[hkb];exact hκ))
     have hlen2:(xs++ys).length=xs.length+ys.length:=by simp
     refine tY (u:=.slice (some ⟨b,0,none⟩) (xs++ys).length cap) (w':=w.setRow b cur2) ?_ (hi.moveG (ob:=.arr e' i.size (nlApp nl ys) (xs++ys)) (v:=.k (.own τ)) (bo:=some b) ho hd rfl rfl rfl (by simp) (fun k hk' hk2=>setRow_other w b k _ (by rintro rfl;exact hk2 hκ)) (by intro b' hb';cases hb';exact .inr hκ) (fun Z hZ=>?_) ⟨rfl,fun e2 sz2 nl2 rows2 h2=>?_⟩) hk
     ·rw[hp,hlen2];exact hrun
     ·exact .inr ⟨b,cur2,cap,by simp,setRow_heap w b cur _ e' (0,0) hheap,h0,hz1.trans hcs,by omega,hcap,dF (.inl hnl'),hA.1,(hA.mono hsame hZ).2⟩
     ·rw[hst] at h2;cases h2
      exact .inr ⟨b,cur2,cap,by simp,setRow_heap w b cur _ e' (0,0) hheap,hz1.trans hcs,rfl⟩
    ·have hcell: ∀(j:Nat) u,(cur.toList.take (xs.length*i.size))[j]?=some u->w.cell? ((⟨b,0,none⟩:Addr).add j)=some u:=by
      intro j u hu;rw[qQ,ZY,cell_of_row w b j cur e' (0,0) hheap];rw[Z6] at hu;split at hu
      ·simpa using hu
      ·simp at hu
     obtain⟨cur2,cap2,hrun,c1,c2,c3,c4⟩:=grow (some ⟨b,0,none⟩) xs.length cap (cur.toList.take (xs.length*i.size)) xs hp
      (run_firstCells_some w.drew i.size xs.length ⟨b,0,none⟩ xs.length cap _ (by simp;omega) (by simpa using hcell)) (by omega) hlen b1 b2 rfl (by simp;omega)
      ⟨hall,fun i' j r c hr hc=>by
       obtain⟨v,hv,hp⟩:=hrr i' j r c hr hc
       refine⟨v,?_,hp⟩
       have hj:j<i.size:=by rw[<-hall r (ZP hr)];exact(Zu.1 hc).1
       have hi':i'<xs.length:=(Zu.1 hr).1
       have:(i'+1)*i.size<=xs.length*i.size:=ZZ _ hi'
       rw[YD] at this
       show(cur.toList.take (xs.length*i.size))[i'*i.size+j]?=some v
       rw[Z6,if_pos (by omega)]
       simpa using hv⟩
     have hys:ys≠[]:=by rintro rfl;simp at hroom;omega
     refine tY hrun (hi.moveG (ob:=.arr e' i.size (nlApp nl ys) (xs++ys)) (v:=.k (.own τ)) (bo:=some w.heap.size) ho hd rfl rfl rfl (by simp) (fun k hk _=>(rT w.drew _).block k hk) (by intro b hb;cases hb;exact .inl ⟨Zw _,by simp⟩) (fun Z hZ=>?_) ⟨rfl,fun e2 sz2 nl2 rows2 h2=>?_⟩) hk
     ·refine .inr ⟨w.heap.size,cur2,cap2,by simp,alloc_get w.drew _,h0,c1,c2,c3,dF (.inr hys),c4.1,(c4.mono ((rT w.drew _).same _ (fun b hb=>hb.2.1)) hZ).2⟩
     ·rw[hst] at h2;cases h2
      exact .inr ⟨w.heap.size,cur2,cap2,by simp,alloc_get w.drew _,c1,rfl⟩
  ·exact h.elim
 ·obtain⟨hf,b1,b2,hk⟩:=h
  rcases mX (hv rfl).2 with⟨_,hp,_⟩|⟨b,q,cap,hp,_,_,hne,_⟩|⟨_,_,_,hne⟩
  ·by_cases hys:ys=[]
   ·subst hys
    have hnn:news=[]:=Yg (by simpa using hnl);subst hnn;refine tY (u:=.slice none 0 0) (w':=w) ?_ (hi.newG (ob:=.arr e i.size (some true) []) (v:=.k (.own d)) (wC.refl w) hd hf (bo:=none) (by simp) (fun Z hZ=> .inl ⟨by simp,rfl,by simp⟩) ⟨rfl,fun e' sz' nl rows ho=> .inl ⟨by simp,rfl⟩⟩) hk;rw[hp];exact run_append_nothing w t t ty e i ht hinfo none 0 0 (Zw _) (a.eval y) hs
   ·obtain⟨cur,cap,hrun,c1,c2,c3,c4⟩:=grow none 0 0 [] [] hp (run_firstCells_none w.drew i.size 0 0 0) (by have:=Ye.2 hys;omega) (Zw _) (by simpa using b1) (by simpa using b2) rfl (by simp) (vB.nil _ _ _ _)
    have hI:=zbo hi hd (d:=d) (rows:=ys) (nl:=nlApp (some true) ys) (cap:=cap) (e:=e) (cur:=cur) h0 c1 (by simpa using c2) c3 (dF (.inr hys)) (by simpa using c4.1) (by simpa using c4.2) hf (w':=w.drew.alloc (.cells cur e)) ⟨rfl,rfl,rfl,by simp,(rT w.drew _).block⟩ (alloc_get w.drew _);exact tY (by simpa using hrun) hI hk
  ·exact absurd rfl hne
  ·exact absurd rfl hne
 ·exact h.elim
end
end Go.Abs
namespace Go.Abs
section
variable {P : Program} {w0 : Base} {w w' : World} {Z0 : Bk -> Prop} {κ κr : Kap} {σ : St} {a : Act} {fr : Array Value}
theorem zeU: ∀(obs:List O) (n:Nat) (σ:St),(σ.adds n obs).t=σ.t
 |[],_,_=>rfl
 |ob::l,n,σ=>by
  show((σ.setO n ob).adds (n+1) l).t=σ.t;rw[zeU l (n+1)];rfl
theorem zrj (n:Nat) (ob:O) (l:List O) (τ:Nat):zZ n (ob::l) τ=if τ=n then some ob else zZ (n+1) l τ:=by
 unfold zZ;by_cases h:τ=n
 ·subst h;simp
 ·simp only[h,if_false]
  by_cases h2:n<=τ
  ·rw[if_pos h2,if_pos (by omega)]
   have:τ-n=(τ-(n+1))+1:=by omega
   rw[this];rfl
  ·rw[if_neg h2,if_neg (by omega)]
theorem zrk (n:Nat) (l:List O):zZ (n+1) l n=none:=by unfold zZ;rw[if_neg (by omega)]
theorem zeV: ∀(obs:List O) (n:Nat) (σ:St) (τ:Nat),(σ.adds n obs).o τ=(zZ n obs τ).or (σ.o τ)
 |[],n,σ,τ=>by simp[St.adds,zZ]
 |ob::l,n,σ,τ=>by
  show((σ.setO n ob).adds (n+1) l).o τ=_;rw[zeV l (n+1),zrj];by_cases h:τ=n
  ·subst h;simp[zrk,St.setO]
  ·simp[h,St.setO]
theorem zbr: ∀(k:Nat) {d n:Nat} (_:jZ σ d n k) (m:Nat),n<=m->m<n+k->σ.Free m/\(m=d\/(σ.t m).noRef m=true)
 |0,d,n,_,m,h1,h2=>by omega
 |k+1,d,n,h,m,h1,h2=>by
  by_cases hm:m=n
  ·subst hm;exact h.1
  ·exact zbr k h.2 m (by omega) (by omega)
theorem dG {n:Nat} {obs:List O} {τ:Nat} {ob:O} (h:zZ n obs τ=some ob):n<=τ/\τ<n+obs.length/\ob∈obs:=by
 unfold zZ at h;split at h
 ·have:=(Zu.1 h).1
  exact⟨by assumption,by omega,ZP h⟩
 ·simp at h
theorem Inv.merge (hi:Inv w0 Z0 κ σ fr w) {Z:Bk->Prop} {rv:V} {v:Value} {n:Nat} {obs:List O}
  (hr:Inv (base w) Z κr {t:=fun s=>if s=0 then rv else .any,o:=zZ n obs} #[v] w') (hZ: ∀b,Z b->b.2<w.heap.size->Zof w0 Z0 κ σ.o w b) {d:Nat} (hd:d<fr.size)
  (hfree:jZ σ d n obs.length) (hrefs: ∀τ,rv.noRef τ=false->(zZ n obs τ).isSome=true) (hobs: ∀ob,ob∈obs-> ∀τ,ob.noRef τ=true):
  Inv w0 Z0 (fun τ=>if (zZ n obs τ).isSome then κr τ else κ τ) ((σ.adds n obs).put d rv) (fr.setIfInBounds d v) w':=by
 have hk:=hr.kept;have ho: ∀τ,((σ.adds n obs).put d rv).o τ=(zZ n obs τ).or (σ.o τ):=fun τ=>zeV obs n σ τ
 have htN:yZ (fun τ=>(zZ n obs τ).isSome=true) (zZ n obs) ((σ.adds n obs).put d rv).o κr (fun τ=>if (zZ n obs τ).isSome then κr τ else κ τ) w' w':=by
  intro τ hτ;refine⟨?_,by simp[hτ],fun _ b hb cur e f h=>⟨cur,h,rfl⟩⟩;rw[ho];obtain⟨ob,hob⟩:=Option.isSome_iff_exists.1 hτ;rw[hob];exact yI.refl _
 have htO:yZ (fun τ=>zZ n obs τ=none) σ.o ((σ.adds n obs).put d rv).o κ (fun τ=>if (zZ n obs τ).isSome then κr τ else κ τ) w w':=by
  refine yZ.of_eq (fun τ hτ=>⟨by rw[ho,hτ];rfl,by simp[hτ]⟩) hk
 have hsubO: ∀b,Zof w0 Z0 κ σ.o w b->Zof w0 Z0 (fun τ=>if (zZ n obs τ).isSome then κr τ else κ τ) ((σ.adds n obs).put d rv).o w' b:=by
  rintro b ⟨h1,h2,h3⟩;refine⟨h1.imp id fun h=>⟨h.1,kF (hk.block b.2 h2) h.2⟩,ZO h2 hk.size,fun τ hτ=>?_⟩;cases hn:zZ n obs τ with
  |none=>
   simp only[hn,YT,Z1,if_false];exact h3 τ (by rw[ho,hn] at hτ;exact hτ)
  |some ob=>
   simp only[hn,Xq,if_true];intro hb;exact(hr.own τ b.2 (by simp[hn]) hb).1 h2
 have hsubN: ∀b,Zof (base w) Z κr (zZ n obs) w' b->Zof w0 Z0 (fun τ=>if (zZ n obs τ).isSome then κr τ else κ τ) ((σ.adds n obs).put d rv).o w' b:=by
  rintro b ⟨h1,h2,h3⟩;rcases h1 with⟨hz,hlt⟩|⟨hge,hsf⟩
  ·exact hsubO b (hZ b hz hlt)
  ·have hge':w.heap.size<=b.2:=Xu hge
   refine⟨.inr ⟨hi.kept.fresh hge',hsf⟩,h2,fun τ hτ=>?_⟩;cases hn:zZ n obs τ with
   |none=>
    simp only[hn,YT,Z1,if_false];intro hb;have:=(hi.own τ b.2 (by rw[ho,hn] at hτ;exact hτ) hb).2;omega
   |some ob=>
    simp only[hn,Xq,if_true];exact h3 τ (by simp[hn])
 have hsameO:xY (Zof w0 Z0 κ σ.o w) w w':=wC.same hk _ (fun b hb=>hb.2.1);have hnref: ∀τ ob,σ.o τ=some ob->zZ n obs τ=none-> ∀m,(zZ n obs m).isSome=true->ob.noRef m=true:=by
  intro τ ob h hn m hm;obtain⟨ob',hob'⟩:=Option.isSome_iff_exists.1 hm;obtain⟨m1,m2,_⟩:=dG hob';exact(zbr _ hfree m m1 m2).1.2 τ ob h (by rintro rfl;rw[hn] at hob';simp at hob')
 refine⟨hi.kept.trans' hk,hi.glob,fun τ b hτ hb=>?_,fun τ τ' b hτ hτ' hb hb'=>?_,fun τ ob hob=>?_,fun s=>?_⟩
 ·rw[ho] at hτ
  cases hn:zZ n obs τ with
  |none=>
   simp only[hn,YT,Z1,if_false,XN] at hb hτ;have:=hi.own τ b hτ hb;exact⟨this.1,ZO this.2 hk.size⟩
  |some ob=>
   simp only[hn,Xq,if_true] at hb;have:=hr.own τ b (by simp[hn]) hb;exact⟨hi.kept.fresh (Xu this.1),this.2⟩
 ·rw[ho] at hτ hτ'
  cases hn:zZ n obs τ with
  |none=>
   cases hn':zZ n obs τ' with
   |none=>
    simp only[hn,hn',YT,Z1,if_false,XN] at hb hb' hτ hτ';exact hi.inj τ τ' b hτ hτ' hb hb'
   |some ob'=>
    simp only[hn,hn',YT,Xq,Z1,if_false,if_true,XN] at hb hb' hτ;exact absurd (hi.own τ b hτ hb).2 (hr.own τ' b (by simp[hn']) hb').1
  |some ob=>
   cases hn':zZ n obs τ' with
   |none=>
    simp only[hn,hn',YT,Xq,Z1,if_false,if_true,XN] at hb hb' hτ';exact absurd (hi.own τ' b hτ' hb').2 (hr.own τ b (by simp[hn]) hb).1
   |some ob'=>
    simp only[hn,hn',Xq,if_true] at hb hb';exact hr.inj τ τ' b (by simp[hn]) (by simp[hn']) hb hb'
 ·rw[ho] at hob
  cases hn:zZ n obs τ with
  |none=>
   rw[hn] at hob;simp only[XN] at hob;refine(hi.objs τ ob hob).mono hsameO hsubO htO (by simp[hn]) (fun b hb=>hk.block b (hi.own τ b (by simp[hob]) hb).2) (fun τ' hτ'=>?_);cases hn':zZ n obs τ' with
   |none=>rfl
   |some ob'=>rw[hnref τ ob hob hn τ' (by simp[hn'])] at hτ';simp at hτ'
  |some ob'=>
   rw[hn] at hob;simp only[Option.some_or,Zh] at hob;subst hob;refine(hr.objs τ ob' hn).mono (fun _ _=>rfl) hsubN htN (by simp[hn]) (fun b hb=>rfl) (fun τ' hτ'=>?_);rw[hobs ob' (dG hn).2.2] at hτ';simp at hτ'
 ·by_cases h:s=d
  ·subst h
   have h0:=hr.tmps 0;have e1:((σ.adds n obs).put s rv).t s=rv:=by simp[St.put]
   have e2:(fr.setIfInBounds s v).getD s undef=v:=by simp[hd]
   rw[e1,e2];have e3:(#[v]:Array Value).getD 0 undef=v:=rfl;simp only[e3,if_true] at h0;exact h0.mono (fun _ _=>rfl) hsubN htN hrefs
  ·have e1:((σ.adds n obs).put d rv).t s=σ.t s:=by simp[St.put,h,zeU]
   have e2:(fr.setIfInBounds d v).getD s undef=fr.getD s undef:=by
    simp[ZW,Yi,Ne.symm h]
   rw[e1,e2];refine(hi.tmps s).mono hsameO hsubO htO (fun τ' hτ'=>?_);cases hn':zZ n obs τ' with
   |none=>rfl
   |some ob'=>
    obtain⟨m1,m2,_⟩:=dG hn';obtain⟨f1,f2⟩:=zbr _ hfree τ' m1 m2;by_cases hs:s=τ'
    ·subst hs
     rcases f2 with rfl|f2
     ·exact absurd rfl h
     ·rw[f2] at hτ';simp at hτ'
    ·rw[f1.1 s hs] at hτ';simp at hτ'
theorem Inv.later (hi:Inv w0 Z0 κ σ fr w) (hk:wC w w'):Inv w0 Z0 κ σ fr w':=by
 have hsub: ∀b,Zof w0 Z0 κ σ.o w b->Zof w0 Z0 κ σ.o w' b:=fun b ⟨h1,h2,h3⟩=>⟨h1.imp id fun h=>⟨h.1,kF (hk.block b.2 h2) h.2⟩,ZO h2 hk.size,h3⟩
 have hsame:xY (Zof w0 Z0 κ σ.o w) w w':=hk.same _ (fun b hb=>hb.2.1);have ht:yZ (fun _=>True) σ.o σ.o κ κ w w':=yZ.of_eq (σ:=σ) (σ':=σ) (fun _ _=>⟨rfl,rfl⟩) hk;refine⟨hi.kept.trans' hk,hi.glob,fun τ b h1 h2=>⟨(hi.own τ b h1 h2).1,ZO (hi.own τ b h1 h2).2 hk.size⟩,hi.inj,fun τ ob h=>?_,fun s=>?_⟩
 ·exact(hi.objs τ ob h).mono hsame hsub ht rfl (fun b hb=>hk.block b (hi.own τ b (by simp[h]) hb).2) (fun _ _=>trivial)
 ·exact(hi.tmps s).mono hsame hsub ht (fun _ _=>trivial)
mutual
theorem zbs {w w':World} {Z Z':Bk->Prop} {κ κ':Kap} {o o':Nat->Option O}: ∀(r:V) {v:Value},r.scalar=true->zK w Z κ o r v->zK w' Z' κ' o' r v
 | .k (.c (.int _ _)),v,_,h=>by rw[tX h];exact sO _ _
 | .k (.c (.bool _)),v,_,h=>by rw[sY h];exact rS _
 | .k (.c (.str _)),v,_,h=>by rw[eW h];exact zeC _
 | .tup vs,v,hs,h=>by
   obtain⟨us,rfl,hl,h⟩:=h;exact⟨us,rfl,hl,scalarL_any vs hs h⟩
theorem scalarL_any {w w':World} {Z Z':Bk->Prop} {κ κ':Kap} {o o':Nat->Option O}: ∀(rs:List V) {vs:List Value},V.scalarL rs=true->VRepL w Z κ o rs vs->VRepL w' Z' κ' o' rs vs
 |[],_,_,_=>trivial
 |_::_,[],_,_=>trivial
 |r::rs,v::vs,hs,h=>by
  simp only[V.scalarL,Zr] at hs;exact⟨zbs r hs.1 h.1,scalarL_any rs hs.2 h.2⟩
end
mutual
theorem zbt (n:Nat): ∀(r:V),r.scalar=true->r.reg n=(r,[])
 | .k (.c (.int _ _)),_=>rfl
 | .k (.c (.bool _)),_=>rfl
 | .k (.c (.str _)),_=>rfl
 | .tup vs,h=>by
   have h':=scalarL_reg vs h n;simp only[V.reg,h']
theorem scalarL_reg: ∀(rs:List V),V.scalarL rs=true-> ∀n,V.regL n rs=(rs,[])
 |[],_,_=>rfl
 |r::rs,h,n=>by
  simp only[V.scalarL,Zr] at h;simp only[V.regL,zbt n r h.1,ZF,Yf,scalarL_reg rs h.2 n,Ze]
end
def dH (obs:List O):Prop:= ∀ob,ob∈obs-> ∀τ,ob.noRef τ=true
theorem zeW: ∀(r:List K) (n:Nat),(∀x,x∈r-> ∀τ,x.noRef τ=true)->dH (K.regs n r).2/\ ∀x,x∈(K.regs n r).1-> ∀τ,x.noRef τ=false->n<=τ/\τ<n+(K.regs n r).2.length
 |[],n,_=>⟨by intro ob h;simp[K.regs] at h,by intro x h;simp[K.regs] at h⟩
 |k::r,n,h=>by
  have hr: ∀m,_:=fun m=>zeW r m (fun x hx=>h x (Zy _ hx))
  have hk:=h k Yj;have other:K.regs n (k::r)=(k::(K.regs n r).1,(K.regs n r).2)->dH (K.regs n (k::r)).2/\ ∀x,x∈(K.regs n (k::r)).1-> ∀τ,x.noRef τ=false->n<=τ/\τ<n+(K.regs n (k::r)).2.length:=by
   intro e;rw[e];refine⟨(hr n).1,fun x hx τ hτ=>?_⟩;rcases ZJ.1 hx with rfl|hx
   ·rw[hk τ] at hτ;simp at hτ
   ·exact(hr n).2 x hx τ hτ
  cases k with
  |newl e sz nl rows=>
   refine⟨?_,fun x hx τ hτ=>?_⟩
   ·intro ob hob
    simp only[K.regs,ZJ] at hob;rcases hob with rfl|hob
    ·intro τ;rfl
    ·exact(hr (n+1)).1 ob hob
   ·simp only[K.regs,ZJ,Zo] at hx⊢
    rcases hx with rfl|hx
    ·simp[K.noRef] at hτ;omega
    ·have:=(hr (n+1)).2 x hx τ hτ;omega
  |c=>exact other rfl
  |own=>exact other rfl
  |ptr=>exact other rfl
  |elem=>exact other rfl
  |pel=>exact other rfl
  |fnk=>exact other rfl
  |dead=>exact other rfl
mutual
theorem zeX: ∀(r:V) (n:Nat),(∀τ,r.noRef τ=true)->dH (r.reg n).2/\ ∀τ,(r.reg n).1.noRef τ=false->n<=τ/\τ<n+(r.reg n).2.length
 | .k x,n,h=>by
   cases x with
   |newl e sz nl rows=>
    refine⟨by intro ob hob;simp[V.reg] at hob;subst hob;intro τ;rfl,fun τ hτ=>?_⟩;simp[V.reg,V.noRef,K.noRef] at hτ⊢;omega
   |_=>exact⟨by intro ob hob;simp[V.reg] at hob,fun τ hτ=>by have:=h τ;simp only[V.reg] at hτ;rw[this] at hτ;simp at hτ⟩
 | .agg r,n,h=>⟨by intro ob hob;simp[V.reg] at hob,fun τ hτ=>by simp[V.reg,V.noRef] at hτ⟩
 | .agk r,n,h=>by
   have h': ∀x,x∈r-> ∀τ,x.noRef τ=true:=fun x hx τ=>by
    have:=h τ;simp only[V.noRef,ZA] at this;exact this x hx
   obtain⟨h1,h2⟩:=zeW r n h';refine⟨h1,fun τ hτ=>?_⟩;simp only[V.reg,V.noRef,YP] at hτ⊢;obtain⟨x,hx,hx'⟩:=hτ;exact h2 x hx τ (by simpa using hx')
 | .tup vs,n,h=>regL_ok vs n (fun τ=>h τ)
 | .undef,n,h=>⟨by intro ob hob;simp[V.reg] at hob,fun τ hτ=>by simp[V.reg,V.noRef] at hτ⟩
 | .any,n,h=>⟨by intro ob hob;simp[V.reg] at hob,fun τ hτ=>by simp[V.reg,V.noRef] at hτ⟩
theorem regL_ok: ∀(rs:List V) (n:Nat),(∀τ,V.noRefL τ rs=true)->dH (V.regL n rs).2/\ ∀τ,V.noRefL τ (V.regL n rs).1=false->n<=τ/\τ<n+(V.regL n rs).2.length
 |[],n,h=>⟨by intro ob hob;simp[V.regL] at hob,fun τ hτ=>by simp[V.regL,V.noRefL] at hτ⟩
 |r::rs,n,h=>by
  have h1: ∀τ,r.noRef τ=true:=fun τ=>by have:=h τ;simp only[V.noRefL,Zr] at this;exact this.1
  have h2: ∀τ,V.noRefL τ rs=true:=fun τ=>by have:=h τ;simp only[V.noRefL,Zr] at this;exact this.2
  obtain⟨a1,a2⟩:=zeX r n h1;obtain⟨b1,b2⟩:=regL_ok rs (n+(r.reg n).2.length) h2;refine⟨fun ob hob=>?_,fun τ hτ=>?_⟩
  ·simp only[V.regL,Yo] at hob
   rcases hob with hob|hob
   ·exact a1 ob hob
   ·exact b1 ob hob
  ·simp only[V.regL,V.noRefL,Bool.and_eq_false_iff,Zq] at hτ⊢
   rcases hτ with hτ|hτ
   ·have:=a2 τ hτ;omega
   ·have:=b2 τ hτ;omega
end
theorem zrl {n:Nat} {obs:List O} {τ:Nat} (h1:n<=τ) (h2:τ<n+obs.length):(zZ n obs τ).isSome=true:=by
 unfold zZ;rw[if_pos h1];have:τ-n<obs.length:=by omega
 simp[this]
theorem zeY: ∀(l:List Nat) (σ:St) (τ:Nat),τ∈l->(σ.frzs l).o τ=none
 |τ'::l,σ,τ,h=>by
  unfold St.frzs;by_cases h1:τ=τ'
  ·subst h1
   have e: ∀σ1:St,(σ1.frz τ).o τ=none:=by
    intro σ1;unfold St.frz;split
    ·assumption
    ·simp
   exact Classical.byContradiction fun hne=>dE l _ τ hne (e _)
  ·have:τ∈l:=by
    rcases ZJ.1 h with h|h
    ·exact absurd h h1
    ·exact h
   exact zeY l _ τ this
theorem kG {f:FuncId} (hc:tJ P f) (args:Array Value) (w:World):(callFunc f args).run P w=.ok (.enter f args) w:=by
 obtain⟨fn,h1,h2,h3⟩:=hc;have h2':fn.body≠none:=by rintro h;simp[h] at h2
 have h3': ¬fn.name= "runtime.NumGoroutine" :=by simpa using h3
 simp[callFunc,h1,h2',h3']
def pJ (w0:Base) (Z0:Bk->Prop) (κ:Kap) (σ:St) (w:World) (ts:List Nat) (b:Bk):Prop:=
 Zof w0 Z0 κ σ.o w b\/ ∃τ,τ∈ts/\(∃e nl rows,σ.o τ=some (.arr e b.1 nl rows))/\κ τ=some b.2
theorem pJ.lt (hi:Inv w0 Z0 κ σ fr w) {ts:List Nat} {b:Bk} (h:pJ w0 Z0 κ σ w ts b):b.2<w.heap.size:=by
 rcases h with h|⟨τ,_,⟨e,nl,rows,h1⟩,h2⟩
 ·exact h.2.1
 ·exact(hi.own τ b.2 (by simp[h1]) h2).2
theorem pJ.frzs (hi:Inv w0 Z0 κ σ fr w) {ts:List Nat} {b:Bk} (h:pJ w0 Z0 κ σ w ts b):Zof w0 Z0 κ (σ.frzs ts).o w b:=by
 rcases h with h|⟨τ,ht,⟨e,nl,rows,h1⟩,h2⟩
 ·exact Zof_frzs ts b h
 ·have:=hi.own τ b.2 (by simp[h1]) h2
  refine⟨.inr ⟨this.1,dD (hi.objs τ _ h1) h2⟩,this.2,fun τ' h3 h4=>?_⟩;have h5:=hi.inj τ τ' b.2 (by simp[h1]) (dE ts σ τ' h3) h2 h4;subst h5;exact h3 (zeY ts σ τ ht)
theorem zbu (hi:Inv w0 Z0 κ σ a.tmps w) {x:Operand} {x':AX} (hx:ax x=some x') (h1:(x'.ev σ).strip.2=true) (h2:((x'.ev σ).strip.1.lend σ).isPure=true) {ts:List Nat} (ht: ∀τ,τ∈(x'.ev σ).strip.1.toks->τ∈ts):
  zK w (pJ w0 Z0 κ σ w ts) (fun _=>none) (fun _=>none) ((x'.ev σ).strip.1.lend σ) (a.eval x):=by
 have hv:=(qR hi hx).strip h1;generalize (x'.ev σ).strip.1=v at h2 ht hv⊢;have hz: ∀b,Zof w0 Z0 κ σ.o w b->pJ w0 Z0 κ σ w ts b:=fun b h=> .inl h
 by_cases hown: ∃τ,v=.k (.own τ)
 ·obtain⟨τ,rfl⟩:=hown
  cases ho:σ.o τ with
  |none=>simp[V.lend,ho,V.isPure] at h2
  |some ob=>
   cases ob with
   |var e row=>simp[V.lend,ho,V.isPure] at h2
   |arr e sz nl rows=>
    simp only[V.lend,ho];have hm:τ∈ts:=ht τ (by simp[V.toks,K.toks]);refine⟨hv.1,?_⟩;show PRep _ _ (.list sz nl rows) _;rcases hi.objs τ _ ho with⟨hκ,rfl,hnl⟩|⟨b,cur,cap,hκ,hheap,h0,hcs,hlen,hcap,hnl,hall,hrr⟩
    ·rcases hv.2 _ _ _ _ ho with⟨_,hp⟩|⟨b,_,_,hκ',_⟩
     ·rw[hp];exact .nil sz nl hnl
     ·rw[hκ] at hκ';simp at hκ'
    ·rcases hv.2 _ _ _ _ ho with⟨hκ',_⟩|⟨b',cur',cap',hκ',hheap',hcs',hp⟩
     ·rw[hκ] at hκ';simp at hκ'
     obtain rfl:b=b':=by rw[hκ] at hκ';simpa using hκ'
     rw[hheap] at hheap';cases hheap';obtain rfl:cap=cap':=by rw[hcs] at hcs';exact XF h0 hcs'
     rw[hp];refine iH hnl hlen hcap ⟨fun _=> .inr ⟨τ,hm,⟨e,nl,rows,ho⟩,hκ⟩,hall,fun i j r c hr hc=>?_⟩;obtain⟨v,hv,hp⟩:=hrr i j r c hr hc;exact⟨v,by rw[ZY,cell_of_row w b _ cur e (0,0) hheap];exact hv,hp.mono (fun _ _=>rfl) hz⟩
 ·have e:v.lend σ=v:=by
   unfold V.lend;split
   ·exact absurd ⟨_,rfl⟩ hown
   ·rfl
  rw[e] at h2⊢;exact(hv.pure_any h2).mono (fun _ _=>rfl) hz (τs:=fun _=>True) (yZ.of_eq (σ:=⟨fun _=> .any,fun _=>none⟩) (σ':=⟨fun _=> .any,fun _=>none⟩) (fun _ _=>⟨rfl,rfl⟩) (wC.refl w)) (fun _ _=>trivial)
theorem dI: ∀{args:List Operand} {xs:List AX},args.mapM ax=some xs->xs.length=args.length/\ ∀(j:Nat) x x',args[j]?=some x->xs[j]?=some x'->ax x=some x'
 |[],xs,h=>by simp at h;subst h;simp
 |x::args,xs,h=>by
  simp only[YE,Zj,Zb,Zm,Zh] at h;obtain⟨x',hx,xs',hxs,rfl⟩:=h;obtain⟨h1,h2⟩:=dI hxs;refine⟨by simp[h1],fun j y y' hy hy'=>?_⟩;cases j with
  |zero=>simp at hy hy';subst hy;subst hy';exact hx
  |succ j=>exact h2 j y y' (by simpa using hy) (by simpa using hy')
theorem zeZ (hi:Inv w0 Z0 κ σ a.tmps w) {d:Option Nat} (hd: ∀s,d=some s->s<a.tmps.size) {f:FuncId} {args:List Operand} {xs:List AX} (hxs:args.mapM ax=some xs) {cs:List C} {us:List Value}
  (hcs:yG w (Zof w0 Z0 κ σ.o w) cs us) {Kp:St->Prop} (h:mO P σ d f xs cs Kp):
  tJ P f/\Calls P f (args.map a.eval++us).toArray w fun e w'=> ∃v κ' σ',e=.returned v/\Inv w0 Z0 κ' σ' (a.put d v).tmps w'/\Kp σ':=by
 obtain⟨h1,h2,S,hS,h3⟩:=h;obtain⟨hlen,hget⟩:=dI hxs;have hA: ∃args',Spec P f args' S/\vW w (pJ w0 Z0 κ σ w (xs.flatMap fun x=>(x.ev σ).strip.1.toks)) args' (args.map a.eval++us):=by
  rcases hS with hS|⟨rfl,hS⟩
  ·refine⟨_,hS,by simp[hlen,hcs.1],fun j x v hx hv=>?_⟩
   by_cases hj:j<args.length
   ·rw[ZL (by simpa [hlen] using hj)] at hx
    rw[ZL (by simpa using hj)] at hv;simp only[Zz,Zd] at hx hv;obtain⟨x',hx',rfl⟩:=hx;obtain⟨y,hy,rfl⟩:=hv;have hm:=ZP hx';exact zK.norm (h2 x' hm) (zbu hi (hget j y x' hy hx') (h1 x' hm) (h2 x' hm) (fun τ hτ=>XU.2 ⟨x',hm,hτ⟩))
   ·rw[ZM (by simp[hlen];omega)] at hx
    rw[ZM (by simp;omega)] at hv;simp only[Zg,hlen] at hx hv;simp only[Zz,Zd] at hx;obtain⟨c,hc,rfl⟩:=hx;have hp:=hcs.2 _ c v hc hv;exact⟨rfl,hp.oneCell,(hp.mono (fun _ _=>rfl) (fun b hb=> .inl hb)).norm⟩
  ·have hu:us=[]:=List.length_eq_zero_iff.1 hcs.1
   subst hu;refine⟨_,hS,by simp[hlen],fun j x v hx hv=>?_⟩;rw[Ze] at hv;simp only[Zz,Zd] at hx hv;obtain⟨x',hx',rfl⟩:=hx;obtain⟨y,hy,rfl⟩:=hv;have hm:=ZP hx';exact⟨h2 x' hm,zbu hi (hget j y x' hy hx') (h1 x' hm) (h2 x' hm) (fun τ hτ=>XU.2 ⟨x',hm,hτ⟩)⟩
 obtain⟨args',hS,hA⟩:=hA;refine⟨hS.1,(hS.2 w (pJ w0 Z0 κ σ w (xs.flatMap fun x=>(x.ev σ).strip.1.toks)) (args.map a.eval++us).toArray hi.globB (fun b hb=>hb.lt hi) hA).mono ?_⟩
 ·rintro e w' ⟨v,r,rfl,hr,hcl,hrep⟩
  have h4:=h3 r hr;split at h4
  ·rename_i hsc
   obtain⟨κr,hI⟩:=hrep 0;have hv:=hI.tmps 0;have e3:(#[v]:Array Value).getD 0 undef=v:=rfl;simp only[e3,if_true,zbt 0 r hsc] at hv;refine⟨v,κ,putD σ d r,rfl,?_,h4⟩;have hi':=hi.later hI.kept;cases d with
   |none=>exact hi'
   |some s=>exact hi'.put (hd s rfl) (zbs r hsc hv)
  ·have hi':=hi.frzs (xs.flatMap fun x=>(x.ev σ).strip.1.toks)
   cases d with
   |none=>
    obtain⟨κr,hI⟩:=hrep 0;exact⟨v,κ,_,rfl,hi'.later hI.kept,h4⟩
   |some s=>
    obtain⟨h5,h6⟩:=h4;obtain⟨κr,hI⟩:=hrep (regN s r);obtain⟨g1,g2⟩:=zeX r (regN s r) hcl;exact⟨v,_,_,rfl,hi'.merge hI (fun b hb _=>hb.frzs hi) (hd s rfl) h5 (fun τ hτ=>let ⟨m1,m2⟩:=g2 τ hτ;zrl m1 m2) g1,h6⟩
end
section
variable {w0 : Base} {w w' : World} {Z0 Z : Bk -> Prop} {κ κ' : Kap} {σ σ' : St} {fr : Array Value} {o : Nat -> Option O}
theorem K.nrm_rep {x:K} {v:Value} (h:v.oneCell'=true/\yU w Z κ o x v):v.oneCell'=true/\yU w Z κ o x.nrm v:=by
 refine⟨h.1,?_⟩;cases x with
 |c x=>exact PRep.norm h.2
 |pel=>trivial
 |_=>exact h.2
theorem yB.nrm {r:List K} {cs:List Value} (h:yB w Z κ o r cs):yB w Z κ o (r.map K.nrm) cs:=by
 refine⟨by simp[h.1],fun j k v hk hv=>?_⟩;simp only[Zz,Zd] at hk;obtain⟨k0,hk0,rfl⟩:=hk;exact K.nrm_rep (h.2 j k0 v hk0 hv)
mutual
theorem zK.nrm: ∀{x:V} {v:Value},zK w Z κ o x v->zK w Z κ o x.nrm v
 | .k x,v,h=>K.nrm_rep h
 | .agg r,v,⟨cs,e,hr⟩=>⟨cs,e,hr.norm⟩
 | .agk r,v,⟨cs,e,hr⟩=>⟨cs,e,hr.nrm⟩
 | .tup vs,v,⟨us,e,hl,hr⟩=>⟨us,e,by rw[hl,zK.nrmL_len],zK.nrmL hr⟩
 | .undef,v,h=>h
 | .any,v,h=>trivial
theorem zK.nrmL: ∀{xs:List V} {vs:List Value},VRepL w Z κ o xs vs->VRepL w Z κ o (V.nrmL xs) vs
 |[],_,h=>trivial
 |_::_,[],h=>trivial
 |x::xs,v::vs,h=>⟨zK.nrm h.1,zK.nrmL h.2⟩
theorem zK.nrmL_len: ∀(xs:List V),(V.nrmL xs).length=xs.length
 |[]=>rfl
 |x::xs=>by simp[V.nrmL,zK.nrmL_len xs]
end
theorem wB.nrm {τ:Nat} {ob:O} (h:wB w Z κ o τ ob):wB w Z κ o τ ob.nrm:=by
 cases ob with
 |var e row=>
  obtain⟨b,cur,h1,h2,h3⟩:=h;exact⟨b,cur,h1,h2,h3.nrm⟩
 |arr e sz nl rows=>
  rcases h with⟨h1,rfl,h3⟩|⟨b,cur,cap,h1,h2,h3,h4,h5,h6,h7,h8,h9⟩
  ·exact .inl ⟨h1,rfl,by simp⟩
  ·refine .inr ⟨b,cur,cap,h1,h2,h3,h4,by rw[C.normRows_map];simpa using h5,h6,by simp,fun r hr=>?_,fun i j r c hr hc=>?_⟩
   ·rw[C.normRows_map] at hr
    obtain⟨r0,hr0,rfl⟩:=ZH.1 hr;simpa using h8 r0 hr0
   ·rw[C.normRows_map] at hr
    simp only[Zz,Zd] at hr;obtain⟨r0,hr0,rfl⟩:=hr;simp only[Zz,Zd] at hc;obtain⟨c0,hc0,rfl⟩:=hc;obtain⟨v,hv,hp⟩:=h9 i j r0 c0 hr0 hc0;exact⟨v,hv,hp.norm⟩
theorem yI.nrm (x:Option O):yI x (x.map O.nrm):=by
 rcases x with _|(⟨e,row⟩|⟨e,sz,nl,rows⟩)
 ·trivial
 ·rfl
 ·exact⟨rfl,rfl,by rw[C.normRows_map];simp⟩
theorem Inv.nrm (hi:Inv w0 Z0 κ σ fr w):Inv w0 Z0 κ σ.nrm fr w:=by
 have hdom: ∀τ,σ.nrm.o τ≠none->σ.o τ≠none:=fun τ h=>by simpa [St.nrm] using h
 have hsub: ∀b,Zof w0 Z0 κ σ.o w b->Zof w0 Z0 κ σ.nrm.o w b:=fun b ⟨h1,h2,h3⟩=>⟨h1,h2,fun τ hτ=>h3 τ (hdom τ hτ)⟩
 have hself:xY (Zof w0 Z0 κ σ.o w) w w:=fun _ _=>rfl
 have ht:yZ (fun _=>True) σ.o σ.nrm.o κ κ w w:=fun s _=>⟨yI.nrm _,rfl,fun _ b _ cur e f hb=>⟨cur,hb,rfl⟩⟩
 refine⟨hi.kept,hi.glob,fun τ b h hb=>hi.own τ b (hdom τ h) hb,fun τ τ' b h h' hb hb'=>hi.inj τ τ' b (hdom τ h) (hdom τ' h') hb hb',fun τ ob h=>?_,fun s=>?_⟩
 ·have h':(σ.o τ).map O.nrm=some ob:=h
  simp only[Zd] at h';obtain⟨ob0,h0,rfl⟩:=h';exact((hi.objs τ ob0 h0).nrm).mono hself hsub ht rfl (fun _ _=>rfl) (fun _ _=>trivial)
 ·exact((hi.tmps s).nrm).mono hself hsub ht (fun _ _=>trivial)
end
theorem Cap.within_ref {T:List Nat} {c:Cap} (h:c.within T=true) {τ:Nat} (hr:c.noRef τ=false):τ∈T:=by
 cases c with
 |tok s=>simp[Cap.within,Cap.noRef] at h hr;subst hr;exact h
 |ro=>simp[Cap.noRef] at hr
theorem K.within_ref {T:List Nat} {x:K} (h:x.within T=true) {τ:Nat} (hr:x.noRef τ=false):τ∈T:=by
 cases x with
 |own s=>simp[K.within,K.noRef] at h hr;subst hr;exact h
 |ptr s=>simp[K.within,K.noRef] at h hr;subst hr;exact h
 |elem s=>simp[K.within,K.noRef] at h hr;subst hr;exact h
 |fnk f caps=>
  simp only[K.within,K.noRef,ZA,YP] at h hr;obtain⟨c,hc,hc'⟩:=hr;exact Cap.within_ref (h c hc) (by simpa using hc')
 |_=>simp[K.noRef] at hr
mutual
theorem V.within_ref {T:List Nat}: ∀{x:V} (_:x.within T=true) {τ:Nat} (_:x.noRef τ=false),τ∈T
 | .k x,h,τ,hr=>K.within_ref h hr
 | .agg _,h,τ,hr=>by simp[V.noRef] at hr
 | .agk r,h,τ,hr=>by
   simp only[V.within,V.noRef,ZA,YP] at h hr;obtain⟨c,hc,hc'⟩:=hr;exact K.within_ref (h c hc) (by simpa using hc')
 | .tup vs,h,τ,hr=>V.withinL_ref h hr
 | .undef,h,τ,hr=>by simp[V.noRef] at hr
 | .any,h,τ,hr=>by simp[V.noRef] at hr
theorem V.withinL_ref {T:List Nat}: ∀{xs:List V} (_:V.withinL T xs=true) {τ:Nat} (_:V.noRefL τ xs=false),τ∈T
 |[],h,τ,hr=>by simp[V.noRefL] at hr
 |x::xs,h,τ,hr=>by
  simp only[V.withinL,V.noRefL,Zr,Bool.and_eq_false_iff] at h hr;rcases hr with hr|hr
  ·exact V.within_ref h.1 hr
  ·exact V.withinL_ref h.2 hr
end
theorem O.within_ref {T:List Nat} {x:O} (h:x.within T=true) {τ:Nat} (hr:x.noRef τ=false):τ∈T:=by
 cases x with
 |var e r=>
  simp only[O.within,O.noRef,ZA,YP] at h hr;obtain⟨c,hc,hc'⟩:=hr;exact K.within_ref (h c hc) (by simpa using hc')
 |arr=>simp[O.noRef] at hr
theorem V.noRef_scrub' {τ τ':Nat}: ∀{x:V},(x.scrub τ).noRef τ'=false->x.noRef τ'=false
 | .k x,h=>K.noRef_scrub' h
 | .agk r,h=>by
   simp only[V.scrub,V.noRef,YP,ZH] at h⊢;obtain⟨x,⟨y,hy,rfl⟩,hx⟩:=h;exact⟨y,hy,by simpa using K.noRef_scrub' (by simpa using hx)⟩
 | .agg _,h=>h
 | .undef,h=>h
 | .tup _,h=>by simp[V.scrub,V.noRef] at h
 | .any,h=>h
theorem O.noRef_scrub' {τ τ':Nat} {x:O} (h:(x.scrub τ).noRef τ'=false):x.noRef τ'=false:=by
 cases x with
 |var e r=>
  simp only[O.scrub,O.noRef,YP,ZH] at h⊢;obtain⟨x,⟨y,hy,rfl⟩,hx⟩:=h;exact⟨y,hy,by simpa using K.noRef_scrub' (by simpa using hx)⟩
 |arr=>exact h
theorem V.noRef_scrubs: ∀{l:List Nat} {x:V} {τ:Nat},(x.scrubs l).noRef τ=false->τ ∉ l/\x.noRef τ=false
 |[],x,τ,h=>⟨by simp,h⟩
 |s::l,x,τ,h=>by
  obtain⟨h1,h2⟩:=V.noRef_scrubs (l:=l) h;refine⟨?_,V.noRef_scrub' h2⟩;rintro hm;rcases ZJ.1 hm with rfl|hm
  ·rw[V.noRef_scrub] at h2;simp at h2
  ·exact h1 hm
theorem O.noRef_scrubs: ∀{l:List Nat} {x:O} {τ:Nat},(x.scrubs l).noRef τ=false->τ ∉ l/\x.noRef τ=false
 |[],x,τ,h=>⟨by simp,h⟩
 |s::l,x,τ,h=>by
  obtain⟨h1,h2⟩:=O.noRef_scrubs (l:=l) h;refine⟨?_,O.noRef_scrub' h2⟩;rintro hm;rcases ZJ.1 hm with rfl|hm
  ·rw[O.noRef_scrub] at h2;simp at h2
  ·exact h1 hm
section
variable {P : Program} {w0 : Base} {w w' : World} {Z0 : Bk -> Prop} {κ κ' : Kap} {σ : St} {a : Act} {fr : Array Value}
theorem zK.scrubs {w:World} {Z:Bk->Prop} {o:Nat->Option O}: ∀(l:List Nat) {x:V} {v:Value},zK w Z κ o x v->zK w Z κ o (x.scrubs l) v
 |[],_,_,h=>h
 |τ::l,_,_,h=>zK.scrubs l (h.scrub τ)
theorem wB.scrubs {w:World} {Z:Bk->Prop} {o:Nat->Option O} {τ:Nat}: ∀(l:List Nat) {x:O},wB w Z κ o τ x->wB w Z κ o τ (x.scrubs l)
 |[],_,h=>h
 |s::l,_,h=>wB.scrubs l (h.scrub s)
theorem yI.trans {x y z:Option O} (h:yI x y) (k:yI y z):yI x z:=by
 rcases x with _|(⟨e,row⟩|⟨e,sz,nl,rows⟩)
 ·rcases y with _|(⟨e',row'⟩|⟨e',sz',nl',rows'⟩)
  ·exact k
  ·exact h.elim
  ·exact h.elim
 ·rcases y with _|(⟨e',row'⟩|⟨e',sz',nl',rows'⟩)
  ·exact h.elim
  ·rcases z with _|(⟨e'',row''⟩|⟨e'',sz'',nl'',rows''⟩)
   ·exact k.elim
   ·have h':e'=e:=h
    have k':e''=e':=k;exact k'.trans h'
   ·exact k.elim
  ·exact h.elim
 ·rcases y with _|(⟨e',row'⟩|⟨e',sz',nl',rows'⟩)
  ·exact h.elim
  ·exact h.elim
  ·rcases z with _|(⟨e'',row''⟩|⟨e'',sz'',nl'',rows''⟩)
   ·exact k.elim
   ·exact k.elim
   ·obtain⟨h1,h2,h3⟩:=h
    obtain⟨k1,k2,k3⟩:=k;exact⟨k1.trans h1,k2.trans h2,k3.trans h3⟩
theorem yI.scrubs: ∀(l:List Nat) (x:Option O),yI x (x.map (O.scrubs l))
 |[],x=>by cases x<;>exact yI.refl _
 |τ::l,x=>by
  have h1:=yI.scrub τ x;have h2:=yI.scrubs l (x.map (O.scrub τ));cases x with
  |none=>trivial
  |some ob=>exact h1.trans h2
def kH (κ:Kap) (σ:St) (T:List Nat) (w:World):Base:=
 ⟨w,fun b=>b<w.heap.size/\ ∀τ,τ∈T->σ.o τ≠none->κ τ≠some b,fun _ h=>h.1⟩
theorem zrm (hi:Inv w0 Z0 κ σ fr w) {T:List Nat} {vs:List V} {vals:List Value} (hl:vals.length=vs.length)
  (hv: ∀(j:Nat) v u,vs[j]?=some v->vals[j]?=some u->zK w (Zof w0 Z0 κ σ.o w) κ σ.o v u)
  (h1:vs.all (V.within T)=true) (h2: ∀τ,τ∈T-> ∀ob,σ.o τ=some ob->ob.within T=true):
  Inv (kH κ σ T w) (Zof w0 Z0 κ σ.o w) κ ⟨fun s=>(vs.map V.nrm).getD s .any,yE T fun τ=>(σ.o τ).map O.nrm⟩ vals.toArray w:=by
 have base:Inv (kH κ σ T w) (Zof w0 Z0 κ σ.o w) κ ⟨fun s=>vs.getD s .any,yE T σ.o⟩ vals.toArray w:=by
  have htab: ∀τ,yE T σ.o τ≠none->τ∈T/\σ.o τ≠none:=by
   intro τ h;unfold yE at h;by_cases hc:T.contains τ=true
   ·rw[if_pos hc] at h;exact⟨by simpa using hc,h⟩
   ·rw[if_neg hc] at h;exact absurd rfl h
  have hin: ∀τ,τ∈T->yE T σ.o τ=σ.o τ:=by
   intro τ h;unfold yE;rw[if_pos (by simpa using h)]
  have hsub: ∀b,Zof w0 Z0 κ σ.o w b->Zof (kH κ σ T w) (Zof w0 Z0 κ σ.o w) κ (yE T σ.o) w b:=fun b hb=>
   ⟨.inl ⟨hb,hb.2.1,fun τ _ hn=>hb.2.2 τ hn⟩,hb.2.1,fun τ hτ=>hb.2.2 τ (htab τ hτ).2⟩
  have hself:xY (Zof w0 Z0 κ σ.o w) w w:=fun _ _=>rfl
  have ht:yZ (fun τ=>τ∈T) σ.o (yE T σ.o) κ κ w w:=fun τ hτ=>⟨by rw[hin τ hτ];exact yI.refl _,rfl,fun _ b _ cur e f hb=>⟨cur,hb,rfl⟩⟩
  refine⟨⟨rfl,rfl,rfl,Zw _,fun _ _=>rfl⟩,⟨fun g l hg=>⟨⟨(hi.globB.1 g l hg).1,fun τ _ hn hκ=>(hi.own τ g hn hκ).1 (hi.glob.1 g l hg).1⟩,(hi.globB.1 g l hg).2⟩,fun g p hg=>⟨⟨(hi.globB.2 g p hg).1,fun τ _ hn hκ=>(hi.own τ g hn hκ).1 (hi.glob.2 g p hg).1⟩,(hi.globB.2 g p hg).2⟩⟩,fun τ b h hb=>?_,fun τ τ' b h h' hb hb'=>hi.inj τ τ' b (htab τ h).2 (htab τ' h').2 hb hb',fun τ ob h=>?_,fun s=>?_⟩
  ·obtain⟨g1,g2⟩:=htab τ h
   exact⟨fun hB=>hB.2 τ g1 g2 hb,(hi.own τ b g2 hb).2⟩
  ·have hτ:=(htab τ (by simp only at h;rw[h];simp)).1
   have h':yE T σ.o τ=some ob:=h;rw[hin τ hτ] at h';exact(hi.objs τ ob h').mono hself hsub ht rfl (fun _ _=>rfl) (fun τ' hr=>O.within_ref (h2 τ hτ ob h') hr)
  ·by_cases hs:s<vs.length
   ·have e1:vs.getD s .any=vs[s]:=by simp[Zi,hs]
    have e2:vals.toArray.getD s undef=vals[s]'(by omega):=by simp[hl,hs]
    simp only[e1,e2];have:=hv s vs[s] (vals[s]'(by omega)) (Zf hs) (Zf (by omega));refine this.mono hself hsub ht (fun τ' hr=>?_);rw[ZA] at h1;exact V.within_ref (h1 _ (Zv hs)) hr
   ·have e1:vs.getD s .any=.any:=by rw[Zi,Xe (by omega)];rfl
    simp only[e1];trivial
 have hn:=base.nrm;have e:St.nrm ⟨fun s=>vs.getD s .any,yE T σ.o⟩=⟨fun s=>(vs.map V.nrm).getD s .any,yE T fun τ=>(σ.o τ).map O.nrm⟩:=by
  simp only[St.nrm,St.mk.injEq];constructor
  ·funext s
   simp only[Zi,Zz];cases vs[s]?<;>rfl
  ·funext s
   simp only[yE];split<;>rfl
 rw[e] at hn;exact hn
theorem zrn (hi:Inv w0 Z0 κ σ fr w) {T A dead:List Nat} {o':Nat->Option O} {r:V} {v:Value} (hA: ∀τ,τ∈T->τ∈A\/τ∈dead)
  (hr:Inv (kH κ σ T w) (Zof w0 Z0 κ σ.o w) κ' ⟨fun s=>if s=0 then r else .any,o'⟩ #[v] w')
  (ht:yZ (fun τ=>τ∈A) (yE T fun τ=>(σ.o τ).map O.nrm) o' κ κ' w w') (ho: ∀τ,τ ∉ T->o' τ=none) (hrT:r.within T=true) (hoT: ∀τ ob,o' τ=some ob->ob.within T=true)
  {d:Option Nat} (hd: ∀s,d=some s->s<fr.size):
  Inv w0 Z0 (fun τ=>if τ∈T then κ' τ else κ τ) (putD (σ.back T dead o') d r) (match d with|some s=>fr.setIfInBounds s v|none=>fr) w':=by
 have hk:=hr.kept;have hobk: ∀τ,(putD (σ.back T dead o') d r).o τ=if τ∈T then o' τ else(σ.o τ).map (O.scrubs dead):=by
  intro τ;have:(putD (σ.back T dead o') d r).o τ=(σ.back T dead o').o τ:=by cases d<;>rfl
  rw[this];simp only[St.back,List.contains_iff_mem]
 have hslot: ∀s,(putD (σ.back T dead o') d r).t s=if d=some s then r else(σ.t s).scrubs dead:=by
  intro s;cases d with
  |none=>simp[putD,St.back]
  |some d'=>
   by_cases h:s=d'
   ·subst h;simp[putD,St.put]
   ·simp[putD,St.put,St.back,h,Ne.symm h]
 generalize putD (σ.back T dead o') d r=σ2 at hobk hslot⊢;have hdom: ∀τ,τ ∉ T->σ2.o τ≠none->σ.o τ≠none:=by
  intro τ h hn;rw[hobk,if_neg h] at hn;simpa using hn
 have hBk: ∀b:Nat,b<w.heap.size->(∀τ,τ∈T->σ.o τ≠none->κ τ≠some b)->w'.heap[b]?=w.heap[b]?:=fun b h1 h2=>hk.block b ⟨h1,h2⟩
 have hsubO: ∀b,Zof w0 Z0 κ σ.o w b->Zof w0 Z0 (fun τ=>if τ∈T then κ' τ else κ τ) σ2.o w' b:=by
  rintro b ⟨h1,h2,h3⟩;refine⟨h1.imp id fun h=>⟨h.1,kF (hBk b.2 h2 fun τ _ hn=>h3 τ hn) h.2⟩,ZO h2 hk.size,fun τ hτ hb=>?_⟩;by_cases hT:τ∈T
  ·simp only[if_pos hT] at hb
   have hτ':o' τ≠none:=by rw[hobk,if_pos hT] at hτ;exact hτ
   exact(hr.own τ b.2 hτ' hb).1 ⟨h2,fun τ' _ hn=>h3 τ' hn⟩
  ·simp only[if_neg hT] at hb
   exact h3 τ (hdom τ hT hτ) hb
 have hnotB: ∀b:Nat,¬(kH κ σ T w).B b-> ¬w0.B b/\ ∀τ,τ ∉ T->σ.o τ≠none->κ τ≠some b:=by
  intro b hb;by_cases hlt:b<w.heap.size
  ·have: ∃τ,τ∈T/\σ.o τ≠none/\κ τ=some b:=Classical.byContradiction fun hne=>hb ⟨hlt,fun τ h1 h2 h3=>hne ⟨τ,h1,h2,h3⟩⟩
   obtain⟨τ,h1,h2,h3⟩:=this;exact⟨(hi.own τ b h2 h3).1,fun τ' hT hn hκ=>hT (by rw[hi.inj τ' τ b hn h2 hκ h3];exact h1)⟩
  ·exact⟨hi.kept.fresh (Xu hlt),fun τ hT hn hκ=>hlt (hi.own τ b hn hκ).2⟩
 have hsubN: ∀b,Zof (kH κ σ T w) (Zof w0 Z0 κ σ.o w) κ' o' w' b->Zof w0 Z0 (fun τ=>if τ∈T then κ' τ else κ τ) σ2.o w' b:=by
  rintro b ⟨h1,h2,h3⟩;rcases h1 with⟨h1,_⟩|⟨h1,hsf⟩
  ·exact hsubO b h1
  ·obtain⟨g1,g2⟩:=hnotB b.2 h1
   refine⟨.inr ⟨g1,hsf⟩,h2,fun τ hτ hb=>?_⟩;by_cases hT:τ∈T
   ·simp only[if_pos hT] at hb
    exact h3 τ (by rw[hobk,if_pos hT] at hτ;exact hτ) hb
   ·simp only[if_neg hT] at hb
    exact g2 τ hT (hdom τ hT hτ) hb
 have hblk: ∀τ b,τ ∉ T->σ.o τ≠none->κ τ=some b->w'.heap[b]?=w.heap[b]?:=by
  intro τ b hT hn hκ;exact hBk b (hi.own τ b hn hκ).2 (fun τ' hT' hn' hκ'=>hT (by rw[hi.inj τ τ' b hn hn' hκ hκ'];exact hT'))
 have hsameO:xY (Zof w0 Z0 κ σ.o w) w w':=fun b hb=>hBk b.2 hb.2.1 (fun τ _ hn=>hb.2.2 τ hn)
 have htabO:yZ (fun τ=>τ ∉ dead) σ.o σ2.o κ (fun τ=>if τ∈T then κ' τ else κ τ) w w':=by
  intro τ hτ;by_cases hT:τ∈T
  ·have hAτ:τ∈A:=(hA τ hT).resolve_right hτ
   obtain⟨g1,g2,g3⟩:=ht τ hAτ;have e:yE T (fun τ=>(σ.o τ).map O.nrm) τ=(σ.o τ).map O.nrm:=by unfold yE;rw[if_pos (by simpa using hT)]
   rw[e] at g1 g3;refine⟨by rw[hobk,if_pos hT];exact(yI.nrm _).trans g1,by simp only[if_pos hT];exact g2,fun hn b hb cur e f hc=>g3 (by simpa using hn) b hb cur e f hc⟩
  ·refine⟨by rw[hobk,if_neg hT];exact yI.scrubs dead _,by simp only[if_neg hT],fun hn b hb cur e f hc=>⟨cur,by rw[hblk τ b hT hn hb];exact hc,rfl⟩⟩
 have htabN:yZ (fun τ=>τ∈T) o' σ2.o κ' (fun τ=>if τ∈T then κ' τ else κ τ) w' w':=by
  intro τ hT;exact⟨by rw[hobk,if_pos hT];exact yI.refl _,by simp only[if_pos hT],fun _ b _ cur e f hc=>⟨cur,hc,rfl⟩⟩
 refine⟨⟨hk.os.trans hi.kept.os,hk.tape.trans hi.kept.tape,hk.output.trans hi.kept.output,ZX hi.kept.size hk.size,fun b hb=>?_⟩,hi.glob,fun τ b hτ hb=>?_,fun τ τ' b hτ hτ' hb hb'=>?_,fun τ ob hob=>?_,fun s=>?_⟩
 ·rw[hBk b (ZO (w0.lt b hb) hi.kept.size) (fun τ _ hn hκ=>(hi.own τ b hn hκ).1 hb)]
  exact hi.kept.block b hb
 ·by_cases hT:τ∈T
  ·simp only[if_pos hT] at hb
   have hτ':o' τ≠none:=by rw[hobk,if_pos hT] at hτ;exact hτ
   have:=hr.own τ b hτ' hb;exact⟨(hnotB b this.1).1,this.2⟩
  ·simp only[if_neg hT] at hb
   have:=hi.own τ b (hdom τ hT hτ) hb;exact⟨this.1,ZO this.2 hk.size⟩
 ·by_cases hT:τ∈T<;>by_cases hT':τ'∈T
  ·simp only[if_pos hT] at hb;simp only[if_pos hT'] at hb'
   exact hr.inj τ τ' b (by rw[hobk,if_pos hT] at hτ;exact hτ) (by rw[hobk,if_pos hT'] at hτ';exact hτ') hb hb'
  ·simp only[if_pos hT] at hb;simp only[if_neg hT'] at hb'
   have:=hr.own τ b (by rw[hobk,if_pos hT] at hτ;exact hτ) hb;exact absurd hb' ((hnotB b this.1).2 τ' hT' (hdom τ' hT' hτ'))
  ·simp only[if_neg hT] at hb;simp only[if_pos hT'] at hb'
   have:=hr.own τ' b (by rw[hobk,if_pos hT'] at hτ';exact hτ') hb';exact absurd hb ((hnotB b this.1).2 τ hT (hdom τ hT hτ))
  ·simp only[if_neg hT] at hb;simp only[if_neg hT'] at hb'
   exact hi.inj τ τ' b (hdom τ hT hτ) (hdom τ' hT' hτ') hb hb'
 ·rw[hobk] at hob
  by_cases hT:τ∈T
  ·rw[if_pos hT] at hob
   exact(hr.objs τ ob hob).mono (fun _ _=>rfl) hsubN htabN (by simp only[if_pos hT]) (fun _ _=>rfl) (fun τ' hτ'=>O.within_ref (hoT τ ob hob) hτ')
  ·rw[if_neg hT] at hob
   simp only[Zd] at hob;obtain⟨ob0,h0,rfl⟩:=hob;exact((hi.objs τ ob0 h0).scrubs dead).mono hsameO hsubO htabO (by simp only[if_neg hT]) (fun b hb=>hblk τ b hT (by simp[h0]) hb) (fun τ' hτ'=>(O.noRef_scrubs hτ').1)
 ·rw[hslot]
  have old:zK w' (Zof w0 Z0 (fun τ=>if τ∈T then κ' τ else κ τ) σ2.o w') (fun τ=>if τ∈T then κ' τ else κ τ) σ2.o ((σ.t s).scrubs dead) (fr.getD s undef):=
   ((hi.tmps s).scrubs dead).mono hsameO hsubO htabO (fun τ' hτ'=>(V.noRef_scrubs hτ').1)
  cases d with
  |none=>rw[if_neg (by simp)];exact old
  |some d'=>
   by_cases hs:s=d'
   ·subst hs
    rw[if_pos rfl];have h0:=hr.tmps 0;have e3:(#[v]:Array Value).getD 0 undef=v:=rfl;have e4:(fr.setIfInBounds s v).getD s undef=v:=by simp[hd s rfl]
    simp only[e3,if_true] at h0;show zK _ _ _ _ _ ((fr.setIfInBounds s v).getD s undef);rw[e4];exact h0.mono (fun _ _=>rfl) hsubN htabN (fun τ' hτ'=>V.within_ref hrT hτ')
   ·rw[if_neg (by simpa using Ne.symm hs)]
    have e4:(fr.setIfInBounds d' v).getD s undef=fr.getD s undef:=by
     simp[ZW,Yi,Ne.symm hs]
    show zK _ _ _ _ _ ((fr.setIfInBounds d' v).getD s undef);rw[e4];exact old
theorem ze0 (hi:Inv w0 Z0 κ σ a.tmps w) {d:Option Nat} (hd: ∀s,d=some s->s<a.tmps.size) {f:FuncId} {args:List Operand} {xs:List AX} (hxs:args.mapM ax=some xs) {caps:List Cap} {us:List Value}
  (hul:us.length=caps.length) (hcs: ∀(j:Nat) c,caps[j]?=some c-> ∃u,us[j]?=some u/\uQ w (Zof w0 Z0 κ σ.o w) κ σ.o c u) {Kp:St->Prop} (h:kA P σ d f xs caps Kp):
  tJ P f/\Calls P f (args.map a.eval++us).toArray w fun e w'=> ∃v κ' σ',e=.returned v/\Inv w0 Z0 κ' σ' (a.put d v).tmps w'/\Kp σ':=by
 obtain⟨T,A,dead,S,h1,h0,h2,h3,h4,h5⟩:=h;obtain⟨hlen,hget⟩:=dI hxs;have hin:=zrm hi (T:=T) (vs:=xs.map (fun x=>x.ev σ)++caps.map jY) (vals:=args.map a.eval++us) (by simp[hlen,hul]) (fun j v u hv hu=>?_) h1 h2
 ·refine⟨h4.1,(h4.2 _ _ κ w _ (by simp[hlen,hul]) hin).mono ?_⟩
  rintro e w' ⟨v,κ',r,o',rfl,hr,ht,hI⟩;obtain⟨g1,g2,g3,hk⟩:=h5 r o' hr;refine⟨v,fun τ=>if τ∈T then κ' τ else κ τ,_,rfl,?_,hk⟩;have:=zrn hi h3 hI ht g1 g2 g3 (d:=d) hd;cases d<;>exact this
 ·by_cases hj:j<args.length
  ·rw[ZL (by simpa [hlen] using hj)] at hv
   rw[ZL (by simpa using hj)] at hu;simp only[Zz,Zd] at hv hu;obtain⟨x',hx',rfl⟩:=hv;obtain⟨y,hy,rfl⟩:=hu;exact qR hi (hget j y x' hy hx')
  ·rw[ZM (by simp[hlen];omega)] at hv
   rw[ZM (by simp;omega)] at hu;simp only[Zg,hlen] at hv hu;simp only[Zz,Zd] at hv;obtain⟨c,hc,rfl⟩:=hv;obtain⟨u',hu',hrep⟩:=hcs _ c hc;rw[hu] at hu';cases hu';cases c with
   |ro row off=>exact⟨PRep.oneCell hrep,hrep⟩
   |tok τ=>
    rw[ZA] at h0;have hlive:=h0 _ (ZP hc);simp only[Cap.live] at hlive;cases ho:σ.o τ with
    |none=>rw[ho] at hlive;simp[isVarO] at hlive
    |some ob=>
     cases ob with
     |arr=>rw[ho] at hlive;simp[isVarO] at hlive
     |var e row=>
      obtain⟨b,hb,rfl⟩:=hrep e row ho;exact⟨rfl,fun e' row' ho'=>⟨b,hb,rfl⟩⟩
end
section
variable {P : Program} {w0 : Base} {w : World} {Z0 : Bk -> Prop} {κ : Kap} {σ : St} {a : Act}
structure Fm where
 n:Nat
 kp:Nat->Bool
 fr0:Array Value
def Fm.ok (F:Fm) (a:Act):Prop:=a.tmps.size=F.n/\ ∀s,F.kp s=true->a.tmps.getD s undef=F.fr0.getD s undef
def Nx (w0:Base) (Z0:Bk->Prop) (D:List Deferred) (F:Fm) (Kp:St->Prop) (a:Act) (w:World):Prop:=
 a.defers=D/\F.ok a/\ ∃κ σ,Inv w0 Z0 κ σ a.tmps w/\Kp σ
theorem kI (a:Act) (d:Option Nat) (v:Value):(a.put d v).defers=a.defers:=by cases d<;>rfl
theorem zro (a:Act) (d:Option Nat) (v:Value):(a.put d v).tmps.size=a.tmps.size:=by cases d<;>simp[Act.put]
theorem Fm.put {F:Fm} (hF:F.ok a) {dst:Option Nat} (hkp: ∀d,dst=some d->F.kp d=false) (v:Value):F.ok (a.put dst v):=by
 refine⟨by rw[zro];exact hF.1,fun s hs=>?_⟩;cases dst with
 |none=>exact hF.2 s hs
 |some d=>
  have hne:d≠s:=by
   rintro rfl;rw[hkp d rfl] at hs;simp at hs
  rw[<-hF.2 s hs];simp[Act.put,ZW,Yi,hne]
theorem oD {F:Fm} (hF:F.ok a) {o:Oper} (hkp: ∀d,o.dst=some d->F.kp d=false) {Kp:St->Prop} {s:Sem Next} (he:execOp a.eval o=s) (h:qS P w0 Z0 a w Kp o.dst s) {Q:Exit->Act->World->Prop}:o.wp P a w (Nx w0 Z0 a.defers F Kp) Q:=by
 unfold Oper.wp;rw[he];rcases h with⟨σ',κ',w',u,hr,hi,hk⟩|⟨σ',κ',w',hr,hi,hk⟩
 ·rw[hr,Oper.upon_value]
  exact⟨kI _ _ _,Fm.put hF hkp _,κ',σ',hi,hk⟩
 ·rw[hr,Oper.upon_skip]
  exact⟨kI _ _ _,Fm.put hF hkp _,κ',σ',hi,hk⟩
theorem wQ {F:Fm} (hF:F.ok a) {o:Oper} (hkp: ∀d,o.dst=some d->F.kp d=false) {op:AOp} (hc:cOp P o=some op) (hd: ∀d,o.dst=some d->d<a.tmps.size) (hi:Inv w0 Z0 κ σ a.tmps w) {Kp:St->Prop} (h:zA σ true op fun d v=>Kp (σ.put d v)) {Q:Exit->Act->World->Prop}:
  o.wp P a w (Nx w0 Z0 a.defers F Kp) Q:=by
 obtain⟨d,r,hdst,hk,hg⟩:=zq6 hc hi h;obtain⟨u,hr,hv⟩:=hg rfl;unfold Oper.wp;rw[hr,Oper.upon_value,hdst];exact⟨kI _ _ _,Fm.put hF (fun e he=>hkp e (by rw[hdst];exact he)) _,κ,_,hi.put (hd d hdst) hv,hk⟩
theorem ze1 {w:World} {Z:Bk->Prop} {f:FuncId} {cs:List C} {v:Value} (h:PRep w Z (.fn f cs) v): ∃us:List Value,v=.func (.func f) #[] us.toArray/\yG w Z cs us:=by
 cases h with
 |fn _ _ vs val h1 h2 h3=>
  refine⟨vs.toList,by simp,by simpa using h1,fun j c v hc hv=>?_⟩;have:=h2 j c hc;simp at hv;rw[hv] at this;cases this;exact h3 j c hc
theorem zrp (hi:Inv w0 Z0 κ σ a.tmps w) {d:Nat} (hd:d<a.tmps.size) {t ty:TypeId} {e:TypeId} (ht:P.underlying t=some (.slice e)) {x:Operand} {x':AX} (hx:ax x=some x') {Kp:St->Prop} (h:yC P σ (.cap d x') Kp):
  qS P w0 Z0 a w Kp (some d) (do pure (.value (<-Builtin.cap_ #[t] ty #[a.eval x]))):=by
 simp only[yC] at h;obtain⟨h,hv⟩:=yS hi hx h;generalize (x'.ev σ).strip.1=v at h hv;split at h
 ·rename_i sz nl rows
  rcases mX (hv rfl).2 with⟨rfl,hp,_⟩|⟨b,q,cap,hp,c1,c2,_,_⟩|⟨rfl,_,hp,_⟩
  ·refine tY (u:=.int .i64 0) (w':=w) ?_ (hi.put hd (sO .i64 0)) (h 0 (by simp) (by omega))
   rw[hp];simp[Builtin.cap_,run_underlying ht,goInt]
  ·refine tY (u:=.int .i64 cap) (w':=w) ?_ (hi.put hd (sO .i64 cap)) (h cap c1 (by simp only[maxLen] at c2;omega))
   rw[hp];simp[Builtin.cap_,run_underlying ht,goInt]
  ·refine tY (u:=.int .i64 0) (w':=w) ?_ (hi.put hd (sO .i64 0)) (h 0 (by simp) (by omega))
   rw[hp];simp[Builtin.cap_,run_underlying ht,goInt]
 ·exact h.elim
theorem zrq (hi:Inv w0 Z0 κ σ a.tmps w) {t:TypeId} {n:Nat} (hn:yW P t=some n) {x y:Operand} {x' y':AX} (hx:ax x=some x') (hy:ax y=some y') {Kp:St->Prop} (h:yC P σ (.store n x' y') Kp):
  qS P w0 Z0 a w Kp none (do Instr.storeAt t (a.eval x) (a.eval y);pure .skip):=by
 simp only[yC] at h;obtain⟨h,hv⟩:=yS hi hx h;generalize (x'.ev σ).strip.1=v at h hv;split at h
 ·rename_i τ off
  split at h
  ·rename_i e row ho
   obtain⟨h,hu⟩:=yS hi hy h;generalize (y'.ev σ).strip.1=u at h hu;split at h
   ·rename_i ks hks
    obtain⟨hl,hb,hk⟩:=h;obtain⟨w',hr,hI⟩:=zrb hi hn ho (hv rfl) (dB hks (hu rfl)) hl hb;exact .inr ⟨_,κ,w',by simp[hr],hI,hk⟩
   ·exact h.elim
  ·exact h.elim
 ·obtain⟨l,r,h,hi1,hr⟩:=zeQ hi hy h
  obtain⟨h,hv⟩:=yS hi1 hx h;generalize (x'.ev (σ.frzs l)).strip.1=v at h hv;split at h
  ·rename_i τ i off
   split at h
   ·rename_i e sz nl rows ho
    obtain⟨hl,hb,hk⟩:=h;obtain⟨w',hr,hI⟩:=zrf hi1 hn ho (hv rfl) hr hl hb;exact .inr ⟨_,κ,w',by simp[hr],hI,hk⟩
   ·exact h.elim
  ·exact h.elim
 ·exact h.elim
theorem kJ {F:Fm} (hF:F.ok a) {o:Oper} (hkp: ∀d,o.dst=some d->F.kp d=false) {f:FuncId} {args:Array Value} (hc:tJ P f) (he:(execOp a.eval o).run P w=.ok (.enter f args) w) {Kp:St->Prop}
  (h:Calls P f args w fun e w'=> ∃v κ' σ',e=.returned v/\Inv w0 Z0 κ' σ' (a.put o.dst v).tmps w'/\Kp σ') {Q:Exit->Act->World->Prop}:o.wp P a w (Nx w0 Z0 a.defers F Kp) Q:=by
 unfold Oper.wp;rw[he,Oper.upon_enter];refine h.mono ?_;rintro e w' ⟨v,κ',σ',rfl,hI,hk⟩;exact⟨kI _ _ _,Fm.put hF hkp _,κ',σ',hI,hk⟩
set_option maxHeartbeats 1000000 in
theorem dJ {F:Fm} (hF:F.ok a) {o:Oper} (hkp: ∀d,o.dst=some d->F.kp d=false) {op:AOp} (hc:cOp P o=some op) (hdd: ∀d,o.dst=some d->d<a.tmps.size) (hi:Inv w0 Z0 κ σ a.tmps w) {Kp:St->Prop} (h:yC P σ op Kp) {Q:Exit->Act->World->Prop}:
  o.wp P a w (Nx w0 Z0 a.defers F Kp) Q:=by
 have hc0:=hc;unfold cOp at hc;split at hc
 ·
  rename_i x d ho hd;simp only[Zd] at hc;obtain⟨x',hx,rfl⟩:=hc;exact wQ hF hkp hc0 hdd hi h
 ·
  rename_i d ho hd;simp only[Zj,Zb,Zm,Zh] at hc;obtain⟨e,_,n,_,rfl⟩:=hc;exact oD hF hkp (s:=do pure (.value (<-(pure (.slice none 0 0):Sem Value)))) (by simp[execOp,ho,Act.eval]) (by rw[hd];exact zq7 hi (hdd d hd) h)
 ·rename_i x d _ ho hd
  simp only[Zd] at hc;obtain⟨x',hx,rfl⟩:=hc;exact wQ hF hkp hc0 hdd hi h
 ·
  rename_i c x y d ho hd;simp only[Zj,Zb,Zm,Zh] at hc;obtain⟨c',hc',x',hx',y',hy',rfl⟩:=hc;exact wQ hF hkp hc0 hdd hi h
 ·
  rename_i e d ho hd;simp only[Zd] at hc;obtain⟨z,hz,rfl⟩:=hc;exact oD hF hkp (s:=do pure (.value (<-Instr.alloc e true (.tuple #[])))) (by simp[execOp,ho]) (by rw[hd];exact zq8 hi (hdd d hd) hz h)
 ·
  rename_i e x d ho hd;simp only[Zd] at hc;obtain⟨z,hz,rfl⟩:=hc;exact oD hF hkp (s:=do pure (.value (<-Instr.box e (a.eval x)))) (by simp[execOp,ho]) (by rw[hd];exact zq9 hi (hdd d hd) hz h)
 ·
  rename_i t ps d ho hd;simp only[Zj,Zb,Zm,Zh] at hc;obtain⟨z,hz,l,hl,rfl⟩:=hc;exact wQ hF hkp hc0 hdd hi h
 ·
  rename_i t len ps d ho hd;simp only[Zj,Zb,Zm] at hc;obtain⟨e,he,n,hn,z,hz,l,hl,hc⟩:=hc;have hu:P.underlying t=some (.slice e):=by unfold sM at he;split at he<;>simp_all
  split at hc
  ·rename_i hb
   cases hc;exact oD hF hkp (s:=do pure (.value (<-Instr.buildSlice t len (ps.map fun(i,x)=>(i,a.eval x))))) (by simp[execOp,ho]) (by rw[hd];exact zrd hi (hdd d hd) hu hn hb.1 hb.2 hz hl h)
  ·simp at hc
 ·
  rename_i t x d ho hd;simp only[Zj,Zb,Zm] at hc;obtain⟨n,hn,hc⟩:=hc;split at hc
  ·rename_i h0
   simp only[Zb,Zh] at hc;obtain⟨agg,ha,x',hx',rfl⟩:=hc;exact wQ hF hkp hc0 hdd hi h
  ·simp at hc
 ·
  rename_i t x y ho hd;simp only[Zj,Zb,Zm,Zh] at hc;obtain⟨n,hn,x',hx,y',hy,rfl⟩:=hc;exact oD hF hkp (s:=do Instr.storeAt t (a.eval x) (a.eval y);pure .skip) (by simp[execOp,ho]) (by rw[hd];exact zrq hi hn hx hy h)
 ·
  rename_i x d ho hd;simp only[Zd] at hc;obtain⟨x',hx,rfl⟩:=hc;exact wQ hF hkp hc0 hdd hi h
 ·
  rename_i op t x y yt d ho hd;have he:execOp a.eval o=(do pure (.value (<-(do eqGuard op t x y (a.eval x) (a.eval y);binOp op t (a.eval x) (a.eval y):Sem Value)))):=by simp[execOp,ho]
  split at hc
  ·rename_i hop
   unfold cEq at hc;split at hc
   ·rename_i hu
    simp only[Zj,Zb,Zm,Zh] at hc;obtain⟨x',hx',y',hy',rfl⟩:=hc;exact wQ hF hkp hc0 hdd hi h
   ·simp only[Zj,Zb,Zm,Zh] at hc
    obtain⟨x',hx',y',hy',rfl⟩:=hc;exact wQ hF hkp hc0 hdd hi h
   ·simp only[Zj,Zb,Zm,Zh] at hc
    obtain⟨x',hx',y',hy',rfl⟩:=hc;exact wQ hF hkp hc0 hdd hi h
   ·rename_i fs hu
    simp only[Zj,Zb,Zm] at hc;obtain⟨ts,hts,hc⟩:=hc;split at hc
    ·rename_i hq
     simp only[Zb,Zh] at hc;obtain⟨x',hx',y',hy',rfl⟩:=hc;exact wQ hF hkp hc0 hdd hi h
    ·simp at hc
   ·rename_i e hu
    split at hc
    ·simp only[Zj,Zb,Zm,Zh] at hc
     obtain⟨x',hx',rfl⟩:=hc;exact wQ hF hkp hc0 hdd hi h
    ·simp only[Zj,Zb,Zm,Zh] at hc
     obtain⟨x',hx',rfl⟩:=hc;exact wQ hF hkp hc0 hdd hi h
    ·simp at hc
   ·simp at hc
  ·simp only[Zj,Zb,Zm,Zh] at hc
   obtain⟨x',hx',y',hy',rfl⟩:=hc;exact wQ hF hkp hc0 hdd hi h
 ·
  rename_i op t x d ho hd;simp only[Zd] at hc;obtain⟨x',hx,rfl⟩:=hc;exact wQ hF hkp hc0 hdd hi h
 ·
  rename_i src dst x d ho hd;split at hc
  ·rename_i k0 kk hs hdd'
   simp only[Zd] at hc;obtain⟨x',hx,rfl⟩:=hc;exact wQ hF hkp hc0 hdd hi h
  ·simp at hc
 ·
  rename_i f first caps d ho hd
  split at hc
  ·rename_i hf
   simp only[Zd] at hc;obtain⟨caps',hx,rfl⟩:=hc;have e:first= #[]:=YM hf
   exact wQ hF hkp hc0 hdd hi h
  ·simp at hc
 ·
  rename_i t lx cx d ho hd;simp only[Zj,Zb,Zm] at hc;obtain⟨e,he,n,hn,i,hinfo,hc⟩:=hc;have hu:P.underlying t=some (.slice e):=by unfold sM at he;split at he<;>simp_all
  split at hc
  ·rename_i h0
   simp only[Zb,Zh] at hc;obtain⟨z,hz,l',hl,c',hcx,rfl⟩:=hc;exact oD hF hkp (s:=do pure (.value (<-Instr.makeSlice t (a.eval lx) (a.eval cx)))) (by simp[execOp,ho]) (by rw[hd];exact zra hi (hdd d hd) hu hinfo hn h0 hz hl hcx h)
  ·simp at hc
 ·
  rename_i t x lo hi' d ho hd;simp only[Zj,Zb] at hc;obtain⟨lo',hlo,hi'',hhi,hc⟩:=hc;have he:execOp a.eval o=(do pure (.value (<-Instr.sliceAt t (a.eval x) (lo.map a.eval) (hi'.map a.eval) none))):=by simp[execOp,ho]
  split at hc
  ·rename_i hu
   simp only[Zm,Zb,Zh] at hc;obtain⟨x',hx',rfl⟩:=hc;exact wQ hF hkp hc0 hdd hi h
  ·rename_i e hu
   simp only[Zm,Zb,Zh] at hc;obtain⟨n,hn,x',hx',rfl⟩:=hc;exact wQ hF hkp hc0 hdd (hi.frzs _) h
  ·obtain⟨g,l,rfl,rfl,rfl,_,_,_,_,rfl⟩:=iE hc
   exact wQ hF hkp hc0 hdd hi h
  ·simp at hc
 ·
  rename_i s x f d ho hd;split at hc
  ·rename_i fs hu
   simp only[Zj,Zb,Zm] at hc;obtain⟨fl,hf,n,hn,hc⟩:=hc;split at hc
   ·rename_i h0
    simp only[Zb,Zh] at hc;obtain⟨x',hx',rfl⟩:=hc;exact wQ hF hkp hc0 hdd hi h
   ·simp at hc
  ·simp at hc
 ·
  rename_i s x f d ho hd;split at hc
  ·rename_i fs hu
   simp only[Zj,Zb,Zm] at hc;obtain⟨fl,hf,n,hn,hc⟩:=hc;split at hc
   ·rename_i h0
    simp only[Zb,Zh] at hc;obtain⟨agg,ha,x',hx',rfl⟩:=hc;exact wQ hF hkp hc0 hdd hi h
   ·simp at hc
  ·simp at hc
 ·
  rename_i t x i d ho hd;have he:execOp a.eval o=(do pure (.value (<-Instr.indexAt t (a.eval x) (a.eval i)))):=by simp[execOp,ho]
  split at hc
  ·rename_i e hu
   simp only[Zj,Zb,Zm] at hc;obtain⟨n,hn,hc⟩:=hc;split at hc
   ·simp only[Zb,Zh] at hc
    obtain⟨x',hx',i',hi',rfl⟩:=hc;exact wQ hF hkp hc0 hdd hi h
   ·simp at hc
  ·rename_i len e hu
   simp only[Zj,Zb,Zm] at hc;obtain⟨n,hn,hc⟩:=hc;split at hc
   ·simp only[Zb,Zh] at hc
    obtain⟨x',hx',i',hi',rfl⟩:=hc;exact wQ hF hkp hc0 hdd hi h
   ·simp at hc
  ·simp at hc
 ·
  rename_i t x i d ho hd;have he:execOp a.eval o=(do pure (.value (<-Instr.index t (a.eval x) (a.eval i)))):=by simp[execOp,ho]
  split at hc
  ·rename_i hu
   simp only[Zj,Zb,Zm,Zh] at hc;obtain⟨x',hx',i',hi',rfl⟩:=hc;exact wQ hF hkp hc0 hdd hi h
  ·rename_i len e hu
   simp only[Zj,Zb,Zm] at hc;obtain⟨n,hn,hc⟩:=hc;split at hc
   ·rename_i h0
    simp only[Zb,Zh] at hc;obtain⟨agg,ha,x',hx',i',hi',rfl⟩:=hc;exact wQ hF hkp hc0 hdd hi h
   ·simp at hc
  ·simp at hc
 ·
  rename_i x i d ho hd;simp only[Zj,Zb,Zm,Zh] at hc;obtain⟨x',hx',rfl⟩:=hc;exact wQ hF hkp hc0 hdd hi h
 ·
  rename_i c ho;split at hc
  ·rename_i f hf
   simp only[Zd] at hc;obtain⟨xs,hxs,rfl⟩:=hc;have hm:(c.args.toList.map a.eval++[]).toArray=c.args.map a.eval:=by apply XQ;simp
   rcases h with h|h
   ·obtain⟨hcall,hC⟩:=zeZ (hi.frzs _) hdd hxs (cs:=[]) (us:=[]) ⟨rfl,by simp⟩ h
    refine kJ hF hkp hcall ?_ hC;rw[hm];simp[execOp,ho,resolve,hf,Act.eval,Deferred.ofValue,invoke,kG hcall]
   ·obtain⟨hcall,hC⟩:=ze0 hi hdd hxs (caps:=[]) (us:=[]) rfl (by simp) h
    refine kJ hF hkp hcall ?_ hC;rw[hm];simp[execOp,ho,resolve,hf,Act.eval,Deferred.ofValue,invoke,kG hcall]
  ·rename_i t hf
   simp only[Zd] at hc;obtain⟨xs,hxs,rfl⟩:=hc;simp only[yC] at h;rcases h with⟨f,caps,hfn,h⟩|h
   ·have hv:=qR hi (x:=.tmp t) (y:=.t t) rfl
    rw[hfn] at hv;obtain⟨_,us,hev,hl,hcap⟩:=hv;obtain⟨hcall,hC⟩:=ze0 hi hdd hxs (us:=us.toList) (by simpa using hl) (fun j c hc=>by
     obtain⟨u,hu,hr⟩:=hcap j c hc
     exact⟨u,by simpa using hu,hr⟩) h
    refine kJ hF hkp hcall ?_ hC;have hm:(c.args.toList.map a.eval++us.toList).toArray=c.args.map a.eval++us:=by apply XQ;simp
    rw[hm];simp[execOp,ho,resolve,hf,hev,Deferred.ofValue,invoke,kG hcall]
   obtain⟨h1,h⟩:=h;have hi':=hi.frzs ((AX.ev σ (.t t)).strip.1.toks++xs.flatMap fun x=>(x.ev σ).strip.1.hard);have hv:=(qR hi' (x:=.tmp t) (y:=.t t) rfl).strip h1;split at h
   ·rename_i f cs hfn
    rw[hfn] at hv;obtain⟨us,hev,hpr⟩:=ze1 hv.2;obtain⟨hcall,hC⟩:=zeZ hi' hdd hxs hpr h;refine kJ hF hkp hcall ?_ hC;have hm:(c.args.toList.map a.eval++us).toArray=c.args.map a.eval++us.toArray:=by apply XQ;simp
    rw[hm];simp[execOp,ho,resolve,hf,hev,Deferred.ofValue,invoke,kG hcall]
   ·exact h.elim
  ·rename_i b hb
   split at hc
   ·
    rename_i d x t hd hargs hts;have e1:c.args= #[x]:=by rw[<-ZR (xs:=c.args),hargs]
    have e2:c.argTypes= #[t]:=by rw[<-ZR (xs:=c.argTypes),hts]
    have he:execOp a.eval o=(do pure (.value (<-Builtin.len_ #[t] o.type #[a.eval x]))):=by
     simp[execOp,ho,resolve,hb,invoke,builtin,e1,e2]
    split at hc
    ·rename_i e hu
     simp only[Zd] at hc;obtain⟨x',hx',rfl⟩:=hc;exact wQ hF hkp hc0 hdd hi h
    ·rename_i hu
     simp only[Zd] at hc;obtain⟨x',hx',rfl⟩:=hc;exact wQ hF hkp hc0 hdd hi h
    ·simp at hc
   ·
    rename_i d x t hd hargs hts;have e1:c.args= #[x]:=by rw[<-ZR (xs:=c.args),hargs]
    have e2:c.argTypes= #[t]:=by rw[<-ZR (xs:=c.argTypes),hts]
    have he:execOp a.eval o=(do pure (.value (<-Builtin.cap_ #[t] o.type #[a.eval x]))):=by
     simp[execOp,ho,resolve,hb,invoke,builtin,e1,e2]
    split at hc
    ·rename_i e hu
     simp only[Zd] at hc;obtain⟨x',hx',rfl⟩:=hc;exact oD hF hkp he (by rw[hd];exact zrp hi (hdd d hd) hu hx' h)
    ·simp at hc
   ·
    rename_i d x y t t' hd hargs hts;simp only[Zj,Zb] at hc;obtain⟨e,he,i,hinfo,z,hz,x',hx,y',hy,hc⟩:=hc;have hu:P.underlying t=some (.slice e):=by unfold sM at he;split at he<;>simp_all
    split at hc
    ·rename_i hb'
     obtain⟨h0,hzs,rfl⟩:=hb';cases hc;have e1:c.args= #[x,y]:=by rw[<-ZR (xs:=c.args),hargs]
     have e2:c.argTypes= #[t',t']:=by rw[<-ZR (xs:=c.argTypes),hts]
     have he:execOp a.eval o=(do pure (.value (<-Builtin.append_ #[t',t'] o.type #[a.eval x,a.eval y]))):=by
      simp[execOp,ho,resolve,hb,invoke,builtin,e1,e2]
     exact oD hF hkp he (by rw[hd];exact zri hi (hdd d hd) hu hinfo hz h0 hzs hx hy h)
    ·simp at hc
   ·
    rename_i d x ys hd hargs;have e1:c.args=(x::ys).toArray:=by rw[<-ZR (xs:=c.args),hargs]
    simp only[Zj,Zb,Zm,Zh] at hc;obtain⟨x',hx',ys',hys',rfl⟩:=hc;exact wQ hF hkp hc0 hdd hi h
   ·
    rename_i d x ys hd hargs;have e1:c.args=(x::ys).toArray:=by rw[<-ZR (xs:=c.args),hargs]
    simp only[Zj,Zb,Zm,Zh] at hc;obtain⟨x',hx',ys',hys',rfl⟩:=hc;exact wQ hF hkp hc0 hdd hi h
   ·simp at hc
  ·simp at hc
 ·simp at hc
end
section
variable {P : Program} {w0 : Base} {w : World} {Z0 : Bk -> Prop} {κ : Kap} {σ : St} {a : Act}
set_option maxHeartbeats 1000000 in
theorem ze2 {o:Oper} {op:AOp} (hc:cOp P o=some op):op.dst=o.dst:=by
 unfold cOp at hc;split at hc
 ·
  rename_i x d ho hd;simp only[Zd] at hc;obtain⟨x',hx,rfl⟩:=hc
  first|rfl|exact hd.symm
 ·
  rename_i d ho hd;simp only[Zj,Zb,Zm,Zh] at hc;obtain⟨e,_,n,_,rfl⟩:=hc
  first|rfl|exact hd.symm
 ·rename_i x d _ ho hd
  simp only[Zd] at hc;obtain⟨x',hx,rfl⟩:=hc
  first|rfl|exact hd.symm
 ·
  rename_i c x y d ho hd;simp only[Zj,Zb,Zm,Zh] at hc;obtain⟨c',hc',x',hx',y',hy',rfl⟩:=hc
  first|rfl|exact hd.symm
 ·
  rename_i e d ho hd;simp only[Zd] at hc;obtain⟨z,hz,rfl⟩:=hc
  first|rfl|exact hd.symm
 ·
  rename_i e x d ho hd;simp only[Zd] at hc;obtain⟨z,hz,rfl⟩:=hc
  first|rfl|exact hd.symm
 ·
  rename_i t ps d ho hd;simp only[Zj,Zb,Zm,Zh] at hc;obtain⟨z,hz,l,hl,rfl⟩:=hc
  first|rfl|exact hd.symm
 ·
  rename_i t len ps d ho hd;simp only[Zj,Zb,Zm] at hc;obtain⟨e,he,n,hn,z,hz,l,hl,hc⟩:=hc;have hu:P.underlying t=some (.slice e):=by unfold sM at he;split at he<;>simp_all
  split at hc
  ·rename_i hb
   cases hc
   first|rfl|exact hd.symm
  ·simp at hc
 ·
  rename_i t x d ho hd;simp only[Zj,Zb,Zm] at hc;obtain⟨n,hn,hc⟩:=hc;split at hc
  ·rename_i h0
   simp only[Zb,Zh] at hc;obtain⟨agg,ha,x',hx',rfl⟩:=hc
   first|rfl|exact hd.symm
  ·simp at hc
 ·
  rename_i t x y ho hd;simp only[Zj,Zb,Zm,Zh] at hc;obtain⟨n,hn,x',hx,y',hy,rfl⟩:=hc
  first|rfl|exact hd.symm
 ·
  rename_i x d ho hd;simp only[Zd] at hc;obtain⟨x',hx,rfl⟩:=hc
  first|rfl|exact hd.symm
 ·
  rename_i op t x y yt d ho hd;split at hc
  ·rename_i hop
   unfold cEq at hc;split at hc
   ·rename_i hu
    simp only[Zj,Zb,Zm,Zh] at hc;obtain⟨x',hx',y',hy',rfl⟩:=hc
    first|rfl|exact hd.symm
   ·simp only[Zj,Zb,Zm,Zh] at hc
    obtain⟨x',hx',y',hy',rfl⟩:=hc
    first|rfl|exact hd.symm
   ·simp only[Zj,Zb,Zm,Zh] at hc
    obtain⟨x',hx',y',hy',rfl⟩:=hc
    first|rfl|exact hd.symm
   ·rename_i fs hu
    simp only[Zj,Zb,Zm] at hc;obtain⟨ts,hts,hc⟩:=hc;split at hc
    ·rename_i hq
     simp only[Zb,Zh] at hc;obtain⟨x',hx',y',hy',rfl⟩:=hc
     first|rfl|exact hd.symm
    ·simp at hc
   ·rename_i e hu
    split at hc
    ·simp only[Zj,Zb,Zm,Zh] at hc
     obtain⟨x',hx',rfl⟩:=hc
     first|rfl|exact hd.symm
    ·simp only[Zj,Zb,Zm,Zh] at hc
     obtain⟨x',hx',rfl⟩:=hc
     first|rfl|exact hd.symm
    ·simp at hc
   ·simp at hc
  ·simp only[Zj,Zb,Zm,Zh] at hc
   obtain⟨x',hx',y',hy',rfl⟩:=hc
   first|rfl|exact hd.symm
 ·
  rename_i op t x d ho hd;simp only[Zd] at hc;obtain⟨x',hx,rfl⟩:=hc
  first|rfl|exact hd.symm
 ·
  rename_i src dst x d ho hd;split at hc
  ·rename_i k0 kk hs hdd'
   simp only[Zd] at hc;obtain⟨x',hx,rfl⟩:=hc
   first|rfl|exact hd.symm
  ·simp at hc
 ·
  rename_i f first caps d ho hd
  split at hc
  ·rename_i hf
   simp only[Zd] at hc;obtain⟨caps',hx,rfl⟩:=hc;have e:first= #[]:=YM hf
   first|rfl|exact hd.symm
  ·simp at hc
 ·
  rename_i t lx cx d ho hd;simp only[Zj,Zb,Zm] at hc;obtain⟨e,he,n,hn,i,hinfo,hc⟩:=hc;have hu:P.underlying t=some (.slice e):=by unfold sM at he;split at he<;>simp_all
  split at hc
  ·rename_i h0
   simp only[Zb,Zh] at hc;obtain⟨z,hz,l',hl,c',hcx,rfl⟩:=hc
   first|rfl|exact hd.symm
  ·simp at hc
 ·
  rename_i t x lo hi' d ho hd;simp only[Zj,Zb] at hc;obtain⟨lo',hlo,hi'',hhi,hc⟩:=hc;split at hc
  ·rename_i hu
   simp only[Zm,Zb,Zh] at hc;obtain⟨x',hx',rfl⟩:=hc
   first|rfl|exact hd.symm
  ·rename_i e hu
   simp only[Zm,Zb,Zh] at hc;obtain⟨n,hn,x',hx',rfl⟩:=hc
   first|rfl|exact hd.symm
  ·obtain⟨g,l,rfl,rfl,rfl,_,_,_,_,rfl⟩:=iE hc
   exact hd.symm
  ·simp at hc
 ·
  rename_i s x f d ho hd;split at hc
  ·rename_i fs hu
   simp only[Zj,Zb,Zm] at hc;obtain⟨fl,hf,n,hn,hc⟩:=hc;split at hc
   ·rename_i h0
    simp only[Zb,Zh] at hc;obtain⟨x',hx',rfl⟩:=hc
    first|rfl|exact hd.symm
   ·simp at hc
  ·simp at hc
 ·
  rename_i s x f d ho hd;split at hc
  ·rename_i fs hu
   simp only[Zj,Zb,Zm] at hc;obtain⟨fl,hf,n,hn,hc⟩:=hc;split at hc
   ·rename_i h0
    simp only[Zb,Zh] at hc;obtain⟨agg,ha,x',hx',rfl⟩:=hc
    first|rfl|exact hd.symm
   ·simp at hc
  ·simp at hc
 ·
  rename_i t x i d ho hd;split at hc
  ·rename_i e hu
   simp only[Zj,Zb,Zm] at hc;obtain⟨n,hn,hc⟩:=hc;split at hc
   ·simp only[Zb,Zh] at hc
    obtain⟨x',hx',i',hi',rfl⟩:=hc
    first|rfl|exact hd.symm
   ·simp at hc
  ·rename_i len e hu
   simp only[Zj,Zb,Zm] at hc;obtain⟨n,hn,hc⟩:=hc;split at hc
   ·simp only[Zb,Zh] at hc
    obtain⟨x',hx',i',hi',rfl⟩:=hc
    first|rfl|exact hd.symm
   ·simp at hc
  ·simp at hc
 ·
  rename_i t x i d ho hd;split at hc
  ·rename_i hu
   simp only[Zj,Zb,Zm,Zh] at hc;obtain⟨x',hx',i',hi',rfl⟩:=hc
   first|rfl|exact hd.symm
  ·rename_i len e hu
   simp only[Zj,Zb,Zm] at hc;obtain⟨n,hn,hc⟩:=hc;split at hc
   ·rename_i h0
    simp only[Zb,Zh] at hc;obtain⟨agg,ha,x',hx',i',hi',rfl⟩:=hc
    first|rfl|exact hd.symm
   ·simp at hc
  ·simp at hc
 ·
  rename_i x i d ho hd;simp only[Zj,Zb,Zm,Zh] at hc;obtain⟨x',hx',rfl⟩:=hc
  first|rfl|exact hd.symm
 ·
  rename_i c ho;split at hc
  ·rename_i f hf
   simp only[Zd] at hc;obtain⟨xs,hxs,rfl⟩:=hc;rfl
  ·rename_i t hf
   simp only[Zd] at hc;obtain⟨xs,hxs,rfl⟩:=hc;rfl
  ·rename_i b hb
   split at hc
   ·
    rename_i d x t hd hargs hts;have e1:c.args= #[x]:=by rw[<-ZR (xs:=c.args),hargs]
    have e2:c.argTypes= #[t]:=by rw[<-ZR (xs:=c.argTypes),hts]
    split at hc
    ·rename_i e hu
     simp only[Zd] at hc;obtain⟨x',hx',rfl⟩:=hc
     first|rfl|exact hd.symm
    ·rename_i hu
     simp only[Zd] at hc;obtain⟨x',hx',rfl⟩:=hc
     first|rfl|exact hd.symm
    ·simp at hc
   ·
    rename_i d x t hd hargs hts;have e1:c.args= #[x]:=by rw[<-ZR (xs:=c.args),hargs]
    have e2:c.argTypes= #[t]:=by rw[<-ZR (xs:=c.argTypes),hts]
    split at hc
    ·rename_i e hu
     simp only[Zd] at hc;obtain⟨x',hx',rfl⟩:=hc
     first|rfl|exact hd.symm
    ·simp at hc
   ·
    rename_i d x y t t' hd hargs hts;simp only[Zj,Zb] at hc;obtain⟨e,he,i,hinfo,z,hz,x',hx,y',hy,hc⟩:=hc;have hu:P.underlying t=some (.slice e):=by unfold sM at he;split at he<;>simp_all
    split at hc
    ·rename_i hb'
     obtain⟨h0,hzs,rfl⟩:=hb';cases hc;have e1:c.args= #[x,y]:=by rw[<-ZR (xs:=c.args),hargs]
     have e2:c.argTypes= #[t',t']:=by rw[<-ZR (xs:=c.argTypes),hts]
     first|rfl|exact hd.symm
    ·simp at hc
   ·
    rename_i d x ys hd hargs;have e1:c.args=(x::ys).toArray:=by rw[<-ZR (xs:=c.args),hargs]
    simp only[Zj,Zb,Zm,Zh] at hc;obtain⟨x',hx',ys',hys',rfl⟩:=hc
    first|rfl|exact hd.symm
   ·
    rename_i d x ys hd hargs;have e1:c.args=(x::ys).toArray:=by rw[<-ZR (xs:=c.args),hargs]
    simp only[Zj,Zb,Zm,Zh] at hc;obtain⟨x',hx',ys',hys',rfl⟩:=hc
    first|rfl|exact hd.symm
   ·simp at hc
  ·simp at hc
 ·simp at hc
set_option maxHeartbeats 1000000 in
theorem zrr {o:Oper} {op:AOp} (hc:cOp P o=some op) (hs:op.special=true):(∃t len ps,o.op=.buildSlice t len ps)\/(∃c,o.op=.call c)\/(∃t x lo hi,o.op=.slice t x lo hi none):=by
 unfold cOp at hc;split at hc
 ·
  rename_i x d ho hd;simp only[Zd] at hc;obtain⟨x',hx,rfl⟩:=hc
  first|exact .inl ⟨_,_,_,ho⟩|exact .inr (.inl ⟨_,ho⟩)|exact .inr (.inr ⟨_,_,_,_,ho⟩)|(exfalso;simp[AOp.special] at hs;done)
 ·
  rename_i d ho hd;simp only[Zj,Zb,Zm,Zh] at hc;obtain⟨e,_,n,_,rfl⟩:=hc
  first|exact .inl ⟨_,_,_,ho⟩|exact .inr (.inl ⟨_,ho⟩)|exact .inr (.inr ⟨_,_,_,_,ho⟩)|(exfalso;simp[AOp.special] at hs;done)
 ·rename_i x d _ ho hd
  simp only[Zd] at hc;obtain⟨x',hx,rfl⟩:=hc
  first|exact .inl ⟨_,_,_,ho⟩|exact .inr (.inl ⟨_,ho⟩)|exact .inr (.inr ⟨_,_,_,_,ho⟩)|(exfalso;simp[AOp.special] at hs;done)
 ·
  rename_i c x y d ho hd;simp only[Zj,Zb,Zm,Zh] at hc;obtain⟨c',hc',x',hx',y',hy',rfl⟩:=hc
  first|exact .inl ⟨_,_,_,ho⟩|exact .inr (.inl ⟨_,ho⟩)|exact .inr (.inr ⟨_,_,_,_,ho⟩)|(exfalso;simp[AOp.special] at hs;done)
 ·
  rename_i e d ho hd;simp only[Zd] at hc;obtain⟨z,hz,rfl⟩:=hc
  first|exact .inl ⟨_,_,_,ho⟩|exact .inr (.inl ⟨_,ho⟩)|exact .inr (.inr ⟨_,_,_,_,ho⟩)|(exfalso;simp[AOp.special] at hs;done)
 ·
  rename_i e x d ho hd;simp only[Zd] at hc;obtain⟨z,hz,rfl⟩:=hc
  first|exact .inl ⟨_,_,_,ho⟩|exact .inr (.inl ⟨_,ho⟩)|exact .inr (.inr ⟨_,_,_,_,ho⟩)|(exfalso;simp[AOp.special] at hs;done)
 ·
  rename_i t ps d ho hd;simp only[Zj,Zb,Zm,Zh] at hc;obtain⟨z,hz,l,hl,rfl⟩:=hc
  first|exact .inl ⟨_,_,_,ho⟩|exact .inr (.inl ⟨_,ho⟩)|exact .inr (.inr ⟨_,_,_,_,ho⟩)|(exfalso;simp[AOp.special] at hs;done)
 ·
  rename_i t len ps d ho hd;simp only[Zj,Zb,Zm] at hc;obtain⟨e,he,n,hn,z,hz,l,hl,hc⟩:=hc;have hu:P.underlying t=some (.slice e):=by unfold sM at he;split at he<;>simp_all
  split at hc
  ·rename_i hb
   cases hc
   first|exact .inl ⟨_,_,_,ho⟩|exact .inr (.inl ⟨_,ho⟩)|exact .inr (.inr ⟨_,_,_,_,ho⟩)|(exfalso;simp[AOp.special] at hs;done)
  ·simp at hc
 ·
  rename_i t x d ho hd;simp only[Zj,Zb,Zm] at hc;obtain⟨n,hn,hc⟩:=hc;split at hc
  ·rename_i h0
   simp only[Zb,Zh] at hc;obtain⟨agg,ha,x',hx',rfl⟩:=hc
   first|exact .inl ⟨_,_,_,ho⟩|exact .inr (.inl ⟨_,ho⟩)|exact .inr (.inr ⟨_,_,_,_,ho⟩)|(exfalso;simp[AOp.special] at hs;done)
  ·simp at hc
 ·
  rename_i t x y ho hd;simp only[Zj,Zb,Zm,Zh] at hc;obtain⟨n,hn,x',hx,y',hy,rfl⟩:=hc
  first|exact .inl ⟨_,_,_,ho⟩|exact .inr (.inl ⟨_,ho⟩)|exact .inr (.inr ⟨_,_,_,_,ho⟩)|(exfalso;simp[AOp.special] at hs;done)
 ·
  rename_i x d ho hd;simp only[Zd] at hc;obtain⟨x',hx,rfl⟩:=hc
  first|exact .inl ⟨_,_,_,ho⟩|exact .inr (.inl ⟨_,ho⟩)|exact .inr (.inr ⟨_,_,_,_,ho⟩)|(exfalso;simp[AOp.special] at hs;done)
 ·
  rename_i op t x y yt d ho hd;split at hc
  ·rename_i hop
   unfold cEq at hc;split at hc
   ·rename_i hu
    simp only[Zj,Zb,Zm,Zh] at hc;obtain⟨x',hx',y',hy',rfl⟩:=hc
    first|exact .inl ⟨_,_,_,ho⟩|exact .inr (.inl ⟨_,ho⟩)|exact .inr (.inr ⟨_,_,_,_,ho⟩)|(exfalso;simp[AOp.special] at hs;done)
   ·simp only[Zj,Zb,Zm,Zh] at hc
    obtain⟨x',hx',y',hy',rfl⟩:=hc
    first|exact .inl ⟨_,_,_,ho⟩|exact .inr (.inl ⟨_,ho⟩)|exact .inr (.inr ⟨_,_,_,_,ho⟩)|(exfalso;simp[AOp.special] at hs;done)
   ·simp only[Zj,Zb,Zm,Zh] at hc
    obtain⟨x',hx',y',hy',rfl⟩:=hc
    first|exact .inl ⟨_,_,_,ho⟩|exact .inr (.inl ⟨_,ho⟩)|exact .inr (.inr ⟨_,_,_,_,ho⟩)|(exfalso;simp[AOp.special] at hs;done)
   ·rename_i fs hu
    simp only[Zj,Zb,Zm] at hc;obtain⟨ts,hts,hc⟩:=hc;split at hc
    ·rename_i hq
     simp only[Zb,Zh] at hc;obtain⟨x',hx',y',hy',rfl⟩:=hc
     first|exact .inl ⟨_,_,_,ho⟩|exact .inr (.inl ⟨_,ho⟩)|exact .inr (.inr ⟨_,_,_,_,ho⟩)|(exfalso;simp[AOp.special] at hs;done)
    ·simp at hc
   ·rename_i e hu
    split at hc
    ·simp only[Zj,Zb,Zm,Zh] at hc
     obtain⟨x',hx',rfl⟩:=hc
     first|exact .inl ⟨_,_,_,ho⟩|exact .inr (.inl ⟨_,ho⟩)|exact .inr (.inr ⟨_,_,_,_,ho⟩)|(exfalso;simp[AOp.special] at hs;done)
    ·simp only[Zj,Zb,Zm,Zh] at hc
     obtain⟨x',hx',rfl⟩:=hc
     first|exact .inl ⟨_,_,_,ho⟩|exact .inr (.inl ⟨_,ho⟩)|exact .inr (.inr ⟨_,_,_,_,ho⟩)|(exfalso;simp[AOp.special] at hs;done)
    ·simp at hc
   ·simp at hc
  ·simp only[Zj,Zb,Zm,Zh] at hc
   obtain⟨x',hx',y',hy',rfl⟩:=hc
   first|exact .inl ⟨_,_,_,ho⟩|exact .inr (.inl ⟨_,ho⟩)|exact .inr (.inr ⟨_,_,_,_,ho⟩)|(exfalso;simp[AOp.special] at hs;done)
 ·
  rename_i op t x d ho hd;simp only[Zd] at hc;obtain⟨x',hx,rfl⟩:=hc
  first|exact .inl ⟨_,_,_,ho⟩|exact .inr (.inl ⟨_,ho⟩)|exact .inr (.inr ⟨_,_,_,_,ho⟩)|(exfalso;simp[AOp.special] at hs;done)
 ·
  rename_i src dst x d ho hd;split at hc
  ·rename_i k0 kk hs hdd'
   simp only[Zd] at hc;obtain⟨x',hx,rfl⟩:=hc
   first|exact .inl ⟨_,_,_,ho⟩|exact .inr (.inl ⟨_,ho⟩)|exact .inr (.inr ⟨_,_,_,_,ho⟩)|(exfalso;simp[AOp.special] at hs;done)
  ·simp at hc
 ·
  rename_i f first caps d ho hd
  split at hc
  ·rename_i hf
   simp only[Zd] at hc;obtain⟨caps',hx,rfl⟩:=hc;have e:first= #[]:=YM hf
   first|exact .inl ⟨_,_,_,ho⟩|exact .inr (.inl ⟨_,ho⟩)|exact .inr (.inr ⟨_,_,_,_,ho⟩)|(exfalso;simp[AOp.special] at hs;done)
  ·simp at hc
 ·
  rename_i t lx cx d ho hd;simp only[Zj,Zb,Zm] at hc;obtain⟨e,he,n,hn,i,hinfo,hc⟩:=hc;have hu:P.underlying t=some (.slice e):=by unfold sM at he;split at he<;>simp_all
  split at hc
  ·rename_i h0
   simp only[Zb,Zh] at hc;obtain⟨z,hz,l',hl,c',hcx,rfl⟩:=hc
   first|exact .inl ⟨_,_,_,ho⟩|exact .inr (.inl ⟨_,ho⟩)|exact .inr (.inr ⟨_,_,_,_,ho⟩)|(exfalso;simp[AOp.special] at hs;done)
  ·simp at hc
 ·
  rename_i t x lo hi' d ho hd;simp only[Zj,Zb] at hc;obtain⟨lo',hlo,hi'',hhi,hc⟩:=hc;split at hc
  ·rename_i hu
   simp only[Zm,Zb,Zh] at hc;obtain⟨x',hx',rfl⟩:=hc
   first|exact .inl ⟨_,_,_,ho⟩|exact .inr (.inl ⟨_,ho⟩)|exact .inr (.inr ⟨_,_,_,_,ho⟩)|(exfalso;simp[AOp.special] at hs;done)
  ·rename_i e hu
   simp only[Zm,Zb,Zh] at hc;obtain⟨n,hn,x',hx',rfl⟩:=hc
   first|exact .inl ⟨_,_,_,ho⟩|exact .inr (.inl ⟨_,ho⟩)|exact .inr (.inr ⟨_,_,_,_,ho⟩)|(exfalso;simp[AOp.special] at hs;done)
  ·obtain⟨g,l,rfl,rfl,rfl,_,_,_,_,rfl⟩:=iE hc
   simp[AOp.special] at hs
  ·simp at hc
 ·
  rename_i s x f d ho hd;split at hc
  ·rename_i fs hu
   simp only[Zj,Zb,Zm] at hc;obtain⟨fl,hf,n,hn,hc⟩:=hc;split at hc
   ·rename_i h0
    simp only[Zb,Zh] at hc;obtain⟨x',hx',rfl⟩:=hc
    first|exact .inl ⟨_,_,_,ho⟩|exact .inr (.inl ⟨_,ho⟩)|exact .inr (.inr ⟨_,_,_,_,ho⟩)|(exfalso;simp[AOp.special] at hs;done)
   ·simp at hc
  ·simp at hc
 ·
  rename_i s x f d ho hd;split at hc
  ·rename_i fs hu
   simp only[Zj,Zb,Zm] at hc;obtain⟨fl,hf,n,hn,hc⟩:=hc;split at hc
   ·rename_i h0
    simp only[Zb,Zh] at hc;obtain⟨agg,ha,x',hx',rfl⟩:=hc
    first|exact .inl ⟨_,_,_,ho⟩|exact .inr (.inl ⟨_,ho⟩)|exact .inr (.inr ⟨_,_,_,_,ho⟩)|(exfalso;simp[AOp.special] at hs;done)
   ·simp at hc
  ·simp at hc
 ·
  rename_i t x i d ho hd;split at hc
  ·rename_i e hu
   simp only[Zj,Zb,Zm] at hc;obtain⟨n,hn,hc⟩:=hc;split at hc
   ·simp only[Zb,Zh] at hc
    obtain⟨x',hx',i',hi',rfl⟩:=hc
    first|exact .inl ⟨_,_,_,ho⟩|exact .inr (.inl ⟨_,ho⟩)|exact .inr (.inr ⟨_,_,_,_,ho⟩)|(exfalso;simp[AOp.special] at hs;done)
   ·simp at hc
  ·rename_i len e hu
   simp only[Zj,Zb,Zm] at hc;obtain⟨n,hn,hc⟩:=hc;split at hc
   ·simp only[Zb,Zh] at hc
    obtain⟨x',hx',i',hi',rfl⟩:=hc
    first|exact .inl ⟨_,_,_,ho⟩|exact .inr (.inl ⟨_,ho⟩)|exact .inr (.inr ⟨_,_,_,_,ho⟩)|(exfalso;simp[AOp.special] at hs;done)
   ·simp at hc
  ·simp at hc
 ·
  rename_i t x i d ho hd;split at hc
  ·rename_i hu
   simp only[Zj,Zb,Zm,Zh] at hc;obtain⟨x',hx',i',hi',rfl⟩:=hc
   first|exact .inl ⟨_,_,_,ho⟩|exact .inr (.inl ⟨_,ho⟩)|exact .inr (.inr ⟨_,_,_,_,ho⟩)|(exfalso;simp[AOp.special] at hs;done)
  ·rename_i len e hu
   simp only[Zj,Zb,Zm] at hc;obtain⟨n,hn,hc⟩:=hc;split at hc
   ·rename_i h0
    simp only[Zb,Zh] at hc;obtain⟨agg,ha,x',hx',i',hi',rfl⟩:=hc
    first|exact .inl ⟨_,_,_,ho⟩|exact .inr (.inl ⟨_,ho⟩)|exact .inr (.inr ⟨_,_,_,_,ho⟩)|(exfalso;simp[AOp.special] at hs;done)
   ·simp at hc
  ·simp at hc
 ·
  rename_i x i d ho hd;simp only[Zj,Zb,Zm,Zh] at hc;obtain⟨x',hx',rfl⟩:=hc
  first|exact .inl ⟨_,_,_,ho⟩|exact .inr (.inl ⟨_,ho⟩)|exact .inr (.inr ⟨_,_,_,_,ho⟩)|(exfalso;simp[AOp.special] at hs;done)
 ·
  rename_i c ho;split at hc
  ·rename_i f hf
   simp only[Zd] at hc;obtain⟨xs,hxs,rfl⟩:=hc
   first|exact .inl ⟨_,_,_,ho⟩|exact .inr (.inl ⟨_,ho⟩)|exact .inr (.inr ⟨_,_,_,_,ho⟩)|(exfalso;simp[AOp.special] at hs;done)
  ·rename_i t hf
   simp only[Zd] at hc;obtain⟨xs,hxs,rfl⟩:=hc
   first|exact .inl ⟨_,_,_,ho⟩|exact .inr (.inl ⟨_,ho⟩)|exact .inr (.inr ⟨_,_,_,_,ho⟩)|(exfalso;simp[AOp.special] at hs;done)
  ·rename_i b hb
   split at hc
   ·
    rename_i d x t hd hargs hts;have e1:c.args= #[x]:=by rw[<-ZR (xs:=c.args),hargs]
    have e2:c.argTypes= #[t]:=by rw[<-ZR (xs:=c.argTypes),hts]
    split at hc
    ·rename_i e hu
     simp only[Zd] at hc;obtain⟨x',hx',rfl⟩:=hc
     first|exact .inl ⟨_,_,_,ho⟩|exact .inr (.inl ⟨_,ho⟩)|exact .inr (.inr ⟨_,_,_,_,ho⟩)|(exfalso;simp[AOp.special] at hs;done)
    ·rename_i hu
     simp only[Zd] at hc;obtain⟨x',hx',rfl⟩:=hc
     first|exact .inl ⟨_,_,_,ho⟩|exact .inr (.inl ⟨_,ho⟩)|exact .inr (.inr ⟨_,_,_,_,ho⟩)|(exfalso;simp[AOp.special] at hs;done)
    ·simp at hc
   ·
    rename_i d x t hd hargs hts;have e1:c.args= #[x]:=by rw[<-ZR (xs:=c.args),hargs]
    have e2:c.argTypes= #[t]:=by rw[<-ZR (xs:=c.argTypes),hts]
    split at hc
    ·rename_i e hu
     simp only[Zd] at hc;obtain⟨x',hx',rfl⟩:=hc
     first|exact .inl ⟨_,_,_,ho⟩|exact .inr (.inl ⟨_,ho⟩)|exact .inr (.inr ⟨_,_,_,_,ho⟩)|(exfalso;simp[AOp.special] at hs;done)
    ·simp at hc
   ·
    rename_i d x y t t' hd hargs hts;simp only[Zj,Zb] at hc;obtain⟨e,he,i,hinfo,z,hz,x',hx,y',hy,hc⟩:=hc;have hu:P.underlying t=some (.slice e):=by unfold sM at he;split at he<;>simp_all
    split at hc
    ·rename_i hb'
     obtain⟨h0,hzs,rfl⟩:=hb';cases hc;have e1:c.args= #[x,y]:=by rw[<-ZR (xs:=c.args),hargs]
     have e2:c.argTypes= #[t',t']:=by rw[<-ZR (xs:=c.argTypes),hts]
     first|exact .inl ⟨_,_,_,ho⟩|exact .inr (.inl ⟨_,ho⟩)|exact .inr (.inr ⟨_,_,_,_,ho⟩)|(exfalso;simp[AOp.special] at hs;done)
    ·simp at hc
   ·
    rename_i d x ys hd hargs;have e1:c.args=(x::ys).toArray:=by rw[<-ZR (xs:=c.args),hargs]
    simp only[Zj,Zb,Zm,Zh] at hc;obtain⟨x',hx',ys',hys',rfl⟩:=hc
    first|exact .inl ⟨_,_,_,ho⟩|exact .inr (.inl ⟨_,ho⟩)|exact .inr (.inr ⟨_,_,_,_,ho⟩)|(exfalso;simp[AOp.special] at hs;done)
   ·
    rename_i d x ys hd hargs;have e1:c.args=(x::ys).toArray:=by rw[<-ZR (xs:=c.args),hargs]
    simp only[Zj,Zb,Zm,Zh] at hc;obtain⟨x',hx',ys',hys',rfl⟩:=hc
    first|exact .inl ⟨_,_,_,ho⟩|exact .inr (.inl ⟨_,ho⟩)|exact .inr (.inr ⟨_,_,_,_,ho⟩)|(exfalso;simp[AOp.special] at hs;done)
   ·simp at hc
  ·simp at hc
 ·simp at hc
end
section
variable {P : Program} {w0 : Base} {w : World} {Z0 : Bk -> Prop} {κ : Kap} {σ : St} {a : Act}
section
variable {o o' : Nat -> Option O} {κ' : Kap} {Z Z' : Bk -> Prop}
theorem K.fz_pure {x:K} {v:Value} (h:v.oneCell'=true/\yU w Z κ o x v) (hx: ∀e sz nl rows,x≠.newl e sz nl rows) (hz: ∀b,Z b->Z' b):v.oneCell'=true/\yU w Z' κ' o' x.fz v:=by
 refine⟨h.1,?_⟩;cases x with
 |c x=>exact PRep.mono (fun _ _=>rfl) hz h.2
 |newl e sz nl rows=>exact absurd rfl (hx _ _ _ _)
 |_=>trivial
def dK (w:World) (Z Z':Bk->Prop) (κ:Kap) (o:Nat->Option O):Prop:=(∀b,Z b->Z' b)/\ ∀τ ob,o τ=some ob->wB w Z κ o τ ob/\ ∀c b,κ τ=some b->Z' (c,b)
theorem ze3 (ht:dK w Z Z' κ o) {n:Nat} {e sz:Nat} {nl:Option Bool} {rows:List (List C)} (ho:o n=some (.arr e sz nl rows)) {v:Value} (h:v.oneCell'=true/\yU w Z κ o (.own n) v):
  v.oneCell'=true/\yU w Z' κ' o' (.c (.list sz nl rows)) v:=by
 refine⟨h.1,?_⟩;obtain⟨h1,h2⟩:=ht.2 n _ ho;have h1':wB w Z' κ o n (.arr e sz nl rows):=by
  rcases h1 with h1|⟨b,cur,cap,g1,g2,g3,g4,g5,g6,g7,g8,g9⟩
  ·exact .inl h1
  ·exact .inr ⟨b,cur,cap,g1,g2,g3,g4,g5,g6,g7,g8,fun i j r c hr hc=>let ⟨v,hv,hp⟩:=g9 i j r c hr hc;⟨v,hv,hp.mono (fun _ _=>rfl) ht.1⟩⟩
 exact(zeN (Z:=Z') ho h1' h2).2.1 e sz nl rows rfl v h.2
theorem fz_row (ht:dK w Z Z' κ o): ∀(r:List K) (n:Nat) (cs:List Value),(∀(i:Nat) ob,(K.regs n r).2[i]?=some ob->o (n+i)=some ob)->yB w Z κ o (K.regs n r).1 cs->yB w Z' κ' o' (r.map K.fz) cs
 |[],n,cs,_,h=>⟨h.1,by simp⟩
 |x::r,n,cs,ho,h=>by
  cases cs with
  |nil=>have:=h.1;cases x<;>simp[K.regs] at this
  |cons v cs=>
   have cons: ∀{k:K} {l:List K},(v.oneCell'=true/\yU w Z' κ' o' k v)->yB w Z' κ' o' l cs->yB w Z' κ' o' (k::l) (v::cs):=by
    intro k l hk hl;refine⟨by simp[hl.1],fun j k' u h1 h2=>?_⟩;cases j with
    |zero=>simp at h1 h2;subst h1;subst h2;exact hk
    |succ j=>exact hl.2 j k' u (by simpa using h1) (by simpa using h2)
   have tl: ∀{k:K} {l:List K},yB w Z κ o (k::l) (v::cs)->yB w Z κ o l cs:=fun h=>⟨by simpa using h.1,fun j k' u h1 h2=>h.2 (j+1) k' u (by simpa using h1) (by simpa using h2)⟩
   by_cases hx: ∃e sz nl rows,x=.newl e sz nl rows
   ·obtain⟨e,sz,nl,rows,rfl⟩:=hx
    simp only[K.regs] at ho h;refine cons (ze3 ht (n:=n) (ho 0 _ rfl) (h.2 0 _ _ rfl rfl)) (fz_row ht r (n+1) cs (fun i ob hi=>?_) (tl h));have:=ho (i+1) ob (by simpa using hi);rw[YK,Y8 1 i];exact this
   ·have hx': ∀e sz nl rows,x≠.newl e sz nl rows:=fun e sz nl rows h=>hx ⟨e,sz,nl,rows,h⟩
    rw[regs_same hx'] at ho h;exact cons (K.fz_pure (h.2 0 _ _ rfl rfl) hx' ht.1) (fz_row ht r n cs ho (tl h))
where
 regs_same {x:K} (hx: ∀e sz nl rows,x≠.newl e sz nl rows) {n:Nat} {r:List K}:K.regs n (x::r)=(x::(K.regs n r).1,(K.regs n r).2):=by
  cases x<;>first|rfl|exact absurd rfl (hx _ _ _ _)
mutual
theorem zbv (ht:dK w Z Z' κ o): ∀(r:V) (n:Nat) (v:Value),(∀(i:Nat) ob,(r.reg n).2[i]?=some ob->o (n+i)=some ob)->zK w Z κ o (r.reg n).1 v->zK w Z' κ' o' r.fz v
 | .k x,n,v,ho,h=>by
   by_cases hx: ∃e sz nl rows,x=.newl e sz nl rows
   ·obtain⟨e,sz,nl,rows,rfl⟩:=hx
    exact ze3 ht (n:=n) (ho 0 _ rfl) h
   ·have hx': ∀e sz nl rows,x≠.newl e sz nl rows:=fun e sz nl rows h=>hx ⟨e,sz,nl,rows,h⟩
    have e1:(V.k x).reg n=(.k x,[]):=by cases x<;>first|rfl|exact absurd rfl (hx' _ _ _ _)
    rw[e1] at h;exact K.fz_pure h hx' ht.1
 | .agg r,n,v,ho,h=>by
   obtain⟨cs,rfl,hr⟩:=h;exact⟨cs,rfl,hr.mono (fun _ _=>rfl) ht.1⟩
 | .agk r,n,v,ho,h=>by
   obtain⟨cs,rfl,hr⟩:=h;have:=fz_row (κ':=κ') (o':=o') ht r n _ ho hr;simp only[V.fz];split
   ·rename_i l hl
    rw[kE hl] at this;exact⟨cs,rfl,this.toPure⟩
   ·exact⟨cs,rfl,this⟩
 | .tup vs,n,v,ho,h=>by
   obtain⟨us,rfl,hl,hr⟩:=h;have h1:us.toList.length=(V.regL n vs).1.length:=hl;exact⟨us,rfl,by rw[h1,regL_len,fzL_len],fzL_rep ht vs n us.toList ho h1 hr⟩
 | .undef,n,v,ho,h=>trivial
 | .any,n,v,ho,h=>trivial
theorem fzL_rep (ht:dK w Z Z' κ o): ∀(rs:List V) (n:Nat) (vs:List Value),(∀(i:Nat) ob,(V.regL n rs).2[i]?=some ob->o (n+i)=some ob)->vs.length=(V.regL n rs).1.length->VRepL w Z κ o (V.regL n rs).1 vs->VRepL w Z' κ' o' (V.fzL rs) vs
 |[],n,vs,ho,hl,h=>trivial
 |r::rs,n,[],ho,hl,h=>by simp[V.regL] at hl
 |r::rs,n,v::vs,ho,hl,h=>by
  simp only[V.regL] at ho hl h;refine⟨zbv ht r n v (fun i ob hi=>ho i ob ?_) h.1,fzL_rep ht rs _ vs (fun i ob hi=>?_) (by simpa using hl) h.2⟩
  ·rw[ZL (Zu.1 hi).1];exact hi
  ·have:=ho ((r.reg n).2.length+i) ob (by rw[ZM (by omega)];simpa using hi)
   rw[YK];exact this
theorem regL_len: ∀(rs:List V) (n:Nat),(V.regL n rs).1.length=rs.length
 |[],_=>rfl
 |r::rs,n=>by simp[V.regL,regL_len rs]
theorem fzL_len: ∀(rs:List V),(V.fzL rs).length=rs.length
 |[]=>rfl
 |r::rs=>by simp[V.fzL,fzL_len rs]
end
end
theorem ze4 (hi:Inv w0 Z0 κ σ a.tmps w) {d:Nat} (hd:d<a.tmps.size) {f:FuncId} {args:List Operand} {xs:List AX} (hxs:args.mapM ax=some xs) {cs:List C} {us:List Value}
  (hcs:yG w (Zof w0 Z0 κ σ.o w) cs us) {Kp:St->Prop} (h:nB P σ d f xs cs Kp):
  tJ P f/\Calls P f (args.map a.eval++us).toArray w fun e w'=> ∃v κ' σ',e=.returned v/\Inv w0 Z0 κ' σ' (a.put (some d) v).tmps w'/\Kp σ':=by
 obtain⟨h1,h2,r,hS,h3,hk⟩:=h;obtain⟨hlen,hget⟩:=dI hxs;refine⟨hS.1,(hS.2 w (pJ w0 Z0 κ σ w (xs.flatMap fun x=>(x.ev σ).strip.1.toks)) (args.map a.eval++us).toArray hi.globB (fun b hb=>hb.lt hi) ?_).mono ?_⟩
 ·refine⟨by simp[hlen,hcs.1],fun j x v hx hv=>?_⟩
  simp only at hv;by_cases hj:j<args.length
  ·rw[ZL (by simpa [hlen] using hj)] at hx
   rw[ZL (by simpa using hj)] at hv;simp only[Zz,Zd] at hx hv;obtain⟨x',hx',rfl⟩:=hx;obtain⟨y,hy,rfl⟩:=hv;have hm:=ZP hx';exact zK.norm (h2 x' hm) (zbu hi (hget j y x' hy hx') (h1 x' hm) (h2 x' hm) (fun τ hτ=>XU.2 ⟨x',hm,hτ⟩))
  ·rw[ZM (by simp[hlen];omega)] at hx
   rw[ZM (by simp;omega)] at hv;simp only[Zg,hlen] at hx hv;simp only[Zz,Zd] at hx;obtain⟨c,hc,rfl⟩:=hx;have hp:=hcs.2 _ c v hc hv;exact⟨rfl,hp.oneCell,(hp.mono (fun _ _=>rfl) (fun b hb=> .inl hb)).norm⟩
 ·rintro e w' ⟨v,r',rfl,rfl,hcl,hrep⟩
  obtain⟨κr,hI⟩:=hrep 0;have hv:=hI.tmps 0;have e3:(#[v]:Array Value).getD 0 undef=v:=rfl;simp only[e3,if_true] at hv;have hi':=hi.later hI.kept;refine⟨v,κ,σ.put d r'.fz,rfl,hi'.put hd ?_,hk⟩;rcases h3 with h3|h3
  ·simp only[zbt 0 r' h3] at hv
   have e4:r'.fz=r':=scalar_fz r' h3;rw[e4];exact zbs r' h3 hv
  ·refine zbv (Z:=Zof (base w) (pJ w0 Z0 κ σ w (xs.flatMap fun x=>(x.ev σ).strip.1.toks)) κr (zZ 0 (r'.reg 0).2) w') (κ:=κr) (o:=zZ 0 (r'.reg 0).2) ⟨fun b hb=>?_,fun τ ob hob=>⟨hI.objs τ ob hob,fun c b hb=>?_⟩⟩ r' 0 v (fun i ob hob=>?_) hv
   ·obtain⟨g1,g2,g3⟩:=hb
    have hsz:=hI.kept.size;rcases g1 with⟨g1,g4⟩|g1
    ·rcases g1 with g1|⟨τ,hτ,_⟩
     ·exact⟨g1.1.imp id fun h=>⟨h.1,kF (hI.kept.block b.2 g1.2.1) h.2⟩,g2,g1.2.2⟩
     ·obtain⟨x,hx,hx'⟩:=XU.1 hτ
      rw[h3 x hx] at hx';simp at hx'
    ·refine⟨.inr ⟨hi.kept.fresh (Xu g1.1),g1.2⟩,g2,fun τ hτ hκ=>?_⟩
     exact g1.1 (hi.own τ b.2 hτ hκ).2
   ·have:=hI.own τ b (by simp only[hob];simp) hb
    refine⟨.inr ⟨hi.kept.fresh (Xu this.1),dD (hI.objs τ ob hob) hb⟩,this.2,fun τ hτ hκ=>?_⟩;exact this.1 (hi.own τ b hτ hκ).2
   ·simp only[zZ,ZC,if_true,XG,ZY];exact hob
where
 scalar_fz: ∀(r:V),r.scalar=true->r.fz=r
  | .k (.c _),_=>rfl
  | .tup vs,h=>by
    simp only[V.scalar] at h;simp only[V.fz,scalar_fzL vs h]
  | .k (.own _),h=>by simp[V.scalar] at h
  | .k (.ptr _ _),h=>by simp[V.scalar] at h
  | .k (.elem _ _ _),h=>by simp[V.scalar] at h
  | .k (.pel _ _ _ _),h=>by simp[V.scalar] at h
  | .k (.fnk _ _),h=>by simp[V.scalar] at h
  | .k (.newl _ _ _ _),h=>by simp[V.scalar] at h
  | .k .dead,h=>by simp[V.scalar] at h
  | .agg _,h=>by simp[V.scalar] at h
  | .agk _,h=>by simp[V.scalar] at h
  | .undef,h=>by simp[V.scalar] at h
  | .any,h=>by simp[V.scalar] at h
 scalar_fzL: ∀(rs:List V),V.scalarL rs=true->V.fzL rs=rs
  |[],_=>rfl
  |r::rs,h=>by
   simp only[V.scalarL,Zr] at h;simp only[V.fzL,scalar_fz r h.1,scalar_fzL rs h.2]
theorem ze5 (hi:Inv w0 Z0 κ σ a.tmps w): ∀(parts:List (Nat×Operand)) (ps:List (Nat×AX)) {Kp:List (Nat×List C)->Prop},
  (parts.mapM fun(p:Nat×Operand)=>(ax p.2).map fun x=>(p.1,x))=some ps->uR σ ps Kp->
  ∃rs,Kp rs/\rs.length=parts.length/\ ∀(j:Nat) p r,parts[j]?=some p->rs[j]?=some r->r.1=p.1/\yG w (Zof w0 Z0 κ σ.o w) r.2 (a.eval p.2).cells.toList
 |[],ps,Kp,hps,h=>by
  simp at hps;subst hps;exact⟨[],h,rfl,by simp⟩
 |(i,x)::parts,ps,Kp,hps,h=>by
  simp only[YE,Zj,Zb,Zm,Zh,Zd] at hps;obtain⟨p,⟨x',hx',rfl⟩,ps',hps',rfl⟩:=hps;simp only[uR] at h;obtain⟨h1,h⟩:=h;split at h
  ·rename_i r hr
   obtain⟨rs,h,hl,hrs⟩:=ze5 hi parts ps' hps' h;refine⟨(i,r)::rs,h,by simp[hl],fun j p q hp hq=>?_⟩;cases j with
   |zero=>
    simp at hp hq;subst hp;subst hq;exact⟨rfl,pure_row hr ((qR hi hx').strip h1)⟩
   |succ j=>exact hrs j p q (by simpa using hp) (by simpa using hq)
  ·exact h.elim
theorem zrs (hi:Inv w0 Z0 κ σ a.tmps w) {t e d n len:Nat} (hd:d<a.tmps.size) (ht:P.underlying t=some (.slice e)) (hn:yW P e=some n) (h0:0<n) (hle:(len+1)*n<=2 ^ 24) {zero:List C} (hz:qP P e=some zero)
  {parts:Array (Nat×Operand)} {ps:List (Nat×AX)} (hps:(parts.toList.mapM fun(p:Nat×Operand)=>(ax p.2).map fun x=>(p.1,x))=some ps) {Kp:St->Prop} (h:yA P σ (.bslice d e n zero (len+1) ps) Kp):
  qS P w0 Z0 a w Kp (some d) (do pure (.value (<-Instr.buildSlice t (len+1) (parts.map fun(i,x)=>(i,a.eval x))))):=by
 simp only[yA] at h;obtain⟨rs,⟨hzl,hb,hk⟩,hlen,hrs⟩:=ze5 hi parts.toList ps hps h;obtain⟨i,z,hinfo,hzero,hzrow⟩:=iI hz;have hni:i.size=n:=by simpa [yW,hinfo] using hn
 have hzs:z.cells.size=n:=by have:=(hzrow w (fun _=>True)).1;simp at this;omega
 have hA0:nK w (Zof w0 Z0 κ σ.o w) n (len+1) (List.replicate (len+1) zero) (madeCells z.cells ((len+1)*n)):=by
  refine⟨by simp,size_madeCells _ _,by intro r hr;rw[List.eq_of_mem_replicate hr];exact hzl,fun i j r c hr hc=>?_⟩;rw[List.getElem?_replicate] at hr;split at hr
  ·rename_i hi'
   cases hr;have hj:j<n:=by rw[<-hzl];exact(Zu.1 hc).1
   rw[zbp z.cells (len+1) i j n hzs h0 hi' hj];have hlt:j<z.cells.size:=by omega
   exact⟨z.cells[j],Ya hlt,(hzrow w _).2 j c _ hc (by simp[hlt])⟩
  ·simp at hr
 obtain⟨cells',hfill,hA⟩:=zbq (parts.toList.map fun p=>(p.1,a.eval p.2)) rs _ _ hA0 (by simp) (by simp[hlen]) (fun j p r h1 h2=>by
  simp only[Zz,Zd] at h1
  obtain⟨q,hq,rfl⟩:=h1
  exact hrs j q r hq h2) hb
 obtain⟨c1,c2,c3,c4⟩:=hA;have c0:(rs.foldl (fun rows p=>rows.set p.1 p.2) (List.replicate (len+1) zero)).length=len+1:=by rw[zeT];simp
 have hkept:=rT w (.cells cells' e);have hi':=hi.later hkept;have hv:zK (w.alloc (.cells cells' e)) (Zof w0 Z0 κ σ.o (w.alloc (.cells cells' e))) κ σ.o (.list n (some false) (rs.foldl (fun rows p=>rows.set p.1 p.2) (List.replicate (len+1) zero))) (.slice (some ⟨w.heap.size,0,none⟩) (len+1) (len+1)):=by
  refine⟨rfl,?_⟩;show PRep _ _ _ _;have hm:=iH (w:=w.alloc (.cells cells' e)) (Z:=Zof w0 Z0 κ σ.o (w.alloc (.cells cells' e))) (b:=w.heap.size) (q:=0) (cap:=len+1) (sz:=n) (nl:=some false)
   (rows:=rs.foldl (fun rows p=>rows.set p.1 p.2) (List.replicate (len+1) zero)) (by simp) (by omega) (by have:len+1<=(len+1)*n:=XK _ h0;simp only[maxLen];omega) ⟨fun _=>?_,c3,fun i j r c hr hc=>?_⟩
  ·rw[c0] at hm;exact hm
  ·refine⟨.inr ⟨hi.kept.fresh (Zw _),fun cur e f hc=>by rw[alloc_get] at hc;cases hc;rfl⟩,wU (alloc_get w _),fun τ hτ hκ=>?_⟩
   have:=(hi.own τ _ hτ hκ).2;omega
  ·obtain⟨v,hv,hp⟩:=c4 i j r c hr hc
   refine⟨v,by rw[ZY,cell_of_row _ w.heap.size _ cells' e (0,0) (alloc_get w _)];exact hv,hp.mono (hkept.same _ (fun b hb=>hb.2.1)) (fun b hb=>⟨hb.1.imp id fun h=>⟨h.1,kF (hkept.block b.2 hb.2.1) h.2⟩,ZO hb.2.1 hkept.size,hb.2.2⟩)⟩
 refine tY (u:=.slice (some ⟨w.heap.size,0,none⟩) (len+1) (len+1)) (w':=w.alloc (.cells cells' e)) ?_ (hi'.put hd hv) hk;have n1: ¬((len+1)*n>2 ^ 24):=by omega
 have hzv:(zeroValue e).run P w=.ok z w:=by simp[zeroValue,typeInfo,hinfo,hzero]
 have hz0: ¬(len+1)*n=0:=by
  have:0<(len+1)*n:=Nat.mul_pos (by omega) h0;omega
 unfold madeCells at hfill;simp[Instr.buildSlice,run_underlying ht,uS hn,hz0,n1,hzv,hfill,newRow]
theorem ze6 {F:Fm} (hF:F.ok a) {o:Oper} (hkp: ∀d,o.dst=some d->F.kp d=false) {op:AOp} (hc:cOp P o=some op) (hdd: ∀d,o.dst=some d->d<a.tmps.size) (hi:Inv w0 Z0 κ σ a.tmps w) {Kp:St->Prop} (h:yA P σ op Kp) {Q:Exit->Act->World->Prop}:
  o.wp P a w (Nx w0 Z0 a.defers F Kp) Q:=by
 by_cases hs:op.special=true
 case neg=>
  have he:=eK (P:=P) (op:=op) (by simpa using hs);rw[congrFun (congrFun he σ) Kp] at h;exact dJ hF hkp hc hdd hi h
 rcases zrr hc hs with⟨t,len,ps,ho⟩|⟨c,ho⟩|⟨t,x,lo,hi',ho⟩
 ·have hc':=hc
  simp only[cOp,ho] at hc';cases hd:o.dst with
  |none=>rw[hd] at hc';simp at hc'
  |some d=>
   rw[hd] at hc';simp only[Zj,Zb,Zm] at hc';obtain⟨e',he,n,hn,z,hz,l,hl,hc'⟩:=hc';have hu:P.underlying t=some (.slice e'):=by unfold sM at he;split at he<;>simp_all
   split at hc'
   ·rename_i hb
    cases hc';cases len with
    |zero=>simp[AOp.special] at hs
    |succ len=>exact oD hF hkp (s:=do pure (.value (<-Instr.buildSlice t (len+1) (ps.map fun(i,x)=>(i,a.eval x))))) (by simp[execOp,ho]) (by rw[hd];exact zrs hi (hdd d hd) hu hn hb.1 hb.2 hz hl h)
   ·simp at hc'
 ·have hc':=hc
  simp only[cOp,ho] at hc';split at hc'
  ·rename_i f hf
   simp only[Zd] at hc';obtain⟨xs,hxs,rfl⟩:=hc';cases hd:o.dst with
   |none=>rw[hd] at hs;simp[AOp.special] at hs
   |some d=>
    rw[hd] at h;obtain⟨hcall,hC⟩:=ze4 hi (hdd d hd) hxs (cs:=[]) (us:=[]) ⟨rfl,by simp⟩ h;rw[<-hd] at hC;refine kJ hF hkp hcall ?_ hC;have hm:(c.args.toList.map a.eval++[]).toArray=c.args.map a.eval:=by apply XQ;simp
    rw[hm];simp[execOp,ho,resolve,hf,Act.eval,Deferred.ofValue,invoke,kG hcall]
  ·rename_i t hf
   simp only[Zd] at hc';obtain⟨xs,hxs,rfl⟩:=hc';cases hd:o.dst with
   |none=>rw[hd] at hs;simp[AOp.special] at hs
   |some d=>
    rw[hd] at h;simp only[yA] at h;obtain⟨h1,h⟩:=h;have hv:=(qR hi (x:=.tmp t) (y:=.t t) rfl).strip h1;split at h
    ·rename_i f cs hfn
     rw[hfn] at hv;obtain⟨us,hev,hpr⟩:=ze1 hv.2;obtain⟨hcall,hC⟩:=ze4 hi (hdd d hd) hxs hpr h;rw[<-hd] at hC;refine kJ hF hkp hcall ?_ hC;have hm:(c.args.toList.map a.eval++us).toArray=c.args.map a.eval++us.toArray:=by apply XQ;simp
     rw[hm];simp[execOp,ho,resolve,hf,hev,Deferred.ofValue,invoke,kG hcall]
    ·exact h.elim
  ·rename_i b hb
   exfalso;split at hc'<;>try simp only[Zj,Zb,Zm,Zh,Zd] at hc'
   ·split at hc'
    ·simp only[Zd] at hc'
     obtain⟨_,_,rfl⟩:=hc';simp[AOp.special] at hs
    ·simp only[Zd] at hc'
     obtain⟨_,_,rfl⟩:=hc';simp[AOp.special] at hs
    ·simp at hc'
   ·split at hc'
    ·simp only[Zd] at hc'
     obtain⟨_,_,rfl⟩:=hc';simp[AOp.special] at hs
    ·simp at hc'
   ·obtain⟨e,he,i,hinfo,z,hz,x',hx,y',hy,hc'⟩:=hc'
    split at hc'
    ·cases hc';simp[AOp.special] at hs
    ·simp at hc'
   ·obtain⟨_,_,_,_,rfl⟩:=hc';simp[AOp.special] at hs
   ·obtain⟨_,_,_,_,rfl⟩:=hc';simp[AOp.special] at hs
   ·simp at hc'
  ·simp at hc'
 ·cases op
  case slice d sz x lo hi'=>
   simp only[yA] at h;refine dJ hF hkp hc hdd hi ?_;simp only[yC];rw[h.1];exact h.2
  all_goals
   exfalso;simp only[cOp,ho] at hc;cases hd:o.dst with
   |none=>rw[hd] at hc;simp at hc
   |some d=>
    rw[hd] at hc;simp only[Zj,Zb] at hc;obtain⟨lo',hlo,hi'',hhi,hc⟩:=hc
    first
     |(simp[AOp.special] at hs;done)
     |(split at hc<;>first|(simp[Zb] at hc;done)|(obtain⟨_,_,_,_,_,_,_,_,_,e⟩:=iE hc;cases e))
end
section
variable {P : Program} {w0 : Base} {w : World} {Z0 : Bk -> Prop} {κ : Kap} {σ : St} {a : Act} {fr : Array Value}
theorem ze7 {ops:Array Oper} {j s:Nat} {o':Oper} (ho:ops[j]?=some o') (hs:o'.dst=some s) (hlt:s<a.tmps.size):
  yielded ops a.tmps j=match a.tmps.getD s undef with| .bool b=>some b|_=>none:=by
 unfold yielded;simp only[ho,YG,hs];have:a.tmps[s]?=some (a.tmps.getD s undef):=by
  rw[ZW,Ya hlt];rfl
 rw[this];cases a.tmps.getD s undef<;>rfl
theorem zbw {F:Fm} {ops:Array Oper} {Q:Exit->Act->World->Prop} {i:Nat} {o:Oper} {ai:AI} (ho:ops[i]?=some o) (hc:cAI P F.n ops o=some ai) (hF:F.ok a) (hav:ai.avoids F.kp=true) (hi:Inv w0 Z0 κ σ a.tmps w)
  {Kp:St->Prop} (h:uW P ai Kp σ):wpOp P ops Q i (Nx w0 Z0 a.defers F Kp) a w:=by
 have hn:=hF.1;unfold cAI at hc;simp only[Zj,Zb] at hc;obtain⟨op,hop,hc⟩:=hc;have hdst:=ze2 hop;rw[Option.ite_none_right_eq_some] at hc;obtain⟨hb,hc⟩:=hc;have hai:ai.op=op:=by
  cases hg:o.guard with
  |none=>
   rw[hg] at hc;simp only[Zm,Zh] at hc;rw[<-hc]
  |some jw=>
   obtain⟨j,want⟩:=jw;rw[hg] at hc;simp only[Zj,Zb] at hc;obtain⟨o',ho',s,hs,hc⟩:=hc;split at hc
   ·simp only[Zm,Zh] at hc
    rw[<-hc]
   ·simp at hc
 have hkp: ∀d,o.dst=some d->F.kp d=false:=by
  intro d hd;simp only[AI.avoids,hai,hdst,hd] at hav;simpa using hav
 have hdd: ∀d,o.dst=some d->d<a.tmps.size:=by
  intro d hd;rw[hd] at hb;rw[hn];simpa using hb
 have skip: ∀(v:V),Kp (putD σ op.dst v)->zK w (Zof w0 Z0 κ σ.o w) κ σ.o v undef->Nx w0 Z0 a.defers F Kp (a.put o.dst undef) w:=by
  intro v hk hv;refine⟨kI _ _ _,Fm.put hF hkp _,κ,putD σ op.dst v,?_,hk⟩;rw[hdst];cases hd:o.dst with
  |none=>exact hi
  |some d=>exact hi.put (hdd d hd) hv
 unfold wpOp;simp only[ho];cases hg:o.guard with
 |none=>
  rw[hg] at hc;simp only[Zm,Zh] at hc;subst hc;have hw:Region.wanted o (yielded ops a.tmps)=true:=by simp[Region.wanted,hg]
  rw[if_pos hw];left;exact dJ hF hkp hop hdd hi (Q:=Q) (Kp:=Kp) h
 |some jw=>
  obtain⟨j,want⟩:=jw;rw[hg] at hc;simp only[Zj,Zb] at hc;obtain⟨o',ho',s,hs,hc⟩:=hc;by_cases hlt:s<F.n
  case neg=>rw[if_neg hlt] at hc;simp at hc
  rw[if_pos hlt] at hc;simp only[Zm,Zh] at hc;subst hc;have hw:Region.wanted o (yielded ops a.tmps)=(yielded ops a.tmps j==some want):=by simp[Region.wanted,hg]
  rw[ze7 ho' hs (by rw[hn];exact hlt)] at hw;have hv:=hi.tmps s;simp only[uW] at h;generalize σ.t s=x at h hv;split at h
  ·rename_i b
   have hwant:Region.wanted o (yielded ops a.tmps)=(b==want):=by
    rw[hw,sY hv];simp
   by_cases hq:(b==want)=true
   ·rw[if_pos (by rw[hwant];exact hq)]
    left;exact dJ hF hkp hop hdd hi (Q:=Q) (Kp:=Kp) (h.1 hq)
   ·rw[if_neg (by rw[hwant];exact hq)]
    exact skip .undef (h.2 (by simpa using hq)) rfl
  ·have hwant: ¬Region.wanted o (yielded ops a.tmps)=true:=by
    have hu:a.tmps.getD s undef=undef:=hv;rw[hw,hu];simp[undef]
   rw[if_neg hwant];exact skip .undef h rfl
  ·exact h.elim
theorem ze8 {F:Fm} {ops:Array Oper} {Q:Exit->Act->World->Prop} {D:List Deferred} {Kp:St->Prop} (hQ: ∀a w,Nx w0 Z0 D F Kp a w->Q .normal a w):
  ∀(os:List Oper) (l:List AI) (k:Nat),(∀j:Nat,j<os.length->os[j]?=ops[k+j]?)->os.mapM (cAI P F.n ops)=some l->l.all (AI.avoids F.kp)=true-> ∀(a:Act) (w:World) (κ:Kap) (σ:St),a.defers=D->F.ok a->Inv w0 Z0 κ σ a.tmps w->sL P l Kp σ->
  wpOps P ops Q (YF k os.length) a w
 |[],l,k,_,hl,_,a,w,κ,σ,hD,hn,hi,h=>by
  simp at hl;subst hl;exact hQ a w ⟨hD,hn,κ,σ,hi,h⟩
 |o::os,l,k,hk,hl,hav,a,w,κ,σ,hD,hn,hi,h=>by
  simp only[YE,Zj,Zb,Zm,Zh] at hl;obtain⟨ai,hai,l',hl',rfl⟩:=hl;simp only[Zo,Xo];rw[wpOps_cons];have ho:ops[k]?=some o:=by have:=hk 0 (by simp);simpa using this.symm
  simp only[Yz,Zr] at hav;have:=zbw (Q:=Q) ho hai hn hav.1 hi h;rw[hD] at this;refine wpOp_mono (fun a' w' h'=>?_) this;obtain⟨hD',hn',κ',σ',hi',h'⟩:=h';exact ze8 hQ os l' (k+1) (fun j hj=>by have:=hk (j+1) (by simpa using hj);rw[YK,Y8 1 j];simpa using this) hl' hav.2 a' w' κ' σ' hD' hn' hi' h'
theorem ze9 {F:Fm} {ops:Array Oper} {Q:Exit->Act->World->Prop} {D:List Deferred} {Kp:St->Prop} (hQ: ∀a w,Nx w0 Z0 D F Kp a w->Q .normal a w):
  ∀(os:List Oper) (l:List AI) (k:Nat),(∀j:Nat,j<os.length->os[j]?=ops[k+j]?)->os.mapM (cAI P F.n ops)=some l->l.all (AI.avoids F.kp)=true-> ∀(a:Act) (w:World) (κ:Kap) (σ:St),a.defers=D->F.ok a->Inv w0 Z0 κ σ a.tmps w->qO P l Kp σ->
  wpOps P ops Q (YF k os.length) a w
 |[],l,k,_,hl,_,a,w,κ,σ,hD,hn,hi,h=>by
  simp at hl;subst hl;obtain⟨σ1,hle,h⟩:=h;obtain⟨κ1,hi⟩:=hle _ _ _ _ _ hi;exact hQ a w ⟨hD,hn,κ1,σ1,hi,h⟩
 |o::os,l,k,hk,hl,hav,a,w,κ,σ,hD,hn,hi,h=>by
  simp only[YE,Zj,Zb,Zm,Zh] at hl;obtain⟨ai,hai,l',hl',rfl⟩:=hl;simp only[Zo,Xo];rw[wpOps_cons];have ho:ops[k]?=some o:=by have:=hk 0 (by simp);simpa using this.symm
  simp only[Yz,Zr] at hav;obtain⟨σ1,hle,h⟩:=h;obtain⟨κ1,hi⟩:=hle _ _ _ _ _ hi;have:=zbw (Q:=Q) ho hai hn hav.1 hi h;rw[hD] at this;refine wpOp_mono (fun a' w' h'=>?_) this;obtain⟨hD',hn',κ',σ',hi',h'⟩:=h';exact ze9 hQ os l' (k+1) (fun j hj=>by have:=hk (j+1) (by simpa using hj);rw[YK,Y8 1 j];simpa using this) hl' hav.2 a' w' κ' σ' hD' hn' hi' h'
theorem zbx {F:Fm} {ops:Array Oper} {Q:Exit->Act->World->Prop} {i:Nat} {o:Oper} {ai:AI} (ho:ops[i]?=some o) (hc:cAI P F.n ops o=some ai) (hF:F.ok a) (hav:ai.avoids F.kp=true) (hi:Inv w0 Z0 κ σ a.tmps w)
  {Kp:St->Prop} (h:wpQ P ai Kp σ):wpOp P ops Q i (Nx w0 Z0 a.defers F Kp) a w:=by
 have hn:=hF.1;unfold cAI at hc;simp only[Zj,Zb] at hc;obtain⟨op,hop,hc⟩:=hc;have hdst:=ze2 hop;rw[Option.ite_none_right_eq_some] at hc;obtain⟨hb,hc⟩:=hc;have hai:ai.op=op:=by
  cases hg:o.guard with
  |none=>
   rw[hg] at hc;simp only[Zm,Zh] at hc;rw[<-hc]
  |some jw=>
   obtain⟨j,want⟩:=jw;rw[hg] at hc;simp only[Zj,Zb] at hc;obtain⟨o',ho',s,hs,hc⟩:=hc;split at hc
   ·simp only[Zm,Zh] at hc
    rw[<-hc]
   ·simp at hc
 have hkp: ∀d,o.dst=some d->F.kp d=false:=by
  intro d hd;simp only[AI.avoids,hai,hdst,hd] at hav;simpa using hav
 have hdd: ∀d,o.dst=some d->d<a.tmps.size:=by
  intro d hd;rw[hd] at hb;rw[hn];simpa using hb
 have skip: ∀(v:V),Kp (putD σ op.dst v)->zK w (Zof w0 Z0 κ σ.o w) κ σ.o v undef->Nx w0 Z0 a.defers F Kp (a.put o.dst undef) w:=by
  intro v hk hv;refine⟨kI _ _ _,Fm.put hF hkp _,κ,putD σ op.dst v,?_,hk⟩;rw[hdst];cases hd:o.dst with
  |none=>exact hi
  |some d=>exact hi.put (hdd d hd) hv
 unfold wpOp;simp only[ho];cases hg:o.guard with
 |none=>
  rw[hg] at hc;simp only[Zm,Zh] at hc;subst hc;have hw:Region.wanted o (yielded ops a.tmps)=true:=by simp[Region.wanted,hg]
  rw[if_pos hw];left;exact ze6 hF hkp hop hdd hi (Q:=Q) (Kp:=Kp) h
 |some jw=>
  obtain⟨j,want⟩:=jw;rw[hg] at hc;simp only[Zj,Zb] at hc;obtain⟨o',ho',s,hs,hc⟩:=hc;by_cases hlt:s<F.n
  case neg=>rw[if_neg hlt] at hc;simp at hc
  rw[if_pos hlt] at hc;simp only[Zm,Zh] at hc;subst hc;have hw:Region.wanted o (yielded ops a.tmps)=(yielded ops a.tmps j==some want):=by simp[Region.wanted,hg]
  rw[ze7 ho' hs (by rw[hn];exact hlt)] at hw;have hv:=hi.tmps s;simp only[wpQ] at h;generalize σ.t s=x at h hv;split at h
  ·rename_i b
   have hwant:Region.wanted o (yielded ops a.tmps)=(b==want):=by
    rw[hw,sY hv];simp
   by_cases hq:(b==want)=true
   ·rw[if_pos (by rw[hwant];exact hq)]
    left;exact ze6 hF hkp hop hdd hi (Q:=Q) (Kp:=Kp) (h.1 hq)
   ·rw[if_neg (by rw[hwant];exact hq)]
    exact skip .undef (h.2 (by simpa using hq)) rfl
  ·have hwant: ¬Region.wanted o (yielded ops a.tmps)=true:=by
    have hu:a.tmps.getD s undef=undef:=hv;rw[hw,hu];simp[undef]
   rw[if_neg hwant];exact skip .undef h rfl
  ·exact h.elim
theorem dL {α β:Type} {f:α->Option β}: ∀{l:List α} {l':List β},l.mapM f=some l'-> ∀(i:Nat) x,l[i]?=some x-> ∃y,l'[i]?=some y/\f x=some y
 |[],l',h,i,x,hx=>by simp at hx
 |a::l,l',h,i,x,hx=>by
  simp only[YE,Zj,Zb,Zm,Zh] at h;obtain⟨y,hy,l2,hl,rfl⟩:=h;cases i with
  |zero=>simp at hx;subst hx;exact⟨y,rfl,hy⟩
  |succ i=>exact dL hl i x (by simpa using hx)
theorem iJ {α β:Type} {f:α->Option β}: ∀{l:List α} {l':List β},l.mapM f=some l'->l'.length=l.length
 |[],l',h=>by simp at h;subst h;rfl
 |a::l,l',h=>by
  simp only[YE,Zj,Zb,Zm,Zh] at h;obtain⟨y,hy,l2,hl,rfl⟩:=h;simp[iJ hl]
theorem zfa {F:Fm} {ops:Array Oper} {Q:Exit->Act->World->Prop} {D:List Deferred} {Kp:St->Prop} (hQ: ∀a w,Nx w0 Z0 D F Kp a w->Q .normal a w) {ais:List AI} (hl:ops.toList.mapM (cAI P F.n ops)=some ais) (hav:ais.all (AI.avoids F.kp)=true):
  ∀(l:List Nat),(∀i,i∈l->i<ops.size)-> ∀(a:Act) (w:World) (κ:Kap) (σ:St),a.defers=D->F.ok a->Inv w0 Z0 κ σ a.tmps w->yO P (l.map fun i=>ais.getD i default) Kp σ->
  wpOps P ops Q l a w
 |[],_,a,w,κ,σ,hD,hn,hi,h=>hQ a w ⟨hD,hn,κ,σ,hi,h⟩
 |i::l,hlt,a,w,κ,σ,hD,hn,hi,h=>by
  rw[wpOps_cons];have hlt0:i<ops.size:=hlt i Yj;have ho:ops[i]?=some ops[i]:=by simp[hlt0]
  obtain⟨ai,hai,hcai⟩:=dL hl i _ (by rw[Yu];exact ho);simp only[Zk,yO] at h;have e:ais.getD i default=ai:=by rw[Zi,hai];rfl
  rw[e] at h;have:=zbx (Q:=Q) ho hcai hn (ZA.1 hav _ (ZP hai)) hi h;rw[hD] at this;refine wpOp_mono (fun a' w' h'=>?_) this;obtain⟨hD',hn',κ',σ',hi',h'⟩:=h';exact zfa hQ hl hav l (fun i hi=>hlt i (Zy _ hi)) a' w' κ' σ' hD' hn' hi' h'
theorem zfb {α β:Type} {f:α->Option β}: ∀(n:Nat) (l:List α) (xs:List β),l.mapM f=some xs->(l.drop n).mapM f=some (xs.drop n)
 |0,l,xs,h=>h
 |n+1,[],xs,h=>by simp at h;subst h;simp
 |n+1,a::l,xs,h=>by
  simp only[YE,Zj,Zb,Zm,Zh] at h;obtain⟨b,_,l',hl,rfl⟩:=h;exact zfb n l l' hl
theorem zfc {F:Fm} {ops:Array Oper} {Q:Exit->Act->World->Prop} {D:List Deferred} {Kp:St->Prop} (hQ: ∀a w,Nx w0 Z0 D F Kp a w->Q .normal a w) {az aS:List AI} (hl:ops.toList.mapM (cAI P F.n ops)=some (az++aS)) (hav:(az++aS).all (AI.avoids F.kp)=true):
  ∀(l:List Nat),(∀i,i∈l->i<ops.size)-> ∀(a:Act) (w:World) (κ:Kap) (σ:St),a.defers=D->F.ok a->Inv w0 Z0 κ σ a.tmps w->yO P (l.map fun i=>(az++aS).getD i default) (sL P aS Kp) σ->
  wpOps P ops Q (l++YF az.length aS.length) a w
 |[],_,a,w,κ,σ,hD,hn,hi,h=>by
  rw[Yd];have hd:=zfb az.length _ _ hl;rw[List.drop_left] at hd;have hlen:=iJ hd;simp only[List.all_append,Zr] at hav;have:=ze8 (Q:=Q) (Kp:=Kp) hQ (ops.toList.drop az.length) aS az.length (fun j hj=>by rw[YJ,Yu]) hd hav.2 a w κ σ hD hn hi h;rw[<-hlen] at this;exact this
 |i::l,hlt,a,w,κ,σ,hD,hn,hi,h=>by
  rw[ZQ,wpOps_cons];have hlt0:i<ops.size:=hlt i Yj;have ho:ops[i]?=some ops[i]:=by simp[hlt0]
  obtain⟨ai,hai,hcai⟩:=dL hl i _ (by rw[Yu];exact ho);simp only[Zk,yO] at h;have e:(az++aS).getD i default=ai:=by rw[Zi,hai];rfl
  rw[e] at h;have:=zbx (Q:=Q) ho hcai hn (ZA.1 hav _ (ZP hai)) hi h;rw[hD] at this;refine wpOp_mono (fun a' w' h'=>?_) this;obtain⟨hD',hn',κ',σ',hi',h'⟩:=h';exact zfc hQ hl hav l (fun i hi=>hlt i (Zy _ hi)) a' w' κ' σ' hD' hn' hi' h'
theorem oE {i:AI} {K K':St->Prop} (hk: ∀σ,K σ->K' σ) (h:uW P i K σ):uW P i K' σ:=by
 obtain⟨g,op⟩:=i;cases g with
 |none=>exact za6 hk h
 |some sw=>
  obtain⟨s,want⟩:=sw;simp only[uW] at h⊢;split at h
  ·rename_i hb;exact⟨fun hq=>za6 hk (h.1 hq),fun hq=>hk _ (h.2 hq)⟩
  ·exact hk _ h
  ·exact h.elim
theorem zby {ais:List AI} {c:Nat} {K K':St->Prop} (hk: ∀σ,K σ->K' σ): ∀{l:List Nat} {σ:St},wI P ais c K l σ->wI P ais c K' l σ
 |[],σ,h=>hk σ h
 |i::l,σ,h=>by
  rw[wI] at h⊢;split
  ·rename_i q
   rw[if_pos q] at h;exact oE (fun σ h=>zby hk h) h
  ·rename_i q
   rw[if_neg q] at h;exact pH (fun σ h=>zby hk h) h
theorem zfd {F:Fm} {ops:Array Oper} {Q:Exit->Act->World->Prop} {D:List Deferred} {Kp:St->Prop} (hQ: ∀a w,Nx w0 Z0 D F Kp a w->Q .normal a w) {ais:List AI} (hl:ops.toList.mapM (cAI P F.n ops)=some ais) (hav:ais.all (AI.avoids F.kp)=true) (c:Nat):
  ∀(l:List Nat),(∀i,i∈l->i<ops.size)-> ∀(a:Act) (w:World) (κ:Kap) (σ:St),a.defers=D->F.ok a->Inv w0 Z0 κ σ a.tmps w->wI P ais c Kp l σ->
  wpOps P ops Q l a w
 |[],_,a,w,κ,σ,hD,hn,hi,h=>hQ a w ⟨hD,hn,κ,σ,hi,h⟩
 |i::l,hlt,a,w,κ,σ,hD,hn,hi,h=>by
  rw[wpOps_cons];have hlt0:i<ops.size:=hlt i Yj;have ho:ops[i]?=some ops[i]:=by simp[hlt0]
  obtain⟨ai,hai,hcai⟩:=dL hl i _ (by rw[Yu];exact ho);have e:ais.getD i default=ai:=by rw[Zi,hai];rfl
  rw[wI,e] at h;have hav1:=ZA.1 hav _ (ZP hai);have:=show wpOp P ops Q i (Nx w0 Z0 a.defers F (wI P ais c Kp l)) a w by
   by_cases hc:i=c
   ·rw[if_pos hc] at h
    exact zbw (Q:=Q) ho hcai hn hav1 hi h
   ·rw[if_neg hc] at h
    exact zbx (Q:=Q) ho hcai hn hav1 hi h
  rw[hD] at this;refine wpOp_mono (fun a' w' h'=>?_) this;obtain⟨hD',hn',κ',σ',hi',h'⟩:=h';exact zfd hQ hl hav c l (fun i hi=>hlt i (Zy _ hi)) a' w' κ' σ' hD' hn' hi' h'
theorem Inv.drew (hi:Inv w0 Z0 κ σ fr w):Inv w0 Z0 κ σ fr {w with drawn:=w.drawn+1}:=
 hi.later ⟨rfl,rfl,rfl,Zw _,fun _ _=>rfl⟩
def LQ (w0:Base) (Z0:Bk->Prop) (D:List Deferred) (F:Fm) (Q:AE->St->Prop):Exit->Act->World->Prop
 | .normal=>Nx w0 Z0 D F (Q .normal)
 | .exit i=>Nx w0 Z0 D F (Q (.exit i))
 | .ret=>Nx w0 Z0 D F (Q .ret)
 |_=>fun _ _=>False
theorem zrt {Q:Exit->Act->World->Prop} {c:Code} (I:Nat->Act->World->Prop)
  (round: ∀n a w,I n a w->c.wp P (Exit.then (fun a' w'=> ∃m,m<n/\I m a' w') Q) a w) (n:Nat) (a:Act) (w:World) (h0:I n a w):(Code.loop c).wp P Q a w:=by
 intro b k cs;have key: ∀n a w,I n a w-> ∃e a' w',Q e a' w'/\Arrives P (lone (b.at a (.code c::.inLoop c::k)) cs w) b k cs e a' w':=by
  intro n
  induction n using Nat.strongRecOn with
  |_ n ih=>
   intro a w hI;obtain⟨e,a₁,w₁,hq,harr⟩:=round n a w hI b (.inLoop c::k) cs;cases e with
   |normal=>
    obtain⟨m,hlt,hI₁⟩:=hq;obtain⟨e₂,a₂,w₂,hq₂,harr₂⟩:=ih m hlt a₁ w₁ hI₁;exact⟨e₂,a₂,w₂,hq₂,.of_steps (Steps.trans harr (.one step_inLoop)) harr₂⟩
   |exit id=>exact⟨_,a₁,w₁,hq,.pass (x:=.inLoop c) rfl (fun _ _=> .inl (by simp)) harr⟩
   |goto l=>exact⟨_,a₁,w₁,hq,.pass (x:=.inLoop c) rfl (fun _ _=> .inl (by simp)) harr⟩
   |ret=>exact⟨_,a₁,w₁,hq,.pass (x:=.inLoop c) rfl (fun _ _=> .inl (by simp)) harr⟩
   |panic ch=>exact⟨_,a₁,w₁,hq,.pass (x:=.inLoop c) rfl (fun _ _=> .inl (by simp)) harr⟩
   |outgrown=>exact⟨_,a₁,w₁,hq,.pass (x:=.inLoop c) rfl (fun _ _=> .inl (by simp)) harr⟩
 obtain⟨e,a',w',hq,harr⟩:=key n a w h0;exact⟨e,a',w',hq,.of_steps (.one step_loop) harr⟩
theorem Nx.wk {D:List Deferred} {F:Fm} {Kp:St->Prop} {a:Act} {w:World} (h:Nx w0 Z0 D F (Wk Kp) a w):Nx w0 Z0 D F Kp a w:=by
 obtain⟨h1,h2,κ,σ,hi,σ',hle,hk⟩:=h;obtain⟨κ',hi'⟩:=hle _ _ _ _ _ hi;exact⟨h1,h2,κ',σ',hi',hk⟩
theorem kK {D:List Deferred} {F:Fm} {Q:AE->St->Prop} {a:Act} {w:World} (h:Nx w0 Z0 D F (awp P .bad Q) a w):False:=by
 obtain⟨h1,h2,κ,σ,hi,h⟩:=h;simp[AC.bad,awp,AX.evg,AX.ev,V.strip] at h
theorem nL {F:Fm} {D:List Deferred}: ∀(c:Code) (ac:AC),vS P F.n c=some ac->ac.avoids F.kp=true-> ∀(Q:AE->St->Prop) (a:Act) (w:World),Nx w0 Z0 D F (awp P ac Q) a w->c.wp P (LQ w0 Z0 D F Q) a w
 | .skip,ac,hc,hav,Q,a,w,h=>by
   simp only[vS,Zh] at hc;subst hc;exact wp_skip h
 | .region id ops draw,ac,hc,hav,Q,a,w,h=>by
   simp only[vS] at hc;generalize hr:((ops.toList.mapM (cAI P F.n ops)).bind fun l=>
    if draw then(if P.follows .mixedOrders&&qN 0 (ops.toList.map xH) then some (AC.draw l (ops.toList.map xH)) else none) else some (.region l))=r at hc
   cases r with
   |none=>
    simp only[zbg,Zh] at hc;subst hc;exact(kK h).elim
   |some ac0=>
   simp only[zbg,Zh] at hc;subst hc;simp only[Zb] at hr;obtain⟨l,hl,hc⟩:=hr;cases draw with
   |true=>
    simp only[if_true] at hc;by_cases hm:(P.follows .mixedOrders&&qN 0 (ops.toList.map xH))=true
    case neg=>rw[if_neg hm] at hc;simp at hc
    rw[if_pos hm] at hc;cases hc;simp only[Zr] at hm;obtain⟨hD,hn,κ,σ,hi,h⟩:=h;refine wp_region_draw fun t=>?_
    simp only[Region.schedule,hm.1,XC,if_true];rcases h with h|⟨az,x,rfl,hok,h⟩|⟨c,hok,h⟩
    ·obtain⟨h1,h2⟩:=zqC (by rw[iJ hl];simp) hm.2 h t
     exact zfa (Q:=LQ w0 Z0 D F Q) (D:=D) (fun a w h=>h) hl hav _ h1 a _ κ σ hD hn (hi.drew) h2
    ·obtain⟨l',e,h1,h2⟩:=zqD (by rw[iJ hl];simp) hm.2 hok h t
     rw[e];exact zfc (Q:=LQ w0 Z0 D F Q) (D:=D) (fun a w h=>h) hl hav _ h1 a _ κ σ hD hn (hi.drew) h2
    ·obtain⟨h1,h2⟩:=zqE (fun hk h=>oE hk h) (by rw[iJ hl];simp) hm.2 hok h t
     exact zfd (Q:=LQ w0 Z0 D F Q) (D:=D) (fun a w h=>h) hl hav c _ h1 a _ κ σ hD hn (hi.drew) h2
   |false=>
   simp only[Z1,if_false,Zh] at hc;subst hc;obtain⟨hD,hn,κ,σ,hi,h⟩:=h;refine wp_region ?_;have:=ze9 (Q:=LQ w0 Z0 D F Q) (D:=D) (fun a w h=>h) ops.toList l 0 (fun j _=>by simp) hl hav a w κ σ hD hn hi h;rw[List.range_eq_range'];simpa using this
 | .seq x y,ac,hc,hav,Q,a,w,h=>by
   simp only[vS,Zj,Zb,Zm,Zh] at hc;obtain⟨x',hx,y',hy,rfl⟩:=hc;simp only[AC.avoids,Zr] at hav;refine wp_seq (wp_mono (nL x x' hx hav.1 _ a w h) fun e a' w' h'=>?_);cases e with
   |normal=>exact nL y y' hy hav.2 Q a' w' (Nx.wk h')
   |exit i=>exact h'
   |ret=>exact h'
   |goto l=>exact h'.elim
   |panic ch=>exact h'.elim
   |outgrown=>exact h'.elim
 | .cond c x y,ac,hc,hav,Q,a,w,h=>by
   simp only[vS,Zj,Zb,Zm,Zh] at hc;obtain⟨c',hc',x',hx,y',hy,rfl⟩:=hc;simp only[AC.avoids,Zr] at hav;obtain⟨hD,hn,κ,σ,hi,h⟩:=h;simp only[awp] at h;obtain⟨h,hv⟩:=yS hi hc' h;generalize (c'.ev σ).strip.1=v at h hv;split at h
   ·rename_i t
    refine wp_cond_split (sY (hv rfl)) (fun ht=>nL x x' hx hav.1 Q a w (Nx.wk ⟨hD,hn,κ,σ,hi,h.1 ht⟩)) (fun ht=>nL y y' hy hav.2 Q a w (Nx.wk ⟨hD,hn,κ,σ,hi,h.2 ht⟩))
   ·exact h.elim
 | .block i x,ac,hc,hav,Q,a,w,h=>by
   simp only[vS,Zd] at hc;obtain⟨x',hx,rfl⟩:=hc;refine wp_block (wp_mono (nL x x' hx hav (AE.inBlock i Q) a w (Nx.wk h)) fun e a' w' h'=>?_);cases e with
   |normal=>exact h'
   |exit j=>
    obtain⟨h1,h2,κ,σ,hi,h3⟩:=h';simp only[AE.inBlock] at h3;by_cases hj:j=i
    ·subst hj
     simp only[if_true] at h3;simp only[Exit.inBlock,if_true];exact⟨h1,h2,κ,σ,hi,h3⟩
    ·simp only[hj,if_false] at h3
     simp only[Exit.inBlock,hj,if_false];exact⟨h1,h2,κ,σ,hi,h3⟩
   |ret=>exact h'
   |goto l=>exact h'.elim
   |panic ch=>exact h'.elim
   |outgrown=>exact h'.elim
 | .loop x,ac,hc,hav,Q,a,w,h=>by
   simp only[vS,Zd] at hc;obtain⟨x',hx,rfl⟩:=hc;obtain⟨hD,hn,κ,σ,hi,I,h0,hr⟩:=h;obtain⟨σ',hle,m,hm⟩:=h0;obtain⟨κ',hi'⟩:=hle _ _ _ _ _ hi;refine zrt (fun m=>Nx w0 Z0 D F (I m)) (fun m a w hI=>?_) m a w ⟨hD,hn,κ',σ',hi',hm⟩;obtain⟨hD1,hn1,κ1,σ1,hi1,hI1⟩:=hI;refine wp_mono (nL x x' hx hav _ a w (Nx.wk ⟨hD1,hn1,κ1,σ1,hi1,hr m σ1 hI1⟩)) fun e a' w' h'=>?_
   cases e with
   |normal=>
    obtain⟨g1,g2,κ2,σ2,hi2,q,hlt,hq⟩:=Nx.wk h';exact⟨q,hlt,g1,g2,κ2,σ2,hi2,hq⟩
   |exit i=>exact h'
   |ret=>exact h'
   |goto l=>exact h'.elim
   |panic ch=>exact h'.elim
   |outgrown=>exact h'.elim
 | .exit i,ac,hc,hav,Q,a,w,h=>by
   simp only[vS,Zh] at hc;subst hc;exact wp_exit h
 | .ret,ac,hc,hav,Q,a,w,h=>by
   simp only[vS,Zh] at hc;subst hc;exact wp_ret h
 | .rangeFunc _ _ _ _,ac,hc,hav,Q,a,w,h=>by
   simp only[vS,Zh] at hc;subst hc;exact(kK h).elim
 | .scope _,ac,hc,hav,Q,a,w,h=>by
   simp only[vS,Zh] at hc;subst hc;exact(kK h).elim
 | .label _,ac,hc,hav,Q,a,w,h=>by
   simp only[vS,Zh] at hc;subst hc;exact(kK h).elim
 | .goto _,ac,hc,hav,Q,a,w,h=>by
   simp only[vS,Zh] at hc;subst hc;exact(kK h).elim
 | .refuse _,ac,hc,hav,Q,a,w,h=>by
   simp only[vS,Zh] at hc;subst hc;exact(kK h).elim
end
def K.owns (o:Nat->Option O):K->List Nat
 | .own τ=>if isArrO (o τ) then[τ] else[]
 |_=>[]
mutual
def V.owns (o:Nat->Option O):V->List Nat
 | .k x=>x.owns o
 | .agk r=>r.flatMap (K.owns o)
 | .tup vs=>V.ownsL o vs
 |_=>[]
def V.ownsL (o:Nat->Option O):List V->List Nat
 |[]=>[]
 |v::vs=>v.owns o++V.ownsL o vs
end
def kL (σ:St):List RX->(List V->Prop)->Prop
 |[],k=>k []
 | .t s::l,k=>(σ.t s).strip.2=true/\kL σ l fun vs=>k ((σ.t s).strip.1::vs)
 | .cell a n agg::l,k=>(σ.t a).strip.2=true/\
   match (σ.t a).strip.1 with
   | .k (.ptr τ off)=>
     match σ.o τ with
     |some (.var _ row)=>off+n<=row.length/\0<n/\kL σ l fun vs=>k (ofRow agg ((row.drop off).take n)::vs)
     |_=>False
   |_=>False
def one:List V->V
 |[v]=>v
 |vs=> .tup vs
def dM (rs:List RX) (S:V->Prop) (σ:St):Prop:=
 kL σ rs fun vs=>((one vs).owns σ.o).Nodup/\S ((one vs).toNew σ.o)
def kM (rs:List RX) (S:V->Prop):AE->St->Prop
 | .normal=>fun σ=>dM rs S σ.nrm
 | .ret=>fun σ=>dM rs S σ.nrm
 | .exit _=>fun _=>False
def St.init (args:List V):St where
 t:=fun s=>args.getD s .any
 o:=fun _=>none
section
variable {P : Program} {w0 : Base} {w w' : World} {Z0 Z Z' : Bk -> Prop} {κ κ' : Kap} {σ : St} {a : Act} {o tab : Nat -> Option O}
def qT (o tab:Nat->Option O) (κ κ':Kap) (n:Nat) (ts:List Nat):Prop:= ∀(i τ:Nat),ts[i]?=some τ->tab (n+i)=o τ/\κ' (n+i)=κ τ
theorem qT.left {n:Nat} {ts ts':List Nat} (h:qT o tab κ κ' n (ts++ts')):qT o tab κ κ' n ts:=fun i τ hi=>h i τ (by
 rw[ZL (Zu.1 hi).1];exact hi)
theorem qT.right {n:Nat} {ts ts':List Nat} (h:qT o tab κ κ' n (ts++ts')):qT o tab κ κ' (n+ts.length) ts':=fun i τ hi=>by
 have:=h (ts.length+i) τ (by rw[ZM (by omega)];simpa using hi);rw[YK];exact this
theorem zfe {x:Option O} (h:isArrO x=true): ∃e sz nl rows,x=some (.arr e sz nl rows):=by
 unfold isArrO at h;split at h
 ·exact⟨_,_,_,_,rfl⟩
 ·simp at h
theorem zff (hs: ∀b,Z b->Z' b) {x:K} {v:Value} (h:v.oneCell'=true/\yU w Z κ o x v) (n:Nat) (hn:qT o tab κ κ' n (x.owns o)):
  (∃e sz nl rows,x.toNew o=.newl e sz nl rows/\(x.owns o).length=1/\(v.oneCell'=true/\yU w Z' κ' tab (.own n) v)/\(x.owns o).map o=[some (.arr e sz nl rows)])\/
  ((∀e sz nl rows,x.toNew o≠.newl e sz nl rows)/\x.owns o=[]/\v.oneCell'=true/\yU w Z' κ' tab (x.toNew o) v):=by
 obtain⟨h1,h⟩:=h;cases x with
 |own τ=>
  by_cases ha:isArrO (o τ)=true
  ·obtain⟨e,sz,nl,rows,ho⟩:=zfe ha
   have e0:(K.own τ).owns o=[τ]:=by simp[K.owns,ha]
   obtain⟨t1,t2⟩:=hn 0 τ (by rw[e0];rfl);refine .inl ⟨e,sz,nl,rows,by simp[K.toNew,ho],by rw[e0];rfl,⟨h1,?_⟩,by rw[e0];simp[ho]⟩;intro e' sz' nl' rows' ht;have t1':tab n=o τ:=t1;have t2':κ' n=κ τ:=t2;rw[t1'] at ht;rw[t2'];exact h e' sz' nl' rows' ht
  ·have hdead:(K.own τ).toNew o=.dead:=by
    cases ho:o τ with
    |none=>simp[K.toNew,ho]
    |some ob=>cases ob with
     |var=>simp[K.toNew,ho]
     |arr=>simp[ho,isArrO] at ha
   rw[hdead];exact .inr ⟨by simp,by simp[K.owns,ha],h1,trivial⟩
 |c x=>exact .inr ⟨by simp[K.toNew],rfl,h1,PRep.mono (fun _ _=>rfl) hs h⟩
 |ptr=>exact .inr ⟨by simp[K.toNew],rfl,h1,trivial⟩
 |elem=>exact .inr ⟨by simp[K.toNew],rfl,h1,trivial⟩
 |pel=>exact .inr ⟨by simp[K.toNew],rfl,h1,trivial⟩
 |fnk=>exact .inr ⟨by simp[K.toNew],rfl,h1,trivial⟩
 |newl=>exact .inr ⟨by simp[K.toNew],rfl,h1,trivial⟩
 |dead=>exact .inr ⟨by simp[K.toNew],rfl,h1,trivial⟩
theorem zru {k:K} (h: ∀e sz nl rows,k≠.newl e sz nl rows) (n:Nat) (r:List K):K.regs n (k::r)=(k::(K.regs n r).1,(K.regs n r).2):=by
 cases k<;>first|rfl|exact absurd rfl (h _ _ _ _)
theorem toNew_row (hs: ∀b,Z b->Z' b): ∀(r:List K) (cs:List Value) (_:yB w Z κ o r cs) (n:Nat),qT o tab κ κ' n (r.flatMap (K.owns o))->
  yB w Z' κ' tab (K.regs n (r.map (K.toNew o))).1 cs/\(K.regs n (r.map (K.toNew o))).2.map some=(r.flatMap (K.owns o)).map o
 |[],cs,h,n,_=>⟨⟨h.1,by simp[K.regs]⟩,rfl⟩
 |x::r,cs,h,n,hn=>by
  cases cs with
  |nil=>have:=h.1;simp at this
  |cons v cs=>
   have hx:=h.2 0 x v rfl rfl;have hr:yB w Z κ o r cs:=⟨by have:=h.1;simpa using this,fun j k u hk hu=>h.2 (j+1) k u (by simpa using hk) (by simpa using hu)⟩;have cons: ∀{k:K} {l:List K},(v.oneCell'=true/\yU w Z' κ' tab k v)->yB w Z' κ' tab l cs->yB w Z' κ' tab (k::l) (v::cs):=by
    intro k l hk hl;refine⟨by simp[hl.1],fun j k' u h1 h2=>?_⟩;cases j with
    |zero=>simp at h1 h2;subst h1;subst h2;exact hk
    |succ j=>exact hl.2 j k' u (by simpa using h1) (by simpa using h2)
   simp only[XR] at hn;rcases zff hs hx n hn.left with⟨e,sz,nl,rows,e1,e2,e3,e4⟩|⟨e1,e2,e3⟩
   ·have hn2:=hn.right
    rw[e2] at hn2;obtain⟨i1,i2⟩:=toNew_row hs r cs hr (n+1) hn2;simp only[Zk,e1,K.regs,XR,ZS,e4];exact⟨cons e3 i1,by simp[i2]⟩
   ·have hn2:=hn.right
    rw[e2] at hn2;obtain⟨i1,i2⟩:=toNew_row hs r cs hr n (by simpa using hn2);simp only[Zk,zru e1,XR,e2,Yd];exact⟨cons e3 i1,i2⟩
mutual
theorem zbz (hs: ∀b,Z b->Z' b): ∀(x:V) (v:Value) (_:zK w Z κ o x v) (n:Nat),qT o tab κ κ' n (x.owns o)->
  zK w Z' κ' tab ((x.toNew o).reg n).1 v/\((x.toNew o).reg n).2.map some=(x.owns o).map o
 | .k x,v,h,n,hn=>by
   rcases zff hs h n hn with⟨e,sz,nl,rows,e1,e2,e3,e4⟩|⟨e1,e2,e3⟩
   ·simp only[V.toNew,e1,V.reg,V.owns,e4]
    exact⟨e3,rfl⟩
   ·have:(V.k (x.toNew o)).reg n=(.k (x.toNew o),[]):=by
     cases hx:x.toNew o<;>first|rfl|exact absurd hx (e1 _ _ _ _)
    simp only[V.toNew,this,V.owns,e2];exact⟨e3,rfl⟩
 | .agg r,v,h,n,hn=>by
   obtain⟨cs,rfl,hr⟩:=h;exact⟨⟨cs,rfl,hr.mono (fun _ _=>rfl) hs⟩,rfl⟩
 | .agk r,v,h,n,hn=>by
   obtain⟨cs,rfl,hr⟩:=h;obtain⟨h1,h2⟩:=toNew_row hs r _ hr n hn;exact⟨⟨cs,rfl,h1⟩,h2⟩
 | .tup vs,v,h,n,hn=>by
   obtain⟨us,rfl,hl,h⟩:=h;obtain⟨h1,h2,h3⟩:=toNewL_rep hs vs us.toList hl h n hn;exact⟨⟨us,rfl,by rw[hl];exact h3.symm,h1⟩,h2⟩
 | .undef,v,h,n,hn=>⟨trivial,rfl⟩
 | .any,v,h,n,hn=>⟨trivial,rfl⟩
theorem toNewL_rep (hs: ∀b,Z b->Z' b): ∀(xs:List V) (vs:List Value) (_:vs.length=xs.length) (_:VRepL w Z κ o xs vs) (n:Nat),qT o tab κ κ' n (V.ownsL o xs)->
  VRepL w Z' κ' tab (V.regL n (V.toNewL o xs)).1 vs/\(V.regL n (V.toNewL o xs)).2.map some=(V.ownsL o xs).map o/\(V.regL n (V.toNewL o xs)).1.length=xs.length
 |[],_,_,_,n,_=>⟨trivial,rfl,rfl⟩
 |x::xs,[],hl,h,n,hn=>by simp at hl
 |x::xs,v::vs,hlen,h,n,hn=>by
  obtain⟨h1,h2⟩:=h;simp only[V.ownsL] at hn;obtain⟨i1,i2⟩:=zbz hs x v h1 n hn.left;have hl:((x.toNew o).reg n).2.length=(x.owns o).length:=by have:=congrArg List.length i2;simpa using this
  have hn2:=hn.right;rw[<-hl] at hn2;obtain⟨j1,j2,j3⟩:=toNewL_rep hs xs vs (by simpa using hlen) h2 _ hn2;simp only[V.toNewL,V.regL,V.ownsL,ZS,i2,j2,Zo,j3];exact⟨⟨i1,j1⟩,by simp,by simp⟩
end
theorem K.owns_mem {x:K} {τ:Nat} (h:τ∈x.owns o):isArrO (o τ)=true:=by
 cases x<;>simp[K.owns] at h
 obtain⟨h,rfl⟩:=h;exact h
mutual
theorem V.owns_mem: ∀(x:V) {τ:Nat},τ∈x.owns o->isArrO (o τ)=true
 | .k x,τ,h=>K.owns_mem h
 | .agg _,τ,h=>by simp[V.owns] at h
 | .agk r,τ,h=>by
   simp only[V.owns,XU] at h;obtain⟨x,_,h⟩:=h;exact K.owns_mem h
 | .tup vs,τ,h=>V.ownsL_mem vs h
 | .undef,τ,h=>by simp[V.owns] at h
 | .any,τ,h=>by simp[V.owns] at h
theorem V.ownsL_mem: ∀(xs:List V) {τ:Nat},τ∈V.ownsL o xs->isArrO (o τ)=true
 |[],τ,h=>by simp[V.ownsL] at h
 |x::xs,τ,h=>by
  simp only[V.ownsL,Yo] at h;rcases h with h|h
  ·exact V.owns_mem x h
  ·exact V.ownsL_mem xs h
end
theorem K.clean (x:K) (τ:Nat):(x.toNew o).noRef τ=true:=by
 cases x with
 |own s=>cases ho:o s with
  |none=>simp[K.toNew,ho,K.noRef]
  |some ob=>cases ob<;>simp[K.toNew,ho,K.noRef]
 |_=>rfl
mutual
theorem V.clean: ∀(x:V) (τ:Nat),(x.toNew o).noRef τ=true
 | .k x,τ=>K.clean x τ
 | .agg _,τ=>rfl
 | .agk r,τ=>by simp[V.toNew,V.noRef,K.clean]
 | .tup vs,τ=>V.cleanL vs τ
 | .undef,τ=>rfl
 | .any,τ=>rfl
theorem V.cleanL: ∀(xs:List V) (τ:Nat),V.noRefL τ (V.toNewL o xs)=true
 |[],τ=>rfl
 |x::xs,τ=>by simp[V.toNewL,V.noRefL,V.clean x τ,V.cleanL xs τ]
end
theorem zrv (hi:Inv w0 Z κ σ a.tmps w') {x:V} {v:Value} (hx:zK w' (Zof w0 Z κ σ.o w') κ σ.o x v) (hnd:(x.owns σ.o).Nodup):qK w0 Z (x.toNew σ.o) v w':=by
 intro n;have harr: ∀(i:Nat) τ,(x.owns σ.o)[i]?=some τ-> ∃e sz nl rows,σ.o τ=some (.arr e sz nl rows):=fun i τ h=>zfe (V.owns_mem x (ZP h))
 let κ':Kap:=fun m=>if n<=m then((x.owns σ.o)[m-n]?).bind κ else none
 have hκ: ∀(i:Nat) τ,(x.owns σ.o)[i]?=some τ->κ' (n+i)=κ τ:=by
  intro i τ h;simp only[κ'];rw[if_pos (by omega),Nat.add_sub_cancel_left,h];rfl
 have hobs:((x.toNew σ.o).reg n).2.map some=(x.owns σ.o).map σ.o:=by
  have hN:qT σ.o (fun m=>if n<=m then((x.owns σ.o)[m-n]?).bind σ.o else none) κ κ' n (x.owns σ.o):=fun i τ h=>⟨by
   simp only[]
   rw[if_pos (by omega),Nat.add_sub_cancel_left,h];rfl,hκ i τ h⟩
  exact(zbz (Z':=Zof w0 Z κ σ.o w') (fun _ h=>h) x v hx n hN).2
 have hlen:((x.toNew σ.o).reg n).2.length=(x.owns σ.o).length:=by have:=congrArg List.length hobs;simpa using this
 have htab: ∀(i:Nat) τ,(x.owns σ.o)[i]?=some τ->zZ n ((x.toNew σ.o).reg n).2 (n+i)=σ.o τ:=by
  intro i τ h;unfold zZ;rw[if_pos (by omega),Nat.add_sub_cancel_left];have h1:(((x.toNew σ.o).reg n).2.map some)[i]?=((x.owns σ.o).map σ.o)[i]?:=by rw[hobs]
  simp only[Zz,h,YA] at h1;cases h2:((x.toNew σ.o).reg n).2[i]? with
  |none=>rw[h2] at h1;simp at h1
  |some ob=>rw[h2] at h1;simpa using h1
 have hdom: ∀m,zZ n ((x.toNew σ.o).reg n).2 m≠none-> ∃i τ,m=n+i/\(x.owns σ.o)[i]?=some τ:=by
  intro m hm;obtain⟨ob,hob⟩:=Option.ne_none_iff_exists'.1 hm;obtain⟨h1,h2,_⟩:=dG hob;have:m-n<(x.owns σ.o).length:=by omega
  exact⟨m-n,_,by omega,Zf this⟩
 have hZ: ∀b,Zof w0 Z κ σ.o w' b->Zof w0 Z κ' (zZ n ((x.toNew σ.o).reg n).2) w' b:=by
  rintro b ⟨h1,h2,h3⟩;refine⟨h1,h2,fun m hm=>?_⟩;obtain⟨i,τ,rfl,hi'⟩:=hdom m hm;rw[hκ i τ hi'];obtain⟨_,_,_,_,ho⟩:=harr i τ hi';exact h3 τ (by simp[ho])
 refine⟨κ',hi.kept,hi.glob,fun m b hm hb=>?_,fun m m' b hm hm' hb hb'=>?_,fun m ob hm=>?_,fun s=>?_⟩
 ·obtain⟨i,τ,rfl,hi'⟩:=hdom m hm
  rw[hκ i τ hi'] at hb;obtain⟨_,_,_,_,ho⟩:=harr i τ hi';exact hi.own τ b (by simp[ho]) hb
 ·obtain⟨i,τ,rfl,hi1⟩:=hdom m hm
  obtain⟨i',τ',rfl,hi2⟩:=hdom m' hm';rw[hκ i τ hi1] at hb;rw[hκ i' τ' hi2] at hb';obtain⟨_,_,_,_,ho⟩:=harr i τ hi1;obtain⟨_,_,_,_,ho'⟩:=harr i' τ' hi2;have:=hi.inj τ τ' b (by simp[ho]) (by simp[ho']) hb hb';subst this;obtain⟨hl1,e1⟩:=Zu.1 hi1;obtain⟨hl2,e2⟩:=Zu.1 hi2;have:=(List.getElem_inj hnd).1 (e1.trans e2.symm);omega
 ·obtain⟨i,τ,rfl,hi'⟩:=hdom m (by simp only at hm;rw[hm];simp)
  simp only at hm;rw[htab i τ hi'] at hm;have hob:=hi.objs τ ob hm;obtain⟨e,sz,nl,rows,ho⟩:=harr i τ hi';rw[ho] at hm;cases hm;rcases hob with⟨h1,h2⟩|⟨b,cur,cap,h1,h2,h3,h4,h5,h6,h7,h8,h9⟩
  ·exact .inl ⟨by rw[hκ i τ hi'];exact h1,h2⟩
  ·refine .inr ⟨b,cur,cap,by rw[hκ i τ hi'];exact h1,h2,h3,h4,h5,h6,h7,h8,fun i j r c hr hc=>?_⟩
   obtain⟨v,hv,hp⟩:=h9 i j r c hr hc;exact⟨v,hv,hp.mono (fun _ _=>rfl) hZ⟩
 ·by_cases h:s=0
  ·subst h
   have e3:(#[v]:Array Value).getD 0 undef=v:=rfl;simp only[e3,if_true];exact(zbz hZ x v hx n (fun i τ h=>⟨htab i τ h,hκ i τ h⟩)).1
  ·simp only[h,if_false];trivial
def iK (tmps:Array Value):ResultVar->Sem Value
 | .tmp t=>pure (tmps.getD t undef)
 | .cell b t=>do loadVar t (<-asAddr (tmps.getD b undef))
theorem dN (hi:Inv w0 Z0 κ σ a.tmps w): ∀(rv:List ResultVar) (rs:List RX),mW P rv=some rs-> ∀{k:List V->Prop},kL σ rs k->
  ∃(xs:List V) (vs:List Value),k xs/\xs.length=vs.length/\VRepL w (Zof w0 Z0 κ σ.o w) κ σ.o xs vs/\
   (rv.mapM (iK a.tmps)).run P w=.ok vs w
 |[],rs,h,k,hk=>by
  simp[mW] at h;subst h;exact⟨[],[],hk,rfl,trivial,rfl⟩
 | .tmp t::rv,rs,h,k,hk=>by
   simp only[mW,YE,Zj,Zb,Zm,Zh] at h;obtain⟨_,rfl,rs',hrs,rfl⟩:=h;obtain⟨h1,h2⟩:=hk;obtain⟨xs,vs,g1,g2,g3,g4⟩:=dN hi rv rs' hrs h2;refine⟨_::xs,a.tmps.getD t undef::vs,g1,by simp[g2],⟨(hi.tmps t).strip h1,g3⟩,?_⟩;simp only[YE,iK,Sem.run_bind,Sem.run_pure,Result.andThen_ok,g4]
 | .cell b t::rv,rs,h,k,hk=>by
   simp only[mW,YE,Zj,Zb,Zm,Zh] at h;obtain⟨_,⟨n,hn,agg,ha,rfl⟩,rs',hrs,rfl⟩:=h;obtain⟨h1,h2⟩:=hk;have hv:=(hi.tmps b).strip h1;generalize (σ.t b).strip.1=v at h2 hv;split at h2
   ·rename_i τ off
    split at h2
    ·rename_i e row ho
     obtain⟨b1,b2,h3⟩:=h2;obtain⟨xs,vs,g1,g2,g3,g4⟩:=dN hi rv rs' hrs h3;obtain⟨bl,cur,hκ,hheap,hrow⟩:=hi.objs τ _ ho;obtain⟨bl',hκ',hp⟩:=hv.2 e row ho;obtain rfl:bl=bl':=by rw[hκ] at hκ';simpa using hκ'
     have hcl:cur.size=row.length:=by simpa using hrow.1
     have hr2:=(hrow.drop off).take n;have hl2:((cur.toList.drop off).take n).length=n:=by simp;omega
     have hld:=zeB (P:=P) (w:=w) hn ha b2 (b:=bl) (q:=off) ((cur.toList.drop off).take n) hl2 (fun j v hj=>by
      rw[cell_of_row w bl _ cur e (0,0) hheap]
      rw[Z6] at hj
      split at hj
      ·simpa using hj
      ·simp at hj)
     refine⟨_::xs,_::vs,g1,by simp[g2],⟨iF hr2 agg (by omega),g3⟩,?_⟩;have has:(asAddr (a.tmps.getD b undef)).run P w=.ok ⟨bl,off,none⟩ w:=by rw[hp];rfl
     simp only[YE,iK,Sem.run_bind,Sem.run_pure,Result.andThen_ok,has,hld,g4]
    ·exact h2.elim
   ·exact h2.elim
theorem zfg {xs:List V} {vs:List Value} {w:World} {Z:Bk->Prop} (hl:xs.length=vs.length) (h:VRepL w Z κ o xs vs):zK w Z κ o (one xs) (if h:vs.length=1 then vs[0] else .tuple vs.toArray):=by
 unfold one;split
 ·cases vs with
  |nil=>simp at hl
  |cons v vs=>
   cases vs with
   |nil=>simpa using h.1
   |cons=>simp at hl
 ·rename_i hne
  have: ¬vs.length=1:=by
   intro h1;rw[h1] at hl;cases xs with
   |nil=>simp at hl
   |cons x xs=>cases xs with
    |nil=>exact hne x rfl
    |cons=>simp at hl
  rw[dif_neg this];exact⟨vs.toArray,rfl,by simpa using hl.symm,by simpa using h⟩
theorem mY: ∀(ac:AC),ac.avoids (fun _=>false)=true
 | .skip=>rfl
 | .region l=>by simp only[AC.avoids,ZA];intro i _;simp only[AI.avoids];split<;>rfl
 | .draw l _=>by simp only[AC.avoids,ZA];intro i _;simp only[AI.avoids];split<;>rfl
 | .seq a b=>by simp[AC.avoids,mY a,mY b]
 | .cond _ a b=>by simp[AC.avoids,mY a,mY b]
 | .block _ a=>mY a
 | .loop a=>mY a
 | .exit _=>rfl
 | .ret=>rfl
theorem Spec.of_awp {f:FuncId} {fn:Func} {c:Code} {ac:AC} {rs:List RX} {args:List V} {S:V->Prop} (hf:P.funcs[f]?=some fn) (hb:fn.body=some c) (hname:(fn.name== "runtime.NumGoroutine")=false)
  (hc:vS P fn.ntmps c=some ac) (hr:mW P fn.results.toList=some rs) (hlen:args.length<=fn.ntmps) (h:Wk (awp P ac (fun e=>Wk (kM rs S e))) (St.init args)):Spec P f args S:=by
 refine⟨⟨fn,hf,by simp[hb],hname⟩,fun w Z vs hG hz ha=>?_⟩;refine calls_of_wp hf hb ?_;have hvl:vs.size=args.length:=by simpa using ha.1
 have hinit:Inv (base w) Z (fun _=>none) (St.init args) (vs++YX (fn.ntmps-vs.size) undef) w:=by
  refine⟨wC.refl w,hG,fun τ b h=>absurd rfl h,fun τ _ b h=>absurd rfl h,fun τ ob h=>by simp[St.init] at h,fun s=>?_⟩;by_cases hs:s<args.length
  ·have e1:(St.init args).t s=args[s]:=by simp[St.init,hs]
   have e2:(vs++YX (fn.ntmps-vs.size) undef).getD s undef=vs[s]'(by omega):=by
    have h1:s<vs.size:=by omega
    rw[ZW,Y2 h1,Ya h1];rfl
   rw[e1,e2];obtain⟨hp,hv⟩:=ha.2 s args[s] (vs[s]'(by omega)) (Zf hs) (by simp);exact(hv.pure_any hp).mono (fun _ _=>rfl) (fun b hb=>⟨.inl ⟨hb,hz b hb⟩,hz b hb,fun τ h=>absurd rfl h⟩) (τs:=fun _=>True) (yZ.of_eq (σ:=St.init args) (σ':=St.init args) (κ:=fun _=>none) (κ':=fun _=>none) (fun _ _=>⟨rfl,rfl⟩) (wC.refl w)) (fun _ _=>trivial)
  ·have e1:(St.init args).t s=.any:=by simp[St.init,hs]
   rw[e1];trivial
 refine wp_mono (nL (w0:=base w) (Z0:=Z) (F:=⟨fn.ntmps,fun _=>false,#[]⟩) (D:=[]) c ac hc (mY ac) (fun e=>Wk (kM rs S e)) _ w (Nx.wk ⟨rfl,⟨by simp;omega,by simp⟩,_,_,hinit,h⟩)) fun e a' w' h'=>?_
 have fin:Nx (base w) Z [] ⟨fn.ntmps,fun _=>false,#[]⟩ (Wk fun σ=>dM rs S σ.nrm) a' w'->a'.defers=[]/\ ∃v,(results fn a'.tmps).run P w'=.ok v w'/\ ∃v_1 r,Ending.returned v=.returned v_1/\S r/\(∀τ,r.noRef τ=true)/\qK (base w) Z r v_1 w':=by
  intro hwk;obtain⟨hD,hn,κ,σ,hi,hq⟩:=Nx.wk hwk
  replace hi:=hi.nrm
  refine⟨hD,?_⟩;obtain⟨xs,us,⟨hnd,hS⟩,hl,hrep,hrun⟩:=dN hi fn.results.toList rs hr hq;have hone:=zfg hl hrep;refine⟨_,?_,_,_,rfl,hS,V.clean _,zrv hi hone hnd⟩;have hres:results fn a'.tmps=(do let vs<-fn.results.mapM (iK a'.tmps);pure (if h:vs.size=1 then vs[0] else .tuple vs)):=rfl;rw[hres,Array.mapM_eq_mapM_toList];simp only[Sem.run_bind,Sem.run_map,hrun];simp
 cases e with
 |normal=>exact fin h'
 |ret=>exact fin h'
 |exit i=>obtain⟨_,_,_,_,_,_,_,h⟩:=h';exact h.elim
 |goto l=>exact h'.elim
 |panic ch=>exact h'.elim
 |outgrown=>exact h'.elim
def mZ:Option O->Option O->Bool
 |some (.var e r),some (.var e' r')=>e==e'&&r.length==r'.length
 |_,_=>false
def dO (rs:List RX) (args:List V) (o:Nat->Option O) (T:List Nat) (anchors:List (Nat×Nat)) (S:V->(Nat->Option O)->Prop) (σ:St):Prop:=
 kL σ rs fun vs=>S (one vs) (yE T σ.o)/\(one vs).within T=true/\(∀τ,τ∈T-> ∀ob,σ.o τ=some ob->ob.within T=true)/\
  ∀p,p∈anchors->σ.t p.1=.k (.ptr p.2 0)/\args[p.1]?=some (.k (.ptr p.2 0))/\mZ (o p.2) (σ.o p.2)=true/\p.2∈T
def iL (rs:List RX) (args:List V) (o:Nat->Option O) (T:List Nat) (anchors:List (Nat×Nat)) (S:V->(Nat->Option O)->Prop):AE->St->Prop
 | .normal=>fun σ=>dO rs args o T anchors S σ.nrm
 | .ret=>fun σ=>dO rs args o T anchors S σ.nrm
 | .exit _=>fun _=>False
theorem Inv.only {fr:Array Value} (hi:Inv w0 Z0 κ σ fr w) {T:List Nat} {r:V} {v:Value} (hv:zK w (Zof w0 Z0 κ σ.o w) κ σ.o r v) (hr:r.within T=true) (ho: ∀τ,τ∈T-> ∀ob,σ.o τ=some ob->ob.within T=true):
  Inv w0 Z0 κ ⟨fun s=>if s=0 then r else .any,yE T σ.o⟩ #[v] w:=by
 have htab: ∀τ,yE T σ.o τ≠none->τ∈T/\σ.o τ≠none:=by
  intro τ h;unfold yE at h;by_cases hc:T.contains τ=true
  ·rw[if_pos hc] at h;exact⟨by simpa using hc,h⟩
  ·rw[if_neg hc] at h;exact absurd rfl h
 have hin: ∀τ,τ∈T->yE T σ.o τ=σ.o τ:=by
  intro τ h;unfold yE;rw[if_pos (by simpa using h)]
 have hsub: ∀b,Zof w0 Z0 κ σ.o w b->Zof w0 Z0 κ (yE T σ.o) w b:=fun b hb=>⟨hb.1,hb.2.1,fun τ hτ=>hb.2.2 τ (htab τ hτ).2⟩
 have hself:xY (Zof w0 Z0 κ σ.o w) w w:=fun _ _=>rfl
 have ht:yZ (fun τ=>τ∈T) σ.o (yE T σ.o) κ κ w w:=fun τ hτ=>⟨by rw[hin τ hτ];exact yI.refl _,rfl,fun _ b _ cur e f hb=>⟨cur,hb,rfl⟩⟩
 refine⟨hi.kept,hi.glob,fun τ b h hb=>hi.own τ b (htab τ h).2 hb,fun τ τ' b h h' hb hb'=>hi.inj τ τ' b (htab τ h).2 (htab τ' h').2 hb hb',fun τ ob h=>?_,fun s=>?_⟩
 ·have hτ:=(htab τ (by simp only at h;rw[h];simp)).1
  have h':yE T σ.o τ=some ob:=h;rw[hin τ hτ] at h';exact(hi.objs τ ob h').mono hself hsub ht rfl (fun _ _=>rfl) (fun τ' hr=>O.within_ref (ho τ hτ ob h') hr)
 ·by_cases h:s=0
  ·subst h
   have e3:(#[v]:Array Value).getD 0 undef=v:=rfl;simp only[e3,if_true];exact hv.mono hself hsub ht (fun τ' h'=>V.within_ref hr h')
  ·simp only[h,if_false];trivial
theorem yV.of_awp {f:FuncId} {fn:Func} {c:Code} {ac:AC} {rs:List RX} {args:List V} {o:Nat->Option O} {T:List Nat} {anchors:List (Nat×Nat)} {S:V->(Nat->Option O)->Prop} (hf:P.funcs[f]?=some fn) (hb:fn.body=some c) (hname:(fn.name== "runtime.NumGoroutine")=false)
  (hc:vS P fn.ntmps c=some ac) (hr:mW P fn.results.toList=some rs) (hlen:args.length<=fn.ntmps) (hav:ac.avoids (fun s=>anchors.any fun p=>p.1==s)=true)
  (h:Wk (awp P ac (fun e=>Wk (iL rs args o T anchors S e))) ⟨fun s=>args.getD s .any,o⟩):yV P f args o (anchors.map (·.2)) S:=by
 refine⟨⟨fn,hf,by simp[hb],hname⟩,fun w0 Z0 κ0 w vs hvl hi0=>?_⟩;refine calls_of_wp hf hb ?_;have hfr: ∀s,s<args.length->(vs++YX (fn.ntmps-vs.size) undef).getD s undef=vs.getD s undef:=by
  intro s hs;have h1:s<vs.size:=by omega
  rw[ZW,Y2 h1,ZW]
 have hinit:Inv w0 Z0 κ0 ⟨fun s=>args.getD s .any,o⟩ (vs++YX (fn.ntmps-vs.size) undef) w:=by
  refine⟨hi0.kept,hi0.glob,hi0.own,hi0.inj,hi0.objs,fun s=>?_⟩;by_cases hs:s<args.length
  ·rw[hfr s hs];exact hi0.tmps s
  ·have e1:args.getD s .any=.any:=by rw[Zi,Xe (by omega)];rfl
   simp only[e1];trivial
 refine wp_mono (nL (w0:=w0) (Z0:=Z0) (F:=⟨fn.ntmps,fun s=>anchors.any fun p=>p.1==s,vs++YX (fn.ntmps-vs.size) undef⟩) (D:=[]) c ac hc hav (fun e=>Wk (iL rs args o T anchors S e)) _ w
  (Nx.wk ⟨rfl,⟨by simp;omega,fun _ _=>rfl⟩,_,_,hinit,h⟩)) fun e a' w' h'=>?_
 have fin:Nx w0 Z0 [] ⟨fn.ntmps,fun s=>anchors.any fun p=>p.1==s,vs++YX (fn.ntmps-vs.size) undef⟩ (Wk fun σ=>dO rs args o T anchors S σ.nrm) a' w'->
   a'.defers=[]/\ ∃v,(results fn a'.tmps).run P w'=.ok v w'/\ ∃v_1 κ' r o',Ending.returned v=.returned v_1/\S r o'/\yZ (fun τ=>τ∈anchors.map (·.2)) o o' κ0 κ' w w'/\Inv w0 Z0 κ' ⟨fun s=>if s=0 then r else .any,o'⟩ #[v_1] w':=by
  intro hwk;obtain⟨hD,hF,κ,σ,hi,hq⟩:=Nx.wk hwk
  replace hi:=hi.nrm
  refine⟨hD,?_⟩;obtain⟨xs,us,⟨hS,hwr,hwo,hanch⟩,hl,hrep,hrun⟩:=dN hi fn.results.toList rs hr hq;have hone:=zfg hl hrep;refine⟨_,?_,_,κ,_,_,rfl,hS,fun τ hτ=>?_,hi.only hone hwr hwo⟩
  ·have hres:results fn a'.tmps=(do let vs<-fn.results.mapM (iK a'.tmps);pure (if h:vs.size=1 then vs[0] else .tuple vs)):=rfl
   rw[hres,Array.mapM_eq_mapM_toList];simp only[Sem.run_bind,Sem.run_map,hrun];simp
  ·obtain⟨p,hp,rfl⟩:=ZH.1 hτ
   obtain⟨h1,h2,h3,h4⟩:=hanch p hp;have hT:yE T σ.nrm.o p.2=σ.nrm.o p.2:=by unfold yE;rw[if_pos (by simpa using h4)]
   have hs:p.1<args.length:=(Zu.1 h2).1;have hv0:=hi0.tmps p.1;have e0:args.getD p.1 .any=.k (.ptr p.2 0):=by rw[Zi,h2];rfl
   simp only[e0] at hv0;have hv1:=hi.tmps p.1;rw[h1] at hv1;have hkeep:=hF.2 p.1 (Yt.2 ⟨p,hp,by simp⟩);simp only[hfr p.1 hs] at hkeep;rw[hkeep] at hv1;cases ho:o p.2 with
   |none=>rw[ho] at h3;simp[mZ] at h3
   |some ob0=>
    cases ho1:σ.nrm.o p.2 with
    |none=>rw[ho,ho1] at h3;cases ob0<;>simp[mZ] at h3
    |some ob1=>
     rw[ho,ho1] at h3;cases ob0 with
     |arr=>simp[mZ] at h3
     |var e row=>
      cases ob1 with
      |arr=>simp[mZ] at h3
      |var e' row'=>
       simp only[mZ,Zr,beq_iff_eq] at h3;obtain⟨rfl,hlr⟩:=h3;obtain⟨b,hb,hp0⟩:=hv0.2 e row ho;obtain⟨b',hb',hp1⟩:=hv1.2 e row' ho1;have hbb:b=b':=by rw[hp0] at hp1;simpa using hp1
       subst hbb;rw[hT];refine⟨by rw[ho1];rfl,by rw[hb,hb'],fun _ b2 hb2 cur e2 f2 hc2=>?_⟩;rw[hb] at hb2;cases hb2;obtain⟨b3,cur3,k3,k4,k5⟩:=hi0.objs p.2 _ ho;rw[hb] at k3;cases k3;rw[k4] at hc2;cases hc2;obtain⟨b4,cur4,k6,k7,k8⟩:=hi.objs p.2 _ ho1;rw[hb'] at k6;cases k6;refine⟨cur4,k7,?_⟩;have:=k5.1;have:=k8.1;simp at*;omega
 cases e with
 |normal=>exact fin h'
 |ret=>exact fin h'
 |exit i=>obtain⟨_,_,_,_,_,_,_,h⟩:=h';exact h.elim
 |goto l=>exact h'.elim
 |panic ch=>exact h'.elim
 |outgrown=>exact h'.elim
theorem yV.of_cFunc {f:FuncId} {n:Nat} {ac:AC} {rs:List RX} {args:List V} {o:Nat->Option O} {T:List Nat} {anchors:List (Nat×Nat)} {S:V->(Nat->Option O)->Prop} (hc:zH P f=some ⟨n,ac,rs⟩) (hlen:args.length<=n)
  (hav:ac.avoids (fun s=>anchors.any fun p=>p.1==s)=true) (h:Wk (awp P ac (fun e=>Wk (iL rs args o T anchors S e))) ⟨fun s=>args.getD s .any,o⟩):yV P f args o (anchors.map (·.2)) S:=by
 unfold zH at hc;simp only[Zj,Zb] at hc;obtain⟨fn,hf,c,hb,ac',hcc,rs',hr,hc⟩:=hc;split at hc
 ·simp at hc
 ·rename_i hn
  simp only[Zm,Zh,AF.mk.injEq] at hc;obtain⟨rfl,rfl,rfl⟩:=hc;exact yV.of_awp hf hb (by simpa using hn) hcc hr hlen hav h
theorem Spec.of_cFunc {f:FuncId} {n:Nat} {ac:AC} {rs:List RX} {args:List V} {S:V->Prop} (hc:zH P f=some ⟨n,ac,rs⟩) (hlen:args.length<=n) (h:Wk (awp P ac (fun e=>Wk (kM rs S e))) (St.init args)):Spec P f args S:=by
 unfold zH at hc;simp only[Zj,Zb] at hc;obtain⟨fn,hf,c,hb,ac',hcc,rs',hr,hc⟩:=hc;split at hc
 ·simp at hc
 ·rename_i hn
  simp only[Zm,Zh,AF.mk.injEq] at hc;obtain⟨rfl,rfl,rfl⟩:=hc;exact Spec.of_awp hf hb (by simpa using hn) hcc hr hlen h
end
inductive AQ where
 |skip
 |region (ops:List AI)
 |draw (ops:List AI) (pre:List (List Nat))
 |tree (ops:List AI) (pre:List (List Nat))
 |seq (a b:AQ)
 |cond (c:AX) (a b:AQ)
 |block (id:Nat) (a:AQ)
 |loop (L M:List Nat) (a:AQ)
 |exit (id:Nat)
 |ret
 |keep (L M:List Nat) (a:AQ)
 |own (τ A e sz:Nat) (a:AQ)
 |swap (x y:Nat) (a:AQ)
 |frz (τ:Nat) (a:AQ)
 |regf (l1:List AI) (τs:List Nat) (l2:List AI)
 |regs (ps:List (List AI×List Nat))
 |drawl (ops aS:List AI) (pre:List (List Nat))
 |drawm (az:List AI) (x:AI) (r:List AI) (pre:List (List Nat))
 deriving Inhabited
def AQ.erase:AQ->AC
 | .skip=> .skip
 | .region l=> .region l
 | .draw l p=> .draw l p
 | .tree l p=> .draw l p
 | .seq a b=> .seq a.erase b.erase
 | .cond c a b=> .cond c a.erase b.erase
 | .block i a=> .block i a.erase
 | .loop _ _ a=> .loop a.erase
 | .exit i=> .exit i
 | .ret=> .ret
 | .keep _ _ a=>a.erase
 | .own _ _ _ _ a=>a.erase
 | .swap _ _ a=>a.erase
 | .frz _ a=>a.erase
 | .regf l1 _ l2=> .region (l1++l2)
 | .regs ps=> .region (ps.flatMap fun p=>p.1)
 | .drawl l a p=> .draw (l++a) p
 | .drawm l x r p=> .draw (l++x::r) p
def AQ.ok:AQ->Bool
 | .draw l p=>eM l p
 | .drawl l a p=>eR l a p
 | .drawm l x r p=>eS (l++x::r) l.length p
 | .seq a b=>a.ok&&b.ok
 | .cond _ a b=>a.ok&&b.ok
 | .block _ a=>a.ok
 | .loop _ _ a=>a.ok
 | .keep _ _ a=>a.ok
 | .own _ _ _ _ a=>a.ok
 | .swap _ _ a=>a.ok
 | .frz _ a=>a.ok
 |_=>true
def St.keep (σ:St) (L M:List Nat):St:=⟨fun s=>if L.contains s then σ.t s else .any,yE M σ.o⟩
def sw (x y s:Nat):Nat:=if s=x then y else if s=y then x else s
theorem pK (x y s:Nat):sw x y (sw x y s)=s:=by
 unfold sw;by_cases h1:s=x<;>by_cases h2:s=y<;>simp_all
def Cap.sw (x y:Nat):Cap->Cap
 | .tok s=> .tok (Abs.sw x y s)
 | .ro row off=> .ro row off
def K.sw (x y:Nat):K->K
 | .c a=> .c a
 | .own s=> .own (Abs.sw x y s)
 | .ptr s o=> .ptr (Abs.sw x y s) o
 | .elem s i o=> .elem (Abs.sw x y s) i o
 | .pel sz rows i o=> .pel sz rows i o
 | .fnk f caps=> .fnk f (caps.map (Cap.sw x y))
 | .newl e sz nl rows=> .newl e sz nl rows
 | .dead=> .dead
def V.sw (x y:Nat):V->V
 | .k a=> .k (a.sw x y)
 | .agg r=> .agg r
 | .agk r=> .agk (r.map (K.sw x y))
 | .undef=> .undef
 | .tup _=> .any
 | .any=> .any
def O.sw (x y:Nat):O->O
 | .var e row=> .var e (row.map (K.sw x y))
 | .arr e sz nl rows=> .arr e sz nl rows
def St.sw (σ:St) (x y:Nat):St:=⟨fun s=>(σ.t s).sw x y,fun s=>(σ.o (Abs.sw x y s)).map (O.sw x y)⟩
def St.noA (σ:St) (A:Nat):Prop:=σ.o A=none/\(∀s,(σ.t s).noRef A=true)/\ ∀s ob,σ.o s=some ob->ob.noRef A=true
def St.ownNil (σ:St) (τ A e sz:Nat) (e':TypeId) (pre post:List K):St:=⟨σ.t,fun s=>if s=A then some (.arr e sz (some true) []) else if s=τ then some (.var e' (pre++.own A::post)) else σ.o s⟩
def St.frzA:List Nat->St->St
 |[],σ=>σ
 |τ::l,σ=>St.frzA l (σ.frz τ)
def kN (P:Program):List (List AI×List Nat)->(St->Prop)->St->Prop
 |[],K,σ=>K σ
 |p::r,K,σ=>sL P p.1 (fun σ=>kN P r K (St.frzA p.2 σ)) σ
def awq (P:Program):AQ->(AE->St->Prop)->St->Prop
 | .skip,Q,σ=>Q .normal σ
 | .region ops,Q,σ=>sL P ops (Q .normal) σ
 | .draw ops _,Q,σ=>yO P ops (Q .normal) σ
 | .tree ops pre,Q,σ=>wpT P (nD ops pre) (Q .normal) σ
 | .seq a b,Q,σ=>awq P a (AE.then (awq P b Q) Q) σ
 | .cond c a b,Q,σ=>c.evg σ true fun v=>
   match v with
   | .k (.c (.bool t))=>(t=true->awq P a Q σ)/\(t=false->awq P b Q σ)
   |_=>False
 | .block id a,Q,σ=>awq P a (AE.inBlock id Q) σ
 | .loop L M a,Q,σ=> ∃I:Nat->St->Prop,(∃n,I n (σ.keep L M))/\ ∀n σ',I n σ'->awq P a (AE.then (fun σ''=> ∃m,m<n/\I m (σ''.keep L M)) Q) σ'
 | .exit id,Q,σ=>Q (.exit id) σ
 | .ret,Q,σ=>Q .ret σ
 | .keep L M a,Q,σ=>awq P a Q (σ.keep L M)
 | .own τ A e sz a,Q,σ=> ∃e' pre post z,σ.o τ=some (.var e' (pre++.c (.list z (some true) [])::post))/\σ.noA A/\awq P a Q (σ.ownNil τ A e sz e' pre post)
 | .swap x y a,Q,σ=>awq P a Q (σ.sw x y)
 | .frz τ a,Q,σ=>awq P a Q (σ.frz τ)
 | .regf l1 τs l2,Q,σ=>sL P l1 (fun σ=>sL P l2 (Q .normal) (St.frzA τs σ)) σ
 | .regs ps,Q,σ=>kN P ps (Q .normal) σ
 | .drawl ops a _,Q,σ=>yO P ops (sL P a (Q .normal)) σ
 | .drawm l x r _,Q,σ=>yO P l (uW P x (yO P r (Q .normal))) σ
section
variable {P : Program} {w0 : Base} {w : World} {Z0 Z : Bk -> Prop} {κ : Kap} {σ : St} {fr : Array Value} {o o' : Nat -> Option O}
theorem uQ.sub (ho: ∀τ ob,o' τ=some ob->o τ=some ob) {c:Cap} {v:Value} (h:uQ w Z κ o c v):uQ w Z κ o' c v:=by
 cases c with
 |tok τ=>exact fun e row h'=>h e row (ho _ _ h')
 |ro=>exact h
theorem yU.sub (ho: ∀τ ob,o' τ=some ob->o τ=some ob) {x:K} {v:Value} (h:yU w Z κ o x v):yU w Z κ o' x v:=by
 cases x with
 |own τ=>exact fun e sz nl rows h'=>h e sz nl rows (ho _ _ h')
 |ptr τ off=>exact fun e row h'=>h e row (ho _ _ h')
 |elem τ i off=>exact fun e sz nl rows h'=>h e sz nl rows (ho _ _ h')
 |fnk f caps=>
  obtain⟨vs,h1,h2,h3⟩:=h;exact⟨vs,h1,h2,fun j c hc=>let ⟨u,hu,hr⟩:=h3 j c hc;⟨u,hu,hr.sub ho⟩⟩
 |_=>exact h
theorem yB.sub (ho: ∀τ ob,o' τ=some ob->o τ=some ob) {r:List K} {cs:List Value} (h:yB w Z κ o r cs):yB w Z κ o' r cs:=
 ⟨h.1,fun j k v hk hv=>⟨(h.2 j k v hk hv).1,(h.2 j k v hk hv).2.sub ho⟩⟩
mutual
theorem zK.sub (ho: ∀τ ob,o' τ=some ob->o τ=some ob): ∀{x:V} {v:Value},zK w Z κ o x v->zK w Z κ o' x v
 | .k x,v,h=>⟨h.1,h.2.sub ho⟩
 | .agg r,v,h=>h
 | .agk r,v,⟨cs,e,h⟩=>⟨cs,e,h.sub ho⟩
 | .tup vs,v,⟨us,e,hl,h⟩=>⟨us,e,hl,VRepL.sub ho h⟩
 | .undef,v,h=>h
 | .any,v,h=>trivial
theorem VRepL.sub (ho: ∀τ ob,o' τ=some ob->o τ=some ob): ∀{xs:List V} {vs:List Value},VRepL w Z κ o xs vs->VRepL w Z κ o' xs vs
 |[],_,h=>trivial
 |_::_,[],h=>trivial
 |x::xs,v::vs,h=>⟨zK.sub ho h.1,VRepL.sub ho h.2⟩
end
theorem wB.sub (ho: ∀τ ob,o' τ=some ob->o τ=some ob) {τ:Nat} {ob:O} (h:wB w Z κ o τ ob):wB w Z κ o' τ ob:=by
 cases ob with
 |var e row=>
  obtain⟨b,cur,h1,h2,h3⟩:=h;exact⟨b,cur,h1,h2,h3.sub ho⟩
 |arr=>exact h
theorem zbA (σ:St) (L M:List Nat):σ.le (σ.keep L M):=by
 intro w0 Z0 κ fr w hi;refine⟨κ,?_⟩;have ho: ∀τ ob,(σ.keep L M).o τ=some ob->σ.o τ=some ob:=by
  intro τ ob h;simp only[St.keep,yE] at h;split at h
  ·exact h
  ·simp at h
 have hn: ∀τ,(σ.keep L M).o τ≠none->σ.o τ≠none:=by
  intro τ h;obtain⟨ob,hob⟩:=Option.ne_none_iff_exists'.1 h;rw[ho τ ob hob];simp
 have hsub: ∀b,Zof w0 Z0 κ σ.o w b->Zof w0 Z0 κ (σ.keep L M).o w b:=fun b hb=>⟨hb.1,hb.2.1,fun τ hτ=>hb.2.2 τ (hn τ hτ)⟩
 have hself:xY (Zof w0 Z0 κ σ.o w) w w:=fun _ _=>rfl
 have ht:yZ (fun _=>True) σ.o σ.o κ κ w w:=fun τ _=>⟨yI.refl _,rfl,fun _ b _ cur e f hb=>⟨cur,hb,rfl⟩⟩
 refine⟨hi.kept,hi.glob,fun τ b h hb=>hi.own τ b (hn τ h) hb,fun τ τ' b h h' hb hb'=>hi.inj τ τ' b (hn τ h) (hn τ' h') hb hb',fun τ ob h=>?_,fun s=>?_⟩
 ·exact((hi.objs τ ob (ho τ ob h)).mono hself hsub ht rfl (fun _ _=>rfl) (fun _ _=>trivial)).sub ho
 ·show zK _ _ _ _ (if L.contains s then σ.t s else .any) _
  split
  ·exact((hi.tmps s).mono hself hsub ht (fun _ _=>trivial)).sub ho
  ·trivial
section sw
variable {x y : Nat}
theorem zfh {τ:Nat} {e:TypeId} {sz:Nat} {nl:Option Bool} {rows:List (List C)} (h:(o (Abs.sw x y (Abs.sw x y τ))).map (O.sw x y)=some (.arr e sz nl rows)):o τ=some (.arr e sz nl rows):=by
 rw[pK] at h;cases ho:o τ with
 |none=>rw[ho] at h;cases h
 |some ob=>
  rw[ho] at h;cases ob with
  |var=>simp[O.sw] at h
  |arr=>simpa [O.sw] using h
theorem zfi {τ:Nat} {e:TypeId} {row:List K} (h:(o (Abs.sw x y (Abs.sw x y τ))).map (O.sw x y)=some (.var e row)): ∃row',o τ=some (.var e row'):=by
 rw[pK] at h;cases ho:o τ with
 |none=>rw[ho] at h;cases h
 |some ob=>
  rw[ho] at h;cases ob with
  |var e' r=>simp[O.sw] at h;exact⟨r,by rw[h.1]⟩
  |arr=>simp[O.sw] at h
theorem uQ.sw {c:Cap} {v:Value} (h:uQ w Z κ o c v):uQ w Z (fun s=>κ (Abs.sw x y s)) (fun s=>(o (Abs.sw x y s)).map (O.sw x y)) (c.sw x y) v:=by
 cases c with
 |tok τ=>
  intro e row h';obtain⟨row',hr⟩:=zfi (x:=x) (y:=y) h';simp only[pK];exact h e row' hr
 |ro=>exact h
theorem yU.sw {k:K} {v:Value} (h:yU w Z κ o k v):yU w Z (fun s=>κ (Abs.sw x y s)) (fun s=>(o (Abs.sw x y s)).map (O.sw x y)) (k.sw x y) v:=by
 cases k with
 |own τ=>
  intro e sz nl rows h';simp only[pK];exact h e sz nl rows (zfh h')
 |ptr τ off=>
  intro e row h';obtain⟨row',hr⟩:=zfi (x:=x) (y:=y) h';simp only[pK];exact h e row' hr
 |elem τ i off=>
  intro e sz nl rows h';simp only[pK];exact h e sz nl rows (zfh h')
 |fnk f caps=>
  obtain⟨vs,h1,h2,h3⟩:=h;refine⟨vs,h1,by simpa using h2,fun j c hc=>?_⟩;simp only[Zz,Zd] at hc;obtain⟨c',hc',rfl⟩:=hc;obtain⟨u,hu,hr⟩:=h3 j c' hc';exact⟨u,hu,hr.sw⟩
 |_=>exact h
theorem yB.sw {r:List K} {cs:List Value} (h:yB w Z κ o r cs):yB w Z (fun s=>κ (Abs.sw x y s)) (fun s=>(o (Abs.sw x y s)).map (O.sw x y)) (r.map (K.sw x y)) cs:=by
 refine⟨by simpa using h.1,fun j k v hk hv=>?_⟩;simp only[Zz,Zd] at hk;obtain⟨k',hk',rfl⟩:=hk;exact⟨(h.2 j k' v hk' hv).1,(h.2 j k' v hk' hv).2.sw⟩
theorem zK.sw {a:V} {v:Value} (h:zK w Z κ o a v):zK w Z (fun s=>κ (Abs.sw x y s)) (fun s=>(o (Abs.sw x y s)).map (O.sw x y)) (a.sw x y) v:=by
 cases a with
 |k a=>exact⟨h.1,yU.sw h.2⟩
 |agg r=>exact h
 |agk r=>obtain⟨cs,e,h⟩:=h;exact⟨cs,e,h.sw⟩
 |tup vs=>trivial
 |undef=>exact h
 |any=>trivial
theorem zrw (σ:St) (x y:Nat):σ.le (σ.sw x y):=by
 intro w0 Z0 κ fr w hi;refine⟨fun s=>κ (Abs.sw x y s),?_⟩;have hn: ∀s,(σ.sw x y).o s≠none->σ.o (Abs.sw x y s)≠none:=by
  intro s h e;apply h;show(σ.o (Abs.sw x y s)).map (O.sw x y)=none;rw[e];rfl
 have hself:xY (Zof w0 Z0 κ σ.o w) w w:=fun _ _=>rfl
 have hsub: ∀b,Zof w0 Z0 κ σ.o w b->Zof w0 Z0 (fun s=>κ (Abs.sw x y s)) (σ.sw x y).o w b:=fun b hb=>⟨hb.1,hb.2.1,fun s hs=>hb.2.2 _ (hn s hs)⟩
 have ht:yZ (fun _=>True) σ.o σ.o κ κ w w:=fun τ _=>⟨yI.refl _,rfl,fun _ b _ cur e f hb=>⟨cur,hb,rfl⟩⟩
 refine⟨hi.kept,hi.glob,fun s b h hb=>hi.own _ b (hn s h) hb,fun s s' b h h' hb hb'=>?_,fun s ob h=>?_,fun s=>?_⟩
 ·have:=hi.inj _ _ b (hn s h) (hn s' h') hb hb'
  have:=congrArg (Abs.sw x y) this
  rwa [pK,pK] at this
 ·have h':(σ.o (Abs.sw x y s)).map (O.sw x y)=some ob:=h
  simp only[Zd] at h';obtain⟨ob0,h0,rfl⟩:=h';have:=(hi.objs _ ob0 h0).mono (Z':=Zof w0 Z0 (fun s=>κ (Abs.sw x y s)) (σ.sw x y).o w) hself hsub ht rfl (fun _ _=>rfl) (fun _ _=>trivial);cases ob0 with
  |var e row=>
   obtain⟨b,cur,h1,h2,h3⟩:=this;exact⟨b,cur,h1,h2,h3.sw⟩
  |arr e sz nl rows=>exact this
 ·exact((hi.tmps s).mono hself hsub ht (fun _ _=>trivial)).sw
end sw
theorem zrx {τ A e sz z:Nat} {e':TypeId} {pre post:List K} (hτ:σ.o τ=some (.var e' (pre++.c (.list z (some true) [])::post))) (hA:σ.noA A):σ.le (σ.ownNil τ A e sz e' pre post):=by
 intro w0 Z0 κ fr w hi;obtain⟨hA0,hA1,hA2⟩:=hA;have hne:τ≠A:=by rintro rfl;rw[hA0] at hτ;cases hτ
 refine⟨fun s=>if s=A then none else κ s,?_⟩;have ho: ∀s,s≠A->s≠τ->(σ.ownNil τ A e sz e' pre post).o s=σ.o s:=fun s h1 h2=>by simp[St.ownNil,h1,h2]
 have hn: ∀s,s≠A->(σ.ownNil τ A e sz e' pre post).o s≠none->σ.o s≠none:=by
  intro s h1 h;by_cases h2:s=τ
  ·subst h2;rw[hτ];simp
  ·rw[ho s h1 h2] at h;exact h
 have hsub: ∀b,Zof w0 Z0 κ σ.o w b->Zof w0 Z0 (fun s=>if s=A then none else κ s) (σ.ownNil τ A e sz e' pre post).o w b:=by
  intro b hb;refine⟨hb.1,hb.2.1,fun s hs=>?_⟩;by_cases h:s=A
  ·simp[h]
  ·simp only[h,if_false];exact hb.2.2 s (hn s h hs)
 have hself:xY (Zof w0 Z0 κ σ.o w) w w:=fun _ _=>rfl
 have ht:yZ (fun s=>s≠A) σ.o (σ.ownNil τ A e sz e' pre post).o κ (fun s=>if s=A then none else κ s) w w:=by
  intro s hs;refine⟨?_,by simp[hs],fun _ b _ cur e f hb=>⟨cur,hb,rfl⟩⟩;by_cases h2:s=τ
  ·subst h2;rw[hτ];simp[St.ownNil,hs,yI]
  ·rw[ho s hs h2];exact yI.refl _
 refine⟨hi.kept,hi.glob,fun s b h hb=>?_,fun s s' b h h' hb hb'=>?_,fun s ob h=>?_,fun s=>?_⟩
 ·by_cases h1:s=A
  ·simp[h1] at hb
  ·simp only[h1,if_false] at hb;exact hi.own s b (hn s h1 h) hb
 ·by_cases h1:s=A
  ·simp[h1] at hb
  ·by_cases h2:s'=A
   ·simp[h2] at hb'
   ·simp only[h1,h2,if_false] at hb hb'
    exact hi.inj s s' b (hn s h1 h) (hn s' h2 h') hb hb'
 ·by_cases h1:s=A
  ·subst h1
   simp[St.ownNil] at h;subst h;exact .inl ⟨by simp,rfl,by simp⟩
  ·by_cases h2:s=τ
   ·subst h2
    simp[St.ownNil,h1] at h;subst h;obtain⟨b,cur,hb,hh,hr⟩:=hi.objs s _ hτ;have hrow:=hA2 s _ hτ;simp only[O.noRef,List.all_append,Yz,Zr,ZA] at hrow;have hmv: ∀{x:K} {v:Value},x.noRef A=true->yU w (Zof w0 Z0 κ σ.o w) κ σ.o x v->yU w (Zof w0 Z0 (fun s=>if s=A then none else κ s) (σ.ownNil s A e sz e' pre post).o w) (fun s=>if s=A then none else κ s) (σ.ownNil s A e sz e' pre post).o x v:=fun{x v} hx h=>
     yU.mono hself hsub ht (fun τ' hτ'=>by rintro rfl;rw[hx] at hτ';cases hτ') h
    refine⟨b,cur,by simp[h1,hb],hh,by simpa using hr.1,fun j k v hk hv=>?_⟩;by_cases hj:j<pre.length
    ·rw[ZL hj] at hk
     have hq:=hr.2 j k v (by rw[ZL hj];exact hk) hv;exact⟨hq.1,hmv (hrow.1 k (ZP hk)) hq.2⟩
    ·rw[ZM (by omega)] at hk
     have hr2:=hr.2 j;rw[ZM (by omega)] at hr2
     match hjj:j-pre.length,hk,hr2 with
     |0,hk,hr2=>
      simp at hk;subst hk;obtain⟨hone,hrep⟩:=hr2 (.c (.list z (some true) [])) v (by simp) hv;refine⟨hone,fun e2 sz2 nl2 rows2 _=> .inl ⟨by simp,?_⟩⟩;have hrep':PRep w (Zof w0 Z0 κ σ.o w) (.list z (some true) []) v:=hrep;generalize hnl:(some true:Option Bool)=nl at hrep';generalize hrw:([]:List (List C))=rw0 at hrep';cases hrep' with
      |nil=>rfl
      |emp _ _ a h=>exact absurd hnl.symm h
      |list _ _ _ _ _ _ _ h=>exact absurd hnl.symm h
     |n+1,hk,hr2=>
      rw[List.getElem?_cons_succ] at hk;have hq:=hr2 k v (by rw[List.getElem?_cons_succ];exact hk) hv;exact⟨hq.1,hmv (hrow.2.2 k (ZP hk)) hq.2⟩
   ·rw[ho s h1 h2] at h
    exact(hi.objs s ob h).mono hself hsub ht (by simp[h1]) (fun _ _=>rfl) (fun τ' hτ'=>by rintro rfl;rw[hA2 s ob h] at hτ';cases hτ')
 ·exact(hi.tmps s).mono hself hsub ht (fun τ' hτ'=>by rintro rfl;rw[hA1 s] at hτ';cases hτ')
theorem Wk.trans {K:St->Prop} {σ':St} (h:σ.le σ') (hk:Wk K σ'):Wk K σ:=by
 obtain⟨σ2,h2,h3⟩:=hk;refine⟨σ2,fun w0 Z0 κ fr w hi=>?_,h3⟩;obtain⟨κ',hi'⟩:=h w0 Z0 κ fr w hi;exact h2 w0 Z0 κ' fr w hi'
theorem Wk.mono {K K':St->Prop} (hk: ∀σ,K σ->K' σ) (h:Wk K σ):Wk K' σ:=let ⟨σ',h1,h2⟩:=h;⟨σ',h1,hk _ h2⟩
theorem Wk.in {K:St->Prop} (h:K σ):Wk K σ:=⟨σ,fun _ _ κ _ _ h=>⟨κ,h⟩,h⟩
theorem Wk.bind {K K':St->Prop} (h:Wk K σ) (hk: ∀σ,K σ->Wk K' σ):Wk K' σ:=let ⟨_,h1,h2⟩:=h;Wk.trans h1 (hk _ h2)
theorem sZ: ∀{l:List AI} {K K':St->Prop} {σ:St},(∀σ,K σ->K' σ)->sL P l K σ->sL P l K' σ
 |[],_,_,σ,hk,h=>hk σ h
 |i::l,K,K',σ,hk,h=>oE (fun σ h=>sZ hk h) h
theorem kO: ∀{t:DT} {K K':St->Prop} {σ:St},(∀σ,K σ->K' σ)->wpT P t K σ->wpT P t K' σ
 | .done,_,_,σ,hk,h=>hk σ h
 | .fail,_,_,σ,hk,h=>h
 | .top,_,_,σ,hk,h=>trivial
 | .one i t,K,K',σ,hk,h=>pH (fun σ h=>kO (t:=t) hk h) h
 | .alt a b,K,K',σ,hk,h=>⟨kO (t:=a) hk h.1,kO (t:=b) hk h.2⟩
theorem dP {A B:St->Prop} {Q Q':AE->St->Prop} (h1: ∀σ,A σ->B σ) (h2: ∀e σ,Q e σ->Q' e σ): ∀e σ,AE.then A Q e σ->AE.then B Q' e σ:=by
 intro e σ h;cases e with
 |normal=>exact h1 σ h
 |exit i=>exact h2 _ σ h
 |ret=>exact h2 _ σ h
theorem zfj {id:Nat} {Q Q':AE->St->Prop} (h2: ∀e σ,Q e σ->Q' e σ): ∀e σ,AE.inBlock id Q e σ->AE.inBlock id Q' e σ:=by
 intro e σ h;cases e with
 |normal=>exact h2 _ σ h
 |exit i=>
  simp only[AE.inBlock] at h⊢;split
  ·rename_i hi;rw[if_pos hi] at h;exact h2 _ σ h
  ·rename_i hi;rw[if_neg hi] at h;exact h2 _ σ h
 |ret=>exact h2 _ σ h
theorem zfk: ∀{l:List AI} {K K':St->Prop} {σ:St},(∀σ,K σ->K' σ)->qO P l K σ->qO P l K' σ
 |[],_,_,_,hk,h=>Wk.mono hk h
 |_::_,_,_,_,hk,h=>Wk.mono (fun _ h=>oE (fun _ h=>zfk hk h) h) h
theorem zfl: ∀{l:List AI} {K:St->Prop} {σ σ':St},σ.le σ'->qO P l K σ'->qO P l K σ
 |[],_,_,_,hl,h=>Wk.trans hl h
 |_::_,_,_,_,hl,h=>Wk.trans hl h
theorem zbB: ∀{l:List AI} {K K':St->Prop} {σ:St},(∀σ,K σ->K' σ)->sL P l K σ->qO P l K' σ
 |[],_,_,σ,hk,h=> .in (hk σ h)
 |_::_,_,_,_,hk,h=> .in (oE (fun _ h=>zbB hk h) h)
theorem zbC: ∀{l1 l2:List AI} {K:St->Prop} {σ:St},sL P l1 (fun σ=>qO P l2 K σ) σ->qO P (l1++l2) K σ
 |[],_,_,_,h=>h
 |_::_,_,_,_,h=> .in (oE (fun _ h=>zbC h) h)
theorem zbD: ∀(τs:List Nat) (σ:St),σ.le (St.frzA τs σ)
 |[],_=>fun _ _ κ _ _ h=>⟨κ,h⟩
 |τ::l,σ=>fun w0 Z0 κ fr w h=>zbD l (σ.frz τ) w0 Z0 κ fr w (h.frz τ)
theorem zfm: ∀{ps:List (List AI×List Nat)} {K K':St->Prop} {σ:St},(∀σ,K σ->K' σ)->kN P ps K σ->qO P (ps.flatMap fun p=>p.1) K' σ
 |[],_,_,σ,hk,h=> .in (hk σ h)
 |p::r,_,_,σ,hk,h=>by
  rw[XR];exact zbC (sZ (fun σ h=>zfl (zbD p.2 σ) (zfm hk h)) h)
theorem zbE (c:AC): ∀{Q Q':AE->St->Prop} {σ:St},(∀e σ,Q e σ->Q' e σ)->awp P c Q σ->awp P c Q' σ:=by
 induction c with
 |skip=>intro Q Q' σ hq h;exact hq _ σ h
 |region l=>intro Q Q' σ hq h;exact zfk (hq .normal) h
 |draw l p=>intro Q Q' σ hq h;exact Or.imp (Or.imp (fun h=>⟨h.1,sX (hq .normal) h.2⟩) (fun h=>kO (hq .normal) h)) (Or.imp (fun⟨az,a,e,h1,h2⟩=>⟨az,a,e,h1,sX (fun _ h=>sZ (hq .normal) h) h2⟩) (fun⟨c,h1,h2⟩=>⟨c,h1,zby (hq .normal) h2⟩)) h
 |seq a b iha ihb=>
  intro Q Q' σ hq h;exact iha (dP (fun σ h=>Wk.mono (fun σ h=>ihb hq h) h) hq) h
 |cond c a b iha ihb=>
  intro Q Q' σ hq h;simp only[awp,AX.evg] at h⊢;refine⟨h.1,?_⟩;have h2:=h.2;generalize (AX.ev σ c).strip.1=v at h2⊢;split at h2
  ·exact⟨fun ht=>Wk.mono (fun σ h=>iha hq h) (h2.1 ht),fun ht=>Wk.mono (fun σ h=>ihb hq h) (h2.2 ht)⟩
  ·exact h2.elim
 |block i a ih=>
  intro Q Q' σ hq h;exact Wk.mono (fun σ h=>ih (zfj hq) h) h
 |loop a ih=>
  intro Q Q' σ hq h;obtain⟨I,h0,h1⟩:=h;exact⟨I,h0,fun n σ' hI=>Wk.mono (fun σ h=>ih (dP (fun σ h=>h) hq) h) (h1 n σ' hI)⟩
 |exit i=>intro Q Q' σ hq h;exact hq _ σ h
 |ret=>intro Q Q' σ hq h;exact hq _ σ h
theorem zfn (c:AQ):c.ok=true-> ∀{Q:AE->St->Prop} {σ:St},awq P c Q σ->Wk (awp P c.erase (fun e=>Wk (Q e))) σ:=by
 induction c with
 |skip=>intro _ Q σ h;exact .in (.in h)
 |region l=>intro _ Q σ h;exact .in (zbB (fun _ h=> .in h) h)
 |draw l p=>intro hok Q σ h;exact .in (.inl (.inl ⟨hok,sX (fun _ h=> .in h) h⟩))
 |tree l p=>intro _ Q σ h;exact .in (.inl (.inr (kO (fun _ h=> .in h) h)))
 |seq a b iha ihb=>
  intro hok Q σ h;simp only[AQ.ok,Zr] at hok;refine Wk.mono (fun τ ht=>zbE a.erase (Q':=AE.then (Wk (awp P b.erase fun e=>Wk (Q e))) fun e=>Wk (Q e)) (fun e σ h=>?_) ht) (iha hok.1 h);cases e with
  |normal=>exact Wk.bind h (fun σ h=>ihb hok.2 h)
  |exit i=>exact h
  |ret=>exact h
 |cond c a b iha ihb=>
  intro hok Q σ h;simp only[AQ.ok,Zr] at hok;simp only[awq,AX.evg] at h;refine .in ?_;simp only[AQ.erase,awp,AX.evg];refine⟨h.1,?_⟩;have h2:=h.2;generalize (AX.ev σ c).strip.1=v at h2⊢;split at h2
  ·exact⟨fun ht=>iha hok.1 (h2.1 ht),fun ht=>ihb hok.2 (h2.2 ht)⟩
  ·exact h2.elim
 |block i a ih=>
  intro hok Q σ h;refine .in (Wk.mono (fun τ ht=>zbE a.erase (Q':=AE.inBlock i fun e=>Wk (Q e)) (fun e σ h=>?_) ht) (ih hok h));cases e with
  |normal=>exact h
  |exit j=>
   have e1:AE.inBlock i Q (.exit j)=if j=i then Q .normal else Q (.exit j):=by funext σ;simp only[AE.inBlock];split<;>rfl
   rw[e1] at h;simp only[AE.inBlock];split
   ·rename_i hi;rw[if_pos hi] at h;exact h
   ·rename_i hi;rw[if_neg hi] at h;exact h
  |ret=>exact h
 |loop L M a ih=>
  intro hok Q σ h;obtain⟨I,h0,h1⟩:=h;refine .in ⟨I,Wk.trans (zbA σ L M) (.in h0),fun n σ' hI=>Wk.mono (fun τ ht=>zbE a.erase (Q':=AE.then (Wk fun σ''=> ∃m,m<n/\I m σ'') fun e=>Wk (Q e)) (fun e σ h=>?_) ht) (ih hok (h1 n σ' hI))⟩;cases e with
  |normal=>
   have h':Wk (fun τ=> ∃m,m<n/\I m (τ.keep L M)) σ:=h;exact Wk.bind h' (fun τ ht=>Wk.trans (zbA τ L M) (.in ht))
  |exit j=>exact h
  |ret=>exact h
 |exit i=>intro _ Q σ h;exact .in (.in h)
 |ret=>intro _ Q σ h;exact .in (.in h)
 |keep L M a ih=>intro hok Q σ h;exact Wk.trans (zbA σ L M) (ih hok h)
 |own τ A e sz a ih=>
  intro hok Q σ h;obtain⟨e',pre,post,z,h1,h2,h3⟩:=h;exact Wk.trans (zrx h1 h2) (ih hok h3)
 |swap x y a ih=>intro hok Q σ h;exact Wk.trans (zrw σ x y) (ih hok h)
 |frz τ a ih=>intro hok Q σ h;exact Wk.trans (fun _ _ κ _ _ hi=>⟨κ,hi.frz τ⟩) (ih hok h)
 |regs ps=>intro _ Q σ h;exact .in (zfm (fun _ h=> .in h) h)
 |drawl l a p=>intro hok Q σ h;exact .in (.inr (.inl ⟨l,a,rfl,hok,sX (fun _ h=>sZ (fun _ h=> .in h) h) h⟩))
 |drawm l x r p=>intro hok Q σ h;exact .in (.inr (.inr ⟨l.length,hok,zqF (sX (fun _ h=>oE (fun _ h=>sX (fun _ h=> .in h) h) h) h)⟩))
 |regf l1 τs l2=>intro _ Q σ h;exact .in (zbC (sZ (fun σ h=>zfl (zbD τs σ) (zbB (fun _ h=> .in h) h)) h))
theorem Spec.of_awq {f:FuncId} {n:Nat} {c:AQ} {rs:List RX} {args:List V} {S:V->Prop} (hc:zH P f=some ⟨n,c.erase,rs⟩) (hok:c.ok=true) (hlen:args.length<=n) (h:awq P c (kM rs S) (St.init args)):Spec P f args S:=
 Spec.of_cFunc (ac:=c.erase) (rs:=rs) (n:=n) hc hlen (zfn c hok (Q:=kM rs S) h)
theorem yV.of_awq {f:FuncId} {n:Nat} {c:AQ} {rs:List RX} {args:List V} {o:Nat->Option O} {T:List Nat} {anchors:List (Nat×Nat)} {S:V->(Nat->Option O)->Prop} (hc:zH P f=some ⟨n,c.erase,rs⟩) (hok:c.ok=true) (hlen:args.length<=n)
  (hav:c.erase.avoids (fun s=>anchors.any fun p=>p.1==s)=true) (h:awq P c (iL rs args o T anchors S) ⟨fun s=>args.getD s .any,o⟩):yV P f args o (anchors.map (·.2)) S:=by
 have h2:=zfn c hok h;have h3:=@yV.of_cFunc P f n c.erase rs args o T anchors S hc hlen hav
 with_reducible exact h3 h2
end
abbrev TS:=List (Nat×V)
abbrev OS:=List (Nat×O)
abbrev KK:=TS->OS->Prop
def lookT (s:Nat):TS->V
 |[]=> .any
 |(k,v)::l=>if k=s then v else lookT s l
def lookO (s:Nat):OS->Option O
 |[]=>none
 |(k,v)::l=>if k=s then some v else lookO s l
def insT (s:Nat) (v:V) (l:TS):TS:=(s,v)::l
theorem zfo (s:Nat) (v:V) (l:TS):lookT s ((s,v)::l)=v:=by simp[lookT]
theorem zfp {s k:Nat} (h:(k==s)=false) (v:V) (l:TS):lookT s ((k,v)::l)=lookT s l:=by
 have: ¬k=s:=by simpa using h
 simp[lookT,this]
def insO (s:Nat) (v:O) (l:OS):OS:=(s,v)::l
theorem zfq (s:Nat) (v:O) (l:OS):lookO s ((s,v)::l)=some v:=by simp[lookO]
theorem zfr {s k:Nat} (h:(k==s)=false) (v:O) (l:OS):lookO s ((k,v)::l)=lookO s l:=by
 have: ¬k=s:=by simpa using h
 simp[lookO,this]
def mkS (ts:TS) (os:OS):St:=⟨fun s=>lookT s ts,fun s=>lookO s os⟩
theorem zfs (d s:Nat) (v:V) (ts:TS):lookT s (insT d v ts)=if s=d then v else lookT s ts:=by
 by_cases h:d=s
 ·subst h;simp[insT,lookT]
 ·simp[insT,lookT,h,Ne.symm h]
theorem nM (d s:Nat) (v:O) (os:OS):lookO s (insO d v os)=if s=d then some v else lookO s os:=by
 by_cases h:d=s
 ·subst h;simp[insO,lookO]
 ·simp[insO,lookO,h,Ne.symm h]
theorem tZ (ts:TS) (os:OS) (d:Nat) (v:V):(mkS ts os).put d v=mkS (insT d v ts) os:=by
 simp only[mkS,St.put,St.mk.injEq,and_true];funext s;rw[zfs]
theorem iM (ts:TS) (os:OS) (d:Nat) (v:O):(mkS ts os).setO d v=mkS ts (insO d v os):=by
 simp only[mkS,St.setO,St.mk.injEq,true_and];funext s;rw[nM]
theorem nN (ts:TS) (os:OS) (d:Nat) (v:O) (x:V):(mkS ts os).new d v x=mkS (insT d x ts) (insO d v os):=by
 rw[St.new,iM,tZ]
def freeT (d:Nat):TS->Bool
 |[]=>true
 |(k,v)::l=>(k==d||v.noRef d)&&freeT d l
def freeO (d:Nat):OS->Bool
 |[]=>true
 |(k,v)::l=>(k==d||v.noRef d)&&freeO d l
theorem zft {ts:TS} {os:OS} {d:Nat} (h1:freeT d ts=true) (h2:freeO d os=true):(mkS ts os).Free d:=by
 constructor
 ·intro s hs
  show(lookT s ts).noRef d=true
  induction ts with
  |nil=>rfl
  |cons p l ih=>
   obtain⟨k,v⟩:=p;simp only[freeT,Zr,Yp,beq_iff_eq] at h1;simp only[lookT];split
   ·rename_i hk;subst hk
    rcases h1.1 with h|h
    ·exact absurd h hs
    ·exact h
   ·exact ih h1.2
 ·intro τ ob hob hτ
  have hob':lookO τ os=some ob:=hob;clear hob
  induction os with
  |nil=>simp[lookO] at hob'
  |cons p l ih=>
   obtain⟨k,v⟩:=p;simp only[freeO,Zr,Yp,beq_iff_eq] at h2;simp only[lookO] at hob';split at hob'
   ·rename_i hk;subst hk
    cases hob';rcases h2.1 with h|h
    ·exact absurd h hτ
    ·exact h
   ·exact ih h2.2 hob'
def mapT (f:V->V):TS->TS
 |[]=>[]
 |(k,v)::l=>(k,f v)::mapT f l
def mapO (f:O->O):OS->OS
 |[]=>[]
 |(k,v)::l=>(k,f v)::mapO f l
def delO (τ:Nat):OS->OS
 |[]=>[]
 |(k,v)::l=>if k=τ then delO τ l else(k,v)::delO τ l
theorem nO (f:V->V) (hf:f .any=.any) (s:Nat): ∀(ts:TS),lookT s (mapT f ts)=f (lookT s ts)
 |[]=>hf.symm
 |(k,v)::l=>by
  simp only[mapT,lookT,nO f hf s l];split<;>rfl
theorem lA (f:O->O) (s:Nat): ∀(os:OS),lookO s (mapO f os)=(lookO s os).map f
 |[]=>rfl
 |(k,v)::l=>by
  simp only[mapO,lookO,lA f s l];split<;>rfl
theorem dQ (τ s:Nat): ∀(os:OS),lookO s (delO τ os)=if s=τ then none else lookO s os
 |[]=>by simp[delO,lookO]
 |(k,v)::l=>by
  simp only[delO];by_cases h:k=τ
  ·subst h
   rw[if_pos rfl,dQ k s l];by_cases h2:s=k
   ·simp[h2]
   ·simp[h2,lookO,Ne.symm h2]
  ·rw[if_neg h]
   simp only[lookO,dQ τ s l];by_cases h2:k=s
   ·subst h2;simp[h]
   ·simp[h2]
def rA (τ:Nat) (ts:TS) (os:OS):Option O->TS
 |none=>ts
 |some ob=>mapT (fun v=>v.frz τ ob) ts
def rU (τ:Nat) (os:OS):Option O->OS
 |none=>os
 |some ob=>mapO (O.frz τ ob) (delO τ os)
theorem dR (ts:TS) (os:OS) (τ:Nat):(mkS ts os).frz τ=mkS (rA τ ts os (lookO τ os)) (rU τ os (lookO τ os)):=by
 unfold St.frz;have e:(mkS ts os).o τ=lookO τ os:=rfl;rw[e];cases lookO τ os with
 |none=>rfl
 |some ob=>
  simp only[mkS,rA,rU,St.mk.injEq];constructor
  ·funext s;rw[nO _ rfl]
  ·funext s
   rw[lA,dQ];split<;>rfl
def keepT (ts:TS):List Nat->TS
 |[]=>[]
 |s::L=>(s,lookT s ts)::keepT ts L
def addO (m:Nat) (o:Option O) (l:OS):OS:=match o with|some ob=>(m,ob)::l|none=>l
def keepO (os:OS):List Nat->OS
 |[]=>[]
 |m::M=>addO m (lookO m os) (keepO os M)
theorem zfu (ts:TS) (s:Nat): ∀(L:List Nat),lookT s (keepT ts L)=if L.contains s then lookT s ts else .any
 |[]=>by simp[keepT,lookT]
 |k::L=>by
  simp only[keepT,lookT,zfu ts s L,Xl];by_cases h:k=s
  ·subst h;simp
  ·simp[h,Ne.symm h]
theorem dS (os:OS) (s:Nat): ∀(M:List Nat),lookO s (keepO os M)=if M.contains s then lookO s os else none
 |[]=>by simp[keepO,lookO]
 |k::M=>by
  simp only[keepO,Xl];by_cases h:k=s
  ·subst h
   cases ho:lookO k os with
   |none=>simp only[addO];rw[dS os k M,ho];simp
   |some ob=>simp[addO,lookO]
  ·cases ho:lookO k os with
   |none=>simp only[addO];rw[dS os s M];simp[Ne.symm h]
   |some ob=>simp only[addO,lookO,if_neg h];rw[dS os s M];simp[Ne.symm h]
theorem zbF (ts:TS) (os:OS) (L M:List Nat):(mkS ts os).keep L M=mkS (keepT ts L) (keepO os M):=by
 simp only[St.keep,mkS,St.mk.injEq];constructor
 ·funext s;rw[zfu]
 ·funext s;rw[dS];rfl
theorem zfv (ts:TS) (os:OS):(mkS ts os).nrm=mkS (mapT V.nrm ts) (mapO O.nrm os):=by
 simp only[St.nrm,mkS,St.mk.injEq];constructor
 ·funext s;rw[nO _ rfl]
 ·funext s;rw[lA]
def initT:Nat->List V->TS
 |_,[]=>[]
 |k,v::l=>(k,v)::initT (k+1) l
theorem zfw: ∀(l:List V) (k s:Nat),lookT s (initT k l)=if k<=s then l.getD (s-k) .any else .any
 |[],k,s=>by simp[initT,lookT]
 |v::l,k,s=>by
  simp only[initT,lookT];by_cases h:k=s
  ·subst h;simp
  ·rw[if_neg h,zfw l (k+1) s]
   by_cases h2:k<=s
   ·rw[if_pos h2,if_pos (by omega)]
    have:s-k=(s-(k+1))+1:=by omega
    rw[this];simp
   ·rw[if_neg h2,if_neg (by omega)]
theorem zfx (args:List V) (os:OS):(⟨fun s=>args.getD s .any,fun s=>lookO s os⟩:St)=mkS (initT 0 args) os:=by
 simp only[mkS,St.mk.injEq,and_true];funext s;rw[zfw];simp
def onS (K:KK) (σ:St):Prop:= ∃ts os,σ=mkS ts os/\K ts os
theorem xN {K:KK} {ts:TS} {os:OS} (h:K ts os):onS K (mkS ts os):=⟨ts,os,rfl,h⟩
def look (ts:TS):AX->V
 | .t s=>lookT s ts
 | .v v=>v
theorem yD (ts:TS) (os:OS) (x:AX):x.ev (mkS ts os)=look ts x:=by cases x<;>rfl
def putK (r:Option (Prop×V)) (K:KK) (d:Nat) (ts:TS) (os:OS):Prop:=
 match r with|some (p,v)=>p/\K (insT d v ts) os|none=>False
def freeB (d:Nat) (ts:TS) (os:OS):Prop:=(freeT d ts&&freeO d os)=true
def boxK (v:V) (K:KK) (d e:Nat) (ts:TS) (os:OS):Prop:=
 match v with
 | .agg r=>freeB d ts os/\K (insT d (.k (.ptr d 0)) ts) (insO d (.var e (r.map .c)) os)
 | .k x=>x.noRef d=true/\freeB d ts os/\K (insT d (.k (.ptr d 0)) ts) (insO d (.var e [x]) os)
 | .agk r=>r.all (Abs.K.noRef d)=true/\freeB d ts os/\K (insT d (.k (.ptr d 0)) ts) (insO d (.var e r) os)
 |_=>False
def vRow:V->Option (List C)
 | .k (.c x)=>some [x]
 | .agg r=>some r
 |_=>none
def vLits:List (Nat×V)->Option (List (Nat×List C))
 |[]=>some []
 |(i,v)::ps=>match vRow v,vLits ps with
  |some r,some l=>some ((i,r)::l)
  |_,_=>none
def bsK (l:Option (List (Nat×List C))) (K:KK) (d e sz:Nat) (zero:List C) (len:Nat) (ts:TS) (os:OS):Prop:=
 match l with
 |some l=>freeB d ts os/\zero.length=sz/\(∀p∈l,p.1<len/\p.2.length=sz)/\
   K (insT d (.k (.own d)) ts) (insO d (.arr e sz (some false) (l.foldl (fun rows p=>rows.set p.1 p.2) (List.replicate len zero))) os)
 |none=>False
def bsQ (l:Option (List (Nat×List C))) (K:KK) (d sz:Nat) (zero:List C) (len:Nat) (ts:TS) (os:OS):Prop:=
 match l with
 |some l=>zero.length=sz/\(∀p∈l,p.1<len/\p.2.length=sz)/\
   K (insT d (.list sz (some false) (l.foldl (fun rows p=>rows.set p.1 p.2) (List.replicate len zero))) ts) os
 |none=>False
def stVarK (ob:Option O) (ks:Option (List Abs.K)) (K:KK) (n τ off:Nat) (ts:TS) (os:OS):Prop:=
 match ob,ks with
 |some (.var e row),some ks=>ks.length=n/\off+n<=row.length/\K ts (insO τ (.var e (splice row off ks)) os)
 |_,_=>False
def stArrK (ob:Option O) (r:Option (List C)) (K:KK) (n τ i off:Nat) (ts:TS) (os:OS):Prop:=
 match ob,r with
 |some (.arr e sz nl rows),some r=>r.length=n/\off+n<=sz/\K ts (insO τ (.arr e sz nl (rows.set i (if off=0/\n=sz then r else splice (rows.getD i []) off r))) os)
 |_,_=>False
def storeK (x y:V) (K:KK) (n:Nat) (ts:TS) (os:OS):Prop:=
 match x with
 | .k (.ptr τ off)=>stVarK (lookO τ os) y.cells K n τ off ts os
 | .k (.elem τ i off)=>stArrK (lookO τ os) (vRow y) K n τ i off ts os
 |_=>False
def mkslK (l c:V) (K:KK) (d e sz bytes:Nat) (zero:List C) (ts:TS) (os:OS):Prop:=
 match l,c with
 | .k (.c (.int _ l)),.k (.c (.int _ c))=>
   0<=l/\l<=c/\bytes*c<=281474976710656/\c<=9223372036854775807/\zero.length=sz/\freeB d ts os/\K (insT d (.k (.own d)) ts) (insO d (.arr e sz (some false) (List.replicate l.toNat zero)) os)
 |_,_=>False
def srcO (sz:Nat):Option O->Option (Prop×List (List C))
 |some (.arr _ sz' _ rows)=>some (sz'=sz,rows)
 |_=>none
def srcV (os:OS) (sz:Nat):V->Option (Prop×List (List C))
 | .k (.c (.list sz' _ rows))=>some (sz'=sz\/rows=[],rows)
 | .k (.own τ)=>srcO sz (lookO τ os)
 |_=>none
def appK (ob:Option O) (src:Option (Prop×List (List C))) (K:KK) (d e sz bytes τ:Nat) (ts:TS) (os:OS):Prop:=
 match ob,src with
 |some (.arr e' sz' nl xs),some (p,ys)=>p/\e'=e/\sz'=sz/\xs.length+ys.length<=9223372036854775807/\(xs.length+ys.length)*bytes<=140737488355328/\
   K (insT d (.k (.own τ)) (mapT (V.scrub τ) ts)) (insO τ (.arr e sz (nlApp nl ys) (xs++ys)) (mapO (O.scrub τ) (delO τ os)))
 |_,_=>False
def zfy (src:Option (Prop×List (List C))) (K:KK) (d e sz bytes:Nat) (ts:TS) (os:OS):Prop:=
 match src with
 |some (p,ys)=>p/\freeB d ts os/\ys.length<=9223372036854775807/\ys.length*bytes<=140737488355328/\K (insT d (.k (.own d)) ts) (insO d (.arr e sz (nlApp (some true) ys) ys) os)
 |none=>False
def appendK (x:V) (src:Option (Prop×List (List C))) (K:KK) (d e sz bytes:Nat) (ts:TS) (os:OS):Prop:=
 match x with
 | .k (.own τ)=>appK (lookO τ os) src K d e sz bytes τ ts os
 | .k (.c (.list _ (some true) []))=>zfy src K d e sz bytes ts os
 |_=>False
def vZ:Option O->V
 |some (.arr _ sz nl rows)=> .list sz nl rows
 |_=> .any
def zC (os:OS):V->V
 | .k (.own τ)=>vZ (lookO τ os)
 |v=>v
theorem kP (ts:TS) (os:OS) (v:V):v.lend (mkS ts os)=zC os v:=by
 unfold V.lend zC;split
 ·show(match lookO _ os with|some (.arr _ sz nl rows)=>V.list sz nl rows|_=> .any)=_
  unfold vZ;rfl
 ·rename_i h
  split
  ·exact absurd rfl (h _)
  ·rfl
def freesL (d n:Nat) (ts:TS) (os:OS):Nat->Prop
 |0=>True
 |k+1=>(freeB n ts os/\(n=d\/(lookT n ts).noRef n=true))/\freesL d (n+1) ts os k
def addsL (n:Nat):List O->OS->OS
 |[],os=>os
 |ob::l,os=>addsL (n+1) l (insO n ob os)
def regK (r:V×List O) (K:KK) (d n:Nat) (ts:TS) (os:OS):Prop:=
 freesL d n ts os r.2.length/\K (insT d r.1 ts) (addsL n r.2 os)
def retK (r:V) (K:KK) (ts:TS) (os:OS):Option Nat->Prop
 |none=>K ts os
 |some d=>regK (r.reg (regN d r)) K d (regN d r) ts os
def zry (r:V) (K:KK) (ts:TS) (os:OS):Option Nat->Prop
 |none=>K ts os
 |some d=>K (insT d r ts) os
def pL (P:Program) (f:FuncId) (vs:List V) (cs:List C) (K:KK) (d:Option Nat) (ts:TS) (os:OS):Prop:=
 vs.all (fun v=>(zC os v).isPure)=true/\ ∃r,(Spec P f (vs.map (fun v=>(zC os v).norm)++cs.map fun c=> .k (.c c.norm)) (fun r'=>r'=r)\/(cs=[]/\Spec P f (vs.map (zC os)) (fun r'=>r'=r)))/\
  (if r.scalar=true then zry r K ts os d else vs.all (fun v=>v.toks.isEmpty)=true/\retK r K ts os d)
def zbG (P:Program) (x:V) (vs:List V) (K:KK) (d:Option Nat) (ts:TS) (os:OS):Prop:=
 match x with
 | .k (.c (.fn f cs))=>pL P f vs cs K d ts os
 |_=>False
def iN (P:Program) (f:FuncId) (vs:List V) (cs:List C) (K:KK) (d:Nat) (ts:TS) (os:OS):Prop:=
 vs.all (fun v=>(zC os v).isPure)=true/\ ∃r,Spec P f (vs.map (fun v=>(zC os v).norm)++cs.map fun c=> .k (.c c.norm)) (fun r'=>r'=r)/\
  (r.scalar=true\/vs.all (fun v=>v.toks.isEmpty)=true)/\K (insT d r.fz ts) os
def zfz (P:Program) (x:V) (vs:List V) (K:KK) (d:Nat) (ts:TS) (os:OS):Prop:=
 match x with
 | .k (.c (.fn f cs))=>iN P f vs cs K d ts os
 |_=>False
def dT (P:Program) (f:FuncId) (vs:List V) (caps:List Cap) (K:KK) (d:Option Nat) (ts:TS) (os:OS):Prop:=
 ∃(T A dead:List Nat) (S:V->(Nat->Option O)->Prop),
  ((vs++caps.map jY).all (V.within T)=true)/\(caps.all (Cap.live (fun s=>lookO s os))=true)/\(∀τ,τ∈T-> ∀ob,lookO τ os=some ob->ob.within T=true)/\
  (∀τ,τ∈T->τ∈A\/τ∈dead)/\
  yV P f ((vs++caps.map jY).map V.nrm) (yE T fun τ=>(lookO τ os).map O.nrm) A S/\
  ∀r o',S r o'->(∀τ,τ ∉ T->o' τ=none)/\r.within T=true/\(∀τ ob,o' τ=some ob->ob.within T=true)/\onS K (putD ((mkS ts os).back T dead o') d r)
def nP:Option O->Prop
 |some (.var _ row)=>row.flatMap Abs.K.toks=[]
 |_=>True
def zrz (P:Program) (f:FuncId) (xs:List AX) (K:KK) (d:Option Nat) (ts:TS) (os:OS):Prop:=
 ∃τ,(xs.map (look ts)).flatMap V.hard=[τ]/\nP (lookO τ os)/\pL P f (xs.map (look (rA τ ts os (lookO τ os)))) [] K d (rA τ ts os (lookO τ os)) (rU τ os (lookO τ os))
def zrA (P:Program) (f:FuncId) (xs:List AX) (K:KK) (d:Option Nat) (ts:TS) (os:OS):Prop:=
 (xs.map (look ts)).all (fun v=>(zC os v).isPure)=true/\ ∃τ r,Spec P f ((xs.map (look ts)).map fun v=>(zC os v).norm) (fun r'=>r'=r)/\r.scalar=false/\
  (xs.map (look ts)).flatMap V.toks=[τ]/\nP (lookO τ os)/\retK r K (rA τ ts os (lookO τ os)) (rU τ os (lookO τ os)) d
def nQ (P:Program) (f:FuncId) (vs:List V) (xs:List AX) (K:KK) (d:Option Nat) (ts:TS) (os:OS):Prop:=
 dT P f vs [] K d ts os\/(vs=xs.map (look ts)/\(zrz P f xs K d ts os\/zrA P f xs K d ts os))
def exL (P:Program) (ts:TS) (os:OS):AOp->KK->Prop
 | .mov d x,K=>K (insT d (look ts x) ts) os
 | .nilL d e sz,K=>freeB d ts os/\K (insT d (.k (.own d)) ts) (insO d (.arr e sz (some true) []) os)
 | .pick d c a b,K=>putK (vPick (look ts c) (look ts a) (look ts b)) K d ts os
 | .alloc d e zero,K=>freeB d ts os/\K (insT d (.k (.ptr d 0)) ts) (insO d (.var e (zero.map .c)) os)
 | .box d e x,K=>boxK (look ts x) K d e ts os
 | .build d zero ps,K=>putK (rowV (vBuild (ps.map fun p=>(p.1,p.2.1,look ts p.2.2)) (zero.map .c))) K d ts os
 | .bslice d e sz zero len ps,K=>bsK (vLits (ps.map fun p=>(p.1,look ts p.2))) K d e sz zero len ts os
 | .load d n agg x,K=>putK (vLoad (fun s=>lookO s os) n agg (look ts x)) K d ts os
 | .store n x y,K=>storeK (look ts x) (look ts y) K n ts os
 | .nilchk d x,K=>putK (mQ (fun s=>lookO s os) (look ts x)) K d ts os
 | .bin d op x y,K=>putK (vBin op (look ts x) (look ts y)) K d ts os
 | .binB d neg x y,K=>putK (vBinB neg (look ts x) (look ts y)) K d ts os
 | .eqAgg d neg tys x y,K=>putK (vEqAgg neg tys (look ts x) (look ts y)) K d ts os
 | .nilcmp d neg x,K=>putK (vNil (fun s=>lookO s os) neg (look ts x)) K d ts os
 | .un d op x,K=>putK (vUn op (look ts x)) K d ts os
 | .conv d k x,K=>putK (vConv k (look ts x)) K d ts os
 | .mkfn d f caps,K=>putK (fnV f (tW (fun s=>lookO s os) (caps.map (look ts)))) K d ts os
 | .mkslice d e sz bytes zero l c,K=>mkslK (look ts l) (look ts c) K d e sz bytes zero ts os
 | .slice d sz x lo hi,K=>(look ts x).toks=[]/\putK (pG sz (lo.map (look ts)) (hi.map (look ts)) (look ts x)) K d ts os
 | .slstr d x lo hi,K=>putK (mT (lo.map (look ts)) (hi.map (look ts)) (look ts x)) K d ts os
 | .faddr d off x,K=>putK (vFaddr (fun s=>lookO s os) off (look ts x)) K d ts os
 | .field d off n agg x,K=>putK (mP off n agg (look ts x)) K d ts os
 | .iaddr d sz x i,K=>putK (vIaddr (fun s=>lookO s os) sz (look ts x) (look ts i)) K d ts os
 | .iaddrA d sz len x i,K=>putK (mR (fun s=>lookO s os) sz len (look ts x) (look ts i)) K d ts os
 | .sidx d x i,K=>putK (vSidx (look ts x) (look ts i)) K d ts os
 | .aidx d sz len agg x i,K=>putK (mS sz len agg (look ts x) (look ts i)) K d ts os
 | .extr d x i,K=>putK (vExtr i (look ts x)) K d ts os
 | .call d f xs,K=>pL P f (xs.map (look ts)) [] K d ts os\/nQ P f (xs.map (look ts)) xs K d ts os
 | .callv d x xs,K=>zbG P (look ts x) (xs.map (look ts)) K d ts os\/ ∃f caps,look ts x=.k (.fnk f caps)/\dT P f (xs.map (look ts)) caps K d ts os
 | .len d x,K=>putK (vLen (fun s=>lookO s os) (look ts x)) K d ts os
 | .lenS d x,K=>putK (vLenS (look ts x)) K d ts os
 | .cap _ _,_=>False
 | .append d e sz bytes x y,K=>appendK (look ts x) (srcV os sz (look ts y)) K d e sz bytes ts os
 | .minmax d isMax x ys,K=>putK (fY isMax (ys.map (look ts)) (look ts x)) K d ts os
section
variable {P : Program} {ts : TS} {os : OS}
theorem zrB {r:Option (Prop×V)} {K:KK} {d:Nat} (h:putK r K d ts os):zW r (fun v=>onS K ((mkS ts os).put d v)):=by
 cases r with
 |none=>exact h.elim
 |some pv=>
  refine⟨h.1,?_⟩;show onS K ((mkS ts os).put d pv.2);rw[tZ];exact xN h.2
theorem vL {op:AOp} {r:Option (Prop×V)} {K:KK} {d:Nat} (he: ∀k:Nat->V->Prop,zA (mkS ts os) true op k=zW r (k d)) (h:putK r K d ts os):zA (mkS ts os) true op (fun d v=>onS K ((mkS ts os).put d v)):=by
 rw[he];exact zrB h
theorem zbH {v:V} {r:List C} (h:vRow v=some r):v.toks=[]/\v.pure=some r:=by
 unfold vRow at h;split at h
 ·exact⟨rfl,h⟩
 ·exact⟨rfl,h⟩
 ·simp at h
theorem zfA: ∀{ps:List (Nat×AX)} {l:List (Nat×List C)},vLits (ps.map fun p=>(p.1,look ts p.2))=some l-> ∀{k:St->List (Nat×List C)->Prop},k (mkS ts os) l->oB (mkS ts os) ps k
 |[],l,h,k,hk=>by simp[vLits] at h;subst h;exact hk
 |(i,x)::ps,l,h,k,hk=>by
  simp only[Zk,vLits] at h;split at h
  ·rename_i r l' hr hl
   cases h;obtain⟨ht,hp⟩:=zbH hr;simp only[oB,nA,V.strip,yD,ht,St.frzs,hp,true_and];exact zfA hl hk
  ·simp at h
theorem zfB: ∀{ps:List (Nat×AX)} {l:List (Nat×List C)},vLits (ps.map fun p=>(p.1,look ts p.2))=some l-> ∀{k:List (Nat×List C)->Prop},k l->uR (mkS ts os) ps k
 |[],l,h,k,hk=>by simp[vLits] at h;subst h;exact hk
 |(i,x)::ps,l,h,k,hk=>by
  simp only[Zk,vLits] at h;split at h
  ·rename_i r l' hr hl
   cases h;obtain⟨ht,hp⟩:=zbH hr;simp only[uR,V.strip,yD,hp,true_and];exact zfB hl hk
  ·simp at h
theorem zrC (τ:Nat):(mkS ts os).scrub τ=mkS (mapT (V.scrub τ) ts) (mapO (O.scrub τ) (delO τ os)):=by
 simp only[mkS,St.scrub,St.mk.injEq];constructor
 ·funext s;rw[nO _ rfl]
 ·funext s;rw[lA,dQ];split<;>rfl
theorem zfC {e sz:Nat} {y:AX} {p:Prop} {ys:List (List C)} (h:srcV os sz (look ts y)=some (p,ys)) (hp:p) {k:List (List C)->Prop} (hk:k ys):yC.srcP (mkS ts os) e sz y k:=by
 simp only[yC.srcP,xZ,yD];generalize look ts y=v at h⊢;unfold srcV at h;split at h
 ·cases h;exact⟨hp,hk⟩
 ·rename_i τ
  show(match lookO τ os with|some (.arr _ sz' _ rows)=>sz'=sz/\k rows|_=>False);cases ho:lookO τ os with
  |none=>rw[ho] at h;simp[srcO] at h
  |some ob=>
   cases ob with
   |var=>rw[ho] at h;simp[srcO] at h
   |arr e' sz' nl rows=>
    rw[ho] at h;simp only[srcO,Zh,Xd] at h;obtain⟨rfl,rfl⟩:=h;exact⟨hp,hk⟩
 ·simp at h
theorem zbI: ∀{k d n:Nat},freesL d n ts os k->jZ (mkS ts os) d n k
 |0,_,_,_=>trivial
 |k+1,d,n,h=>by
  obtain⟨⟨h1,h2⟩,h3⟩:=h;simp only[freeB,Zr] at h1;exact⟨⟨zft h1.1 h1.2,h2⟩,zbI h3⟩
theorem zbJ: ∀(obs:List O) (n:Nat) (ts:TS) (os:OS),(mkS ts os).adds n obs=mkS ts (addsL n obs os)
 |[],n,ts,os=>rfl
 |ob::l,n,ts,os=>by
  simp only[St.adds,addsL,iM];exact zbJ l (n+1) ts _
theorem zbK {f:FuncId} {xs:List AX} {cs:List C} {K:KK} {d:Option Nat} (h:pL P f (xs.map (look ts)) cs K d ts os):mO P ((mkS ts os)) d f xs cs (onS K):=by
 obtain⟨h1,r,h2,h3⟩:=h;simp only[Y4,ZA,Y5] at h1;refine⟨fun _ _=>rfl,fun x hx=>?_,(fun r'=>r'=r),?_,?_⟩
 ·simp only[V.strip,yD,kP];exact h1 x hx
 ·simp only[V.strip,yD,kP]
  rw[Xm,Xm] at h2;exact h2
 ·rintro r' rfl
  split
  ·rename_i hs
   rw[if_pos hs] at h3;cases d with
   |none=>exact xN h3
   |some d=>exact⟨_,_,tZ ts os d r',h3⟩
  ·rename_i hs
   rw[if_neg hs] at h3;have ht:(xs.flatMap fun x=>(x.ev (mkS ts os)).strip.1.toks)=[]:=by
    refine List.flatMap_eq_nil_iff.2 fun x hx=>?_
    have:=h3.1;simp only[Y4,ZA,Y5,List.isEmpty_iff] at this;simp only[V.strip,yD];exact this x hx
   rw[ht];show zay (mkS ts os) d r' (onS K);cases d with
   |none=>exact xN h3.2
   |some d=>
    refine⟨zbI h3.2.1,?_⟩;rw[zbJ,tZ];exact xN h3.2.2
theorem zrD {τ:Nat} (h2:nP (lookO τ os)):(mkS ts os).frzs [τ]=mkS (rA τ ts os (lookO τ os)) (rU τ os (lookO τ os)):=by
 have e:(mkS ts os).o τ=lookO τ os:=rfl;have hf:(mkS ts os).frzs [τ]=(mkS ts os).frz τ:=by
  simp only[St.frzs,e];unfold nP at h2;split
  ·rename_i e' row ho
   rw[ho] at h2;simp only[] at h2;rw[h2];rfl
  ·rfl
 rw[hf,dR]
theorem zrE {f:FuncId} {xs:List AX} {K:KK} {d:Option Nat} {τ:Nat} {r:V} (h1:(xs.map (look ts)).all (fun v=>(zC os v).isPure)=true) (h2:Spec P f ((xs.map (look ts)).map fun v=>(zC os v).norm) (fun r'=>r'=r))
  (h3:r.scalar=false) (h4:(xs.map (look ts)).flatMap V.toks=[τ]) (h5:nP (lookO τ os)) (h:retK r K (rA τ ts os (lookO τ os)) (rU τ os (lookO τ os)) d):mO P (mkS ts os) d f xs [] (onS K):=by
 simp only[Y4,ZA,Y5] at h1;refine⟨fun _ _=>rfl,fun x hx=>?_,(fun r'=>r'=r),.inl ?_,?_⟩
 ·simp only[V.strip,yD,kP];exact h1 x hx
 ·simp only[V.strip,yD,kP,Zp,Ze]
  rw[Xm] at h2;exact h2
 ·rintro r' rfl
  rw[if_neg (by simp[h3])];have ht:(xs.flatMap fun x=>(x.ev (mkS ts os)).strip.1.toks)=[τ]:=by
   rw[<-h4,List.flatMap_map];simp[V.strip,yD]
  rw[ht,zrD h5];show zay (mkS _ _) d r' (onS K);cases d with
  |none=>exact xN h
  |some d=>
   refine⟨zbI h.1,?_⟩;rw[zbJ,tZ];exact xN h.2
theorem zfD {f:FuncId} {xs:List AX} {cs:List C} {K:KK} {d:Nat} (h:iN P f (xs.map (look ts)) cs K d ts os):nB P (mkS ts os) d f xs cs (onS K):=by
 obtain⟨h1,r,h2,h3,h4⟩:=h;simp only[Y4,ZA,Y5] at h1;refine⟨fun _ _=>rfl,fun x hx=>?_,r,?_,?_,by rw[tZ];exact xN h4⟩
 ·simp only[V.strip,yD,kP];exact h1 x hx
 ·simp only[V.strip,yD,kP]
  rw[Xm] at h2;exact h2
 ·rcases h3 with h3|h3
  ·exact .inl h3
  ·refine .inr fun x hx=>?_
   simp only[Y4,ZA,Y5,List.isEmpty_iff] at h3;simp only[V.strip,yD];exact h3 x hx
theorem zfE {f:FuncId} {xs:List AX} {caps:List Cap} {K:KK} {d:Option Nat} (h:dT P f (xs.map (look ts)) caps K d ts os):kA P (mkS ts os) d f xs caps (onS K):=by
 obtain⟨T,A,dead,S,h1,h2,h3,h4,h5,h6⟩:=h;have e:xs.map (fun x=>x.ev (mkS ts os))=xs.map (look ts):=Xj fun x _=>yD ts os x
 refine⟨T,A,dead,S,?_,h2,h3,h4,?_,h6⟩
 ·rw[e];exact h1
 ·rw[e];exact h5
theorem zbL {v:V} (h:(zC os v).isPure=true):v.hard=[]:=by
 cases v with
 |k x=>cases x with
  |own τ=>rfl
  |c x=>rfl
  |_=>simp[zC,V.isPure] at h
 |agg=>rfl
 |_=>simp[zC,V.isPure] at h
theorem nR {d:Nat} (h:freeB d ts os):(mkS ts os).Free d:=by
 simp only[freeB,Zr] at h;exact zft h.1 h.2
theorem dU {op:AOp} {K:KK} (h:exL P ts os op K):yC P (mkS ts os) op (onS K):=by
 cases op
 case mov d x=>
  show onS K ((mkS ts os).put d (x.ev (mkS ts os)));rw[tZ,yD];exact xN h
 case nilL d e sz=>
  refine⟨nR h.1,?_⟩;rw[nN];exact xN h.2
 case alloc d e zero=>
  refine⟨nR h.1,?_⟩;rw[nN];exact xN h.2
 case box d e x=>
  simp only[yC,xZ,yD];simp only[exL] at h;generalize look ts x=v at h⊢;unfold boxK at h;split at h
  ·refine⟨nR h.1,?_,by rw[nN];exact xN h.2⟩
   simp[Abs.K.noRef]
  ·refine⟨nR h.2.1,?_,by rw[nN];exact xN h.2.2⟩
   simpa using h.1
  ·exact⟨nR h.2.1,h.1,by rw[nN];exact xN h.2.2⟩
  ·exact h.elim
 case bslice d e sz zero len ps=>
  simp only[exL] at h;cases hl:vLits (ps.map fun p=>(p.1,look ts p.2)) with
  |none=>rw[hl] at h;exact h.elim
  |some l=>
   rw[hl] at h;exact zfA hl ⟨nR h.1,h.2.1,h.2.2.1,by rw[nN];exact xN h.2.2.2⟩
 case store n x y=>
  simp only[exL] at h;simp only[yC,xZ,yD];generalize hv:look ts x=v at h⊢;unfold storeK at h;split at h
  ·rename_i τ off
   show(match lookO τ os with|some (.var e row)=>_|_=>False);cases ho:lookO τ os with
   |none=>rw[ho] at h;exact h.elim
   |some ob=>
    rw[ho] at h;cases ob with
    |arr=>exact h.elim
    |var e row=>
     simp only[];cases hc:(look ts y).cells with
     |none=>rw[hc] at h;exact h.elim
     |some ks=>
      rw[hc] at h;exact⟨h.1,h.2.1,by rw[iM];exact xN h.2.2⟩
  ·rename_i τ i off
   cases hr:vRow (look ts y) with
   |none=>rw[hr] at h;unfold stArrK at h;split at h<;>first|exact h.elim|simp_all
   |some r=>
    rw[hr] at h;obtain⟨ht,hp⟩:=zbH hr;simp only[nA,V.strip,yD,ht,St.frzs,hp,true_and,hv];show(match lookO τ os with|some (.arr e sz nl rows)=>_|_=>False);cases ho:lookO τ os with
    |none=>rw[ho] at h;exact h.elim
    |some ob=>
     rw[ho] at h;cases ob with
     |var=>exact h.elim
     |arr e sz nl rows=>exact⟨h.1,h.2.1,by rw[iM];exact xN h.2.2⟩
  ·exact h.elim
 case mkslice d e sz bytes zero l c=>
  simp only[exL] at h;simp only[yC,xZ,yD];generalize look ts l=v at h⊢;generalize look ts c=u at h⊢;unfold mkslK at h;split at h
  ·obtain⟨a1,a2,a3,a4,a5,a6,a7⟩:=h
   exact⟨a1,a2,a3,a4,a5,nR a6,by rw[nN];exact xN a7⟩
  ·exact h.elim
 case slice d sz x lo hi=>
  simp only[exL] at h;simp only[yC,V.strip,yD,h.1,St.frzs];refine vL (fun k=>?_) h.2;rw[fZ,yD];cases lo<;>cases hi<;>simp[yD]
 case append d e sz bytes x y=>
  simp only[exL] at h;simp only[yC,xZ,yD];generalize look ts x=v at h⊢;unfold appendK at h;split at h
  ·rename_i τ
   unfold appK at h;split at h
   ·rename_i ho hs
    obtain⟨a0,rfl,rfl,a3,a4,a5⟩:=h;refine zfC hs a0 ?_;show(match lookO τ os with|some (.arr e' sz' nl xs)=>_|_=>False);rw[ho];refine⟨rfl,rfl,a3,a4,?_⟩;rw[zrC,iM,tZ];exact xN a5
   ·exact h.elim
  ·unfold zfy at h
   split at h
   ·rename_i hs
    exact zfC hs h.1 ⟨nR h.2.1,h.2.2.1,h.2.2.2.1,by rw[nN];exact xN h.2.2.2.2⟩
   ·exact h.elim
  ·exact h.elim
 case cap=>exact h.elim
 case call d f xs=>
  simp only[exL] at h;rcases h with h|h
  ·left
   have hh:(xs.flatMap fun x=>(x.ev (mkS ts os)).strip.1.hard)=[]:=by
    refine List.flatMap_eq_nil_iff.2 fun x hx=>?_
    have:=h.1;simp only[Y4,ZA,Y5] at this;simp only[V.strip,yD];exact zbL (this x hx)
   rw[hh];exact zbK h
  ·rcases h with h|⟨_,⟨τ,h1,h2,h⟩|⟨h1,τ,r,h2,h3,h4,h5,h⟩⟩
   ·exact .inr (zfE h)
   rotate_left
   ·left
    have hh:(xs.flatMap fun x=>(x.ev (mkS ts os)).strip.1.hard)=[]:=by
     refine List.flatMap_eq_nil_iff.2 fun x hx=>?_
     simp only[Y4,ZA,Y5] at h1;simp only[V.strip,yD];exact zbL (h1 x hx)
    rw[hh];exact zrE h1 h2 h3 h4 h5 h
   ·left
    have hh:(xs.flatMap fun x=>(x.ev (mkS ts os)).strip.1.hard)=[τ]:=by
     rw[<-h1,List.flatMap_map];simp[V.strip,yD]
    have hf:(mkS ts os).frzs [τ]=(mkS ts os).frz τ:=by
     have e:(mkS ts os).o τ=lookO τ os:=rfl;simp only[St.frzs,e];unfold nP at h2;split
     ·rename_i e' row ho
      rw[ho] at h2;simp only[] at h2;rw[h2];rfl
     ·rfl
    rw[hh,hf,dR];exact zbK h
 case callv d x xs=>
  simp only[exL] at h;rcases h with h|⟨f,caps,h1,h⟩
  ·right
   unfold zbG at h;split at h
   ·rename_i f cs hx
    have hh:(xs.flatMap fun x=>(x.ev (mkS ts os)).strip.1.hard)=[]:=by
     refine List.flatMap_eq_nil_iff.2 fun x hx=>?_
     have:=h.1;simp only[Y4,ZA,Y5] at this;simp only[V.strip,yD];exact zbL (this x hx)
    have ht:(x.ev (mkS ts os)).strip.1.toks++(xs.flatMap fun x=>(x.ev (mkS ts os)).strip.1.hard)=[]:=by
     rw[hh];simp[V.strip,yD,hx,V.toks,Abs.K.toks]
    rw[ht];simp only[St.frzs,V.strip,yD,hx];exact⟨trivial,zbK h⟩
   ·exact h.elim
  ·exact .inl ⟨f,caps,by rw[yD];exact h1,zfE h⟩
 case pick=>
  rw[vD rfl];refine vL (fun k=>?_) h;rw[zaS];simp only[yD];try rfl
 case build d zero ps=>
  rw[vD rfl];refine vL (fun k=>?_) h;rw[zpT];simp only[yD]
 case load=>
  rw[vD rfl];refine vL (fun k=>?_) h;rw[zaP];simp only[yD];try rfl
 case nilchk=>
  rw[vD rfl];refine vL (fun k=>?_) h;rw[zaN];simp only[yD];try rfl
 case bin=>
  rw[vD rfl];refine vL (fun k=>?_) h;rw[zaB];simp only[yD];try rfl
 case binB=>
  rw[vD rfl];refine vL (fun k=>?_) h;rw[zaC];simp only[yD];try rfl
 case eqAgg=>
  rw[vD rfl];refine vL (fun k=>?_) h;rw[zaD];simp only[yD];try rfl
 case nilcmp=>
  rw[vD rfl];refine vL (fun k=>?_) h;rw[zaJ];simp only[yD];try rfl
 case un=>
  rw[vD rfl];refine vL (fun k=>?_) h;rw[zaE];simp only[yD];try rfl
 case conv=>
  rw[vD rfl];refine vL (fun k=>?_) h;rw[zaF];simp only[yD];try rfl
 case mkfn=>
  rw[vD rfl];refine vL (fun k=>?_) h;rw[zpX];simp only[yD];try rfl
 case slstr d x lo hi=>
  rw[vD rfl];refine vL (fun k=>?_) h;rw[zaT,yD];cases lo<;>cases hi<;>simp[yD]
 case faddr=>
  rw[vD rfl];refine vL (fun k=>?_) h;rw[zaM];simp only[yD];try rfl
 case field=>
  rw[vD rfl];refine vL (fun k=>?_) h;rw[zaO];simp only[yD];try rfl
 case iaddr=>
  rw[vD rfl];refine vL (fun k=>?_) h;rw[zaQ];simp only[yD];try rfl
 case iaddrA=>
  rw[vD rfl];refine vL (fun k=>?_) h;rw[zaR];simp only[yD];try rfl
 case sidx=>
  rw[vD rfl];refine vL (fun k=>?_) h;rw[zaK];simp only[yD];try rfl
 case aidx=>
  rw[vD rfl];refine vL (fun k=>?_) h;rw[zaL];simp only[yD];try rfl
 case extr=>
  rw[vD rfl];refine vL (fun k=>?_) h;rw[zaH];simp only[yD];try rfl
 case len=>
  rw[vD rfl];refine vL (fun k=>?_) h;rw[zaI];simp only[yD];try rfl
 case lenS=>
  rw[vD rfl];refine vL (fun k=>?_) h;rw[zaG];simp only[yD];try rfl
 case minmax=>
  rw[vD rfl];refine vL (fun k=>?_) h;rw[zpV];simp only[yD];try rfl
def exLQ (P:Program) (ts:TS) (os:OS):AOp->KK->Prop
 | .mov d x,K=>K (insT d (look ts x) ts) os
 | .nilL d e sz,K=>freeB d ts os/\K (insT d (.k (.own d)) ts) (insO d (.arr e sz (some true) []) os)
 | .pick d c a b,K=>putK (vPick (look ts c) (look ts a) (look ts b)) K d ts os
 | .alloc d e zero,K=>freeB d ts os/\K (insT d (.k (.ptr d 0)) ts) (insO d (.var e (zero.map .c)) os)
 | .box d e x,K=>boxK (look ts x) K d e ts os
 | .build d zero ps,K=>putK (rowV (vBuild (ps.map fun p=>(p.1,p.2.1,look ts p.2.2)) (zero.map .c))) K d ts os
 | .bslice d e sz zero 0 ps,K=>bsK (vLits (ps.map fun p=>(p.1,look ts p.2))) K d e sz zero 0 ts os
 | .bslice d _ sz zero (len+1) ps,K=>bsQ (vLits (ps.map fun p=>(p.1,look ts p.2))) K d sz zero (len+1) ts os
 | .load d n agg x,K=>putK (vLoad (fun s=>lookO s os) n agg (look ts x)) K d ts os
 | .store n x y,K=>storeK (look ts x) (look ts y) K n ts os
 | .nilchk d x,K=>putK (mQ (fun s=>lookO s os) (look ts x)) K d ts os
 | .bin d op x y,K=>putK (vBin op (look ts x) (look ts y)) K d ts os
 | .binB d neg x y,K=>putK (vBinB neg (look ts x) (look ts y)) K d ts os
 | .eqAgg d neg tys x y,K=>putK (vEqAgg neg tys (look ts x) (look ts y)) K d ts os
 | .nilcmp d neg x,K=>putK (vNil (fun s=>lookO s os) neg (look ts x)) K d ts os
 | .un d op x,K=>putK (vUn op (look ts x)) K d ts os
 | .conv d k x,K=>putK (vConv k (look ts x)) K d ts os
 | .mkfn d f caps,K=>putK (fnV f (tW (fun s=>lookO s os) (caps.map (look ts)))) K d ts os
 | .mkslice d e sz bytes zero l c,K=>mkslK (look ts l) (look ts c) K d e sz bytes zero ts os
 | .slice d sz x lo hi,K=>(look ts x).toks=[]/\putK (pG sz (lo.map (look ts)) (hi.map (look ts)) (look ts x)) K d ts os
 | .slstr d x lo hi,K=>putK (mT (lo.map (look ts)) (hi.map (look ts)) (look ts x)) K d ts os
 | .faddr d off x,K=>putK (vFaddr (fun s=>lookO s os) off (look ts x)) K d ts os
 | .field d off n agg x,K=>putK (mP off n agg (look ts x)) K d ts os
 | .iaddr d sz x i,K=>putK (vIaddr (fun s=>lookO s os) sz (look ts x) (look ts i)) K d ts os
 | .iaddrA d sz len x i,K=>putK (mR (fun s=>lookO s os) sz len (look ts x) (look ts i)) K d ts os
 | .sidx d x i,K=>putK (vSidx (look ts x) (look ts i)) K d ts os
 | .aidx d sz len agg x i,K=>putK (mS sz len agg (look ts x) (look ts i)) K d ts os
 | .extr d x i,K=>putK (vExtr i (look ts x)) K d ts os
 | .call (some d) f xs,K=>iN P f (xs.map (look ts)) [] K d ts os
 | .call none f xs,K=>pL P f (xs.map (look ts)) [] K none ts os\/nQ P f (xs.map (look ts)) xs K none ts os
 | .callv (some d) x xs,K=>zfz P (look ts x) (xs.map (look ts)) K d ts os
 | .callv none x xs,K=>zbG P (look ts x) (xs.map (look ts)) K none ts os\/ ∃f caps,look ts x=.k (.fnk f caps)/\dT P f (xs.map (look ts)) caps K none ts os
 | .len d x,K=>putK (vLen (fun s=>lookO s os) (look ts x)) K d ts os
 | .lenS d x,K=>putK (vLenS (look ts x)) K d ts os
 | .cap _ _,_=>False
 | .append d e sz bytes x y,K=>appendK (look ts x) (srcV os sz (look ts y)) K d e sz bytes ts os
 | .minmax d isMax x ys,K=>putK (fY isMax (ys.map (look ts)) (look ts x)) K d ts os
theorem zbM {op:AOp} {K:KK} (h:exLQ P ts os op K):yA P (mkS ts os) op (onS K):=by
 by_cases hs:op.special=true
 case neg=>
  have he:=eK (P:=P) (op:=op) (by simpa using hs);rw[congrFun (congrFun he (mkS ts os)) (onS K)];refine dU ?_;cases op
  case bslice d e sz zero len ps=>cases len with
   |zero=>exact h
   |succ n=>simp[AOp.special] at hs
  case call d f xs=>cases d with
   |none=>exact h
   |some d=>simp[AOp.special] at hs
  case callv d x xs=>cases d with
   |none=>exact h
   |some d=>simp[AOp.special] at hs
  case slice=>simp[AOp.special] at hs
  all_goals exact h
 cases op
 case bslice d e sz zero len ps=>cases len with
  |zero=>simp[AOp.special] at hs
  |succ n=>
   simp only[exLQ] at h;cases hl:vLits (ps.map fun p=>(p.1,look ts p.2)) with
   |none=>rw[hl] at h;exact h.elim
   |some l=>
    rw[hl] at h;exact zfB hl ⟨h.1,h.2.1,by rw[tZ];exact xN h.2.2⟩
 case call d f xs=>cases d with
  |none=>simp[AOp.special] at hs
  |some d=>exact zfD h
 case callv d x xs=>cases d with
  |none=>simp[AOp.special] at hs
  |some d=>
   simp only[exLQ] at h;unfold zfz at h;split at h
   ·rename_i f cs hx
    simp only[yA,V.strip,yD,hx];exact⟨trivial,zfD h⟩
   ·exact h.elim
 case slice d sz x lo hi=>
  simp only[exLQ] at h;refine⟨by simp only[V.strip,yD];exact h.1,?_⟩;refine vL (fun k=>?_) h.2;rw[fZ,yD];cases lo<;>cases hi<;>simp[yD]
 all_goals simp[AOp.special] at hs
def condB (t:Bool) (A B:KK) (ts1 ts2:TS) (os:OS):Prop:=match t with|true=>A ts1 os|false=>B ts2 os
theorem nS (t:Bool) (A B:KK) (ts1 ts2:TS) (os:OS):condB t A B ts1 ts2 os=((t=true->A ts1 os)/\(t=false->B ts2 os)):=by cases t<;>simp[condB]
theorem zfF (p:Prop) [Decidable p] (A B:KK) (ts1 ts2:TS) (os:OS):condB (decide p) A B ts1 ts2 os=((p->A ts1 os)/\(¬p->B ts2 os)):=by rw[nS];simp
theorem zfG {α:Type} [BEq α] [LawfulBEq α] (a b:α) (A B:KK) (ts1 ts2:TS) (os:OS):condB (a==b) A B ts1 ts2 os=((a=b->A ts1 os)/\(¬a=b->B ts2 os)):=by rw[nS];simp
theorem zfH {α:Type} [BEq α] [LawfulBEq α] (a b:α) (A B:KK) (ts1 ts2:TS) (os:OS):condB (a !=b) A B ts1 ts2 os=((¬a=b->A ts1 os)/\(a=b->B ts2 os)):=by rw[nS];simp
theorem oF (t:Bool) (A B:KK) (ts1 ts2:TS) (os:OS):condB (!t) A B ts1 ts2 os=condB t B A ts2 ts1 os:=by cases t<;>rfl
def exK (P:Program) (op:AOp) (K:KK):KK:=fun ts os=>exL P ts os op K
def exKQ (P:Program) (op:AOp) (K:KK):KK:=fun ts os=>exLQ P ts os op K
def guardP (v:V) (want:Bool) (A B:KK) (tsY tsN ts:TS) (os:OS):Prop:=
 match v,want with
 | .k (.c (.bool b)),true=>condB b A B tsY tsN os
 | .k (.c (.bool b)),false=>condB b B A tsN tsY os
 | .undef,_=>B ts os
 |_,_=>False
def putDL (d:Option Nat) (K:KK) (ts:TS) (os:OS):Prop:=match d with|some d=>K (insT d .undef ts) os|none=>K ts os
def wpL (P:Program) (i:AI) (K:KK) (ts:TS) (os:OS):Prop:=
 match i.g with
 |none=>exL P ts os i.op K
 |some (s,want)=>guardP (lookT s ts) want (exK P i.op K) (putDL i.op.dst K) (insT s (.bool want) ts) (insT s (.bool !want) ts) ts os
def wpLQ (P:Program) (i:AI) (K:KK) (ts:TS) (os:OS):Prop:=
 match i.g with
 |none=>exLQ P ts os i.op K
 |some (s,want)=>guardP (lookT s ts) want (exKQ P i.op K) (putDL i.op.dst K) (insT s (.bool want) ts) (insT s (.bool !want) ts) ts os
def wpLs (P:Program):List AI->KK->KK
 |[],K,ts,os=>K ts os
 |i::l,K,ts,os=>wpL P i (wpLs P l K) ts os
def wpLQs (P:Program):List AI->KK->KK
 |[],K,ts,os=>K ts os
 |i::l,K,ts,os=>wpLQ P i (wpLQs P l K) ts os
def wpLT (P:Program):DT->KK->KK
 | .done,K,ts,os=>K ts os
 | .fail,_,_,_=>False
 | .top,_,_,_=>True
 | .one i t,K,ts,os=>wpLQ P i (wpLT P t K) ts os
 | .alt a b,K,ts,os=>wpLT P a K ts os/\wpLT P b K ts os
theorem kQ {d:Option Nat} {K:KK} (h:putDL d K ts os):onS K (putD (mkS ts os) d .undef):=by
 cases d with
 |none=>exact xN h
 |some d=>exact⟨_,_,tZ ts os d .undef,h⟩
theorem oG {s:Nat} {v:V} (h:lookT s ts=v):mkS (insT s v ts) os=mkS ts os:=by
 simp only[mkS,St.mk.injEq,and_true];funext k;rw[zfs];by_cases hk:k=s
 ·subst hk;simp[h]
 ·simp[hk]
theorem zrF {i:AI} {K:KK} (h:wpL P i K ts os):uW P i (onS K) (mkS ts os):=by
 obtain⟨g,op⟩:=i;cases g with
 |none=>exact dU h
 |some sw=>
  obtain⟨s,want⟩:=sw;simp only[wpL] at h;simp only[uW];have e:(mkS ts os).t s=lookT s ts:=rfl;rw[e];generalize hv:lookT s ts=v at h;unfold guardP at h;split at h
  ·rename_i b
   rw[nS] at h;refine⟨fun hq=>?_,fun hq=>?_⟩
   ·have hb:b=true:=by simpa using hq
    subst hb;have:=dU (h.1 rfl);rw[oG hv] at this;exact this
   ·have hb:b=false:=by simpa using hq
    subst hb;have:=kQ (h.2 rfl);rw[Bool.not_true,oG hv] at this;exact this
  ·rename_i b
   rw[nS] at h;refine⟨fun hq=>?_,fun hq=>?_⟩
   ·have hb:b=false:=by simpa using hq
    subst hb;have:=dU (h.2 rfl);rw[oG hv] at this;exact this
   ·have hb:b=true:=by simpa using hq
    subst hb;have:=kQ (h.1 rfl);rw[Bool.not_false,oG hv] at this;exact this
  ·exact kQ h
  ·exact h.elim
theorem zfI {i:AI} {K:KK} (h:wpLQ P i K ts os):wpQ P i (onS K) (mkS ts os):=by
 obtain⟨g,op⟩:=i;cases g with
 |none=>exact zbM h
 |some sw=>
  obtain⟨s,want⟩:=sw;simp only[wpLQ] at h;simp only[wpQ];have e:(mkS ts os).t s=lookT s ts:=rfl;rw[e];generalize hv:lookT s ts=v at h;unfold guardP at h;split at h
  ·rename_i b
   rw[nS] at h;refine⟨fun hq=>?_,fun hq=>?_⟩
   ·have hb:b=true:=by simpa using hq
    subst hb;have:=zbM (h.1 rfl);rw[oG hv] at this;exact this
   ·have hb:b=false:=by simpa using hq
    subst hb;have:=kQ (h.2 rfl);rw[Bool.not_true,oG hv] at this;exact this
  ·rename_i b
   rw[nS] at h;refine⟨fun hq=>?_,fun hq=>?_⟩
   ·have hb:b=false:=by simpa using hq
    subst hb;have:=zbM (h.2 rfl);rw[oG hv] at this;exact this
   ·have hb:b=true:=by simpa using hq
    subst hb;have:=kQ (h.1 rfl);rw[Bool.not_false,oG hv] at this;exact this
  ·exact kQ h
  ·exact h.elim
theorem rV {K:KK} {F:St->Prop} (h: ∀ts os,K ts os->F (mkS ts os)): ∀σ,onS K σ->F σ:=by
 rintro σ ⟨ts,os,rfl,hk⟩;exact h ts os hk
theorem lB: ∀{l:List AI} {K:KK} {ts:TS} {os:OS},wpLs P l K ts os->sL P l (onS K) (mkS ts os)
 |[],K,ts,os,h=>xN h
 |i::l,K,ts,os,h=>oE (rV fun _ _ h=>lB h) (zrF h)
theorem iO: ∀{l:List AI} {K:KK} {ts:TS} {os:OS},wpLQs P l K ts os->yO P l (onS K) (mkS ts os)
 |[],K,ts,os,h=>xN h
 |i::l,K,ts,os,h=>pH (rV fun _ _ h=>iO h) (zfI h)
theorem dV: ∀{t:DT} {K:KK} {ts:TS} {os:OS},wpLT P t K ts os->wpT P t (onS K) (mkS ts os)
 | .done,K,ts,os,h=>xN h
 | .fail,K,ts,os,h=>h
 | .top,K,ts,os,h=>trivial
 | .one i t,K,ts,os,h=>pH (rV fun _ _ h=>dV (t:=t) h) (zfI h)
 | .alt a b,K,ts,os,h=>⟨dV (t:=a) h.1,dV (t:=b) h.2⟩
def AE.thenL (next:KK) (Q:AE->KK):AE->KK
 | .normal=>next
 | .exit i=>Q (.exit i)
 | .ret=>Q .ret
def AE.inBlockL (id:Nat) (Q:AE->KK):AE->KK
 | .normal=>Q .normal
 | .exit i=>if i=id then Q .normal else Q (.exit i)
 | .ret=>Q .ret
def condK (v:V) (A B:KK) (ts1 ts2:TS) (os:OS):Prop:=
 match v with
 | .k (.c (.bool t))=>condB t A B ts1 ts2 os
 |_=>False
def zrG (step:KK->KK) (L M:List Nat) (ts:TS) (os:OS):Prop:=
 ∃I:Nat->KK,(∃n,I n (keepT ts L) (keepO os M))/\ ∀n ts os,I n ts os->step (fun ts' os'=> ∃m,m<n/\I m (keepT ts' L) (keepO os' M)) ts os
def learn (ts:TS) (b:Bool):AX->TS
 | .t s=>insT s (.bool b) ts
 | .v _=>ts
theorem zfJ {b:Bool} {c:AX} (h:look ts c=.bool b):mkS (learn ts b c) os=mkS ts os:=by
 cases c with
 |t s=>exact oG h
 |v v=>rfl
def qU (A:Nat) (ts:TS) (os:OS):Prop:=(ts.all (fun p=>p.2.noRef A)&&os.all (fun p=>p.1 !=A&&p.2.noRef A))=true
def dW (ob:Option O) (K:KK) (τ A e sz:Nat) (ts:TS) (os:OS):Prop:=
 match ob with
 |some (.var e' [.c (.list _ (some true) [])])=>qU A ts os/\K ts (insO A (.arr e sz (some true) []) (insO τ (.var e' [.own A]) os))
 |some (.var e' [.c .nilp,.c (.list _ (some true) [])])=>qU A ts os/\K ts (insO A (.arr e sz (some true) []) (insO τ (.var e' [.c .nilp,.own A]) os))
 |some (.var e' [.c (.str s),.c (.list _ (some true) [])])=>qU A ts os/\K ts (insO A (.arr e sz (some true) []) (insO τ (.var e' [.c (.str s),.own A]) os))
 |some (.var e' [.c (.str s),.own B,.c (.list _ (some true) [])])=>qU A ts os/\K ts (insO A (.arr e sz (some true) []) (insO τ (.var e' [.c (.str s),.own B,.own A]) os))
 |some (.var e' [.c (.int k1 a),.c (.int k2 b),.c (.str s),.c (.list _ (some true) [])])=>qU A ts os/\K ts (insO A (.arr e sz (some true) []) (insO τ (.var e' [.c (.int k1 a),.c (.int k2 b),.c (.str s),.own A]) os))
 |some (.var e' [.c (.str s),.c (.list _ (some true) []),k])=>qU A ts os/\K ts (insO A (.arr e sz (some true) []) (insO τ (.var e' [.c (.str s),.own A,k]) os))
 |_=>False
theorem zrH (K:KK) (k1 k2:IntKind) (a b:Int) (s:List UInt8) (τ A e sz z:Nat) (e':TypeId) (ts:TS) (os:OS):dW (some (.var e' [.c (.int k1 a),.c (.int k2 b),.c (.str s),.c (.list z (some true) [])])) K τ A e sz ts os=(qU A ts os/\K ts (insO A (.arr e sz (some true) []) (insO τ (.var e' [.c (.int k1 a),.c (.int k2 b),.c (.str s),.own A]) os))):=id rfl
theorem zfK (K:KK) (s:List UInt8) (τ A e sz z:Nat) (e':TypeId) (ts:TS) (os:OS):dW (some (.var e' [.c (.str s),.c (.list z (some true) [])])) K τ A e sz ts os=(qU A ts os/\K ts (insO A (.arr e sz (some true) []) (insO τ (.var e' [.c (.str s),.own A]) os))):=id rfl
theorem kR {A:Nat} (h:qU A ts os):(mkS ts os).noA A:=by
 unfold qU at h;simp only[Zr,ZA,bne_iff_ne,ne_eq] at h;obtain⟨h1,h2⟩:=h;have k1: ∀(l:OS),(∀p,p∈l-> ¬p.1=A/\p.2.noRef A=true)->lookO A l=none/\ ∀s ob,lookO s l=some ob->ob.noRef A=true:=by
  intro l
  induction l with
  |nil=>intro _;exact⟨rfl,fun s ob h=>by simp[lookO] at h⟩
  |cons p l ih=>
   intro h;obtain⟨i1,i2⟩:=ih (fun q hq=>h q (by simp[hq]));obtain⟨p1,p2⟩:=h p (by simp);obtain⟨k,o⟩:=p;refine⟨by simp only[lookO,if_neg p1];exact i1,fun s ob hs=>?_⟩;simp only[lookO] at hs;split at hs
   ·cases hs;exact p2
   ·exact i2 s ob hs
 have k2: ∀(l:TS),(∀p,p∈l->p.2.noRef A=true)-> ∀s,(lookT s l).noRef A=true:=by
  intro l
  induction l with
  |nil=>intro _ s;rfl
  |cons p l ih=>
   intro h s;obtain⟨k,v⟩:=p;simp only[lookT];split
   ·exact h (k,v) (by simp)
   ·exact ih (fun q hq=>h q (by simp[hq])) s
 exact⟨(k1 os h2).1,k2 ts h1,(k1 os h2).2⟩
theorem kS {τ A e sz:Nat} {e':TypeId} {pre post:List K}:(mkS ts os).ownNil τ A e sz e' pre post=mkS ts (insO A (.arr e sz (some true) []) (insO τ (.var e' (pre++.own A::post)) os)):=by
 simp only[St.ownNil,mkS,St.mk.injEq,true_and];funext s;rw[nM,nM]
def swO (x y:Nat):OS->OS
 |[]=>[]
 |(k,ob)::l=>(sw x y k,ob.sw x y)::swO x y l
theorem zfL (x y s:Nat): ∀(os:OS),lookO s (swO x y os)=(lookO (sw x y s) os).map (O.sw x y)
 |[]=>rfl
 |(k,ob)::l=>by
  simp only[swO,lookO];by_cases h:k=sw x y s
  ·rw[if_pos h,if_pos (by rw[h,pK])];rfl
  ·rw[if_neg h,if_neg (by rintro rfl;rw[pK] at h;exact h rfl),zfL x y s l]
theorem zrI (x y:Nat):(mkS ts os).sw x y=mkS (mapT (V.sw x y) ts) (swO x y os):=by
 simp only[St.sw,mkS,St.mk.injEq];exact⟨by funext s;rw[nO _ rfl],by funext s;rw[zfL]⟩
def oH:List Nat->KK->KK
 |[],K=>K
 |τ::l,K=>fun ts os=>oH l K (rA τ ts os (lookO τ os)) (rU τ os (lookO τ os))
def lC (P:Program):List (List AI×List Nat)->KK->KK
 |[],K=>K
 |p::r,K=>wpLs P p.1 (oH p.2 (lC P r K))
def awl (P:Program):AQ->(AE->KK)->KK
 | .skip,Q,ts,os=>Q .normal ts os
 | .region l,Q,ts,os=>wpLs P l (Q .normal) ts os
 | .draw l _,Q,ts,os=>wpLQs P l (Q .normal) ts os
 | .tree l p,Q,ts,os=>wpLT P (nD l p) (Q .normal) ts os
 | .seq a b,Q,ts,os=>awl P a (AE.thenL (awl P b Q) Q) ts os
 | .cond c a b,Q,ts,os=>condK (look ts c) (awl P a Q) (awl P b Q) (learn ts true c) (learn ts false c) os
 | .block id a,Q,ts,os=>awl P a (AE.inBlockL id Q) ts os
 | .loop L M a,Q,ts,os=>zrG (fun next=>awl P a (AE.thenL next Q)) L M ts os
 | .exit id,Q,ts,os=>Q (.exit id) ts os
 | .ret,Q,ts,os=>Q .ret ts os
 | .keep L M a,Q,ts,os=>awl P a Q (keepT ts L) (keepO os M)
 | .own τ A e sz a,Q,ts,os=>dW (lookO τ os) (awl P a Q) τ A e sz ts os
 | .swap x y a,Q,ts,os=>awl P a Q (mapT (V.sw x y) ts) (swO x y os)
 | .frz τ a,Q,ts,os=>awl P a Q (rA τ ts os (lookO τ os)) (rU τ os (lookO τ os))
 | .regf l1 τs l2,Q,ts,os=>wpLs P l1 (oH τs (wpLs P l2 (Q .normal))) ts os
 | .regs ps,Q,ts,os=>lC P ps (Q .normal) ts os
 | .drawl l a _,Q,ts,os=>wpLQs P l (wpLs P a (Q .normal)) ts os
 | .drawm l x r _,Q,ts,os=>wpLQs P l (wpLs P [x] (wpLQs P r (Q .normal))) ts os
theorem zfM: ∀{ps:List (List AI×List Nat)} {K K':St->Prop} {σ:St},(∀σ,K σ->K' σ)->kN P ps K σ->kN P ps K' σ
 |[],_,_,σ,hk,h=>hk σ h
 |_::_,_,_,_,hk,h=>sZ (fun _ h=>zfM hk h) h
theorem iP (c:AQ): ∀{Q Q':AE->St->Prop} {σ:St},(∀e σ,Q e σ->Q' e σ)->awq P c Q σ->awq P c Q' σ:=by
 induction c with
 |skip=>intro Q Q' σ hq h;exact hq _ σ h
 |region l=>intro Q Q' σ hq h;exact sZ (hq .normal) h
 |draw l p=>intro Q Q' σ hq h;exact sX (hq .normal) h
 |tree l p=>intro Q Q' σ hq h;exact kO (hq .normal) h
 |seq a b iha ihb=>
  intro Q Q' σ hq h;exact iha (dP (fun σ h=>ihb hq h) hq) h
 |cond c a b iha ihb=>
  intro Q Q' σ hq h;simp only[awq,xZ] at h⊢;generalize AX.ev σ c=v at h⊢;split at h
  ·exact⟨fun ht=>iha hq (h.1 ht),fun ht=>ihb hq (h.2 ht)⟩
  ·exact h.elim
 |block i a ih=>
  intro Q Q' σ hq h;exact ih (zfj hq) h
 |loop L M a ih=>
  intro Q Q' σ hq h;obtain⟨I,h0,h1⟩:=h;exact⟨I,h0,fun n σ' hI=>ih (dP (fun σ h=>h) hq) (h1 n σ' hI)⟩
 |exit i=>intro Q Q' σ hq h;exact hq _ σ h
 |ret=>intro Q Q' σ hq h;exact hq _ σ h
 |keep L M a ih=>intro Q Q' σ hq h;exact ih hq h
 |own τ A e sz a ih=>
  intro Q Q' σ hq h;obtain⟨e',pre,post,z,h1,h2,h3⟩:=h;exact⟨e',pre,post,z,h1,h2,ih hq h3⟩
 |swap x y a ih=>intro Q Q' σ hq h;exact ih hq h
 |frz τ a ih=>intro Q Q' σ hq h;exact ih hq h
 |regs ps=>intro Q Q' σ hq h;exact zfM (hq .normal) h
 |drawl l a p=>intro Q Q' σ hq h;exact sX (fun _ h=>sZ (hq .normal) h) h
 |drawm l x r p=>intro Q Q' σ hq h;exact sX (fun _ h=>oE (fun _ h=>sX (hq .normal) h) h) h
 |regf l1 τs l2=>intro Q Q' σ hq h;exact sZ (fun σ h=>sZ (hq .normal) h) h
theorem zbN: ∀(τs:List Nat) {K:KK} {ts:TS} {os:OS},oH τs K ts os-> ∃ts' os',St.frzA τs (mkS ts os)=mkS ts' os'/\K ts' os'
 |[],_,ts,os,h=>⟨ts,os,rfl,h⟩
 |τ::l,_,_,_,h=>by
  obtain⟨ts',os',e,h'⟩:=zbN l h;exact⟨ts',os',by rw[St.frzA,dR];exact e,h'⟩
theorem zfN: ∀{ps:List (List AI×List Nat)} {K:KK} {ts:TS} {os:OS},lC P ps K ts os->kN P ps (onS K) (mkS ts os)
 |[],_,_,_,h=>xN h
 |p::r,_,_,_,h=>by
  refine sZ (rV fun ts os h=>?_) (lB h);obtain⟨ts',os',e,h'⟩:=zbN p.2 h;rw[e];exact zfN h'
theorem zfO (c:AQ): ∀{Q:AE->KK} {ts:TS} {os:OS},awl P c Q ts os->awq P c (fun e=>onS (Q e)) (mkS ts os):=by
 induction c with
 |skip=>intro Q ts os h;exact xN h
 |region l=>intro Q ts os h;exact lB h
 |draw l p=>intro Q ts os h;exact iO h
 |tree l p=>intro Q ts os h;exact dV h
 |seq a b iha ihb=>
  intro Q ts os h;refine iP a (fun e σ h=>?_) (iha h);cases e with
  |normal=>exact rV (fun _ _ h=>ihb h) σ h
  |exit i=>exact h
  |ret=>exact h
 |cond c a b iha ihb=>
  intro Q ts os h;simp only[awl] at h;simp only[awq,xZ,yD];generalize hv:look ts c=v at h⊢;unfold condK at h;split at h
  ·rename_i t
   rw[nS] at h;refine⟨fun ht=>?_,fun ht=>?_⟩
   ·have:=iha (h.1 ht)
    rw[zfJ (by rw[hv,ht])] at this;exact this
   ·have:=ihb (h.2 ht)
    rw[zfJ (by rw[hv,ht])] at this;exact this
  ·exact h.elim
 |block i a ih=>
  intro Q ts os h;refine iP a (fun e σ h=>?_) (ih h);cases e with
  |normal=>exact h
  |exit j=>
   simp only[AE.inBlockL] at h;simp only[AE.inBlock];split
   ·rename_i hi;rw[if_pos hi] at h;exact h
   ·rename_i hi;rw[if_neg hi] at h;exact h
  |ret=>exact h
 |loop L M a ih=>
  intro Q ts os h;obtain⟨I,⟨n,h0⟩,h1⟩:=h;refine⟨fun n=>onS (I n),⟨n,by rw[zbF];exact xN h0⟩,fun n=>rV fun ts os hI=>?_⟩;refine iP a (fun e σ h=>?_) (ih (h1 n ts os hI));cases e with
  |normal=>
   obtain⟨ts',os',rfl,m,hm,hI'⟩:=h;exact⟨m,hm,by rw[zbF];exact xN hI'⟩
  |exit j=>exact h
  |ret=>exact h
 |exit i=>intro Q ts os h;exact xN h
 |ret=>intro Q ts os h;exact xN h
 |keep L M a ih=>
  intro Q ts os h;simp only[awq,zbF];exact ih h
 |own τ A e sz a ih=>
  intro Q ts os h;simp only[awl] at h;have e0:(mkS ts os).o τ=lookO τ os:=rfl;generalize hob:lookO τ os=ob at h;unfold dW at h;split at h
  ·exact⟨_,[],[],_,by rw[e0,hob];rfl,kR h.1,by rw[kS];exact ih h.2⟩
  ·exact⟨_,[.c .nilp],[],_,by rw[e0,hob];rfl,kR h.1,by rw[kS];exact ih h.2⟩
  ·exact⟨_,[.c (.str _)],[],_,by rw[e0,hob];rfl,kR h.1,by rw[kS];exact ih h.2⟩
  ·exact⟨_,[.c (.str _),.own _],[],_,by rw[e0,hob];rfl,kR h.1,by rw[kS];exact ih h.2⟩
  ·exact⟨_,[.c (.int _ _),.c (.int _ _),.c (.str _)],[],_,by rw[e0,hob];rfl,kR h.1,by rw[kS];exact ih h.2⟩
  ·exact⟨_,[.c (.str _)],[_],_,by rw[e0,hob];rfl,kR h.1,by rw[kS];exact ih h.2⟩
  ·exact h.elim
 |swap x y a ih=>
  intro Q ts os h;simp only[awq,zrI];exact ih h
 |frz τ a ih=>
  intro Q ts os h;simp only[awq,dR];exact ih h
 |regs ps=>intro Q ts os h;exact zfN h
 |drawl l a p=>intro Q ts os h;exact sX (rV fun ts os h=>lB h) (iO h)
 |drawm l x r p=>
  intro Q ts os h;refine sX (rV fun ts os h=>?_) (iO h);have h2:=lB h;exact sZ (l:=[x]) (rV fun ts os h=>iO h) h2
 |regf l1 τs l2=>
  intro Q ts os h;refine sZ (rV fun ts os h=>?_) (lB h);obtain⟨ts',os',e,h'⟩:=zbN τs h;rw[e];exact lB h'
def Next {X:Type} (st:X->TS) (ob:X->OS) (R:X->Prop) (m:X->Nat) (L M:List Nat) (n:Nat):KK:=fun ts os=> ∃y,keepT ts L=st y/\keepO os M=ob y/\R y/\m y<n
theorem Next.intro {X:Type} {st:X->TS} {ob:X->OS} {R:X->Prop} {m:X->Nat} {L M:List Nat} {n:Nat} (y:X) (h1:keepT ts L=st y) (h2:keepO os M=ob y) (hR:R y) (hm:m y<n):Next st ob R m L M n ts os:=⟨y,h1,h2,hR,hm⟩
theorem zR {X:Type} {L M:List Nat} {a:AQ} {Q:AE->KK} (st:X->TS) (ob:X->OS) (R:X->Prop) (m:X->Nat) (x0:X) (h1:keepT ts L=st x0) (h2:keepO os M=ob x0) (hR:R x0)
  (hs: ∀x,R x->awl P a (AE.thenL (Next st ob R m L M (m x)) Q) (st x) (ob x)):awl P (.loop L M a) Q ts os:=by
 refine⟨fun n ts os=> ∃x,ts=st x/\os=ob x/\R x/\n=m x,⟨m x0,x0,h1,h2,hR,rfl⟩,?_⟩;rintro n ts os ⟨x,rfl,rfl,hx,rfl⟩;have e:Next st ob R m L M (m x)=(fun ts' os'=> ∃k,k<m x/\ ∃y,keepT ts' L=st y/\keepO os' M=ob y/\R y/\k=m y):=by
  funext ts' os';refine propext ⟨?_,?_⟩
  ·rintro⟨y,a1,a2,a3,a4⟩;exact⟨m y,a4,y,a1,a2,a3,rfl⟩
  ·rintro⟨k,a1,y,a2,a3,a4,rfl⟩;exact⟨y,a2,a3,a4,a1⟩
 have:=hs x hx;rw[e] at this;exact this
def resCell (ob:Option O) (off n:Nat) (agg:Bool):Option (Prop×V):=
 match ob with
 |some (.var _ row)=>some (off+n<=row.length/\0<n,ofRow agg ((row.drop off).take n))
 |_=>none
def resX (ts:TS) (os:OS):RX->Option (Prop×V)
 | .t s=>some (True,lookT s ts)
 | .cell a n agg=>match lookT a ts with
   | .k (.ptr τ off)=>resCell (lookO τ os) off n agg
   |_=>none
def resL (ts:TS) (os:OS):List RX->Option (Prop×List V)
 |[]=>some (True,[])
 |x::l=>match resX ts os x,resL ts os l with
  |some (p,v),some (q,vs)=>some (p/\q,v::vs)
  |_,_=>none
def endV (v:V) (os:OS) (S:V->Prop):Prop:=(v.owns (fun s=>lookO s os)).Nodup/\S (v.toNew (fun s=>lookO s os))
def endL (r:Option (Prop×List V)) (os:OS) (S:V->Prop):Prop:=
 match r with
 |some (p,vs)=>p/\endV (one vs) os S
 |none=>False
def endK (rs:List RX) (S:V->Prop):AE->KK
 | .exit _,_,_=>False
 |_,ts,os=>endL (resL (mapT V.nrm ts) (mapO O.nrm os) rs) (mapO O.nrm os) S
theorem dX: ∀{rs:List RX} {p:Prop} {vs:List V} {k:List V->Prop},resL ts os rs=some (p,vs)->p->k vs->kL (mkS ts os) rs k
 |[],p,vs,k,h,hp,hk=>by simp[resL] at h;obtain⟨_,rfl⟩:=h;exact hk
 |x::l,p,vs,k,h,hp,hk=>by
  simp only[resL] at h;split at h
  ·rename_i q v q' vs' h1 h2
   simp only[Zh,Xd] at h;obtain⟨rfl,rfl⟩:=h;cases x with
   |t s=>
    simp only[resX,Zh,Xd] at h1;obtain⟨_,rfl⟩:=h1;exact⟨rfl,dX h2 hp.2 hk⟩
   |cell a n agg=>
    simp only[resX] at h1;refine⟨rfl,?_⟩;show(match (lookT a ts) with| .k (.ptr τ off)=>_|_=>False);split at h1
    ·rename_i τ off ha
     show(match lookO τ os with|some (.var _ row)=>_|_=>False);unfold resCell at h1;split at h1
     ·rename_i ho
      simp only[Zh,Xd] at h1;obtain⟨rfl,rfl⟩:=h1;exact⟨hp.1.1,hp.1.2,dX h2 hp.2 hk⟩
     ·simp at h1
    ·simp at h1
  ·simp at h
theorem zrJ {rs:List RX} {S:V->Prop} {e:AE} (h:endK rs S e ts os):kM rs S e (mkS ts os):=by
 have key:endL (resL (mapT V.nrm ts) (mapO O.nrm os) rs) (mapO O.nrm os) S->dM rs S (mkS ts os).nrm:=by
  intro h;rw[zfv];cases hr:resL (mapT V.nrm ts) (mapO O.nrm os) rs with
  |none=>rw[hr] at h;exact h.elim
  |some pv=>
   obtain⟨p,vs⟩:=pv;rw[hr] at h;exact dX hr h.1 h.2
 cases e with
 |normal=>exact key h
 |exit i=>exact h.elim
 |ret=>exact key h
def zfP (r:Option (Prop×List V)) (args:List V) (o:Nat->Option O) (T:List Nat) (anchors:List (Nat×Nat)) (S:V->(Nat->Option O)->Prop) (ts:TS) (os:OS):Prop:=
 match r with
 |some (p,vs)=>p/\S (one vs) (yE T fun s=>lookO s os)/\(one vs).within T=true/\(∀τ,τ∈T-> ∀ob,lookO τ os=some ob->ob.within T=true)/\
   ∀p,p∈anchors->lookT p.1 ts=.k (.ptr p.2 0)/\args[p.1]?=some (.k (.ptr p.2 0))/\mZ (o p.2) (lookO p.2 os)=true/\p.2∈T
 |none=>False
def zfQ (rs:List RX) (args:List V) (o:Nat->Option O) (T:List Nat) (anchors:List (Nat×Nat)) (S:V->(Nat->Option O)->Prop):AE->KK
 | .exit _,_,_=>False
 |_,ts,os=>zfP (resL (mapT V.nrm ts) (mapO O.nrm os) rs) args o T anchors S (mapT V.nrm ts) (mapO O.nrm os)
theorem zrK {rs:List RX} {args:List V} {o:Nat->Option O} {T:List Nat} {anchors:List (Nat×Nat)} {S:V->(Nat->Option O)->Prop} {e:AE} (h:zfQ rs args o T anchors S e ts os):iL rs args o T anchors S e (mkS ts os):=by
 have key:zfP (resL (mapT V.nrm ts) (mapO O.nrm os) rs) args o T anchors S (mapT V.nrm ts) (mapO O.nrm os)->dO rs args o T anchors S (mkS ts os).nrm:=by
  intro h;rw[zfv];cases hr:resL (mapT V.nrm ts) (mapO O.nrm os) rs with
  |none=>rw[hr] at h;exact h.elim
  |some pv=>
   obtain⟨p,vs⟩:=pv;rw[hr] at h;exact dX hr h.1 h.2
 cases e with
 |normal=>exact key h
 |exit i=>exact h.elim
 |ret=>exact key h
def iQ (T:List Nat) (L:OS):Nat->Option O:=yE T fun s=>lookO s L
theorem yV.of_awl {f:FuncId} {n:Nat} {c:AQ} {rs:List RX} {args:List V} {L:OS} {T:List Nat} {anchors:List (Nat×Nat)} {S:V->(Nat->Option O)->Prop} (hc:zH P f=some ⟨n,c.erase,rs⟩) (hok:c.ok=true) (hlen:args.length<=n)
  (hav:c.erase.avoids (fun s=>anchors.any fun p=>p.1==s)=true) (hL: ∀p,p∈L->p.1∈T) (h:awl P c (zfQ rs args (iQ T L) T anchors S) (initT 0 args) L):yV P f args (iQ T L) (anchors.map (·.2)) S:=by
 refine yV.of_awq (T:=T) hc hok hlen hav ?_;have e:(⟨fun s=>args.getD s .any,iQ T L⟩:St)=mkS (initT 0 args) L:=by
  have e2:iQ T L=fun s=>lookO s L:=by
   funext s;unfold iQ yE;split
   ·rfl
   ·rename_i hs
    symm;have: ∀l:OS,(∀p,p∈l->p.1∈T)->lookO s l=none:=by
     intro l
     induction l with
     |nil=>intro _;rfl
     |cons p l ih=>
      intro h;have hp:=h p (by simp);have hne: ¬p.1=s:=by rintro rfl;exact hs (by simpa using hp)
      simp only[lookO,if_neg hne];exact ih (fun q hq=>h q (by simp[hq]))
    exact this L hL
  rw[e2];exact zfx args L
 rw[e];exact iP c (fun e=>rV fun _ _ h=>zrK h) (zfO c h)
theorem zrL {f:FuncId} {xs:List AX} {vs:List V} {K:KK} {d:Option Nat} {X:Prop} {args:List V} {r:V} (τ:Nat) (h0:vs=xs.map (look ts)) (hs:Spec P f args (fun r'=>r'=r)) (hp:vs.all (fun v=>(zC os v).isPure)=true)
  (ha:vs.map (fun v=>(zC os v).norm)=args) (h4:vs.flatMap V.toks=[τ]) (h5:nP (lookO τ os)) (hr:r.scalar=false) (hk:retK r K (rA τ ts os (lookO τ os)) (rU τ os (lookO τ os)) d):X\/nQ P f vs xs K d ts os:=by
 subst h0;exact .inr (.inr ⟨rfl,.inr ⟨hp,τ,r,by rw[ha];exact hs,hr,h4,h5,hk⟩⟩)
theorem Spec.of_awl {f:FuncId} {n:Nat} {c:AQ} {rs:List RX} {args:List V} {S:V->Prop} (hc:zH P f=some ⟨n,c.erase,rs⟩) (hok:c.ok=true) (hlen:args.length<=n) (h:awl P c (endK rs S) (initT 0 args) []):Spec P f args S:=by
 refine Spec.of_awq hc hok hlen ?_;have e:St.init args=mkS (initT 0 args) []:=zfx args [];rw[e];exact iP c (fun e=>rV fun _ _ h=>zrJ h) (zfO c h)
theorem Spec.of_awlS {f:FuncId} {n:Nat} {c:AQ} {rs:List RX} {args:List V} {X:V} (hc:zH P f=some ⟨n,c.erase,rs⟩) (hok:c.ok=true) (hlen:args.length<=n) (h: ∀S:V->Prop,S X->awl P c (endK rs S) (initT 0 args) []):Spec P f args (fun r=>r=X):=
 Spec.of_awl hc hok hlen (h (fun r=>r=X) rfl)
theorem fin {S:V->Prop} {X v:V} (h:S X) (e:v=X):S v:=e▸h
end
theorem zbO:type_of% @wpLT.eq_1:=id @wpLT.eq_1
theorem zbP:type_of% @wpLT.eq_3:=id @wpLT.eq_3
theorem kT:type_of% @wpLT.eq_4:=id @wpLT.eq_4
theorem zbQ:type_of% @wpLT.eq_5:=id @wpLT.eq_5
theorem dY:type_of% @AOp.dst.eq_7:=id @AOp.dst.eq_7
theorem zrM:type_of% @AOp.dst.eq_11:=id @AOp.dst.eq_11
theorem zyZ:type_of% @AOp.dst.eq_12:=id @AOp.dst.eq_12
theorem zf3:type_of% @AOp.dst.eq_16:=id @AOp.dst.eq_16
theorem dZ:type_of% @AOp.dst.eq_33:=id @AOp.dst.eq_33
theorem zrN:type_of% @exL.eq_12:=id @exL.eq_12
theorem zgk:type_of% @exL.eq_13:=id @exL.eq_13
theorem cA:type_of% @exL.eq_14:=id @exL.eq_14
theorem zgm:type_of% @exL.eq_16:=id @exL.eq_16
theorem zbR:type_of% @exL.eq_18:=id @exL.eq_18
theorem cB:type_of% @exL.eq_19:=id @exL.eq_19
theorem zgy:type_of% @exLQ.eq_4:=id @exLQ.eq_4
theorem zrO:type_of% @exLQ.eq_6:=id @exLQ.eq_6
theorem zgz:type_of% @exLQ.eq_8:=id @exLQ.eq_8
theorem iS:type_of% @exLQ.eq_10:=id @exLQ.eq_10
theorem zgC:type_of% @exLQ.eq_14:=id @exLQ.eq_14
theorem zgD:type_of% @exLQ.eq_16:=id @exLQ.eq_16
theorem zrP:type_of% @exLQ.eq_20:=id @exLQ.eq_20
theorem iT:type_of% @exLQ.eq_28:=id @exLQ.eq_28
theorem zbS:type_of% @exLQ.eq_33:=id @exLQ.eq_33
theorem zrQ:type_of% @exLQ.eq_36:=id @exLQ.eq_36
theorem zrR:type_of% @lookT.eq_1:=id @lookT.eq_1
theorem zbT:type_of% @awl.eq_4:=id @awl.eq_4
theorem zbU:type_of% @awl.eq_11:=id @awl.eq_11
theorem zg2:type_of% @learn.eq_2:=id @learn.eq_2
theorem zbV:type_of% @keepT.eq_1:=id @keepT.eq_1
theorem zbW:type_of% @keepT.eq_2:=id @keepT.eq_2
theorem zbX:type_of% @keepO.eq_1:=id @keepO.eq_1
theorem zg3:type_of% @keepO.eq_2:=id @keepO.eq_2
theorem zg4:type_of% @addO.eq_1:=id @addO.eq_1
theorem zg5:type_of% @addO.eq_2:=id @addO.eq_2
theorem zhd:type_of% @binInt.eq_1:=id @binInt.eq_1
theorem iU:type_of% @binInt.eq_2:=id @binInt.eq_2
theorem kU:type_of% @cutInt.eq_2:=id @cutInt.eq_2
theorem zrS:type_of% @cutInt.eq_4:=id @cutInt.eq_4
theorem zrT:type_of% @cutInt.eq_5:=id @cutInt.eq_5
theorem oI:type_of% @cutInt.eq_12:=id @cutInt.eq_12
theorem zrU:type_of% @cutInt.eq_15:=id @cutInt.eq_15
theorem zrV:type_of% @vBinB.eq_1:=id @vBinB.eq_1
theorem cC:type_of% @vEqAgg.eq_1:=id @vEqAgg.eq_1
theorem cD:type_of% @mapV.eq_1:=id @mapV.eq_1
theorem cE:type_of% @eqRow.eq_1:=id @eqRow.eq_1
theorem cF:type_of% @eqRow.eq_2:=id @eqRow.eq_2
theorem cG:type_of% @eqC.eq_1:=id @eqC.eq_1
theorem zht:type_of% @vConv.eq_1:=id @vConv.eq_1
theorem zrW:type_of% @vLen.eq_1:=id @vLen.eq_1
theorem iV:type_of% @vLen.eq_2:=id @vLen.eq_2
theorem iW:type_of% @lenO.eq_1:=id @lenO.eq_1
theorem cH:type_of% @vNil.eq_1:=id @vNil.eq_1
theorem zrX:type_of% @vFaddr.eq_2:=id @vFaddr.eq_2
theorem cI:type_of% @loadO.eq_2:=id @loadO.eq_2
theorem cJ:type_of% @isA.eq_1:=id @isA.eq_1
theorem cK:type_of% @vLoad.eq_3:=id @vLoad.eq_3
theorem iX:type_of% @vBound.eq_1:=id @vBound.eq_1
theorem iY:type_of% @vBound.eq_2:=id @vBound.eq_2
theorem pM:type_of% @pureRow.eq_3:=id @pureRow.eq_3
theorem zrY:type_of% @V.cells.eq_3:=id @V.cells.eq_3
theorem zhV {α:Type} (row:List α) (off:Nat) (ks:List α):splice row off ks=row.take off++ks++row.drop (off+ks.length):=id rfl
theorem iZ:type_of% @boxK.eq_2:=id @boxK.eq_2
theorem zh5:type_of% @bsQ.eq_1:=id @bsQ.eq_1
theorem kV:type_of% @stArrK.eq_1:=id @stArrK.eq_1
theorem kW:type_of% @storeK.eq_2:=id @storeK.eq_2
theorem zbY:type_of% @mkslK.eq_1:=id @mkslK.eq_1
theorem zbZ:type_of% @srcV.eq_1:=id @srcV.eq_1
theorem lD:type_of% @V.noRef.eq_5:=id @V.noRef.eq_5
theorem lE:type_of% @V.noRef.eq_6:=id @V.noRef.eq_6
theorem cL:type_of% @K.noRef.eq_4:=id @K.noRef.eq_4
theorem zrZ:type_of% @V.scrub.eq_4:=id @V.scrub.eq_4
theorem nT:type_of% @V.scrub.eq_5:=id @V.scrub.eq_5
theorem gA:type_of% @K.scrub.eq_2:=id @K.scrub.eq_2
theorem zr0:type_of% @K.scrub.eq_3:=id @K.scrub.eq_3
theorem gB:type_of% @O.scrub.eq_1:=id @O.scrub.eq_1
theorem gC:type_of% @V.toks.eq_1:=id @V.toks.eq_1
theorem gD:type_of% @K.toks.eq_5:=id @K.toks.eq_5
theorem zr1:type_of% @V.nrm.eq_3:=id @V.nrm.eq_3
theorem zr2:type_of% @V.owns.eq_2:=id @V.owns.eq_2
theorem zi7:type_of% @V.toNew.eq_2:=id @V.toNew.eq_2
theorem zr3:type_of% @V.toNew.eq_3:=id @V.toNew.eq_3
theorem gE:type_of% @C.normRows.eq_2:=id @C.normRows.eq_2
theorem zr4:type_of% @V.fz.eq_2:=id @V.fz.eq_2
theorem zr5:type_of% @V.fz.eq_4:=id @V.fz.eq_4
theorem zjn:type_of% @K.fz.eq_1:=id @K.fz.eq_1
theorem zr6:type_of% @V.fzL.eq_1:=id @V.fzL.eq_1
theorem zr7:type_of% @V.fzL.eq_2:=id @V.fzL.eq_2
theorem zr8:type_of% @V.reg.eq_1:=id @V.reg.eq_1
theorem zr9:type_of% @freesL.eq_2:=id @freesL.eq_2
theorem zsa:type_of% @addsL.eq_2:=id @addsL.eq_2
theorem zjz {α β:Type} {f:α->β}:List.map f []=[]:=id rfl
theorem zjA {α β:Type} {f:α->β} {a:α} {l:List α}:List.map f (a::l)=f a::List.map f l:=id rfl
theorem zjB {α:Type} {a:α} {l:List α} {i:Nat}:List.take (i+1) (a::l)=a::List.take i l:=id rfl
theorem zjC {α:Type} {l:List α}:List.take 0 l=[]:=id rfl
theorem zjD {α:Type} {a:α} {l:List α} {i:Nat}:List.drop (i+1) (a::l)=List.drop i l:=id rfl
theorem zjE {α:Type} {l:List α}:List.drop 0 l=l:=id rfl
theorem zjF {α:Type} {l:List α}:[]++l=l:=id rfl
theorem zjG {α:Type} {a:α} {l m:List α}:(a::l)++m=a::(l++m):=id rfl
theorem zjH {α β:Type} {f:β->α->β} {a:α} {l:List α} {b:β}:List.foldl f b (a::l)=List.foldl f (f b a) l:=id rfl
theorem zjI {α β:Type} {f:β->α->β} {b:β}:List.foldl f b []=b:=id rfl
theorem zjJ {α:Type} {a:α} {n:Nat}:List.replicate (n+1) a=a::List.replicate n a:=id rfl
theorem zjK {α:Type} {a:α}:List.replicate 0 a=[]:=id rfl
theorem zjL {α:Type} {a b:α} {l:List α}:List.set (a::l) 0 b=b::l:=id rfl
theorem kZ {α:Type} {a b:α} {l:List α} {n:Nat}:List.set (a::l) (n+1) b=a::List.set l n b:=id rfl
theorem zjM {α:Type} {a:α} {l:List α}:(a::l).length=l.length+1:=id rfl
theorem zjN {α:Type}:([]:List α).length=0:=id rfl
theorem zjO {α:Type} {a:α} {l:List α}:(a::l)[0]?=some a:=id rfl
theorem zjP {α:Type} {a:α} {l:List α} {n:Nat}:(a::l)[n+1]?=l[n]?:=by simp
theorem zjQ {α:Type} {a d:α} {l:List α}:(a::l).getD 0 d=a:=id rfl
theorem zjR {α:Type} {a d:α} {l:List α} {n:Nat}:(a::l).getD (n+1) d=l.getD n d:=by simp
theorem zjS {α:Type} {p:α->Bool} {a:α} {l:List α}:(a::l).all p=(p a&&l.all p):=id rfl
theorem zjT {α:Type} {p:α->Bool}:([]:List α).all p=true:=id rfl
theorem oJ {α:Type}:([]:List α).isEmpty=true:=id rfl
theorem zb0 {α:Type} {a:α} {l:List α}:(a::l).isEmpty=false:=id rfl
theorem zsb {α β:Type} {f:α->List β} {a:α} {l:List α}:List.flatMap f (a::l)=f a++List.flatMap f l:=by simp
theorem zsc {α β:Type} {f:α->List β}:List.flatMap f []=[]:=id rfl
theorem zjU {α β:Type} {f:α->β} {a:α}:Option.map f (some a)=some (f a):=id rfl
theorem jA {α β:Type} {f:α->β}:Option.map f none=none:=id rfl
theorem zjV:(!true)=false:=id rfl
theorem zjW:(!false)=true:=id rfl
def roK (o:Nat):Option (List C)->K
 |some r=> .c (.ro r o)
 |none=> .dead
theorem zj4 (o:Nat) (r:List C):roK o (some r)=.c (.ro r o):=id rfl
section
variable (τ : Nat) (ob : O) (e : TypeId) (row : List K)
theorem zj5 (x:K):V.frz τ ob (.k x)=.k (x.frz τ ob):=id rfl
theorem zj6 (r:List C):V.frz τ ob (.agg r)=.agg r:=id rfl
theorem zsd:V.frz τ ob .any=.any:=id rfl
theorem jB (vs:List V):V.frz τ ob (.tup vs)=.any:=id rfl
theorem zj7 (x:C):K.frz τ ob (.c x)=.c x:=id rfl
theorem zj8 (sz:Nat) (rows:List (List C)) (i o:Nat):K.frz τ ob (.pel sz rows i o)=.pel sz rows i o:=id rfl
theorem zj9 (s:Nat):K.frz τ (.var e row) (.own s)=if s=τ then .dead else .own s:=id rfl
theorem zka (s i o:Nat):K.frz τ (.var e row) (.elem s i o)=if s=τ then .dead else .elem s i o:=id rfl
theorem zkb (s o:Nat):K.frz τ (.var e row) (.ptr s o)=if s=τ then roK o (pureRow row) else .ptr s o:=by
 simp only[K.frz];split
 ·cases pureRow row<;>rfl
 ·rfl
theorem zkc:O.frz τ ob (.var e row)=.var e (row.map (K.frz τ ob)):=id rfl
theorem zkd (sz:Nat) (nl:Option Bool) (rows:List (List C)):O.frz τ ob (.arr e sz nl rows)=.arr e sz nl rows:=id rfl
end
theorem zke (τ:Nat) (ts:TS) (os:OS) (ob:O):rA τ ts os (some ob)=mapT (fun v=>v.frz τ ob) ts:=id rfl
theorem zkf (τ:Nat) (os:OS) (ob:O):rU τ os (some ob)=mapO (O.frz τ ob) (delO τ os):=id rfl
def zb1 (p:Prop) (c:Cap):Option (Prop×List Cap)->Option (Prop×List Cap)
 |some (q,l)=>some (p/\q,c::l)
 |none=>none
theorem zkg (p q:Prop) (c:Cap) (l:List Cap):zb1 p c (some (q,l))=some (p/\q,c::l):=id rfl
theorem zkh (o:Nat->Option O):tW o []=some (True,[]):=id rfl
theorem zki (o:Nat->Option O) (row:List C) (off:Nat) (vs:List V):tW o (.k (.c (.ro row off))::vs)=zb1 True (.ro row off) (tW o vs):=by
 simp only[tW];cases h:tW o vs with
 |none=>rfl
 |some x=>obtain⟨p,l⟩:=x;simp[zb1]
def fnP (f:FuncId) (p:Prop) (cs:List Cap):Option (List C)->Option (Prop×V)
 |some l=>some (p,.k (.c (.fn f l)))
 |none=>some (p,.k (.fnk f cs))
theorem zkj (f:FuncId) (p:Prop) (cs:List Cap):fnV f (some (p,cs))=fnP f p cs (tU cs):=by
 simp only[fnV];cases tU cs<;>rfl
theorem zkk (f:FuncId) (p:Prop) (cs:List Cap) (l:List C):fnP f p cs (some l)=some (p,.k (.c (.fn f l))):=id rfl
theorem zkl:tU []=some []:=id rfl
theorem zkm (row:List C) (off:Nat) (l:List Cap):tU (.ro row off::l)=(tU l).map (.ro row off:: ·):=id rfl
theorem zb2:type_of% @awl.eq_12:=id @awl.eq_12
theorem zb3 (A:Nat) (ts:TS) (os:OS):qU A ts os=((ts.all (fun p=>p.2.noRef A)&&os.all (fun p=>p.1 !=A&&p.2.noRef A))=true):=id rfl
section
variable (x y : Nat)
end
section
variable (τ : Nat) (ob : O) (e : TypeId) (sz : Nat) (nl : Option Bool) (rows : List (List C))
theorem nU (s:Nat):K.frz τ (.arr e sz nl rows) (.own s)=if s=τ then .c (.list sz nl rows) else .own s:=id rfl
theorem gF (s o:Nat):K.frz τ (.arr e sz nl rows) (.ptr s o)=if s=τ then .dead else .ptr s o:=id rfl
end
end Go.Abs
namespace Go.Abs
open Go.Sort Go.Proofs Go.Shelf Go.Lib
section
variable {P : Program} {ρ : Ren} {e : TypeId} {τ : Nat} {l : List Int}
theorem zse {vs:Array Value} (h:vs.size=1): ∃v,vs= #[v]:=by
 obtain⟨l⟩:=vs
 match l,h with
 |[v],_=>exact⟨v,rfl⟩
theorem zko {x r:V} (o:Nat->Option O) (ob:O) (h: ∀s,s≠τ->o s=none):(((⟨fun s=>[x].getD s .any,o⟩:St).scrub τ).setO τ ob).put 0 r=⟨fun s=>if s=0 then r else .any,fun s=>if s=τ then some ob else none⟩:=by
 simp only[St.put,St.setO,St.scrub,St.mk.injEq];refine⟨?_,?_⟩
 ·funext s
  by_cases hs:s=0
  ·simp[hs]
  ·obtain⟨n,rfl⟩: ∃n,s=n+1:=⟨s-1,by omega⟩
   simp[V.scrub]
 ·funext s
  by_cases hs:s=τ
  ·simp[hs]
  ·simp[hs,h s hs]
section
variable {f : FuncId} {xs : List AX} {K : KK} {ts : TS} {os : OS} {nl : Option Bool} {X : Prop}
end
end
section
variable {P : Program} {ρ : Ren} {l : List Int} {w0 : Base} {Z0 : Bk -> Prop} {w : World} {κ : Kap} {o : Nat -> Option O} {v : Value} {nl : Option Bool}
end
section
variable {P : Program}
def AOp.other:AOp->Bool
 | .mov _ _=>false
 | .call _ _ _=>false
 |_=>true
section
variable {a : Act} {w : World} {ops : Array Oper} {i n : Nat} {o : Oper} {Q : Exit -> Act -> World -> Prop} {K : Act -> World -> Prop}
end
end
end Go.Abs
namespace Go.Abs
open Go.Proofs Go.Shelf Go.Lib
section
variable {P : Program}
theorem zb4 {n τ:Nat} {ob x:O} (h:zZ n [ob] τ=some x):τ=n/\x=ob:=by
 unfold zZ at h;split at h
 ·rename_i hle
  by_cases he:τ=n
  ·subst he;simp at h;exact⟨rfl,h.symm⟩
  ·obtain⟨k,hk⟩: ∃k,τ-n=k+1:=⟨τ-n-1,by omega⟩
   rw[hk] at h;simp at h
 ·cases h
theorem zsf {w:World} {Z:Bk->Prop} {e sz:Nat} (hG:yN (base w)):qK (base w) Z (.k (.newl e sz none [])) (.slice none 0 0) w:=by
 refine fun n=>⟨fun _=>none,wC.refl w,hG,fun τ b _ h=>(by cases h),fun τ τ' b _ _ h=>(by cases h),fun τ ob h=>?_,fun s=>?_⟩
 ·obtain⟨rfl,rfl⟩:=zb4 h
  exact .inl ⟨rfl,rfl,by simp⟩
 ·by_cases hs:s=0
  ·subst hs
   exact⟨rfl,fun _ _ _ _ _=> .inl ⟨rfl,rfl⟩⟩
  ·simp only[hs,if_false];trivial
theorem zsg {w w':World} {Z:Bk->Prop} {e sz b cap:Nat} {cur:Array Value} (hG:yN (base w)) (hk:wC w w') (hb:w.heap.size<=b) (hh:w'.heap[b]?=some (.cells cur e (0,0))) (h0:0<sz) (hc:cur.size=cap*sz) (hm:cap<=maxLen):
  qK (base w) Z (.k (.newl e sz none [])) (.slice (some ⟨b,0,none⟩) 0 cap) w':=by
 refine fun n=>⟨fun τ=>if τ=n then some b else none,hk,hG,fun τ b' _ h=>?_,fun τ τ' b' _ _ h h'=>?_,fun τ ob h=>?_,fun s=>?_⟩
 ·by_cases hτ:τ=n
  ·simp only[hτ,if_true,Zh] at h;subst h
   exact⟨Nat.not_lt.2 hb,wU hh⟩
  ·simp[hτ] at h
 ·by_cases h1:τ=n
  ·by_cases h2:τ'=n
   ·rw[h1,h2]
   ·simp[h2] at h'
  ·simp[h1] at h
 ·obtain⟨rfl,rfl⟩:=zb4 h
  exact .inr ⟨b,cur,cap,by simp,hh,h0,hc,ZC _,hm,by simp,by simp,by simp⟩
 ·by_cases hs:s=0
  ·subst hs
   refine⟨rfl,fun e' sz' nl' rows' h=>?_⟩;obtain⟨_,h⟩:=zb4 h;cases h;exact .inr ⟨b,cur,cap,by simp,hh,hc,rfl⟩
  ·simp only[hs,if_false];trivial
theorem zsh {w:World} {Z:Bk->Prop} {sz:Nat} {v:Value} (h:PRep w Z (.list sz (some true) []) v):v=.slice none 0 0:=by
 generalize hnl:(some true:Option Bool)=nl at h;generalize hrw:([]:List (List C))=rw0 at h;cases h with
 |nil=>rfl
 |emp _ _ a h=>exact absurd hnl.symm h
 |list _ _ _ _ _ _ _ h=>exact absurd hnl.symm h
theorem zsi {ρ:Ren} (L:Lays8.n4 P ρ) (hc:tJ P (ρ.f 4)) {i0:TypeInfo} {z:Value} (hi0:P.info? (ρ.t 25)=some i0) (hz0:i0.zero=some z) (hs:i0.size=1) (hz1:z.cells.size=1) {sz0 n:Nat}
  (hb:n*i0.bytes<=140737488355328) (h63:n<=4611686018427387904):Spec P (ρ.f 4) [.list sz0 (some true) [],.int .i64 n] (fun r=>r=.k (.newl (ρ.t 25) 1 none [])):=by
 refine⟨hc,fun w Z vs hG hz ha=>?_⟩;obtain⟨l⟩:=vs
 match l,ha with
 |[],ha=>exact absurd ha.1 (by simp)
 |[_],ha=>exact absurd ha.1 (by simp)
 |_::_::_::_,ha=>exact absurd ha.1 (by simp)
 |[v1,v2],ha=>
  have h1:=(ha.2 0 _ v1 rfl rfl).2.2;have h2:=(ha.2 1 _ v2 rfl rfl).2.2;have e1:v1=.slice none 0 0:=zsh h1;have e2:v2=.int .i64 n:=vK h2;subst e1 e2;by_cases hn:n=0
  ·subst hn
   refine(Any8.slices_Grow_room L none 0 0 0 w (by omega) (by omega) (by omega) (by omega)).mono ?_;rintro e w' ⟨rfl,rfl⟩;exact⟨_,_,rfl,rfl,fun _=>rfl,zsf hG⟩
  ·refine(Any8.slices_Grow_grow L i0 z hi0 hz0 (by omega) none 0 0 n [] w (by omega) (by omega) (by simpa using hb) (by simpa using h63) (by simp) (by simp) (by simp)).mono ?_
   rintro e w' ⟨rfl,rfl⟩;have hge:=grownCap_ge w (0+n) 0 (ρ.t 25);have hlm:=grownCap_le_maxLen w (0+n) 0 (ρ.t 25) (by simp only[maxLen];omega);generalize grownCap w (0+n) 0 (ρ.t 25)=cap at hge hlm⊢;have hk:wC w (w.drew.alloc (.cells (([]:List Value).toArray++Builtin.zeroCells z.cells (0+n-0)++Builtin.zeroCells z.cells (cap-(0+n))) (ρ.t 25))):=
    ⟨rfl,rfl,rfl,by simp,fun k hk=>(rT w.drew _).block k hk⟩
   refine⟨_,_,rfl,rfl,fun _=>rfl,zsg hG hk (Zw _) (alloc_get w.drew _) (by omega) ?_ hlm⟩;simp only[Yx,ZF,Array.size_append,Builtin.zeroCells,Array.size_map,Array.size_range,hz1];omega
theorem Spec.plain {f:FuncId} {args:List V} {S:V->Prop} (h:Spec P f args S):Spec P f args (fun r'=> ∃r,S r/\r'=r.fz.nrm):=by
 refine⟨h.1,fun w Z vs hG hz ha=>(h.2 w Z vs hG hz ha).mono ?_⟩;rintro e w' ⟨v,r,rfl,hr,hcl,hrep⟩;have hnr: ∀τ,(r.fz.nrm).noRef τ=true:=by
  intro τ;have key: ∀(r:V),(r.fz).nrm.noRef τ=true:=by
   intro r;have:=(za0 τ r).1
   revert this
   generalize r.fz=u;exact nrm_noRef u
  exact key r
 refine⟨v,_,rfl,⟨r,hr,rfl⟩,hnr,fun n=>?_⟩;obtain⟨κr,hI⟩:=hrep 0;have hv:=hI.tmps 0;have e3:(#[v]:Array Value).getD 0 undef=v:=rfl;simp only[e3,if_true] at hv;have hreg: ∀m,((r.fz.nrm).reg m)=(r.fz.nrm,[]):=fun m=>reg_fz m r
 rw[hreg];refine⟨fun _=>none,hI.kept,hI.glob,fun τ b h=>absurd (by simp[zZ]:(zZ n []:Nat->Option O) τ=none) h,fun τ τ' b h=>absurd (by simp[zZ]:(zZ n []:Nat->Option O) τ=none) h,fun τ ob h=>?_,fun s=>?_⟩
 ·simp[zZ] at h
 ·by_cases hs:s=0
  ·subst hs
   refine zK.nrm (zbv (Z:=Zof (base w) Z κr (zZ 0 (r.reg 0).2) w') (κ:=κr) (o:=zZ 0 (r.reg 0).2) ⟨fun b hb=>?_,fun τ ob hob=>⟨hI.objs τ ob hob,fun c b hb=>?_⟩⟩ r 0 v (fun i ob hob=>?_) hv)
   ·exact⟨hb.1,hb.2.1,fun τ hτ=>absurd (by simp[zZ]:(zZ n []:Nat->Option O) τ=none) hτ⟩
   ·have:=hI.own τ b (by simp only[hob];simp) hb
    exact⟨.inr ⟨this.1,dD (hI.objs τ ob hob) hb⟩,this.2,fun τ hτ=>absurd (by simp[zZ]:(zZ n []:Nat->Option O) τ=none) hτ⟩
   ·simp only[zZ,ZC,if_true,XG,ZY];exact hob
  ·simp only[hs,if_false];trivial
where
 knrm {τ:Nat}: ∀(k:K),k.noRef τ=true->k.nrm.noRef τ=true:=by intro k h;cases k<;>first|exact h|rfl
 nrm_noRef {τ:Nat}: ∀(u:V),u.noRef τ=true->u.nrm.noRef τ=true
  | .k x,h=>by simp only[V.noRef,V.nrm] at h⊢;exact knrm x h
  | .agg r,h=>rfl
  | .agk r,h=>by
    simp only[V.noRef,V.nrm,ZA,ZH] at h⊢;rintro x ⟨y,hy,rfl⟩;exact knrm y (h y hy)
  | .tup vs,h=>by simp only[V.noRef,V.nrm] at h⊢;exact nrm_noRefL vs h
  | .undef,h=>rfl
  | .any,h=>rfl
 nrm_noRefL {τ:Nat}: ∀(us:List V),V.noRefL τ us=true->V.noRefL τ (V.nrmL us)=true
  |[],h=>rfl
  |u::us,h=>by simp only[V.noRefL,V.nrmL,Zr] at h⊢;exact⟨nrm_noRef u h.1,nrm_noRefL us h.2⟩
 regs_fz: ∀(l:List K) (m:Nat),K.regs m ((l.map Abs.K.fz).map Abs.K.nrm)=((l.map Abs.K.fz).map Abs.K.nrm,[])
  |[],m=>rfl
  |k::l,m=>by cases k<;>simp only[Zk,Abs.K.fz,Abs.K.nrm,K.regs,regs_fz l m]
 reg_fz (m:Nat): ∀(r:V),(r.fz.nrm).reg m=(r.fz.nrm,[])
  | .k x=>by cases x<;>rfl
  | .agg r=>rfl
  | .agk r=>by
    simp only[V.fz];cases e:pureRow (r.map Abs.K.fz) with
    |some cs=>rfl
    |none=>simp only[V.nrm,V.reg,regs_fz r m]
  | .tup vs=>by simp only[V.fz,V.nrm,V.reg,regL_fz m vs]
  | .undef=>rfl
  | .any=>rfl
 regL_fz (m:Nat): ∀(rs:List V),V.regL m (V.nrmL (V.fzL rs))=(V.nrmL (V.fzL rs),[])
  |[]=>rfl
  |r::rs=>by simp only[V.fzL,V.nrmL,V.regL,reg_fz m r,ZF,Yf,regL_fz m rs,Ze]
end
section
variable {P : Program}
theorem nV {w w':World} {Z:Bk->Prop} {r:V} {v:Value} (hG:yN (base w)) (hk:wC w w') (hr: ∀n,r.reg n=(r,[])) (hp: ∀Z,zK w' Z (fun _=>none) (fun _=>none) r v):qK (base w) Z r v w':=by
 intro n;have e0:(zZ n (r.reg n).2:Nat->Option O)=fun _=>none:=by
  funext τ;rw[hr];simp[zZ]
 rw[e0,hr];refine⟨fun _=>none,hk,hG,fun τ b h=>absurd rfl h,fun τ τ' b h=>absurd rfl h,fun τ ob h=>(by cases h),fun s=>?_⟩;by_cases hs:s=0
 ·subst hs
  exact hp _
 ·simp only[hs,if_false];trivial
theorem zsj {w:World} (k:Nat) (os:Array Obj):wC w (Sort.grow (w.drewN k) os):=by
 refine⟨rfl,rfl,rfl,?_,fun b hb=>?_⟩
 ·show w.heap.size<=(w.heap++os).size
  rw[Array.size_append];omega
 ·show(w.heap++os)[b]?=w.heap[b]?
  exact Y2 hb
theorem zsk {ρ:Ren} (L:LaysM.n171 P ρ) (hc:tJ P (ρ.f 171)) (htab: ∀w,yN (base w)->Lib.TabIs P w "internal/strconv.uint64pow10" .u64 Lib.pow10Tab) (n:Int) (h0: -9223372036854775808<=n) (h1:n<=9223372036854775807):
  Spec P (ρ.f 171) [.int .i64 n] (fun r=>r=.str (Lib.itoa n)):=by
 refine⟨hc,fun w Z vs hG hz ha=>?_⟩;obtain⟨l⟩:=vs
 match l,ha with
 |[],ha=>exact absurd ha.1 (by simp)
 |_::_::_,ha=>exact absurd ha.1 (by simp)
 |[v1],ha=>
  have e1:v1=.int .i64 n:=vK (ha.2 0 _ v1 rfl rfl).2.2;subst e1;refine(Any.strconv_Itoa L n h0 h1 w (htab w hG)).mono ?_;rintro e w' ⟨rfl,k,os,rfl⟩;exact⟨_,_,rfl,rfl,fun _=>rfl,nV hG (zsj k os) (fun _=>rfl) (fun _=>⟨rfl,.str _⟩)⟩
end
end Go.Abs
namespace Go.Abs
def xC:Value->C
 | .int k n=> .int k n
 | .bool b=> .bool b
 | .string s=> .str s.data.toList
 | .slice _ _ _=> .list 0 (some true) []
 | .nilFunc=> .nilf
 |_=> .nilp
def xV:Value->V
 | .agg cs=> .agg (cs.toList.map xC)
 | .int k n=> .k (.c (.int k n))
 | .bool b=> .k (.c (.bool b))
 | .string s=> .k (.c (.str s.data.toList))
 | .slice _ _ _=> .k (.c (.list 0 (some true) []))
 | .nilFunc=> .k (.c .nilf)
 |_=> .k (.c .nilp)
def xX:Operand->AX
 | .tmp t=> .t t
 | .const v=> .v (xV v)
 | .func f=> .v (.k (.c (.fn f [])))
 | .global g=> .v (.k (.c (.gl g)))
def xt (P:Program) (t:Nat):TypeInfo:=P.types[t]?.getD default
def xu (P:Program) (t:Nat):TypeDesc:=match (xt P t).desc with| .named _ u=>(xt P u).desc|d=>d
def xz (P:Program) (t:Nat):List C:=match (xt P t).zero with|some (.agg cs)=>cs.toList.map xC|some v=>[xC v]|none=>[]
def iG:TypeDesc->Bool
 | .struct _=>true
 | .array _ _=>true
 |_=>false
def elT:TypeDesc->Nat
 | .slice e=>e
 | .array _ e=>e
 |_=>0
def fld:TypeDesc->Nat->Nat×Nat
 | .struct fs,i=>match fs.toList[i]? with|some f=>(f.offset,f.type)|none=>(0,0)
 |_,_=>(0,0)
def kd:C->EqK
 | .int _ _=> .int
 | .bool _=> .bool
 |_=> .str
def xE (d:TypeDesc) (z:List C) (t:Nat) (n:Bool) (op:BinOp) (x y:AX):AOp:=match d with
 | .bool=> .binB t n x y
 | .struct _=> .eqAgg t n (z.map kd) x y
 | .slice _=> .nilcmp t n x
 |_=> .bin t op x y
def xP (P:Program) (d:TypeDesc) (p:Nat×Operand):Nat×Nat×AX:=((fld d p.1).1,(xt P (fld d p.1).2).size,xX p.2)
def xS (P:Program) (d:Nat) (x:AX) (lo hi:Option AX):TypeDesc->AOp
 | .string=> .slstr d x lo hi
 | .slice e=> .slice d (xt P e).size x lo hi
 |_=> .mov d x
def xI (P:Program) (d:Nat) (x i:AX):TypeDesc->AOp
 | .slice e=> .iaddr d (xt P e).size x i
 | .array n e=> .iaddrA d (xt P e).size n x i
 |_=> .cap d x
def xJ (P:Program) (d:Nat) (x i:AX):TypeDesc->AOp
 | .array n e=> .aidx d (xt P e).size n (iG (xu P e)) x i
 |_=> .sidx d x i
def xL (d:Nat) (x:AX):TypeDesc->AOp
 | .string=> .lenS d x
 |_=> .len d x
def xK:TypeDesc->IntKind
 | .int k=>k
 |_=> .i64
def xB (P:Program) (d:Nat) (t:Nat):Builtin->List AX->AOp
 | .len,[x]=>xL d x (xu P t)
 | .append,[x,y]=> .append d (elT (xu P t)) (xt P (elT (xu P t))).size (xt P (elT (xu P t))).bytes x y
 | .max,x::ys=> .minmax d true x ys
 | .min,x::ys=> .minmax d false x ys
 |_,l=> .cap d (l.headD (.t 0))
def xF (e:Option Nat) (P:Program) (d:Nat) (a:List AX) (t:Nat):Callee->AOp
 | .value (.func f)=> .call e f a
 | .value x=> .callv e (xX x) a
 | .builtin b=>xB P d t b a
 |_=> .cap d (.t 0)
def xO (P:Program) (ty:Nat) (e:Option Nat) (d:Nat):Op->AOp
 | .move x=> .mov d (xX x)
 | .assign x=>match x with
   | .const (.slice none 0 0)=> .nilL d (elT (xu P ty)) (xt P (elT (xu P ty))).size
   |x=> .mov d (xX x)
 | .pick c a b=> .pick d (xX c) (xX a) (xX b)
 | .alloc t=> .alloc d t (xz P t)
 | .box t x=> .box d t (xX x)
 | .build t ps=> .build d (xz P t) (ps.toList.map (xP P (xu P t)))
 | .buildSlice t n ps=> .bslice d (elT (xu P t)) (xt P (elT (xu P t))).size (xz P (elT (xu P t))) n (ps.toList.map fun p=>(p.1,xX p.2))
 | .load t x=> .load d (xt P t).size (iG (xu P t)) (xX x)
 | .store t x y=> .store (xt P t).size (xX x) (xX y)
 | .nilCheck x=> .nilchk d (xX x)
 | .binOp op t x y _=>match op with
   | .eql=>xE (xu P t) (xz P t) d false .eql (xX x) (xX y)
   | .neq=>xE (xu P t) (xz P t) d true .neq (xX x) (xX y)
   |op=> .bin d op (xX x) (xX y)
 | .unOp op _ x=> .un d op (xX x)
 | .convert _ t x=> .conv d (xK (xu P t)) (xX x)
 | .makeFunc f _ cs=>match f with
   | .func f=> .mkfn d f (cs.toList.map xX)
   |_=> .cap d (.t 0)
 | .makeSlice t l c=> .mkslice d (elT (xu P t)) (xt P (elT (xu P t))).size (xt P (elT (xu P t))).bytes (xz P (elT (xu P t))) (xX l) (xX c)
 | .slice t x lo hi _=>xS P d (xX x) (lo.map xX) (hi.map xX) (xu P t)
 | .fieldAddr t x i=> .faddr d (fld (xu P t) i).1 (xX x)
 | .field t x i=> .field d (fld (xu P t) i).1 (xt P (fld (xu P t) i).2).size (iG (xu P (fld (xu P t) i).2)) (xX x)
 | .indexAddr t x i=>xI P d (xX x) (xX i) (xu P t)
 | .index t x i=>xJ P d (xX x) (xX i) (xu P t)
 | .extract x i=> .extr d (xX x) i
 | .call c=>xF e P d (c.args.toList.map xX) (c.argTypes.toList.headD 0) c.callee
 |_=> .cap d (.t 0)
def xG (ds:List Nat):Option (Nat×Bool)->Option (Nat×Bool)
 |some (j,b)=>some (ds.getD j 0,b)
 |none=>none
def xA (P:Program) (ds:List Nat) (o:Oper):AI:=⟨xG ds o.guard,xO P o.type o.dst (o.dst.getD 0) o.op⟩
def xb (e:Edge):Bool:=match e.ground with| .textOnly _=>false| .gcOnly _=>false|_=>true
def xW:List Edge->List Nat
 |[]=>[]
 |e::l=>cond (xb e) (e.on::xW l) (xW l)
def xD (o:Oper):List Nat:=xW o.after.toList
abbrev Ann:=List (Nat×Nat×(AQ->AQ))
def ap (p:Nat×Nat) (q:AQ):Ann->AQ
 |[]=>q
 |a::r=>cond (a.1==p.1&&a.2.1==p.2) (a.2.2 (ap p q r)) (ap p q r)
def lF:Code->Nat×Nat
 | .seq _ b=>lF b
 | .cond (.tmp t) _ _=>(4,t)
 | .block i _=>(3,i)
 | .region r _ _=>(0,r)
 |_=>(9,0)
def zb5:Code->Nat×Nat
 | .region r _ _=>(1,r)
 |_=>(9,0)
def xQ (P:Program) (A:Ann):Nat->Code->AQ
 |_,.skip=> .skip
 |_,.region r ops dr=>ap (2,r) (cond dr (.draw (ops.toList.map (xA P (ops.toList.map fun o=>o.dst.getD 0))) (ops.toList.map xD)) (.region (ops.toList.map (xA P (ops.toList.map fun o=>o.dst.getD 0))))) A
 |i,.seq a b=>ap (zb5 a) (.seq (xQ P A i a) (ap (lF a) (xQ P A i b) A)) A
 |i,.cond c a b=> .cond (xX c) (xQ P A i a) (xQ P A i b)
 |_,.block i a=> .block i (xQ P A i a)
 |i,.loop a=>ap (5,i) (.loop [] [] (xQ P A i a)) A
 |_,.exit i=> .exit i
 |_,.ret=> .ret
 |_,_=> .cond (.v .any) .skip .skip
def lp (L M:List Nat):AQ->AQ
 | .loop _ _ a=> .loop L M a
 |q=>q
def lq (x:Nat):AQ->AQ
 | .loop L M a=> .loop L M (.frz x a)
 |q=>q
def rgf (j:Nat) (l:List Nat):AQ->AQ
 | .region r=> .regf (r.take j) l (r.drop j)
 |q=>q
def cut:List (Nat×List Nat)->List AI->List (List AI×List Nat)
 |[],_=>[]
 |(n,l)::r,q=>(q.take n,l)::cut r (q.drop n)
def rgs (l:List (Nat×List Nat)):AQ->AQ
 | .region r=> .regs (cut l r)
 |q=>q
def drl (n:Nat):AQ->AQ
 | .draw r p=> .drawl (r.take n) (r.drop n) p
 |q=>q
def drm (n:Nat):AQ->AQ
 | .draw r p=> .drawm (r.take n) (r.getD n default) (r.drop (n+1)) p
 |q=>q
def xf (P:Program) (f:Func) (A:Ann):AQ:=match f.body with|some c=>xQ P A 0 c|none=> .skip
theorem uq {f g:AQ} (h:f=g) (P:Program) (ts os Q):awl P f Q ts os=awl P g Q ts os:=h▸rfl
def zb6 {β:Type} (f:Nat->β):List Nat->List β->Prop
 |a::l,b::r=>f a=b/\zb6 f l r
 |_,_=>True
theorem zkp {β:Type} {f:Nat->β}: ∀{l:List Nat} {r:List β},l.map f=r->zb6 f l r
 |[],_,_=>trivial
 |_::_,[],h=>nomatch h
 |_::_,_::_,h=>⟨(List.cons.inj h).1,zkp (List.cons.inj h).2⟩
def QcU:=PLift.up (Zx (Zx (Zx (Zx (Zx (Zx (Zx @xC.eq_1 @xC.eq_2) (Zx @xC.eq_3 @xC.eq_4)) (Zx (Zx @xC.eq_5 @xC.eq_6) (Zx @xV.eq_1 (Zx @xV.eq_2 @xV.eq_3)))) (Zx (Zx (Zx @xV.eq_4 @xV.eq_5) (Zx @xV.eq_6 @xV.eq_7)) (Zx (Zx @xX.eq_1 @xX.eq_2) (Zx @xX.eq_3 (Zx @xX.eq_4 @xu.eq_1))))) (Zx (Zx (Zx (Zx @xz.eq_1 @iG.eq_1) (Zx @iG.eq_2 @iG.eq_3)) (Zx (Zx @elT.eq_1 @elT.eq_2) (Zx @elT.eq_3 (Zx @fld.eq_1 @fld.eq_2)))) (Zx (Zx (Zx @kd.eq_1 @kd.eq_2) (Zx @kd.eq_3 @xE.eq_1)) (Zx (Zx @xE.eq_2 @xE.eq_3) (Zx @xE.eq_4 (Zx @xP.eq_1 @xS.eq_1)))))) (Zx (Zx (Zx (Zx (Zx @xS.eq_2 @xS.eq_3) (Zx @xI.eq_1 @xI.eq_2)) (Zx (Zx @xI.eq_3 @xJ.eq_1) (Zx @xJ.eq_2 (Zx @xL.eq_1 @xL.eq_2)))) (Zx (Zx (Zx @xK.eq_1 @xK.eq_2) (Zx @xB.eq_1 @xB.eq_2)) (Zx (Zx @xB.eq_3 @xB.eq_4) (Zx @xB.eq_5 (Zx @xF.eq_1 @xF.eq_2))))) (Zx (Zx (Zx (Zx @xF.eq_3 @xF.eq_4) (Zx @xO.eq_1 @xO.eq_2)) (Zx (Zx @xO.eq_3 @xO.eq_4) (Zx @xO.eq_5 (Zx @xO.eq_6 @xO.eq_7)))) (Zx (Zx (Zx @xO.eq_8 @xO.eq_9) (Zx @xO.eq_10 @xO.eq_11)) (Zx (Zx @xO.eq_12 @xO.eq_13) (Zx @xO.eq_14 (Zx @xO.eq_15 @xO.eq_16))))))) (Zx (Zx (Zx (Zx (Zx (Zx @xO.eq_17 @xO.eq_18) (Zx @xO.eq_19 @xO.eq_20)) (Zx (Zx @xO.eq_21 @xO.eq_22) (Zx @xO.eq_23 (Zx @xO.eq_24 @xO.eq_25)))) (Zx (Zx (Zx @xO.eq_26 @xO.eq_27) (Zx @xG.eq_1 @xG.eq_2)) (Zx (Zx @xA.eq_1 @xb.eq_1) (Zx @xW.eq_1 (Zx @xW.eq_2 @xD.eq_1))))) (Zx (Zx (Zx (Zx @ap.eq_1 @ap.eq_2) (Zx @lF.eq_1 @lF.eq_2)) (Zx (Zx @lF.eq_3 @lF.eq_4) (Zx @lF.eq_5 (Zx @zb5.eq_1 @zb5.eq_2)))) (Zx (Zx (Zx @xQ.eq_1 @xQ.eq_2) (Zx @xQ.eq_3 @xQ.eq_4)) (Zx (Zx @xQ.eq_5 @xQ.eq_6) (Zx @xQ.eq_7 (Zx @xQ.eq_8 @xQ.eq_9)))))) (Zx (Zx (Zx (Zx (Zx @lp.eq_1 @lp.eq_2) (Zx @lq.eq_1 @lq.eq_2)) (Zx (Zx @rgf.eq_1 @rgf.eq_2) (Zx @cut.eq_1 (Zx @cut.eq_2 @rgs.eq_1)))) (Zx (Zx (Zx @rgs.eq_2 @drl.eq_1) (Zx @drl.eq_2 @drm.eq_1)) (Zx (Zx @drm.eq_2 @xf.eq_1) (Zx @List.map_cons.{0,0} (Zx @List.map_nil.{0,0} @cond_true.{1}))))) (Zx (Zx (Zx (Zx @cond_false.{1} @Option.getD_some.{0}) (Zx @Option.getD_none.{0} @Option.map_some.{0,0})) (Zx (Zx @Option.map_none.{0,0} @List.getD_cons_zero.{0}) (Zx @List.getD_cons_succ.{0} (Zx @List.getElem?_cons_zero.{0} @List.getElem?_cons_succ.{0})))) (Zx (Zx (Zx @List.take_succ_cons.{0} @List.take_zero.{0}) (Zx @List.drop_succ_cons.{0} @List.drop_zero.{0})) (Zx (Zx @List.headD_cons.{0} Bool.and_true) (Zx YW (Zx ZU Z4))))))))
theorem Qc:type_of% QcU.1:=QcU.1
end Go.Abs
namespace Go.Abs
open Go.ChangeShapes Go.RowKit
def rW (P:Program):Nat->List Field->Nat->Bool
 |k,[],n=>k==n
 |k,f::fs,n=>f.offset==k&&rW P (k+P.cellsOf f.type) fs n
def lG (P:Program) (T:List TypeId):Bool:=T.all fun t=>
 match P.underlying t with
 |some .bool|some (.int _)|some .string=>P.cellsOf t==1
 |some (.slice e)=>P.cellsOf t==1&&T.contains e&&decide (0<P.cellsOf e)
 |some (.struct fs)=>fs.toList.all (fun f=>T.contains f.type)&&rW P 0 fs.toList (P.cellsOf t)
 |_=>false
def gG (S:TypeId->List C->Prop):List TypeId->List (List C)->Prop
 |[],[]=>True
 |t::ts,r::rs=>S t r/\gG S ts rs
 |_,_=>False
def wE (P:Program):Nat->TypeId->List C->Prop
 |0,_,_=>False
 |n+1,t,r=>
  match P.underlying t with
  |some .bool=> ∃b,r=[.bool b]
  |some (.int k)=> ∃m,r=[.int k m]/\(Lit.int k m).wf=true
  |some .string=> ∃s:List UInt8,r=[.str s]/\s.length<=9223372036854775807
  |some (.slice e)=> ∃rows:List (List C),r=[.list (if rows.isEmpty then 0 else P.cellsOf e) none rows]/\rows.length<=9223372036854775807/\ ∀x∈rows,wE P n e x
  |some (.struct fs)=> ∃rs,r=rs.flatten/\gG (wE P n) (fs.toList.map (·.type)) rs
  |_=>False
mutual
def C.bulk:C->Nat
 | .str s=>s.length+1
 | .list _ _ rows=>C.bulkRows rows+1
 |_=>1
def C.bulkRow:List C->Nat
 |[]=>0
 |c::r=>c.bulk+C.bulkRow r
def C.bulkRows:List (List C)->Nat
 |[]=>0
 |r::l=>C.bulkRow r+C.bulkRows l
end
theorem zkq: ∀(a b:List C),C.bulkRow (a++b)=C.bulkRow a+C.bulkRow b
 |[],b=>by simp[C.bulkRow]
 |x::a,b=>by simp only[ZQ,C.bulkRow,zkq a b];omega
def V.bulk:V->Nat
 | .k (.c c)=>c.bulk
 | .agg r=>C.bulkRow r
 |_=>0
def gH:List V->Nat
 |[]=>0
 |v::l=>v.bulk+gH l
structure Bulk {H:Type} (U:DataW H->Nat) (UA:List (DataW H)->Nat):Prop where
 one: ∀d,1<=U d
 str: ∀s,s.length+1<=U (.lit (.string s))
 slice: ∀es sp,UA es+1<=U (.slice es sp)
 agg: ∀ps,UA ps<=U (.agg ps)
 cons: ∀d l,UA (d::l)=U d+UA l
section
variable {H : Type} {enc : TypeId × Value -> H} {P : Program} {T : List TypeId}
theorem zkr {U:DataW H->Nat} {UA:List (DataW H)->Nat} (hB:Bulk U UA): ∀(rows:List (List C)) (ds:List (DataW H)),rows.length=ds.length->(∀(i:Nat) r d,rows[i]?=some r->ds[i]?=some d->C.bulkRow r<=U d)->C.bulkRows rows<=UA ds
 |[],ds,_,_=>by simp[C.bulkRows]
 |r::rows,[],h,_=>by simp at h
 |r::rows,d::ds,h,hr=>by
  have h1:=hr 0 r d rfl rfl;have h2:=zkr hB rows ds (by simpa using h) fun i r d hi hd=>hr (i+1) r d (by simpa using hi) (by simpa using hd)
  simp only[C.bulkRows,hB.cons];omega
theorem zb7 (hT:lG P T=true) {t:TypeId} (ht:t∈T):(match P.underlying t with
 |some .bool|some (.int _)|some .string=>P.cellsOf t==1
 |some (.slice e)=>P.cellsOf t==1&&T.contains e&&decide (0<P.cellsOf e)
 |some (.struct fs)=>fs.toList.all (fun f=>T.contains f.type)&&rW P 0 fs.toList (P.cellsOf t)
 |_=>false)=true:=ZA.1 hT t ht
theorem zks {n:Nat} (ih: ∀t r,t∈T->wE P n t r->r.length=P.cellsOf t): ∀(fs:List Field) (k N:Nat) (rs:List (List C)),(∀f∈fs,f.type∈T)->rW P k fs N=true->
  gG (wE P n) (fs.map (·.type)) rs->k+rs.flatten.length=N
 |[],k,N,[],_,h,_=>by simpa [rW] using h
 |f::fs,k,N,r::rs,hf,h,hs=>by
  simp only[rW,Zr] at h;have h1:=ih _ _ (hf f (by simp)) hs.1;have h2:=zks ih fs _ N rs (fun g hg=>hf g (by simp[hg])) h.2 hs.2;simp only[Yy,Zq,h1];omega
 |[],_,_,_::_,_,_,h=>h.elim
 |_::_,_,_,[],_,_,h=>h.elim
theorem wE.len (hT:lG P T=true): ∀(n:Nat) (t:TypeId) (r:List C),t∈T->wE P n t r->r.length=P.cellsOf t
 |0,_,_,_,h=>h.elim
 |n+1,t,r,ht,h=>by
  have hp:=zb7 hT ht;simp only[wE] at h;split at h
  ·rename_i hu;rw[hu] at hp
   obtain⟨b,rfl⟩:=h;simp only[beq_iff_eq] at hp;simp[hp]
  ·rename_i hu;rw[hu] at hp
   obtain⟨m,rfl,_⟩:=h;simp only[beq_iff_eq] at hp;simp[hp]
  ·rename_i hu;rw[hu] at hp
   obtain⟨m,rfl,_⟩:=h;simp only[beq_iff_eq] at hp;simp[hp]
  ·rename_i hu;rw[hu] at hp
   obtain⟨m,rfl,_⟩:=h;simp only[Zr,beq_iff_eq] at hp;simp[hp]
  ·rename_i fs hu;rw[hu] at hp
   obtain⟨rs,rfl,hs⟩:=h;simp only[Zr,ZA,List.contains_iff_mem] at hp;have:=zks (wE.len hT n) fs.toList 0 (P.cellsOf t) rs (fun f hf=>hp.1 f hf) hp.2 hs;omega
  ·exact h.elim
theorem zkt {α β:Type} {R:Nat->β->Prop}: ∀(n:Nat),(∀i,i<n-> ∃b,R i b)-> ∃l:List β,l.length=n/\ ∀(i:Nat) b,l[i]?=some b->R i b
 |0,_=>⟨[],rfl,by simp⟩
 |n+1,h=>by
  obtain⟨l,hl,hr⟩:=zkt (α:=α) n (fun i hi=>h i (by omega));obtain⟨b,hb⟩:=h n (by omega);refine⟨l++[b],by simp[hl],fun i c hc=>?_⟩;rcases Y7 i l.length with hi|hi
  ·rw[ZL hi] at hc;exact hr i c hc
  ·rw[ZM hi] at hc
   have:i-l.length=0:=by
    rcases Nat.eq_zero_or_pos (i-l.length) with h0|h0
    ·exact h0
    ·obtain⟨m,hm⟩: ∃m,i-l.length=m+1:=⟨i-l.length-1,by omega⟩
     rw[hm] at hc;simp at hc
   rw[this] at hc;simp at hc;subst hc;have:i=n:=by omega
   subst this;exact hb
theorem zb8 {w:World} {a:Addr} {n:Nat} {cs:List Value} (h:w.cells? 0 a n=some cs):cs.length=n/\ ∀j,j<n->w.cell? (a.add j)=cs[j]?:=by
 unfold World.cells? at h;rw[if_pos (ZC _)] at h;refine⟨by simpa using mapM_some_length h,fun j hj=>?_⟩;exact mapM_some_get h j j (by simp[hj])
theorem zsl {w:World} {Z:Bk->Prop} {r1 r2:List C} {c1 c2:List Value} (h1:yG w Z r1 c1) (h2:yG w Z r2 c2):yG w Z (r1++r2) (c1++c2):=by
 obtain⟨l1,g1⟩:=h1;obtain⟨l2,g2⟩:=h2;refine⟨by simp[l1,l2],fun j c v hc hv=>?_⟩;rcases Y7 j r1.length with hj|hj
 ·rw[ZL hj] at hc
  rw[ZL (by omega)] at hv;exact g1 j c v hc hv
 ·rw[ZM hj] at hc
  rw[ZM (by omega)] at hv;rw[l1] at hv;exact g2 _ c v hc hv
theorem jC {w:World} {Z:Bk->Prop} {c:C} {v:Value} (h:PRep w Z c v):yG w Z [c] [v]:=by
 refine⟨rfl,fun j c' v' hc hv=>?_⟩;cases j with
 |zero=>simp at hc hv;subst hc;subst hv;exact h
 |succ j=>simp at hc
theorem fields_row {w:World} {Z:Bk->Prop} {n:Nat} {cs:List Value} {N:Nat} (ih: ∀t cs x,t∈T->DataW.trod enc P w 0 (fun _=>true) true n t cs=some x-> ∃r,wE P n t r/\yG w Z r cs/\ ∀(U:DataW H->Nat) (UA:List (DataW H)->Nat),Bulk U UA->C.bulkRow r<=U x.1) (hcs:cs.length=N):
  ∀(fs:List Field) (k:Nat) (xs:List (DataW H×List MemPlace)),(∀f∈fs,f.type∈T)->rW P k fs N=true->k<=N->xs.length=fs.length->
   (∀(i:Nat) f,fs[i]?=some f->DataW.trod enc P w 0 (fun _=>true) true n f.type ((cs.drop f.offset).take (P.cellsOf f.type))=xs[i]?)->
   ∃rs,gG (wE P n) (fs.map (·.type)) rs/\yG w Z rs.flatten (cs.drop k)/\ ∀(U:DataW H->Nat) (UA:List (DataW H)->Nat),Bulk U UA->C.bulkRow rs.flatten<=UA (xs.map (·.1))
 |[],k,xs,_,h,hk,_,_=>by
  simp only[rW,beq_iff_eq] at h;refine⟨[],trivial,?_,fun _ _ _=>by simp[C.bulkRow]⟩;rw[ZB (by omega)];exact⟨rfl,by simp⟩
 |f::fs,k,[],hf,h,hk,hl,hx=>by simp at hl
 |f::fs,k,x::xs,hf,h,hk,hl,hx=>by
  simp only[rW,Zr,beq_iff_eq] at h;obtain⟨ho,h⟩:=h;have hle: ∀(fs:List Field) (k:Nat),rW P k fs N=true->k<=N:=by
   intro fs
   induction fs with
   |nil=>intro k h;simp[rW] at h;omega
   |cons g gs ihg=>intro k h;simp only[rW,Zr] at h;have:=ihg _ h.2;omega
  have hk2:=hle fs _ h;have hx1:=hx 0 f rfl;obtain⟨r,hs,hr,hb⟩:=ih _ _ _ (hf f (by simp)) hx1;obtain⟨rs,hss,hrs,hbs⟩:=fields_row ih hcs fs (k+P.cellsOf f.type) xs (fun g hg=>hf g (by simp[hg])) h hk2 (by simpa using hl) (fun i g hg=>hx (i+1) g (by simpa using hg));refine⟨r::rs,⟨hs,hss⟩,?_,fun U UA hB=>?_⟩
  ·have e:cs.drop k=(cs.drop f.offset).take (P.cellsOf f.type)++cs.drop (k+P.cellsOf f.type):=by
    rw[ho,<-List.drop_drop];exact(List.take_append_drop _ _).symm
   rw[e];exact zsl hr hrs
  ·have h1:=hb U UA hB
   have h2:=hbs U UA hB;rw[Yy,zkq,Zk,hB.cons];omega
theorem trod_row (hT:lG P T=true) {w:World} {Z:Bk->Prop} (hZ: ∀b,b.2<w.heap.size->Z b): ∀(n:Nat) (t:TypeId) (cs:List Value) (x:DataW H×List MemPlace),t∈T->
  DataW.trod enc P w 0 (fun _=>true) true n t cs=some x-> ∃r,wE P n t r/\yG w Z r cs/\ ∀(U:DataW H->Nat) (UA:List (DataW H)->Nat),Bulk U UA->C.bulkRow r<=U x.1
 |0,_,_,_,_,h=>by simp[DataW.trod] at h
 |n+1,t,cs,x,ht,h=>by
  have hp:=zb7 hT ht;simp only[wE];split
  ·rename_i hu
   obtain⟨b,rfl,_⟩:=DataW.trod_bool hu h;exact⟨[.bool b],⟨b,rfl⟩,jC (.bool b),fun U UA hB=>hB.one _⟩
  ·rename_i k hu
   obtain⟨m,rfl,_,hw⟩:=DataW.trod_int hu h;exact⟨[.int k m],⟨m,rfl,hw⟩,jC (.int k m),fun U UA hB=>hB.one _⟩
  ·rename_i hu
   obtain⟨s,rfl,rfl,hs⟩:=DataW.trod_string hu h;refine⟨[.str s.data.toList],⟨_,rfl,?_⟩,jC ?_,fun U UA hB=>hB.str _⟩
   ·have h2:s.size<=9223372036854775807:=hs
    have e:s.data.toList.length=s.size:=by rw[Xt];rfl
    omega
   ·have:=PRep.str (w:=w) (Z:=Z) s.data.toList
    simpa using this
  ·rename_i e hu
   rw[hu] at hp;simp only[Zr,decide_eq_true_eq,List.contains_iff_mem,beq_iff_eq] at hp;obtain⟨⟨_,he⟩,h0⟩:=hp;rcases DataW.trod_slice hu h with⟨rfl,_⟩|⟨a,len,cap,elems,rest,m,hm,rfl,rfl,_,hlc,hcap,hlen,hel,hre,_⟩
   ·exact⟨[.list 0 none []],⟨[],by simp,by simp,by simp⟩,jC (.nil 0 none (by simp)),fun U UA hB=>hB.one _⟩
   ·obtain rfl:n=m:=by omega
    have hmax:cap<=9223372036854775807:=hcap;by_cases hc0:cap=0
    ·subst hc0
     obtain rfl:len=0:=by omega
     exact⟨[.list 0 none []],⟨[],by simp,by simp,by simp⟩,jC (.emp 0 none a (by simp)),fun U UA hB=>hB.one _⟩
    have read: ∀i,i<cap-> ∃cs' y,w.cells? 0 (a.add (i*P.cellsOf e)) (P.cellsOf e)=some cs'/\DataW.trod enc P w 0 (fun _=>true) true n e cs'=some y:=by
     intro i hi;rcases Y7 i len with hil|hil
     ·have:=hel i hil
      rw[Zf (by omega)] at this;obtain⟨cs',h1,h2⟩:=Zb.1 this;exact⟨cs',_,h1,h2⟩
     ·obtain⟨hr1,hr2⟩:=hre rfl
      have:=hr2 (i-len) (by omega);rw[Zf (by omega)] at this;obtain⟨cs',h1,h2⟩:=Zb.1 this;have hi2:len+(i-len)=i:=by omega
      rw[hi2] at h1;exact⟨cs',_,h1,h2⟩
    have hspot: ∃b o,a=⟨b,o,none⟩:=by
     obtain⟨cs',y,h1,_⟩:=read 0 (by omega);obtain⟨hl,hc⟩:=zb8 h1;have:=hc 0 h0;rw[Zf (by omega)] at this;have:=World.cell?_spot this;obtain⟨b,o,sp⟩:=a;simp[Addr.add] at this;subst this;exact⟨b,o,rfl⟩
    obtain⟨b,o,rfl⟩:=hspot;obtain⟨rows,hrl,hrows⟩:=zkt (α:=Unit) (R:=fun i r=>wE P n e r/\(∀(U:DataW H->Nat) (UA:List (DataW H)->Nat),Bulk U UA-> ∀y,elems[i]?=some y->C.bulkRow r<=U y.1)/\ ∃cs',(∀j,j<P.cellsOf e->w.cell? ⟨b,o+(i*P.cellsOf e+j),none⟩=cs'[j]?)/\yG w Z r cs') len (by
     intro i hi
     obtain⟨cs',y,h1,h2⟩:=read i (by omega)
     obtain⟨r,hs,hr,hb⟩:=trod_row hT hZ n e cs' y he h2
     refine⟨r,hs,fun U UA hB y' hy'=>?_,cs',fun j hj=>?_,hr⟩
     ·have:=hel i hi
      rw[h1,YG,h2,hy'] at this
      cases this
      exact hb U UA hB
     have:=(zb8 h1).2 j hj
     rw[qQ,qQ] at this
     rw[<-this,YK])
    have hb:b<w.heap.size:=by
     obtain⟨cs',y,h1,_⟩:=read 0 (by omega);obtain⟨hl,hc⟩:=zb8 h1;have:=hc 0 h0;rw[Zf (by omega)] at this;have:=World.block_lt_of_cell? w _ this;simpa [Addr.add] using this
    have hall: ∀r,r∈rows->r.length=P.cellsOf e:=by
     intro r hr;obtain⟨i,hi⟩:=XL hr;exact wE.len hT n e r he (hrows i r hi).1
    refine⟨[.list (if rows.isEmpty then 0 else P.cellsOf e) none rows],⟨rows,rfl,by omega,fun r hr=>?_⟩,jC ?_,fun U UA hB=>?_⟩
    ·obtain⟨i,hi⟩:=XL hr
     exact(hrows i r hi).1
    ·have hnil:rows≠[]->(if rows.isEmpty=true then 0 else P.cellsOf e)=P.cellsOf e:=by intro hne;cases rows<;>simp_all
     have key:=PRep.list (w:=w) (Z:=Z) b o cap (if rows.isEmpty=true then 0 else P.cellsOf e) none rows (fun i j=>(w.cell? ⟨b,o+(i*P.cellsOf e+j),none⟩).getD undef) (by simp) (by omega) hcap
      (fun _=>hZ _ hb) (fun r hr=>by rw[hnil (by rintro rfl;simp at hr)];exact hall r hr) (fun i j r c hr hc=>?_) (fun i j r c hr hc=>?_)
     ·rw[hrl] at key;exact key
     ·obtain⟨_,_,cs',h1,h2⟩:=hrows i r hr
      have hj:j<P.cellsOf e:=by rw[<-hall r (ZP hr)];exact(Zu.1 hc).1
      rw[hnil (by rintro rfl;simp at hr)];rw[h1 j hj,Zf (by rw[h2.1];exact(Zu.1 hc).1)];rfl
     ·obtain⟨_,_,cs',h1,h2⟩:=hrows i r hr
      have hj:j<P.cellsOf e:=by rw[<-hall r (ZP hr)];exact(Zu.1 hc).1
      have hj2:j<cs'.length:=by rw[h2.1];exact(Zu.1 hc).1
      have:=h1 j hj;rw[Zf hj2] at this;simp only[this,YZ];exact h2.2 j c _ hc (Zf hj2)
    ·have h1:=zkr hB rows (elems.map (·.1)) (by simp[hrl,hlen]) fun i r d hr hd=>by
      simp only[Zz,Zd] at hd;obtain⟨y,hy,rfl⟩:=hd;exact(hrows i r hr).2.1 U UA hB y hy
     have h2:=hB.slice (elems.map (·.1)) (rest.map (·.1));simp only[C.bulkRow,C.bulk];omega
  ·rename_i fs hu
   rw[hu] at hp;simp only[Zr,ZA,List.contains_iff_mem] at hp;obtain⟨xs,m,hm,rfl,hcl,hxl,hx⟩:=DataW.trod_struct hu h;obtain rfl:n=m:=by omega
   obtain⟨rs,h1,h2,h3⟩:=fields_row (enc:=enc) (fun t cs x=>trod_row hT hZ n t cs x) hcl fs.toList 0 xs hp.1 hp.2 (ZC _) (by simpa using hxl) (fun i f hf=>hx i f (by simpa using hf));exact⟨_,⟨rs,rfl,h1⟩,by simpa using h2,fun U UA hB=>ZX (h3 U UA hB) (hB.agg _)⟩
  ·rename_i h1 h2 h3 h4 h5
   exfalso
   revert hp
   split<;>simp_all
def rB (P:Program) (t:TypeId) (r:List C):V:=
 match P.underlying t with
 |some (.struct _)=> .agg r
 |_=>match r with|[c]=> .k (.c c)|_=> .any
def gJ (P:Program):List TypeId->List V->Prop
 |[],[]=>True
 |t::ts,v::vs=>(∃n r,wE P n t r/\v=rB P t r)/\gJ P ts vs
 |_,_=>False
theorem zku (hT:lG P T=true) {w:World} {Z:Bk->Prop} (hZ: ∀b,b.2<w.heap.size->Z b) {base:Nat}: ∀(ts:List TypeId) (vs:List Value) (ds:List (DataW H)) (ps:List MemPlace),(∀t∈ts,t∈T)->
  (∀(j:Nat) t v,ts[j]?=some t->vs[j]?=some v->Value.okWide P w .any base t v)->
  DataW.TrodAll enc P w 0 (fun _=>true) true ts vs ds ps-> ∃xs,gJ P ts xs/\vW w Z xs vs/\ ∀(U:DataW H->Nat) (UA:List (DataW H)->Nat),Bulk U UA->gH xs<=UA ds
 |[],[],[],_,_,_,_=>⟨[],trivial,⟨rfl,by simp⟩,fun _ _ _=>by simp[gH]⟩
 |t::ts,v::vs,d::ds,ps,hm,hok,⟨p,q,⟨n,h1⟩,h2,_⟩=>by
  obtain⟨r,hs,hr,hb⟩:=trod_row hT hZ n t _ _ (hm t (by simp)) h1;obtain⟨xs,hx,ha,hbs⟩:=zku hT hZ ts vs ds q (fun t ht=>hm t (by simp[ht])) (fun j t v h h'=>hok (j+1) t v (by simpa using h) (by simpa using h')) h2;have hv:=hok 0 t v rfl rfl;have key: ∃x,x=rB P t r/\x.isPure=true/\zK w Z (fun _=>none) (fun _=>none) x v/\x.bulk<=C.bulkRow r:=by
   have hp:=zb7 hT (hm t (by simp));unfold Value.okWide at hv;cases n with
   |zero=>exact hs.elim
   |succ n=>
   simp only[wE] at hs;have one: ∀c,r=[c]->(∀cs,v≠.agg cs)->(∀cs,v≠.tuple cs)->V.isPure (.k (.c c))=true/\zK w Z (fun _=>none) (fun _=>none) (.k (.c c)) v/\V.bulk (.k (.c c))<=C.bulkRow r:=by
    rintro c rfl hna hnt;have hc:v.cells= #[v]:=by cases v<;>simp[Value.cells]<;>(first|exact absurd rfl (hna _)|exact absurd rfl (hnt _))
    rw[hc] at hr;have:=hr.2 0 c v rfl rfl;exact⟨rfl,⟨this.oneCell,this⟩,by simp[V.bulk,C.bulkRow]⟩
   have nagg: ∀{d:TypeDesc},P.underlying t=some d->(∀fs,d≠.struct fs)->(∀n e,d≠.array n e)->(∀m,d≠.interface m)->(∀k e,d≠.map k e)->Cell.okWide P w .any base t v->True:=fun _ _ _ _ _ _=>trivial
   split at hs
   ·rename_i hu
    unfold rB;rw[hu] at hv⊢;obtain⟨b,rfl⟩:=hs;simp only[Cell.okWide,Cell.ok,hu] at hv;refine⟨_,rfl,one _ rfl ?_ ?_⟩<;>rintro cs rfl<;>simp at hv
   ·rename_i hu
    unfold rB;rw[hu] at hv⊢;obtain⟨b,rfl,_⟩:=hs;simp only[Cell.okWide,Cell.ok,hu] at hv;refine⟨_,rfl,one _ rfl ?_ ?_⟩<;>rintro cs rfl<;>simp at hv
   ·rename_i hu
    unfold rB;rw[hu] at hv⊢;obtain⟨b,rfl,_⟩:=hs;simp only[Cell.okWide,Cell.ok,hu] at hv;refine⟨_,rfl,one _ rfl ?_ ?_⟩<;>rintro cs rfl<;>simp at hv
   ·rename_i hu
    unfold rB;rw[hu] at hv⊢;obtain⟨b,rfl,_⟩:=hs;simp only[Cell.okWide,Cell.ok,hu] at hv;refine⟨_,rfl,one _ rfl ?_ ?_⟩<;>rintro cs rfl<;>simp at hv
   ·rename_i fs hu
    unfold rB;rw[hu] at hv⊢;obtain⟨cs,rfl,_⟩:=hv;exact⟨_,rfl,rfl,⟨cs,rfl,by simpa [Value.cells] using hr⟩,Zw _⟩
   ·exact hs.elim
  obtain⟨x,hx1,hx2,hx3,hx4⟩:=key;refine⟨x::xs,⟨⟨n,r,hs,hx1⟩,hx⟩,⟨by simp[ha.1],fun j y u hy hu=>?_⟩,fun U UA hB=>by
   have h1:C.bulkRow r<=U d:=hb U UA hB
   have h2:=hbs U UA hB
   simp only[gH,hB.cons]
   omega⟩
  cases j with
  |zero=>simp at hy hu;subst hy;subst hu;exact⟨hx2,hx3⟩
  |succ j=>exact ha.2 j y u (by simpa using hy) (by simpa using hu)
 |[],_::_,_,_,_,_,h=>by simp[DataW.TrodAll] at h
 |[],[],_::_,_,_,_,h=>by simp[DataW.TrodAll] at h
 |_::_,[],_,_,_,_,h=>by simp[DataW.TrodAll] at h
 |_::_,_::_,[],_,_,_,h=>by simp[DataW.TrodAll] at h
theorem zsm {w w':World} (h:wC w w') (may:MemPlace->Prop):w.keptBut w' may:=by
 refine⟨h.os,h.output,fun i hi=>?_⟩;rw[h.block i hi];have:=(World.keptBut_refl w may).2.2 i hi;exact this
theorem zkv {w w':World}: ∀{ts:List TypeId} {vs:List Value} {ds:List (DataW H)} {ps:List MemPlace},DataW.TrodAll enc P w 0 (fun _=>true) true ts vs ds ps->(∀p∈ps,w.sameAt w' p)->DataW.TrodAll enc P w' 0 (fun _=>true) true ts vs ds ps
 |[],[],[],_,h,_=>h
 |_::_,_::_,_::_,_,⟨p,q,⟨n,h1⟩,h2,e⟩,hs=>by
  subst e;exact⟨p,q,⟨n,DataW.trod_carry _ _ _ _ h1 (fun x hx=>hs x (List.mem_append_left _ hx))⟩,zkv h2 (fun x hx=>hs x (List.mem_append_right _ hx)),rfl⟩
 |[],_::_,_,_,h,_=>by simp[DataW.TrodAll] at h
 |[],[],_::_,_,h,_=>by simp[DataW.TrodAll] at h
 |_::_,[],_,_,h,_=>by simp[DataW.TrodAll] at h
 |_::_,_::_,[],_,h,_=>by simp[DataW.TrodAll] at h
theorem zkw {w:World}: ∀{ts:List TypeId} {vs:List Value} {ds:List (DataW H)} {ps:List MemPlace},DataW.TrodAll enc P w 0 (fun _=>true) true ts vs ds ps->ds.length=ts.length
 |[],[],[],_,_=>rfl
 |_::_,_::_,_::_,_,⟨_,_,_,h2,_⟩=>by simp[zkw h2]
 |[],_::_,_,_,h=>by simp[DataW.TrodAll] at h
 |[],[],_::_,_,h=>by simp[DataW.TrodAll] at h
 |_::_,[],_,_,h=>by simp[DataW.TrodAll] at h
 |_::_,_::_,[],_,h=>by simp[DataW.TrodAll] at h
theorem zsn {C:Checked} {f:FuncId} {fn:Func} {s:ChangeSpec} {apart fresh handsOn again:Bool} {tb:TypeId}
  (hT:lG C.prog T=true) (hTl: ∀t∈T,t<C.prog.types.size) (hpar: ∀t∈fn.params.toList,t∈T) (kids:Kids C.prog (· <C.prog.types.size))
  (full: ∀t e,t<C.prog.types.size->C.prog.underlying t=some (.slice e)->0<C.prog.cellsOf e)
  (hvars:s.vars=[]) (hs: ∀ds:List (DataW H),ds.length=fn.params.size->s.fn H ds={results:=[.lit (.bool true)],args:=ds})
  (hres:fn.resultTypes.toList=[tb]) (htb:C.prog.underlying tb=some .bool)
  (W:World) (base:Nat) (args:Array Value) (ds gs:List (DataW H)) (before:List MemPlace)
  {N:Nat} (spec: ∀xs,gJ C.prog fn.params.toList xs->((∃(U:DataW H->Nat) (UA:List (DataW H)->Nat),Bulk U UA/\UA (ds++gs)<=N)->gH xs<=N)->Spec C.prog f xs (fun r=>r=.bool true))
  (hval: ∀(j:Nat) t v,fn.params[j]?=some t->args[j]?=some v->Value.okWide C.prog W .any base t v)
  (hW:DataW.Whole enc C.prog fn.params.toList s.vars apart W args.toList ds gs before) (hG:yN (Go.Abs.base W)):
  Calls C.prog f args W fun e W'=> ∃v,e=.returned v/\s.post enc C.prog fn apart fresh handsOn again W args v W':=by
 have hW':=hW;obtain⟨p,q,hA,hV,rfl,hz,hn⟩:=hW;have hV0:=hV;rw[hvars] at hV;obtain⟨rfl,rfl⟩:gs=[]/\q=[]:=by
  cases gs with
  |nil=>exact⟨rfl,hV⟩
  |cons=>exact hV.elim
 simp only[Ze] at hW' hz hn;obtain⟨xs,hx,har,hbk⟩:=zku (Z:=fun b=>b.2<W.heap.size) hT (fun b h=>h) fn.params.toList args.toList ds p hpar (fun j t v h h'=>hval j t v (by simpa using h) (by simpa using h')) hA;refine((spec xs hx (fun⟨U,UA,hB,hle⟩=>ZX (hbk U UA hB) (by simpa using hle))).2 W _ args hG (fun b h=>h) har).mono ?_;rintro e W' ⟨v,r,rfl,rfl,_,hrep⟩;obtain⟨κ,hi⟩:=hrep 0;have hkept:wC W W':=hi.kept;have hv:v=.bool true:=by
  have:=hi.tmps 0;simp only[if_pos,V.reg] at this;have h2:PRep W' (Zof (Go.Abs.base W) _ κ (zZ 0 []) W') (.bool true) v:=this.2;cases h2;rfl
 subst hv;refine⟨_,rfl,?_⟩;have hsame: ∀p'∈p,W.sameAt W' p':=by
  intro p' hp';have hlt:=hA.lt p' hp';cases p' with
  |cell b off=>exact World.cell?_of_block (hkept.block b hlt)
  |map b=>exact hkept.block b hlt
 have again': ∀sp:Nat->Bool,(∀p'∈p,sp p'.block=true)->DataW.TrodAll enc C.prog W' 0 sp true fn.params.toList args.toList ds p:=by
  intro sp hsp;exact(zkv hA hsame).respare kids full (fun t ht=>hTl t (hpar t ht)) hsp
 have hlen:ds.length=fn.params.size:=by
  have:=zkw hA;simpa using this
 have hsf:=hs (ds++[]) (by simpa using hlen);have h1:fn.resultTypes.size=1:=by rw[<-Xt,hres];rfl
 have hold: ∀p'∈p,(fun b=>decide (b<W.heap.size)) p'.block=true:=fun p' hp'=>by simpa using hA.lt p' hp'
 have hrt: ∀(b:Nat) (sp:Nat->Bool) (hd:Bool),DataW.TrodAll enc C.prog W' b sp hd fn.resultTypes.toList ((Value.bool true).resultList fn.resultTypes.size) (s.fn H (ds++[])).results []:=by
  intro b sp hd;rw[hsf,hres,h1];exact trodAll_mk1 (shut_bool htb true)
 have hvt: ∀sp:Nat->Bool,DataW.TrodVars enc C.prog W' sp s.vars (s.fn H (ds++[])).vars []:=by
  intro sp;rw[hvars,hsf];rfl
 have hat: ∀sp:Nat->Bool,(∀p'∈p,sp p'.block=true)->DataW.TrodAll enc C.prog W' 0 sp true fn.params.toList args.toList (s.fn H (ds++[])).args p:=by
  intro sp hsp;rw[hsf];simpa using again' sp hsp
 refine⟨ds,[],p,[],p,[],hW',hrt _ _ _,hat _ hold,hvt _,zsm hkept _,fun _=>⟨?_,.lit (.bool true)::ds,[],p,?_,fun p' hp' _=>hp'⟩⟩
 ·intro j t r hj hv
  rw[h1] at hv;have hj':fn.resultTypes.toList[j]?=some t:=by simpa using hj
  rw[hres] at hj';cases j with
  |zero=>
   simp[Value.resultList] at hj' hv;subst hj';subst hv;exact okWide_bool_mk htb true
  |succ j=>simp at hj'
 ·refine⟨p,[],?_,by rw[hvars];rfl,by simp,fun b off hp'=>?_,fun ha=>by simpa using hn ha⟩
  ·rw[hres,h1]
   refine⟨[],p,shut_bool htb true,?_,by simp⟩;have:=again' (fun _=>true) (fun _ _=>rfl);simpa using this
  ·have hlt:=hA.lt _ hp'
   have:=hz b off hp';unfold World.frozen? at this⊢;have e:=hkept.block b hlt;simp only[] at this⊢;rw[e];exact this
theorem zso {C:Checked} {f:FuncId} {fn:Func} {s:ChangeSpec} {apart fresh handsOn again:Bool} {tb:TypeId}
  (hT:lG C.prog T=true) (hTl: ∀t∈T,t<C.prog.types.size) (hpar: ∀t∈fn.params.toList,t∈T) (kids:Kids C.prog (· <C.prog.types.size))
  (full: ∀t e,t<C.prog.types.size->C.prog.underlying t=some (.slice e)->0<C.prog.cellsOf e)
  (hvars:s.vars=[]) (hs: ∀ds:List (DataW H),ds.length=fn.params.size->s.fn H ds={results:=[.lit (.bool true)],args:=ds})
  (hres:fn.resultTypes.toList=[tb]) (htb:C.prog.underlying tb=some .bool)
  (spec: ∀xs,gJ C.prog fn.params.toList xs->Spec C.prog f xs (fun r=>r=.bool true))
  (W:World) (base:Nat) (args:Array Value) (ds gs:List (DataW H)) (before:List MemPlace)
  (hval: ∀(j:Nat) t v,fn.params[j]?=some t->args[j]?=some v->Value.okWide C.prog W .any base t v)
  (hW:DataW.Whole enc C.prog fn.params.toList s.vars apart W args.toList ds gs before) (hG:yN (Go.Abs.base W)):
  Calls C.prog f args W fun e W'=> ∃v,e=.returned v/\s.post enc C.prog fn apart fresh handsOn again W args v W':=
 zsn (N:=0) hT hTl hpar kids full hvars hs hres htb W base args ds gs before (fun xs hx _=>spec xs hx) hval hW hG
end
end Go.Abs
namespace Go.Abs
open Go.Proofs
def QtU:=PLift.up (by have h:=zkp (by conv=>lhs;simp only[Zk,Zp,xt,YZ,Tryz.type3,Tryz.t3,Tryz.type4,Tryz.t4,Tryz.type5,Tryz.t5,Tryz.type9,Tryz.t9,Tryz.type22,Tryz.t22,Tryz.type23,Tryz.t23,Tryz.type24,Tryz.t24,Tryz.type25,Tryz.t25,Tryz.type28,Tryz.t28,Tryz.type29,Tryz.t29,Tryz.type32,Tryz.t32,Tryz.type35,Tryz.t35,Tryz.type43,Tryz.t43,Tryz.type50,Tryz.t50,Tryz.type59,Tryz.t59,Tryz.type60,Tryz.t60,Tryz.type64,Tryz.t64,Tryz.type65,Tryz.t65,Tryz.type66,Tryz.t66,Tryz.type67,Tryz.t67,Tryz.type68,Tryz.t68,Tryz.type69,Tryz.t69,Tryz.type74,Tryz.t74,Tryz.type75,Tryz.t75,Tryz.type76,Tryz.t76,Tryz.type90,Tryz.t90,Tryz.type92,Tryz.t92,Tryz.type95,Tryz.t95,Tryz.type96,Tryz.t96,Tryz.type114,Tryz.t114,Tryz.type115,Tryz.t115,Tryz.type116,Tryz.t116,Tryz.type117,Tryz.t117,Tryz.type130,Tryz.t130,Tryz.type131,Tryz.t131,Tryz.type136,Tryz.t136,Tryz.type154,Tryz.t154,Tryz.type155,Tryz.t155,Tryz.type195,Tryz.t195,Tryz.type198,Tryz.t198,Tryz.type228,Tryz.t228,Tryz.type249,Tryz.t249,Tryz.type250,Tryz.t250,Tryz.type263,Tryz.t263,Tryz.type264,Tryz.t264,Tryz.type265,Tryz.t265,Tryz.type266,Tryz.t266,Tryz.type267,Tryz.t267,Tryz.type268,Tryz.t268,Tryz.type269,Tryz.t269,Tryz.type270,Tryz.t270,Tryz.type271,Tryz.t271,Tryz.type272,Tryz.t272]:[3,4,5,9,22,23,24,25,28,29,32,35,43,50,59,60,64,65,66,67,68,69,74,75,76,90,92,95,96,114,115,116,117,130,131,136,154,155,195,198,228,249,250,263,264,265,266,267,268,269,270,271,272].map (xt Tryz.prog)=_);simp only[zb6,and_true] at h;exact h)
theorem Qt:type_of% QtU.1:=QtU.1
end Go.Abs
