/- A part of the proof; the last text states what is proved. -/
import Derived.Test.YtcglilececjppaaGreatDoorP3
import Derived.Test.YtcglilececjppaaGreatDoorProg
import Derived.Shelf.SlSortCmp.NoneTotal
import Derived.Shelf.SlicesG.Cmp
import Derived.Below
import Derived.WalkKit
import Derived.Deep.LoopGhost
import Derived.Lib.SlicesCompact
import Derived.Shelf.Slices.CompactS
import Derived.Sort.Walk0
import Derived.Deep.RegionHeld3
import Derived.Shelf.SlicesE.Kit
import Derived.Shelf.SlicesQ.Reverse
import Derived.Shelf.SlSortFuncK.RowK2
import Derived.Shelf.SlSortCmp.InsertionK
import Derived.Laws.StructEq
import Derived.Shelf.RegionOpenPlain
import Derived.Shelf.Strconv.Itoa3
import Derived.Lib.ItoaLen
import Derived.Maps.AppendAt
import Derived.Maps.OwnIn
set_option linter.unusedVariables false
set_option linter.unusedSimpArgs false
set_option maxRecDepth 100000
set_option maxHeartbeats 8000000
open Array renaming eq_empty_of_size_eq_zero → YM,ext' → XQ,getD_eq_getD_getElem? → ZW,getElem?_append_left → Y2,getElem?_eq_getElem → Ya,getElem?_eq_some_iff → Zs,getElem?_modify → Y1,getElem?_setIfInBounds → Yi,getElem?_toList → Yu,replicate_succ → YI,replicate_zero → YH
open BitVec renaming ofInt → Yn,toNat_ofNat → XI
open Bool renaming and_eq_true → Zr,and_false → YW,eq_iff_iff → Yw,false_and → Z4,false_eq_true → Z1,false_or → YC,not_eq_true' → Xn,or_eq_true → Yp,or_false → XM,true_and → ZU,true_or → XC
open Eq renaming refl → ZG,trans → ZI
open Exists renaming intro → Yc
open Iff renaming rfl → Xp
open Int renaming cast_ofNat_Int → YY,natCast_mul → YB,reduceBNe → Xa,reduceLE → YQ,reduceNeg → ZN,toNat_natCast → Ym
open List renaming all_eq_false → YP,all_eq_true → ZA,any_eq_true → Yt,append_assoc → Z3,append_nil → Ze,append_toArray → YO,cons_append → ZQ,contains_cons → Xl,contains_nil → XS,drop_eq_getElem_cons → ZE,drop_eq_nil_of_le → ZB,eq_nil_of_length_eq_zero → Yg,ext_getElem → Xg,filter_append → Xw,flatMap_cons → XR,flatten_cons → Yy,foldl_append → Xz,getD_eq_getElem?_getD → Zi,getElem?_eq_getElem → Zf,getElem?_eq_some_iff → Zu,getElem?_map → Zz,getElem?_toArray → Y3,getElem_mem → Zv,getElem_of_mem → YN,length_append → Zq,length_cons → Zo,length_drop → XV,length_filter_le → Yq,length_map → Zg,length_nil → ZF,length_pos_iff → Ye,length_take → Yl,map_append → ZS,map_congr_left → Xj,map_cons → Zk,map_map → Xm,map_nil → Zp,mem_append → Yo,mem_cons → ZJ,mem_cons_of_mem → Zy,mem_cons_self → Yj,mem_filter → Yh,mem_flatten → XA,mem_map → ZH,mem_of_mem_take → Xf,mem_range → Z2,mem_singleton → ZT,nil_append → Yd,nodup_cons → ZK,not_mem_nil → Zt,pairwise_cons → Xc,push_toArray → YS,range_succ → Xk,setIfInBounds_toArray → ZV,set_append_right → Xr,set_cons_succ → Yb,set_cons_zero → Z8,size_toArray → Yx,take_length → Yk,take_of_length_le → Z7,take_succ_eq_append_getElem → ZD
open List.Pairwise renaming filter → XT,nil → Xx
open List.Perm renaming refl → XB
open Nat renaming add_assoc → YK,add_mul → YD,add_zero → Yf,div_le_self → Xv,eq_of_mul_eq_mul_right → XF,le_refl → Zw,le_trans → ZX,lt_of_lt_of_le → ZO,lt_or_ge → Y7,min_eq_left → YV,mod_eq_of_lt → XH,mod_lt → XE,mul_le_mul → Xh,mul_le_mul_right → ZZ,mul_one → Yv,one_mul → Xs,one_shiftLeft → XW,pow_le_pow_right → Ys,reduceAdd → Zc,reduceBEq → Za,reduceEqDiff → Zn,reduceLT → Z5,reduceLeDiff → Zl,reduceMul → Z9,reduceSub → Y9,sub_self → Xi,sub_zero → XG,succ_mul → YL,zero_add → ZY,zero_le → ZC,zero_testBit → Xb
open Option renaming bind_some → YG,getD_some → YZ,isSome_none → YT,map_eq_some_iff → Zd,map_some → YA
open Option.some renaming inj → Yr
namespace Go.Ex
open Go.Lib Go.Wd Go.Wire Go.Abs
def rdE (d:Dcm) (i:Int):Int:=if (cntD d).2≠0 then(cntD d).2 else if i<0\/i>=(cntD d).1 then 4 else 0
def zva:Pln:=⟨[],[],[]⟩
def rdR (d:Dcm) (i:Int):Pln:=if rdE d i=0 then rdD d i.toNat else zva
theorem zcP {s:Txt} (h:yX s=true):s.length<=20:=by
 unfold yX at h;rw[Zr,Zr,decide_eq_true_eq,decide_eq_true_eq] at h;exact h.2.1
theorem znH {d:Dcm} (hd:DcmS d) (h:docE d=0): ∀f∈d.flds,∀w∈f.words,∀s∈w,s.length<=20:=by
 intro f hf w hw s hs;obtain⟨k,hk,rfl⟩:=YN hf;have hr:=uZ hd h;obtain⟨_,_,_,h4⟩:=gP hk (hd.fl _ hf) (hr.fe k hk);exact zcP (ZA.1 (bF (h4 w hw)).2.2.1 s hs)
theorem lM {d:Dcm} (h:(cntD d).2=0):docE d=0:=by
 unfold cntD at h;split at h
 ·assumption
 ·rename_i h2;exact absurd h h2
end Go.Ex
namespace Go.Proofs
open Go.RowKit Go.Shelf Go.Abs Go.Wd Go.Wire Go.Ex
attribute [local go_sem] Oper.semAt_some
theorem zcQ {W:World} {b4:Nat} {a0 a1 a2 v0 v1 v2:Value} (q:W.heap[b4]?=some (.cells #[a0,a1,a2] 155 (0,0))):(((W.setCell ⟨b4,0,none⟩ v0).setCell ⟨b4,1,none⟩ v1).setCell ⟨b4,2,none⟩ v2).heap[b4]?=some (.cells #[v0,v1,v2] 155 (0,0)):=by
 have w1':=tG W b4 0 _ 155 (0,0) v0 q;have w2':=tG _ b4 1 _ 155 (0,0) v1 w1';exact tG _ b4 2 _ 155 (0,0) v2 w2'
theorem zvb (d:Dcm) (hd:DcmS d) (i:Int) (w:World) (hG:yN (base w)) (p:Option Addr) (cap b o:Nat) (fv:Nat->Value×Value) (hf:FldAt w d.flds p b o fv)
  (h77: ∀W,Below w.heap.size w W->Calls Tryz.prog 181 #[.agg #[.string ⟨d.kind.toArray⟩,.slice p d.flds.length cap]] W fun e W'=>e=.returned (.tuple #[.int .i64 (cntD d).1,.int .i64 (cntD d).2])/\Below W.heap.size W W'):
  Calls Tryz.prog 182 #[.agg #[.string ⟨d.kind.toArray⟩,.slice p d.flds.length cap],.int .i64 i] w fun e w'=>(rdE d i≠0/\e=.returned (.tuple #[.agg #[.string ⟨#[]⟩,.slice none 0 0,.slice none 0 0],.int .i64 (rdE d i)])/\Below w.heap.size w w')\/
   (rdE d i=0/\ ∃gn gt,e=.returned (.tuple #[.agg #[.string ⟨d.kind.toArray⟩,.slice (some ⟨gn,0,none⟩) d.flds.length d.flds.length,.slice (some ⟨gt,0,none⟩) d.flds.length d.flds.length],.int .i64 0])/\Below w.heap.size w w'/\
    w.heap.size<=gn/\w.heap.size<=gt/\(∃c,w'.heap[gn]?=some (.cells c 9 (0,0)))/\(∃c,w'.heap[gt]?=some (.cells c 9 (0,0)))/\(∀j,j<d.flds.length->w'.cell? ⟨gn,j,none⟩=some (tV (d.flds.getD j zY).name)/\w'.cell? ⟨gt,j,none⟩=some (tV ((vC d.flds i.toNat).1.getD j [])))):=by
 refine(callsIn_wide (n:=8)).1 ?_;have hn1:1<=8:=by decide
 have hB0: ∀a b c,Below w.heap.size w (((w.alloc a).alloc b).alloc c):=fun a b c=>(((Below.refl _ w).alloc (Zw _) _).alloc (by simp) _).alloc (by simp;omega) _
 have hcr:=bI (d:=d);obtain⟨cn,hcn⟩: ∃cn,(cntD d).1=cn:=⟨_,rfl⟩;obtain⟨ce,hce⟩: ∃ce,(cntD d).2=ce:=⟨_,rfl⟩;rw[hcn] at hcr;rw[hcn,hce] at h77;have hE:rdE d i=if ce≠0 then ce else if i<0\/i>=cn then 4 else 0:=by unfold rdE;rw[hcn,hce]
 by_cases h0:ce=0
 ·subst h0
  rw[if_neg (by simp)] at hE;by_cases hi0:i<0
  ·rw[if_pos (.inl hi0)] at hE
   rw[hE];refine callsIn_of_wp_marks Tryz.func182 rfl trivial ?_;simp only[Tryz.ntmps182,Yx,Zo,ZF,Zc,Y9,YI,YH,YS,YO,Yd,ZQ]
   gi_wp2_with (refine⟨trivial,?_⟩;gi_at_call 181;refine(callsIn_wide.2 (h77 _ (hB0 _ _ _))).mono ?_;rintro e w1 ⟨rfl,hb1⟩;have q2:=(hb1.block w.heap.size (by simp only[World.size_alloc];omega)).trans (wT w _ _ _).1;have q3:=(hb1.block (w.heap.size+1) (by simp only[World.size_alloc];omega)).trans (wT w _ _ _).2.1;have q4:=(hb1.block (w.heap.size+1+1) (by simp only[World.size_alloc];omega)).trans (wT w _ _ _).2.2;obtain⟨c20,c21⟩:=pA q2;have c30:=sR q3;obtain⟨c40,c41,c42⟩:=sG q4;have e7: ∀j,w1.frozen? ⟨w.heap.size+1+1,j,none⟩=false:=(fun j=>by simp[World.frozen?,q4]);have e8:=e7 0;have e9:=e7 1;have e10:=e7 2;have hB1:=(hB0 (.cells #[.string ⟨d.kind.toArray⟩,.slice p d.flds.length cap] 69) (.cells #[.int .i64 i] 3) (.cells #[.string ⟨#[]⟩,.slice none 0 0,.slice none 0 0] 155)).trans (hb1.mono (hB0 _ _ _).size))
   refine⟨_,lL rfl _ _ rfl (zcQ q4) Tryz.underlying155 (by kernel_rfl),.inl ⟨by decide,rfl,((hB1.setCell (p:=⟨w.heap.size+1+1,0,none⟩) (show w.heap.size<=w.heap.size+1+1 by omega) _).setCell (p:=⟨w.heap.size+1+1,1,none⟩) (show w.heap.size<=w.heap.size+1+1 by omega) _).setCell (p:=⟨w.heap.size+1+1,2,none⟩) (show w.heap.size<=w.heap.size+1+1 by omega) _⟩⟩
  by_cases hi1:i>=cn
  ·rw[if_pos (.inr hi1)] at hE
   rw[hE];refine callsIn_of_wp_marks Tryz.func182 rfl trivial ?_;simp only[Tryz.ntmps182,Yx,Zo,ZF,Zc,Y9,YI,YH,YS,YO,Yd,ZQ]
   gi_wp2_with (refine⟨trivial,?_⟩;gi_at_call 181;refine(callsIn_wide.2 (h77 _ (hB0 _ _ _))).mono ?_;rintro e w1 ⟨rfl,hb1⟩;have q2:=(hb1.block w.heap.size (by simp only[World.size_alloc];omega)).trans (wT w _ _ _).1;have q3:=(hb1.block (w.heap.size+1) (by simp only[World.size_alloc];omega)).trans (wT w _ _ _).2.1;have q4:=(hb1.block (w.heap.size+1+1) (by simp only[World.size_alloc];omega)).trans (wT w _ _ _).2.2;obtain⟨c20,c21⟩:=pA q2;have c30:=sR q3;obtain⟨c40,c41,c42⟩:=sG q4;have e7: ∀j,w1.frozen? ⟨w.heap.size+1+1,j,none⟩=false:=(fun j=>by simp[World.frozen?,q4]);have e8:=e7 0;have e9:=e7 1;have e10:=e7 2;have hB1:=(hB0 (.cells #[.string ⟨d.kind.toArray⟩,.slice p d.flds.length cap] 69) (.cells #[.int .i64 i] 3) (.cells #[.string ⟨#[]⟩,.slice none 0 0,.slice none 0 0] 155)).trans (hb1.mono (hB0 _ _ _).size))
   refine⟨_,lL rfl _ _ rfl (zcQ q4) Tryz.underlying155 (by kernel_rfl),.inl ⟨by decide,rfl,((hB1.setCell (p:=⟨w.heap.size+1+1,0,none⟩) (show w.heap.size<=w.heap.size+1+1 by omega) _).setCell (p:=⟨w.heap.size+1+1,1,none⟩) (show w.heap.size<=w.heap.size+1+1 by omega) _).setCell (p:=⟨w.heap.size+1+1,2,none⟩) (show w.heap.size<=w.heap.size+1+1 by omega) _⟩⟩
  rw[if_neg (by omega)] at hE;rw[hE];have hR:DcmR d:=uZ hd (lM hce);have hsw: ∀f∈d.flds,∀w∈f.words,∀s∈w,s.length<=100:=fun f hf w hw s hs=>ZX (znH hd (lM hce) f hf w hw s hs) (by decide)
  have hnf:=hR.fs;obtain⟨m,rfl⟩: ∃m:Nat,i=m:=⟨i.toNat,by omega⟩;obtain⟨pf,hf'⟩:=zu1 hf;have ht:((m:Int)).toNat=m:=by simp
  rw[ht];refine CallsIn.mono (R:=fun e w'=> ∃gn gt,e=.returned (.tuple #[.agg #[.string ⟨d.kind.toArray⟩,.slice (some ⟨gn,0,none⟩) d.flds.length d.flds.length,.slice (some ⟨gt,0,none⟩) d.flds.length d.flds.length],.int .i64 0])/\Below w.heap.size w w'/\
    w.heap.size<=gn/\w.heap.size<=gt/\(∃c,w'.heap[gn]?=some (.cells c 9 (0,0)))/\(∃c,w'.heap[gt]?=some (.cells c 9 (0,0)))/\(∀j,j<d.flds.length->w'.cell? ⟨gn,j,none⟩=some (tV (d.flds.getD j zY).name)/\w'.cell? ⟨gt,j,none⟩=some (tV ((vC d.flds m).1.getD j [])))) ?_ fun e w' h=> .inr ⟨rfl,h⟩
  refine callsIn_of_wp_marks Tryz.func182 rfl trivial ?_;simp only[Tryz.ntmps182,Yx,Zo,ZF,Zc,Y9,YI,YH,YS,YO,Yd,ZQ]
  gi_wp2_with (refine⟨trivial,?_⟩;gi_at_call 181;refine(callsIn_wide.2 (h77 _ (hB0 _ _ _))).mono ?_;rintro e w1 ⟨rfl,hb1⟩;have q2:=(hb1.block w.heap.size (by simp only[World.size_alloc];omega)).trans (wT w _ _ _).1;have q3:=(hb1.block (w.heap.size+1) (by simp only[World.size_alloc];omega)).trans (wT w _ _ _).2.1;have q4:=(hb1.block (w.heap.size+1+1) (by simp only[World.size_alloc];omega)).trans (wT w _ _ _).2.2;obtain⟨c20,c21⟩:=pA q2;have c30:=sR q3;obtain⟨c40,c41,c42⟩:=sG q4;have e7: ∀j,w1.frozen? ⟨w.heap.size+1+1,j,none⟩=false:=(fun j=>by simp[World.frozen?,q4]);have e8:=e7 0;have e9:=e7 1;have e10:=e7 2;have hB1:=(hB0 (.cells #[.string ⟨d.kind.toArray⟩,.slice p d.flds.length cap] 69) (.cells #[.int .i64 (m:Int)] 3) (.cells #[.string ⟨#[]⟩,.slice none 0 0,.slice none 0 0] 155)).trans (hb1.mono (hB0 _ _ _).size))
  refine zu3 d.kind p d.flds.length cap m w.heap.size (w.heap.size+1) (w.heap.size+1+1) cn (by omega) _ _ _ _ _ _ _ _ _ _ _ _ _ _ _ _ _ _ w1 q2 _ ?_ _ rfl;intro gn gt b8 u31 u32 u33 u34 u35 u36 u37 u38 u39 u40 u41 W n1 n2 n3 l1 l2 l3 g1 g2 g3 hbW;have hs1:w.heap.size+1+1<w1.heap.size:=(Zs.1 q4).1;refine(‹∀(a:Act) (w:World),Code.wpIn Fence.wide 8 Tryz.prog _ _ a w->_›) _ _ ?_;exact zu9 d hR hsw m (by omega) cn w hG p cap b o pf hf' w.heap.size (w.heap.size+1) (w.heap.size+1+1) b8 gn gt W (by omega) (by omega) (by omega) (by omega) (by omega) (by omega) n1 n2 n3 (by omega) (by omega) (by omega) (by omega) (by omega) (by omega) (by omega) (by omega) (by omega)
   ((hbW.block _ (by omega)).trans q2) ((hbW.block _ (by omega)).trans q3) ((hbW.block _ (by omega)).trans q4) g3 g1 g2 (hB1.trans (hbW.mono hB1.size)) _ _ _ _ _ _ _ _ _ _ _ _ _ _ _ _ _ _ _ _ _ _ _ _ _ _ _ _ _
 ·rw[if_pos h0] at hE
  rw[hE];have h0':(ce==0)=false:=by simp[h0]
  have h0n:(ce !=0)=true:=by simp[h0]
  refine callsIn_of_wp_marks Tryz.func182 rfl trivial ?_;simp only[Tryz.ntmps182,Yx,Zo,ZF,Zc,Y9,YI,YH,YS,YO,Yd,ZQ]
  gi_wp2_with (refine⟨trivial,?_⟩;gi_at_call 181;refine(callsIn_wide.2 (h77 _ (hB0 _ _ _))).mono ?_;rintro e w1 ⟨rfl,hb1⟩;have q2:=(hb1.block w.heap.size (by simp only[World.size_alloc];omega)).trans (wT w _ _ _).1;have q3:=(hb1.block (w.heap.size+1) (by simp only[World.size_alloc];omega)).trans (wT w _ _ _).2.1;have q4:=(hb1.block (w.heap.size+1+1) (by simp only[World.size_alloc];omega)).trans (wT w _ _ _).2.2;obtain⟨c20,c21⟩:=pA q2;have c30:=sR q3;obtain⟨c40,c41,c42⟩:=sG q4;have e7: ∀j,w1.frozen? ⟨w.heap.size+1+1,j,none⟩=false:=(fun j=>by simp[World.frozen?,q4]);have e8:=e7 0;have e9:=e7 1;have e10:=e7 2;have hB1:=(hB0 (.cells #[.string ⟨d.kind.toArray⟩,.slice p d.flds.length cap] 69) (.cells #[.int .i64 i] 3) (.cells #[.string ⟨#[]⟩,.slice none 0 0,.slice none 0 0] 155)).trans (hb1.mono (hB0 _ _ _).size))
  refine⟨_,lL rfl _ _ rfl (zcQ q4) Tryz.underlying155 (by kernel_rfl),.inl ⟨h0,rfl,((hB1.setCell (p:=⟨w.heap.size+1+1,0,none⟩) (show w.heap.size<=w.heap.size+1+1 by omega) _).setCell (p:=⟨w.heap.size+1+1,1,none⟩) (show w.heap.size<=w.heap.size+1+1 by omega) _).setCell (p:=⟨w.heap.size+1+1,2,none⟩) (show w.heap.size<=w.heap.size+1+1 by omega) _⟩⟩
end Go.Proofs
namespace Go.Abs
open Go.Proofs Go.RowKit Go.Lib Go.Wd Go.Wire Go.Ex
theorem zcR {w w':World} {Z:Bk->Prop} {r:V} {v:Value} (hG:yN (base w)) (hk:wC w w') (hr: ∀n,r.reg n=(r,[])) (hp:zK w' (fun b=>w.heap.size<=b.2/\b.2<w'.heap.size/\sW w' b.2) (fun _=>none) (fun _=>none) r v) (hn: ∀τ,r.noRef τ=true):qK (base w) Z r v w':=by
 intro n;have e0:(zZ n (r.reg n).2:Nat->Option O)=fun _=>none:=by
  funext τ;rw[hr];simp[zZ]
 rw[e0,hr];refine⟨fun _=>none,hk,hG,fun τ b h=>absurd rfl h,fun τ τ' b h=>absurd rfl h,fun τ ob h=>(by cases h),fun s=>?_⟩;by_cases hs:s=0
 ·subst hs
  exact zK.mono (fun _ _=>rfl) (fun b hb=>⟨.inr ⟨by have:=hb.1;simp;omega,hb.2.2⟩,hb.2.1,fun τ h=>absurd rfl h⟩) (τs:=fun _=>False) (fun τ hτ=>hτ.elim) (fun τ hτ=>absurd (show r.noRef τ=false from hτ) (by rw[hn τ];simp)) hp
 ·simp only[hs,if_false];trivial
theorem Spec.int2C {P:Program} {f:FuncId} {xs:List V} {k k':IntKind} {n m:Int} (h:Spec P f xs (fun r'=>r'=.tup [.int k n,.int k' m])) {W:World} (hG:yN (base W)) {Z:Bk->Prop} (hz: ∀b,Z b->b.2<W.heap.size) {vs:Array Value} (ha:vW W Z xs vs.toList):
  Calls P f vs W fun e W'=>e=.returned (.tuple #[.int k n,.int k' m])/\Below W.heap.size W W':=by
 refine(h.2 W Z vs hG hz ha).mono ?_;rintro e w' ⟨v,r',rfl,rfl,_,hrep⟩;obtain⟨κ,hi⟩:=hrep 0;have h0:=hi.tmps 0;obtain⟨us,hu,hl,hv⟩:=h0;have hu':v=.tuple us:=hu;subst hu';obtain⟨l⟩:=us
 match l,hl,hv with
 |[x,y],_,hv=>
  have h1:=vK hv.1.2;have h2:=vK hv.2.1.2;subst h1 h2;exact⟨rfl,cZ hi.kept⟩
theorem znI {w:World} {Z:Bk->Prop} {L:List Txt} {g:Nat} (hZ:Z (1,g)) (h2:L.length<=maxLen) (hc: ∀j,j<L.length->w.cell? ⟨g,j,none⟩=some (tV (L.getD j []))):
  PRep w Z (zB 1 (zF L)) (.slice (some ⟨g,0,none⟩) L.length L.length):=by
 by_cases h0:L=[]
 ·subst h0
  exact .emp 0 none ⟨g,0,none⟩ (by simp)
 have e:zB 1 (zF L)=.list 1 none (zF L):=by
  unfold zB;rw[if_neg];cases L with|nil=>exact absurd rfl h0|cons a L=>simp[zF]
 have e2:L.length=(zF L).length:=(zS L).symm;have hat: ∀(i j:Nat) r c,(zF L)[i]?=some r->r[j]?=some c->j=0/\ ∃s,L[i]?=some s/\c=.str s:=fun i j r c hr hc=>by
  rw[zF,Zz] at hr;cases hs:L[i]? with
  |none=>rw[hs] at hr;cases hr
  |some s=>
   rw[hs] at hr;cases hr;cases j with
   |zero=>cases hc;exact⟨rfl,s,rfl,rfl⟩
   |succ j=>simp at hc
 rw[e];have key:PRep w Z (.list 1 none (zF L)) (.slice (some ⟨g,0,none⟩) (zF L).length L.length):=by
  refine .list g 0 L.length 1 none (zF L) (fun i _=>tV (L.getD i [])) (by simp) (by rw[zS];exact Zw _) h2 (fun _=>hZ) (fun r hr=>by obtain⟨s,_,rfl⟩:=ZH.1 hr;rfl) (fun i j r c hr hcj=>?_) fun i j r c hr hcj=>?_
  ·obtain⟨rfl,s,hs,rfl⟩:=hat i j r c hr hcj
   rw[Yv,Yf,ZY];exact hc i (Zu.1 hs).1
  ·obtain⟨rfl,s,hs,rfl⟩:=hat i j r c hr hcj
   have:L.getD i []=s:=by simp[List.getD,hs]
   rw[this];exact .str s
 rw[zS] at key;exact key
theorem c78 (d:Dcm) (hd:DcmS d) (i:Int):Spec Tryz.prog 182 [.agg (zJ d),.int .i64 i] (fun v=>v=.tup [.agg (xT (rdR d i)),.int .i64 (rdE d i)]):=by
 refine⟨vN (by kernel_rfl),fun w Z vs hG hz ha=>?_⟩;obtain⟨vl⟩:=vs
 match vl,ha with
 |[],ha=>exact absurd ha.1 (by simp)
 |[_],ha=>exact absurd ha.1 (by simp)
 |_::_::_::_,ha=>exact absurd ha.1 (by simp)
 |[v,v2],ha=>
  have e2:=vK (ha.2 1 _ v2 rfl rfl).2.2;subst e2;obtain⟨us,rfl,hrow⟩:=(ha.2 0 _ v rfl rfl).2;obtain⟨ul⟩:=us
  match ul,hrow with
  |[],hrow=>exact absurd hrow.1 (by simp[zJ])
  |[_],hrow=>exact absurd hrow.1 (by simp[zJ])
  |_::_::_::_,hrow=>exact absurd hrow.1 (by simp[zJ])
  |[u0,u1],hrow=>
   have e0:=vX (hrow.2 0 (.str d.kind) u0 rfl rfl);subst e0;have h1:PRep w Z (zB 2 (d.flds.map zP)) u1:=hrow.2 1 _ u1 rfl rfl;obtain⟨p,cap,b,o,fv,rfl,hf⟩:=zcM hz h1;have hrow':yG w (zV w) (zJ d) [.string ⟨d.kind.toArray⟩,.slice p d.flds.length cap]:=⟨hrow.1,fun j c v hc hv=>oK hz (hrow.2 j c v hc hv)⟩;refine(zvb d hd i w hG p cap b o fv hf fun W hb=>(c77 d hd).int2C (hG.later (xM hb)) (Z:=zV W) (fun _ h=>h) (qZ (oP hrow' hb) (yY _ _))).mono ?_;rintro e w' (⟨h0,rfl,hb⟩|⟨h0,gn,gt,rfl,hb,l1,l2,⟨cN,k1⟩,⟨cT,k2⟩,hc⟩)
   ·refine⟨_,_,rfl,rfl,fun _=>rfl,nV hG (xM hb) (fun _=>rfl) fun Z=>⟨_,rfl,rfl,⟨_,rfl,?_⟩,⟨rfl,.int _ _⟩,trivial⟩⟩
    unfold rdR;rw[if_neg h0];refine⟨rfl,fun j c v hc hv=>?_⟩
    match j with
    |0=>cases hc;cases hv;exact .str _
    |1=>cases hc;cases hv;exact .nil 0 none (by simp)
    |2=>cases hc;cases hv;exact .nil 0 none (by simp)
    |j+3=>simp[xT] at hc
   ·have hR:=uZ hd (lM (d:=d) (by by_cases h:(cntD d).2=0;exact h;unfold rdE at h0;rw[if_pos h] at h0;exact h0))
    have hnf:=hR.fs;have ht:=znD d.flds i.toNat;have sN:sW w' gn:=fun cur e f h=>by rw[k1] at h;cases h;rfl
    have sT:sW w' gt:=fun cur e f h=>by rw[k2] at h;cases h;rfl
    have zN:=(Zs.1 k1).1;have zT:=(Zs.1 k2).1;have hm:d.flds.length<=maxLen:=by unfold maxLen;omega
    refine⟨_,_,rfl,rfl,fun _=>rfl,zcR hG (xM hb) (fun _=>rfl) ⟨_,rfl,rfl,⟨_,rfl,?_⟩,⟨rfl,by rw[h0];exact .int _ _⟩,trivial⟩ (fun _=>rfl)⟩;unfold rdR;rw[if_pos h0];refine⟨rfl,fun j c v hc' hv=>?_⟩
    match j with
    |0=>cases hc';cases hv;exact .str _
    |1=>
     cases hc';cases hv;have:=znI (w:=w') (Z:=fun b=>w.heap.size<=b.2/\b.2<w'.heap.size/\sW w' b.2) (L:=d.flds.map Fld.name) (g:=gn) ⟨l1,zN,sN⟩ (by simp;exact hm) (fun j hj=>by
      rw[Zg] at hj
      have:=(hc j hj).1
      rw[this]
      simp[List.getD,hj])
     rw[Zg] at this;exact this
    |2=>
     cases hc';cases hv;have:=znI (w:=w') (Z:=fun b=>w.heap.size<=b.2/\b.2<w'.heap.size/\sW w' b.2) (L:=(vC d.flds i.toNat).1) (g:=gt) ⟨l2,zT,sT⟩ (by rw[ht];exact hm) (fun j hj=>by
      rw[ht] at hj
      exact(hc j hj).2)
     rw[ht] at this;exact this
    |j+3=>simp[xT] at hc'
end Go.Abs
namespace Go.Proofs
open Go.RowKit Go.Abs Go.Wd Go.Wire Go.Ex
theorem Tryz.m165demand (us:Array Value) (w:World):(method 428 266 (.agg us) "allonge/require.demand").run Tryz.prog w=.ok (308,.agg us) w:=by kernel_rfl
theorem Tryz.m165met (us:Array Value) (w:World):(method 428 266 (.agg us) "allonge/require.met").run Tryz.prog w=.ok (309,.agg us) w:=by kernel_rfl
theorem Tryz.m165named (us:Array Value) (w:World):(method 428 266 (.agg us) "allonge/require.named").run Tryz.prog w=.ok (310,.agg us) w:=by kernel_rfl
theorem Tryz.m165words (us:Array Value) (w:World):(method 428 266 (.agg us) "allonge/require.words").run Tryz.prog w=.ok (311,.agg us) w:=by kernel_rfl
theorem Tryz.m167demand (us:Array Value) (w:World):(method 428 268 (.agg us) "allonge/require.demand").run Tryz.prog w=.ok (316,.agg us) w:=by kernel_rfl
theorem Tryz.m167met (us:Array Value) (w:World):(method 428 268 (.agg us) "allonge/require.met").run Tryz.prog w=.ok (317,.agg us) w:=by kernel_rfl
theorem Tryz.m167named (us:Array Value) (w:World):(method 428 268 (.agg us) "allonge/require.named").run Tryz.prog w=.ok (318,.agg us) w:=by kernel_rfl
theorem Tryz.m167words (us:Array Value) (w:World):(method 428 268 (.agg us) "allonge/require.words").run Tryz.prog w=.ok (319,.agg us) w:=by kernel_rfl
theorem Tryz.m169demand (us:Array Value) (w:World):(method 428 270 (.agg us) "allonge/require.demand").run Tryz.prog w=.ok (326,.agg us) w:=by kernel_rfl
theorem Tryz.m169met (us:Array Value) (w:World):(method 428 270 (.agg us) "allonge/require.met").run Tryz.prog w=.ok (327,.agg us) w:=by kernel_rfl
theorem Tryz.m169named (us:Array Value) (w:World):(method 428 270 (.agg us) "allonge/require.named").run Tryz.prog w=.ok (328,.agg us) w:=by kernel_rfl
theorem Tryz.m169words (us:Array Value) (w:World):(method 428 270 (.agg us) "allonge/require.words").run Tryz.prog w=.ok (329,.agg us) w:=by kernel_rfl
theorem Tryz.m171demand (us:Array Value) (w:World):(method 428 272 (.agg us) "allonge/require.demand").run Tryz.prog w=.ok (331,.agg us) w:=by kernel_rfl
theorem Tryz.m171met (us:Array Value) (w:World):(method 428 272 (.agg us) "allonge/require.met").run Tryz.prog w=.ok (332,.agg us) w:=by kernel_rfl
theorem Tryz.m171named (us:Array Value) (w:World):(method 428 272 (.agg us) "allonge/require.named").run Tryz.prog w=.ok (333,.agg us) w:=by kernel_rfl
theorem Tryz.m171words (us:Array Value) (w:World):(method 428 272 (.agg us) "allonge/require.words").run Tryz.prog w=.ok (334,.agg us) w:=by kernel_rfl
def znJ (m:Dmd):Value:=.agg #[.int .i64 m.op,tV m.doc,tV m.fld,tV m.oth,tV m.sec,tV m.txt,.int .i64 m.lo,.int .i64 m.hi]
theorem zvc (m:Dmd) (l:List Pln) (hl:tA l) (w:World) (hG:yN (base w)) (v2:Value) (hv:PRep w (zV w) (zB 3 (l.map xT)) v2):
  Calls Tryz.prog 162 #[znJ m,v2] w fun ex w'=>ex=.returned (.bool (sF m l))/\Below w.heap.size w w':=by
 have hvo:=hv.oneCell;obtain⟨op,d,f,o,s,t,lo,hi⟩:=m;have k79:=zm4 op d f o s t lo hi;have hB0: ∀ob,Below w.heap.size w (w.alloc ob):=fun ob=>(Below.refl _ w).alloc (Zw _) _
 have k222: ∀W,Below w.heap.size w W->Calls Tryz.prog 327 #[.agg #[tV d,tV f,tV o,tV s],v2] W fun ex W'=>ex=.returned (.bool (agreesP d f o s l))/\Below W.heap.size W W':=fun W hb=>zuX d f o s l hl W (hG.later (xM hb)) v2 (sC hv hb)
 unfold znJ;simp only[];unfold tV at*
 by_cases h0:op=0
 ·subst h0
  have e:sF ⟨0,d,f,o,s,t,lo,hi⟩ l=kindP l d:=rfl;rw[e];have hc:clV 0 d f o s t lo hi=.iface 266 (.agg #[.string ⟨d.toArray⟩]):=rfl;have ho:okO 0=true:=rfl;rw[hc,ho] at k79;have hm:=Tryz.m165met;have kc: ∀W,Below w.heap.size w W->Calls Tryz.prog 309 #[.agg #[.string ⟨d.toArray⟩],v2] W fun ex W'=>ex=.returned (.bool (kindP l d))/\Below W.heap.size W W':=fun W hb=>(zuo d l hl.1).boolC (hG.later (xM hb)) (Z:=zV W) (fun _ h=>h) (sD (r:=[.str d]) (by simp[C.sc]) (wS (sC hv hb) (yY _ _)))
  generalize kindP l d=R at kc⊢;clear e
  go_enter Tryz.func162,Tryz.ntmps162
  go_wp2_with (first|(go_at_call 309;refine(kc _ hB1).mono ?_;rintro ex w2 ⟨rfl,hb2⟩)|(go_at_call 205;refine(k79 _).mono ?_;rintro ex w1 ⟨rfl,hb1⟩;have hB1:=(hB0 (.cells #[Value.int .i64 0,Value.string ⟨d.toArray⟩,Value.string ⟨f.toArray⟩,Value.string ⟨o.toArray⟩,Value.string ⟨s.toArray⟩,Value.string ⟨t.toArray⟩,Value.int .i64 lo,Value.int .i64 hi] 96)).trans (hb1.mono (hB0 (.cells #[Value.int .i64 0,Value.string ⟨d.toArray⟩,Value.string ⟨f.toArray⟩,Value.string ⟨o.toArray⟩,Value.string ⟨s.toArray⟩,Value.string ⟨t.toArray⟩,Value.int .i64 lo,Value.int .i64 hi] 96)).size)))
  go_ret
  exact⟨rfl,hB1.trans (hb2.mono hB1.size)⟩
 by_cases h1:op=1
 ·subst h1
  have e:sF ⟨1,d,f,o,s,t,lo,hi⟩ l=readsP d f t l:=rfl;rw[e];have hc:clV 1 d f o s t lo hi=.iface 268 (.agg #[.string ⟨d.toArray⟩,.string ⟨f.toArray⟩,.string ⟨t.toArray⟩]):=rfl;have ho:okO 1=true:=rfl;rw[hc,ho] at k79;have hm:=Tryz.m167met;have kc: ∀W,Below w.heap.size w W->Calls Tryz.prog 317 #[.agg #[.string ⟨d.toArray⟩,.string ⟨f.toArray⟩,.string ⟨t.toArray⟩],v2] W fun ex W'=>ex=.returned (.bool (readsP d f t l))/\Below W.heap.size W W':=fun W hb=>(zur d f t l hl).boolC (hG.later (xM hb)) (Z:=zV W) (fun _ h=>h) (sD (r:=[.str d,.str f,.str t]) (by simp[C.sc]) (wS (sC hv hb) (yY _ _)))
  generalize readsP d f t l=R at kc⊢;clear e
  go_enter Tryz.func162,Tryz.ntmps162
  go_wp2_with (first|(go_at_call 317;refine(kc _ hB1).mono ?_;rintro ex w2 ⟨rfl,hb2⟩)|(go_at_call 205;refine(k79 _).mono ?_;rintro ex w1 ⟨rfl,hb1⟩;have hB1:=(hB0 (.cells #[Value.int .i64 1,Value.string ⟨d.toArray⟩,Value.string ⟨f.toArray⟩,Value.string ⟨o.toArray⟩,Value.string ⟨s.toArray⟩,Value.string ⟨t.toArray⟩,Value.int .i64 lo,Value.int .i64 hi] 96)).trans (hb1.mono (hB0 (.cells #[Value.int .i64 1,Value.string ⟨d.toArray⟩,Value.string ⟨f.toArray⟩,Value.string ⟨o.toArray⟩,Value.string ⟨s.toArray⟩,Value.string ⟨t.toArray⟩,Value.int .i64 lo,Value.int .i64 hi] 96)).size)))
  go_ret
  exact⟨rfl,hB1.trans (hb2.mono hB1.size)⟩
 by_cases h3:op=3
 ·subst h3
  have e:sF ⟨3,d,f,o,s,t,lo,hi⟩ l=agreesP d f o s l:=rfl;rw[e];have hc:clV 3 d f o s t lo hi=.iface 270 (.agg #[.string ⟨d.toArray⟩,.string ⟨f.toArray⟩,.string ⟨o.toArray⟩,.string ⟨s.toArray⟩]):=rfl;have ho:okO 3=true:=rfl;rw[hc,ho] at k79;have hm:=Tryz.m169met;have kc: ∀W,Below w.heap.size w W->Calls Tryz.prog 327 #[.agg #[.string ⟨d.toArray⟩,.string ⟨f.toArray⟩,.string ⟨o.toArray⟩,.string ⟨s.toArray⟩],v2] W fun ex W'=>ex=.returned (.bool (agreesP d f o s l))/\Below W.heap.size W W':=fun W hb=>k222 W hb
  generalize agreesP d f o s l=R at kc⊢;clear e
  go_enter Tryz.func162,Tryz.ntmps162
  go_wp2_with (first|(go_at_call 327;refine(kc _ hB1).mono ?_;rintro ex w2 ⟨rfl,hb2⟩)|(go_at_call 205;refine(k79 _).mono ?_;rintro ex w1 ⟨rfl,hb1⟩;have hB1:=(hB0 (.cells #[Value.int .i64 3,Value.string ⟨d.toArray⟩,Value.string ⟨f.toArray⟩,Value.string ⟨o.toArray⟩,Value.string ⟨s.toArray⟩,Value.string ⟨t.toArray⟩,Value.int .i64 lo,Value.int .i64 hi] 96)).trans (hb1.mono (hB0 (.cells #[Value.int .i64 3,Value.string ⟨d.toArray⟩,Value.string ⟨f.toArray⟩,Value.string ⟨o.toArray⟩,Value.string ⟨s.toArray⟩,Value.string ⟨t.toArray⟩,Value.int .i64 lo,Value.int .i64 hi] 96)).size)))
  go_ret
  exact⟨rfl,hB1.trans (hb2.mono hB1.size)⟩
 by_cases h2:op=2
 ·subst h2
  have e:sF ⟨2,d,f,o,s,t,lo,hi⟩ l=limP d f lo hi false l:=rfl;rw[e];have hc:clV 2 d f o s t lo hi=.iface 272 (.agg #[.string ⟨d.toArray⟩,.string ⟨f.toArray⟩,.int .i64 lo,.int .i64 hi,.bool false]):=rfl;have ho:okO 2=true:=rfl;rw[hc,ho] at k79;have hm:=Tryz.m171met;have kc: ∀W,Below w.heap.size w W->Calls Tryz.prog 332 #[.agg #[.string ⟨d.toArray⟩,.string ⟨f.toArray⟩,.int .i64 lo,.int .i64 hi,.bool false],v2] W fun ex W'=>ex=.returned (.bool (limP d f lo hi false l))/\Below W.heap.size W W':=fun W hb=>(znb d f lo hi false l hl).boolC (hG.later (xM hb)) (Z:=zV W) (fun _ h=>h) (sD (r:=[.str d,.str f,.int .i64 lo,.int .i64 hi,.bool false]) (by simp[C.sc]) (wS (sC hv hb) (yY _ _)))
  generalize limP d f lo hi false l=R at kc⊢;clear e
  go_enter Tryz.func162,Tryz.ntmps162
  go_wp2_with (first|(go_at_call 332;refine(kc _ hB1).mono ?_;rintro ex w2 ⟨rfl,hb2⟩)|(go_at_call 205;refine(k79 _).mono ?_;rintro ex w1 ⟨rfl,hb1⟩;have hB1:=(hB0 (.cells #[Value.int .i64 2,Value.string ⟨d.toArray⟩,Value.string ⟨f.toArray⟩,Value.string ⟨o.toArray⟩,Value.string ⟨s.toArray⟩,Value.string ⟨t.toArray⟩,Value.int .i64 lo,Value.int .i64 hi] 96)).trans (hb1.mono (hB0 (.cells #[Value.int .i64 2,Value.string ⟨d.toArray⟩,Value.string ⟨f.toArray⟩,Value.string ⟨o.toArray⟩,Value.string ⟨s.toArray⟩,Value.string ⟨t.toArray⟩,Value.int .i64 lo,Value.int .i64 hi] 96)).size)))
  go_ret
  exact⟨rfl,hB1.trans (hb2.mono hB1.size)⟩
 by_cases h4:op=4
 ·subst h4
  have e:sF ⟨4,d,f,o,s,t,lo,hi⟩ l=limP d f lo hi true l:=rfl;rw[e];have hc:clV 4 d f o s t lo hi=.iface 272 (.agg #[.string ⟨d.toArray⟩,.string ⟨f.toArray⟩,.int .i64 lo,.int .i64 hi,.bool true]):=rfl;have ho:okO 4=true:=rfl;rw[hc,ho] at k79;have hm:=Tryz.m171met;have kc: ∀W,Below w.heap.size w W->Calls Tryz.prog 332 #[.agg #[.string ⟨d.toArray⟩,.string ⟨f.toArray⟩,.int .i64 lo,.int .i64 hi,.bool true],v2] W fun ex W'=>ex=.returned (.bool (limP d f lo hi true l))/\Below W.heap.size W W':=fun W hb=>(znb d f lo hi true l hl).boolC (hG.later (xM hb)) (Z:=zV W) (fun _ h=>h) (sD (r:=[.str d,.str f,.int .i64 lo,.int .i64 hi,.bool true]) (by simp[C.sc]) (wS (sC hv hb) (yY _ _)))
  generalize limP d f lo hi true l=R at kc⊢;clear e
  go_enter Tryz.func162,Tryz.ntmps162
  go_wp2_with (first|(go_at_call 332;refine(kc _ hB1).mono ?_;rintro ex w2 ⟨rfl,hb2⟩)|(go_at_call 205;refine(k79 _).mono ?_;rintro ex w1 ⟨rfl,hb1⟩;have hB1:=(hB0 (.cells #[Value.int .i64 4,Value.string ⟨d.toArray⟩,Value.string ⟨f.toArray⟩,Value.string ⟨o.toArray⟩,Value.string ⟨s.toArray⟩,Value.string ⟨t.toArray⟩,Value.int .i64 lo,Value.int .i64 hi] 96)).trans (hb1.mono (hB0 (.cells #[Value.int .i64 4,Value.string ⟨d.toArray⟩,Value.string ⟨f.toArray⟩,Value.string ⟨o.toArray⟩,Value.string ⟨s.toArray⟩,Value.string ⟨t.toArray⟩,Value.int .i64 lo,Value.int .i64 hi] 96)).size)))
  go_ret
  exact⟨rfl,hB1.trans (hb2.mono hB1.size)⟩
 have e1:clV op d f o s t lo hi=.nilIface:=by unfold clV;rw[if_neg h0,if_neg h1,if_neg h3,if_neg h2,if_neg h4]
 have e2:okO op=false:=by unfold okO;simp[h0,h1,h2,h3,h4]
 have e3:sF ⟨op,d,f,o,s,t,lo,hi⟩ l=false:=by unfold sF;simp only[];rw[if_neg h0,if_neg h1,if_neg h2,if_neg h3,if_neg h4]
 rw[e1,e2] at k79;rw[e3];clear e1 e2 e3 k222
 go_enter Tryz.func162,Tryz.ntmps162
 go_wp2_with (go_at_call 205;refine(k79 _).mono ?_;rintro ex w1 ⟨rfl,hb1⟩;have hB1:=(hB0 (.cells #[Value.int .i64 op,Value.string ⟨d.toArray⟩,Value.string ⟨f.toArray⟩,Value.string ⟨o.toArray⟩,Value.string ⟨s.toArray⟩,Value.string ⟨t.toArray⟩,Value.int .i64 lo,Value.int .i64 hi] 96)).trans (hb1.mono (hB0 (.cells #[Value.int .i64 op,Value.string ⟨d.toArray⟩,Value.string ⟨f.toArray⟩,Value.string ⟨o.toArray⟩,Value.string ⟨s.toArray⟩,Value.string ⟨t.toArray⟩,Value.int .i64 lo,Value.int .i64 hi] 96)).size))
 go_ret
 exact⟨rfl,hB1⟩
end Go.Proofs
namespace Go.Abs
open Go.Proofs Go.RowKit Go.Lib Go.Wd Go.Wire Go.Ex
theorem znK (m:Dmd): ∀c∈zU m,c.sc=true:=by simp[zU,C.sc]
theorem c39 (m:Dmd) (l:List Pln) (hl:tA l):Spec Tryz.prog 162 [.agg (zU m),lst 3 (l.map xT)] (fun v=>v=.bool (sF m l)):=by
 refine⟨vN (by kernel_rfl),fun w Z vs hG hz ha=>?_⟩;obtain⟨vl⟩:=vs
 match vl,ha with
 |[],ha=>exact absurd ha.1 (by simp)
 |[_],ha=>exact absurd ha.1 (by simp)
 |_::_::_::_,ha=>exact absurd ha.1 (by simp)
 |[v,v2],ha=>
  obtain⟨us,rfl,hrow⟩:=(ha.2 0 _ v rfl rfl).2;have h2:PRep w Z (zB 3 (l.map xT)) v2:=(ha.2 1 _ v2 rfl rfl).2.2;obtain⟨ul⟩:=us;have hu:ul=(zU m).map vO:=jI (znK m) hrow;subst hu;refine(zvc m l hl w hG v2 (oK hz h2)).mono ?_;rintro e w' ⟨rfl,hb⟩;exact⟨_,_,rfl,rfl,fun _=>rfl,nV hG (xM hb) (fun _=>rfl) (fun _=>⟨rfl,.bool _⟩)⟩
theorem aG {L:List Dmd} {i:Nat} (h:i<L.length):(L.map zU).getD i []=[.int .i64 (L.getD i wM).op,.str (L.getD i wM).doc,.str (L.getD i wM).fld,.str (L.getD i wM).oth,.str (L.getD i wM).sec,.str (L.getD i wM).txt,.int .i64 (L.getD i wM).lo,.int .i64 (L.getD i wM).hi]:=by simp[List.getD,h,zU]
def lN (L:List Dmd) (p:List Pln) (n:Nat):List Int:=((List.range n).filter fun i=> !sF (L.getD i wM) p).map fun(i:Nat)=>(i:Int)
theorem zvd (L:List Dmd) (p:List Pln) (n:Nat):lN L p (n+1)=lN L p n++if sF (L.getD n wM) p=true then[] else[(n:Int)]:=by
 unfold lN;rw[Xk,Xw,ZS];congr 1;rw[List.filter_cons,List.filter_nil];cases h:sF (L.getD n wM) p
 ·simp
 ·simp
theorem zve (L:List Dmd) (p:List Pln) (n:Nat):(lN L p n).length<=n:=by
 unfold lN;rw[Zg];exact ZX (Yq _ _) (by simp)
def zcS (L:List Dmd) (p:List Pln):List Int:=(uD L p).map fun(i:Nat)=>(i:Int)
theorem zvf (L:List Dmd) (p:List Pln):zcS L p=lN L p L.length:=rfl
theorem c15 (L:List Dmd) (p:List Pln) (hL:L.length<=1000000) (hp:tA p):Spec Tryz.prog 99 [lst 8 (L.map zU),lst 3 (p.map xT)] (fun v=>v=lst 1 (zG (zcS L p))):=by
 refine Spec.of_awlP hf99 okf99 (by simp) fun S hS=>?_
 rw[zvf] at hS;simp only[zL,Qs,bne_iff_ne,ne_eq,Zc,Zn,Za,Zg,zsY];refine zR (fun x:Nat×Option Bool=>[(1,lst 3 (p.map xT)),(5,.k (.own 5)),(8,lst 8 (L.map zU)),(9,.int .i64 L.length),(10,.int .i64 x.1)]) (fun x=>[(5,.arr 3 1 x.2 (zG (lN L p x.1)))]) (fun x=>x.1<=L.length) (fun x=>L.length-x.1) (0,some true) rfl rfl (ZC _) ?_;rintro⟨i,nl⟩ hi;simp only[] at hi;have hfl:=zve L p i;by_cases hlt:i<L.length
 ·have d1:(i:Int)<L.length:=by omega
  have c4:IntKind.i64.wrap ((i:Int)+1)=(i:Int)+1:=wrap_in (by omega) (by omega);have hat:=aG hlt;have hs:=zvd L p i;generalize L.getD i wM=m at hat hs;have g1:=c39 m p hp;unfold zU at g1;cases hm:sF m p with
  |true=>
   rw[hm] at g1;rw[hm,if_pos rfl,Ze] at hs;simp only[d1,hat,zL,Qs,bne_iff_ne,ne_eq,Ze,Zc,Zn,Za,Zg];refine zI g1 ?_ (ha:=by simp only[Zk,Zp,zC,V.norm,C.norm,yP oL,C.normRow]<;>rfl);simp only[c4,Qs,Za];exact Next.intro (i+1,nl) rfl (by simp[hs];rfl) (by simp only;omega) (by simp only;omega)
  |false=>
   rw[hm] at g1;rw[hm,if_neg (by simp)] at hs;simp only[d1,hat,zL,Qs,bne_iff_ne,ne_eq,Ze,Zc,Zn,Za,Zg];refine zI g1 ?_ (ha:=by simp only[Zk,Zp,zC,V.norm,C.norm,yP oL,C.normRow]<;>rfl);simp only[c4,yJ,Qs,forall_eq,bne_iff_ne,ne_eq,ZJ,Zn,Zl,Z5,Za,Zt];refine⟨by omega,by omega,Next.intro (i+1,some false) rfl (by simp[hs,zck];rfl) (by simp only;omega) (by simp only;omega)⟩
 ·have d1: ¬(i:Int)<L.length:=by omega
  obtain rfl:i=L.length:=by omega
  simp only[d1,Qs,ZK,Za,Zt];refine hS _ ?_;simp only[V.fz,V.fzL,V.nrm,V.nrmL,uK (yR _)]
  try rfl
end Go.Abs
namespace Go.Ex
open Go.Lib Go.Wd Go.Wire Go.Abs
def lkI (m:Dmd) (p:Pln) (i n:Nat):List Plc:=((List.range n).filter (gT m p)).map fun(k:Nat)=>⟨(i:Int),(k:Int)⟩
theorem zvg (m:Dmd) (p:Pln) (i n:Nat):lkI m p i (n+1)=lkI m p i n++if gT m p n=true then[⟨(i:Int),(n:Int)⟩] else[]:=by
 unfold lkI;rw[Xk,Xw,ZS,List.filter_cons,List.filter_nil];congr 1;split<;>rfl
theorem zvh (m:Dmd) (p:Pln) (i n:Nat):(lkI m p i n).length<=n:=by
 unfold lkI;rw[Zg];exact ZX (Yq _ _) (by simp)
end Go.Ex
namespace Go.Abs
open Go.Proofs Go.RowKit Go.Lib Go.Wd Go.Wire Go.Ex
def wG (c:Plc):List C:=[.int .i64 c.doc,.int .i64 c.fld]
def pls (l:List Plc):List (List C):=l.map wG
theorem tM (l:List Plc):(pls l).length=l.length:=by simp[pls]
theorem zvi (l:List Plc) (a b:Int):pls l++[[.int .i64 a,.int .i64 b]]=pls (l++[⟨a,b⟩]):=by simp[pls,wG]
theorem tN (l:List Plc):C.normRows (pls l)=pls l:=zQ (fun m=>by simp only[wG,C.normRow,C.norm]) l
theorem c16 (m:Dmd) (l:List Pln) (hl:tA l):Spec Tryz.prog 58 [.agg (zU m),lst 3 (l.map xT)] (fun v=>v=lst 2 (pls (looksP m l))):=by
 refine Spec.of_awlP hf58 okf58 (by simp) fun S hS=>?_
 have hlen:=hl.1;unfold zU;unfold looksP at hS;by_cases ho1:m.op<=0
 ·rw[if_pos (.inl ho1)] at hS
  simp only[ho1,Qs,lD,bne_iff_ne,ne_eq,BEq.rfl,ZK,Zc,Zn,Zl,Za,Zt,zcc];exact hS _ rfl
 by_cases ho2:m.op>=5
 ·rw[if_pos (.inr ho2)] at hS
  simp only[ho1,ho2,Qs,bne_iff_ne,ne_eq,BEq.rfl,ZK,Zc,Zn,Zl,Za,Zt,zcc];exact hS _ rfl
 rw[if_neg (by omega)] at hS;simp only[ho1,ho2,zL,Qs,bne_iff_ne,ne_eq,Zc,Zn,Zl,Za,Zg,zcc];refine zR (fun x:Nat×List Plc×Option Bool=>[(2,.k (.c (.ro [.int .i64 m.op,.str m.doc,.str m.fld,.str m.oth,.str m.sec,.str m.txt,.int .i64 m.lo,.int .i64 m.hi] 0))),(5,.k (.own 5)),(21,lst 3 (l.map xT)),(22,.int .i64 l.length),(23,.int .i64 x.1)]) (fun x=>[(5,.arr 25 2 x.2.2 (pls x.2.1))]) (fun x=>x.1<=l.length/\x.2.1.length<=x.1*1000000/\x.2.1++uT m (l.drop x.1) x.1=uT m l 0) (fun x=>l.length-x.1) (0,[],some true) rfl rfl ⟨ZC _,by simp,by simp⟩ ?_;rintro⟨i,L,nl⟩ ⟨hi,hL,hD⟩;simp only[] at hi hL hD;by_cases hlt:i<l.length
 ·have d1:(i:Int)<l.length:=by omega
  have c4:IntKind.i64.wrap ((i:Int)+1)=(i:Int)+1:=wrap_in (by omega) (by omega);have hat:=bK hlt;rw[ZE hlt,uT,<-Z3] at hD;have hp:=hl.2 _ (Zv hlt);generalize l[i]=p at hD hat hp;have hns:=hp.ns;simp only[d1,hat,zS,Qs,bne_iff_ne,ne_eq,Ze,Zc,Zn,Zl,Za,Zg];refine zR (fun x:Nat×Option Bool=>[(2,.k (.c (.ro [.int .i64 m.op,.str m.doc,.str m.fld,.str m.oth,.str m.sec,.str m.txt,.int .i64 m.lo,.int .i64 m.hi] 0))),(5,.k (.own 5)),(6,.int .i64 i),(7,.k (.c (.ro [.str p.kind,zB 1 (zF p.names),zB 1 (zF p.texts)] 0))),(21,lst 3 (l.map xT)),(22,.int .i64 l.length),(23,.int .i64 i),(29,lst 1 (zF p.names)),(30,.int .i64 p.names.length),(31,.int .i64 x.1)]) (fun x=>[(5,.arr 25 2 x.2 (pls (L++lkI m p i x.1)))]) (fun x=>x.1<=p.names.length) (fun x=>p.names.length-x.1) (0,nl) rfl (by simp[lkI];rfl) (ZC _) ?_;rintro⟨k,nl2⟩ hk;simp only[] at hk;have hlk:=zvh m p i k;by_cases hkl:k<p.names.length
  ·have dk:(k:Int)<p.names.length:=by omega
   have ck:IntKind.i64.wrap ((k:Int)+1)=(k:Int)+1:=wrap_in (by omega) (by omega);have hs:=zvg m p i k;have hgd:p.names.getD k []=p.names[k]:=by simp[List.getD,hkl]
   have hlB:gT m p k=((decide (fstN (fun x=>decide (p.names[k]=x)) p.names 0=(k:Int))&&decide (k<p.texts.length))&&((decide (p.kind=m.doc)&&decide (p.names[k]=m.fld))||(decide (m.op=3)&&(decide (p.kind=m.oth)&&decide (p.names[k]=m.sec))))):=by unfold gT;rw[hgd]
   have g1:=c40 p.names p.names[k] (big hns);have hsk:=uI hkl;generalize p.names[k]=nm at hlB g1 hsk;generalize fstN (fun x=>decide (nm=x)) p.names 0=j at hlB g1;have bq: ∀a b:Txt,(a==b)=decide (a=b):=fun a b=>by rw[Yw];simp
   have e1:(j==(k:Int))=decide (j=(k:Int)):=rfl;have e3:=bq p.kind m.doc;have e4:=bq nm m.fld;have e5:(m.op==3)=decide (m.op=3):=rfl;have e6:=bq p.kind m.oth;have e7:=bq nm m.sec;have H2:(k:Int)<p.texts.length/\decide (k<p.texts.length)=true\/ ¬(k:Int)<p.texts.length/\decide (k<p.texts.length)=false:=by
    by_cases h:k<p.texts.length
    ·exact .inl ⟨by omega,by simp[h]⟩
    ·exact .inr ⟨by omega,by simp[h]⟩
   generalize decide (k<p.texts.length)=a2 at hlB H2;generalize decide (j=(k:Int))=a1 at hlB e1;generalize decide (p.kind=m.doc)=a3 at hlB e3;generalize decide (nm=m.fld)=a4 at hlB e4;generalize decide (m.op=3)=a5 at hlB e5;generalize decide (p.kind=m.oth)=a6 at hlB e6;generalize decide (nm=m.sec)=a7 at hlB e7;rw[hlB] at hs;have K1:a1=false\/a1=true:=by cases a1<;>simp
   have K3:a3=false\/(a3=true/\a4=false)\/(a3=true/\a4=true):=by cases a3<;>cases a4<;>simp
   have K5:a5=false\/(a5=true/\a6=false)\/(a5=true/\a6=true/\a7=false)\/(a5=true/\a6=true/\a7=true):=by cases a5<;>cases a6<;>cases a7<;>simp
   simp only[dk,zS,hsk,Qs,Zc,Zl,Za];refine zI g1 ?_ (ha:=by simp only[Zk,Zp,zC,V.norm,C.norm,zM,xR]<;>rfl);rcases K1 with rfl|rfl
   ·have hs0:=hs
    simp only[Z4,if_neg Bool.false_ne_true,Ze] at hs0;rcases K3 with rfl|⟨rfl,rfl⟩|⟨rfl,rfl⟩
    all_goals rcases K5 with rfl|⟨rfl,rfl⟩|⟨rfl,rfl,rfl⟩|⟨rfl,rfl,rfl⟩
    all_goals simp only[e1,e3,e4,e5,e6,e7,ck,Qs,Zc,Zl,Za]
    all_goals exact Next.intro (k+1,nl2) rfl (by simp[hs0];rfl) (by simp only;omega) (by simp only;omega)
   rcases H2 with⟨d2,rfl⟩|⟨d2,rfl⟩
   rotate_left
   ·have hs0:=hs
    simp only[YW,Z4,if_neg Bool.false_ne_true,Ze] at hs0;rcases K3 with rfl|⟨rfl,rfl⟩|⟨rfl,rfl⟩
    all_goals rcases K5 with rfl|⟨rfl,rfl⟩|⟨rfl,rfl,rfl⟩|⟨rfl,rfl,rfl⟩
    all_goals simp only[e1,d2,e3,e4,e5,e6,e7,ck,zS,Qs,Zc,Zl,Za]
    all_goals exact Next.intro (k+1,nl2) rfl (by simp[hs0];rfl) (by simp only;omega) (by simp only;omega)
   have hlb:(L++lkI m p i k).length+1<=1000000000001:=by
    rw[Zq];have:i*1000000<=1000000*1000000:=ZZ _ (by omega);have h2:L.length<=999999*1000000:=ZX hL (ZZ _ (by omega));omega
   rcases K3 with rfl|⟨rfl,rfl⟩|⟨rfl,rfl⟩
   all_goals rcases K5 with rfl|⟨rfl,rfl⟩|⟨rfl,rfl,rfl⟩|⟨rfl,rfl,rfl⟩
   all_goals simp only[YW,Z4,Bool.and_true,ZU,XM,YC,Bool.or_true,XC,if_neg Bool.false_ne_true,if_true,Ze] at hs
   all_goals simp only[e1,d2,e3,e4,e5,e6,e7,ck,zS,tM,Qs,lD,zrZ,forall_eq,bne_iff_ne,ne_eq,Ze,ZJ,Zc,Zn,Zl,Z5,Za,Zt]
   all_goals first
    |exact Next.intro (k+1,nl2) rfl (by simp[hs];rfl) (by simp only;omega) (by simp only;omega)
    |exact⟨by omega,by omega,Next.intro (k+1,some false) rfl (by rw[hs,zvi,Z3];rfl) (by simp only;omega) (by simp only;omega)⟩
  ·obtain rfl:k=p.names.length:=by omega
   have dk: ¬(p.names.length:Int)<p.names.length:=by omega
   have hq:lkI m p i p.names.length=oN m p i:=rfl;rw[hq] at hlk;simp only[dk,zS,c4,hq,Qs,reduceCtorEq,Za];exact Next.intro (i+1,L++oN m p i,nl2) rfl rfl ⟨by simp only;omega,by simp only[Zq];rw[YL];omega,hD⟩ (by simp only;omega)
 ·have d1: ¬(i:Int)<l.length:=by omega
  rw[ZB (by omega),uT,Ze] at hD;rw[<-hD] at hS;simp only[d1,Qs,ZK,Za,Zt];refine hS _ ?_;simp only[V.fz,V.fzL,V.nrm,V.nrmL,tN,uK (tN _)]
  try rfl
end Go.Abs
namespace Go.Ex
open Go.Lib Go.Wd Go.Wire Go.Abs
theorem znL: ∀{l:List Dcm} {acc:List Int} {n:Nat},(uJ l acc n).2.2=0->(uJ l acc n).1=acc++l.map (fun d=>(cntD d).1)/\(∀d∈l,(cntD d).2=0)/\(n<=4096->(uJ l acc n).2.1<=4096)/\(uJ l acc n).2.1=(l.foldl (fun a d=>a*(cntD d).1.toNat) n:Nat)
 |[],acc,n,_=>by simp[uJ];omega
 |d::l,acc,n,h=>by
  rw[uJ] at h⊢;split at h
  ·cases h
  ·rename_i hd
   rw[if_neg hd];have h2:(cntD d).2=0:=by
    by_cases q:(cntD d).2=0
    ·exact q
    ·exact absurd (.inl q) hd
   have hc:=bI (d:=d);obtain⟨a1,a2,a3,a4⟩:=znL h;refine⟨by rw[a1];simp,fun x hx=>?_,fun hn=>a3 ?_,by rw[a4];rfl⟩
   ·rcases ZJ.1 hx with rfl|hx
    ·exact h2
    ·exact a2 x hx
   ·have: ¬(n:Int)*(cntD d).1>4096:=fun q=>hd (.inr q)
    obtain⟨c,hc2⟩: ∃c:Nat,(cntD d).1=c:=⟨(cntD d).1.toNat,by omega⟩;rw[hc2] at this⊢;simp only[Ym];have e:((n*c:Nat):Int)=(n:Int)*c:=YB n c;omega
structure CntOk (D:List Dcm):Prop where
 len:D.length<=8
 l:(cnts D).1=D.map fun d=>(cntD d).1
 e: ∀d∈D,(cntD d).2=0
 n:(cnts D).2.1=(yF D:Nat)
 le:yF D<=4096
 p:yF D=D.foldl (fun a d=>a*(cntD d).1.toNat) 1
theorem rJ {D:List Dcm} (h:(cnts D).2.2=0):CntOk D:=by
 unfold cnts at h;split at h
 ·cases h
 ·rename_i h8
  split at h
  ·rename_i hf
   have hc:cnts D=uJ D [] 1:=by unfold cnts;rw[if_neg h8,if_pos hf]
   obtain⟨a1,a2,a3,a4⟩:=znL h;have hn:(cnts D).2.1=(yF D:Nat):=by unfold yF;rw[hc,a4];simp
   refine⟨by omega,by rw[hc,a1];simp,a2,hn,?_,?_⟩
   ·have:=a3 (by decide);rw[<-hc,hn] at this;omega
   ·have:=a4;rw[<-hc,hn] at this;omega
  ·rename_i hf;exact absurd h hf
theorem znM {d:Dcm} (hd:DcmS d) (h:(cntD d).2=0):1<=(cntD d).1:=by
 have h0:=lM h;have hR:=uZ hd h0;unfold cntD at h⊢;rw[if_pos h0] at h⊢;have key: ∀(l:List Fld) (n:Nat),1<=n->(∀f∈l,1<=zX f)->(vI l n).2=0->1<=(vI l n).1:=by
  intro l
  induction l with
  |nil=>intro n hn _ _;simp only[vI];omega
  |cons f l ih=>
   intro n hn hf h;rw[vI] at h⊢;split at h
   ·cases h
   ·rename_i hq
    rw[if_neg hq];exact ih _ (Xh hn (hf f (by simp))) (fun x hx=>hf x (Zy _ hx)) h
 exact key d.flds 1 (Zw _) (fun f hf=>zcv (hR.fld hf)) h
theorem znN {d:Dcm} {q:Nat} (h:(cntD d).2=0) (hq:(q:Int)<(cntD d).1):rdE d q=0:=by
 unfold rdE;rw[if_neg (by simp[h]),if_neg (by omega)]
theorem zvj {d:Dcm} {q:Nat} (h:(cntD d).2=0) (hq:(q:Int)<(cntD d).1):rdR d q=rdD d q:=by
 unfold rdR;rw[if_pos (znN h hq)];simp
theorem znO: ∀(D:List Dcm) (cs:List Nat) (i:Nat),cs.length=D.length->(wN D cs i).1.length=D.length
 |[],[],_,_=>rfl
 |d::D,c::cs,i,h=>by rw[wN,Zo,znO D cs i (by simpa using h),Zo]
 |[],_::_,_,h=>by simp at h
 |_::_,[],_,h=>by simp at h
theorem znP: ∀(D:List Dcm) (cs:List Nat) (i:Nat),(wN D cs i).2<=i
 |d::D,c::cs,i=>by rw[wN];exact ZX (Xv _ _) (znP D cs i)
 |[],_,_=>by simp[wN]
 |_::_,[],_=>by simp[wN]
theorem zvk {D:List Dcm} {cs:List Nat} {i k:Nat} (hk:k<D.length) (hc:k<cs.length):wN (D.drop k) (cs.drop k) i=(rdD D[k] ((wN (D.drop (k+1)) (cs.drop (k+1)) i).2 % cs.getD k 0)::(wN (D.drop (k+1)) (cs.drop (k+1)) i).1,(wN (D.drop (k+1)) (cs.drop (k+1)) i).2/cs.getD k 0):=by
 have e:cs.getD k 0=cs[k]:=by simp[List.getD,hc]
 rw[ZE hk,ZE hc,wN,e]
end Go.Ex
namespace Go.Abs
open Go.Proofs Go.RowKit Go.Lib Go.Wd Go.Wire Go.Ex
def uU (l:List Pln):List (List C):=l.map xT
theorem zvl (l:List Pln):(uU l).length=l.length:=by simp[uU]
theorem mC (l:List Pln):C.normRows (uU l)=uU l:=zQ oL l
theorem c38 (D:List Dcm) (hD:rG D) (hok:CntOk D) (i:Nat) (hi:i<yF D):Spec Tryz.prog 116 [lst 2 (D.map zJ),lst 1 (zG (cnts D).1),.int .i64 i] (fun v=>v=lst 3 (uU (rdsD D i))):=by
 refine Spec.of_awlP hf116 okf116 (by simp) fun S hS=>?_
 have h8:=hok.len;have hle:=hok.le;have hcl:(cnts D).1.length=D.length:=by rw[hok.l];simp
 simp only[zL,Qs,zbR,kU,zbY,bne_iff_ne,ne_eq,Zc,Zn,Za,Zg,YY,Ψ116];have w0:IntKind.i64.wrap ((D.length:Int)-1)=(D.length:Int)-1:=wrap_in (by omega) (by omega);rw[w0];refine⟨by omega,by omega,by omega,?_⟩;obtain⟨zr,hzr⟩: ∃zr,[C.str [],C.list 0 (some true) [],C.list 0 (some true) []]=zr:=⟨_,rfl⟩;rw[hzr];have hcs:(tE D).length=D.length:=by unfold tE;rw[Zg,hcl]
 rw[uu f116l13.eq_1];refine zR (fun k:Nat=>[(0,lst 2 (D.map zJ)),(1,lst 1 (zG (cnts D).1)),(2,.int .i64 ((wN (D.drop k) ((tE D).drop k) i).2:Nat)),(7,.k (.own 11)),(8,.int .i64 ((k:Int)-1))]) (fun k=>[(11,.arr 155 3 (some false) ((List.replicate D.length zr).take k++uU (wN (D.drop k) ((tE D).drop k) i).1))]) (fun k=>k<=D.length) (fun k=>k) D.length (by rw[ZB (Zw _)];rfl) (by rw[ZB (Zw _)];simp[wN,uU];rfl) (Zw _) ?_;intro k hk;by_cases hk0:k=0
 ·subst hk0
  have d1: ¬((0:Nat):Int)-1>=0:=by omega
  simp only[d1,Qs,ZN,ZK,Za,Int.reduceGE,Int.reduceSub,YY,Zt,Ψ116];refine hS _ ?_;simp only[V.fz,V.fzL,V.nrm,V.nrmL,mC,uK (mC _)]
  try rfl
 ·obtain⟨m,rfl⟩: ∃m,k=m+1:=⟨k-1,by omega⟩
  have hm:m<D.length:=by omega
  have d1:(m:Int)>=0:=by omega
  have d2:(m:Int)<D.length:=by omega
  have hmc:m<(tE D).length:=by omega
  have hml:m<(cnts D).1.length:=by omega
  have e6:((m+1:Nat):Int)-1=(m:Int):=by omega
  have hst:=zvk (i:=i) hm hmc;have hat:=lH hm;have hce:=hok.e _ (Zv hm);have hds:=hD.2 _ (Zv hm);have hcp:=znM hds hce;have hci:(cnts D).1[m]=(cntD D[m]).1:=by simp[hok.l]
  have hia:=ztN hml;rw[hci] at hia;have hcn:((tE D).getD m 0:Int)=(cntD D[m]).1:=by
   unfold tE;simp only[List.getD,Zz,Zf hml,hci,YA,YZ];omega
  have hqle:=znP (D.drop (m+1)) ((tE D).drop (m+1)) i;have hpl:=znO (D.drop (m+1)) ((tE D).drop (m+1)) i (by rw[XV,XV,hcs]);obtain⟨q,hq⟩: ∃q,(wN (D.drop (m+1)) ((tE D).drop (m+1)) i).2=q:=⟨_,rfl⟩;obtain⟨L,hL⟩: ∃L,(wN (D.drop (m+1)) ((tE D).drop (m+1)) i).1=L:=⟨_,rfl⟩;rw[hq] at hqle;rw[hL] at hpl;rw[hq,hL,e6];obtain⟨c,hc⟩: ∃c,(tE D).getD m 0=c:=⟨_,rfl⟩;rw[hc] at hcn;rw[hq,hL,hc] at hst;generalize D[m]=d at hat hce hds hcp hia hcn hst;rw[<-hcn] at hia hcp;have hc0: ¬(c:Int)=0:=by omega
  have hmod:q % c<c:=XE _ (by omega);have hr1:(q:Int).tmod (c:Int)=((q % c:Nat):Int):=(Int.ofNat_tmod q c).symm;have hr2:(q:Int).tdiv (c:Int)=((q/c:Nat):Int):=(Int.ofNat_tdiv q c).symm;have g1:=c78 d hds ((q % c:Nat):Int);rw[zvj hce (by rw[<-hcn];omega),znN hce (by rw[<-hcn];omega)] at g1;unfold zJ xT at g1;simp only[d1,d2,hat,zL,hia,yJ,hml,hc0,hr1,hr2,Qs,kT,zbT,zrT,ne_eq,Za,Zg,Ψ116,vv f116r5o0.eq_1,vv f116r5o1.eq_1,vv f116r5o2.eq_1,vv f116r5o3.eq_1,vv f116r5o4.eq_1,vv f116r5o5.eq_1,vv f116r5o6.eq_1,vv f116r5o7.eq_1,vv f116r5o8.eq_1,vv f116r5o9.eq_1,vv f116r5o10.eq_1,vv f116r5o11.eq_1,vv f116r5o12.eq_1,vv f116r5o13.eq_1,vv f116r5o14.eq_1,vv f116r5o15.eq_1,vv f116r5o16.eq_1,vv f116r5o17.eq_1,zts,Ψ116];have hrl:((List.replicate D.length zr).take (m+1)++uU L).length=D.length:=by rw[Zq,Yl,List.length_replicate,zvl,hpl,XV];omega
  have w2:IntKind.i64.wrap ((q/c:Nat):Int)=((q/c:Nat):Int):=by
   have hdl:=Xv q c;generalize q/c=t at hdl;exact wrap_in (by omega) (by omega)
  have w3:IntKind.i64.wrap ((m:Int)-1)=(m:Int)-1:=wrap_in (by omega) (by omega);refine⟨by omega,jE g1 ?_ (ha:=by simp only[Zk,Zp,zC,V.norm,C.norm,C.normRow,yP vA]<;>rfl)⟩;simp only[d1,d2,hat,zL,hia,yJ,hml,hc0,hr1,hr2,hrl,w2,w3,Qs,zbO,zbP,kT,zbQ,iS,iT,zbU,zbV,zbW,zbX,zg3,zg4,zg5,kU,zrS,kV,kW,zr4,zr5,zr6,zr7,ne_eq,Zc,Za];have hset:((List.replicate D.length zr).take (m+1)++uU L).set m [C.str (rdD d (q % c)).kind,zB 1 (zF (rdD d (q % c)).names),zB 1 (zF (rdD d (q % c)).texts)]=(List.replicate D.length zr).take m++uU (rdD d (q % c)::L):=by
   rw[List.take_replicate,List.take_replicate,YV (by omega),YV (by omega),List.replicate_succ',Z3,Xr _ _ (by simp),List.length_replicate,Xi];rfl
  refine⟨by omega,Next.intro m (by rw[hst];rfl) (by rw[hst,hset];rfl) (by omega) (by omega)⟩
end Go.Abs
namespace Go.Ex
open Go.Lib Go.Wd Go.Wire Go.Abs
def oQ (D:List Dcm) (i:Int):Int:=if (cnts D).2.2≠0 then(cnts D).2.2 else if i<0\/i>=(cnts D).2.1 then 4 else 0
def sH (D:List Dcm) (i:Int):List Pln:=if oQ D i=0 then rdsD D i.toNat else[]
end Go.Ex
namespace Go.Abs
open Go.Proofs Go.RowKit Go.Lib Go.Wd Go.Wire Go.Ex
theorem c14 (D:List Dcm) (hD:rG D) (i:Int):Spec Tryz.prog 57 [lst 2 (D.map zJ),.int .i64 i] (fun v=>v=.tup [lst 3 (uU (sH D i)),.int .i64 (oQ D i)]):=by
 refine Spec.of_awlP hf57 okf57 (by simp) fun S hS=>?_
 have g1:=c37 D hD;have hE:oQ D i=if (cnts D).2.2≠0 then(cnts D).2.2 else if i<0\/i>=(cnts D).2.1 then 4 else 0:=rfl
 by_cases h0:(cnts D).2.2=0
 ·have hok:=rJ h0
  have hn:=hok.n;rw[if_neg (by simp[h0])] at hE;rw[h0] at g1;by_cases hi0:i<0
  ·rw[if_pos (.inl hi0)] at hE
   have hr:sH D i=[]:=by unfold sH;rw[hE];rfl
   rw[hr,hE] at hS;simp only[Qs,Zc,Za,cR];refine yQ g1 ?_ (ha:=by simp only[Zk,Zp,zC,V.norm,C.norm,yP yK]<;>rfl);simp only[hi0,Qs,lD,BEq.rfl,Ze,ZK,Zc,Z9,Za,Xa,Zt];exact hS _ rfl
  by_cases hi1:i>=(cnts D).2.1
  ·rw[if_pos (.inr hi1)] at hE
   have hr:sH D i=[]:=by unfold sH;rw[hE];rfl
   rw[hr,hE] at hS;simp only[Qs,Zc,Za,cR];refine yQ g1 ?_ (ha:=by simp only[Zk,Zp,zC,V.norm,C.norm,yP yK]<;>rfl);simp only[hi0,hi1,Qs,BEq.rfl,Ze,ZK,Zc,Z9,Za,Xa,Zt];exact hS _ rfl
  ·rw[if_neg (by omega)] at hE
   have hr:sH D i=rdsD D i.toNat:=by unfold sH;rw[if_pos hE]
   rw[hr,hE] at hS;obtain⟨m,rfl⟩: ∃m:Nat,i=m:=⟨i.toNat,by omega⟩;have g2:=c38 D hD hok m (by omega);simp only[Ym] at hS;simp only[Qs,Zc,Za,cR];refine yQ g1 ?_ (ha:=by simp only[Zk,Zp,zC,V.norm,C.norm,yP yK]<;>rfl);simp only[hi0,hi1,Qs,Ze,Zc,Z9,Za,Xa];refine yQ g2 ?_ (ha:=by simp only[Zk,Zp,zC,V.norm,C.norm,yP yK,zM,yR]<;>rfl);simp only[Qs,Ze,Za];refine hS _ ?_;simp only[mC,V.fz,V.fzL,V.nrm,V.nrmL,Abs.K.fz,Abs.K.nrm,zM]
   try rfl
 ·rw[if_pos h0] at hE
  have hr:sH D i=[]:=by unfold sH;rw[hE,if_neg h0]
  rw[hr,hE] at hS;have h1:((cnts D).2.2 !=0)=true:=by simp[h0]
  simp only[Qs,Zc,Za,cR];refine yQ g1 ?_ (ha:=by simp only[Zk,Zp,zC,V.norm,C.norm,yP yK]<;>rfl);simp only[h1,Qs,BEq.rfl,Ze,ZK,Zc,Z9,Za,Zt];exact hS _ rfl
theorem jP (s:Nat):Yn 64 (s:Int)=BitVec.ofNat 64 s:=by
 apply BitVec.eq_of_toNat_eq;rw[BitVec.toNat_ofInt,XI];omega
theorem lO {n:Nat} (h:n<18446744073709551616):IntKind.u64.wrap (n:Int)=n:=by
 simp only[IntKind.wrap,IntKind.bits,IntKind.signed,Z4,Z1,if_false];omega
theorem gU {s t:Nat} (hs:s<18446744073709551616) (ht:t<18446744073709551616):IntKind.u64.wrap ((Yn IntKind.u64.bits (s:Int)&&&Yn IntKind.u64.bits (t:Int)).toNat:Int)=((s&&&t:Nat):Int):=by
 show IntKind.u64.wrap ((Yn 64 (s:Int)&&&Yn 64 (t:Int)).toNat:Int)=_;rw[jP,jP,BitVec.toNat_and,XI,XI,XH (by omega),XH (by omega)];exact lO (Nat.lt_of_le_of_lt Nat.and_le_left hs)
theorem c68 (s t:Nat) (hs:s<1024) (ht:t<1024):Spec Tryz.prog 146 [.int .u64 (s:Int),.k (.c (.ro [.int .u64 (t:Int)] 0))] (fun v=>v=.bool (s&&&t==0)):=by
 refine Spec.of_awlS hf146 okf146 (by simp) fun S hS=>?_
 simp only[Qs,oI,Zc,Za,ztz];rw[gU (by omega) (by omega)];refine wR hS ?_;generalize s&&&t=r;simp only[beq_iff_eq];omega
def bW (x:Int):Int:=IntKind.u64.wrap x
def bA (a b:Int):Int:=IntKind.u64.wrap ((Yn IntKind.u64.bits a&&&Yn IntKind.u64.bits b).toNat:Int)
def bH (a:Int) (k:Nat):Int:=a.fdiv (2 ^ min k IntKind.u64.bits)
def b1 (x:Int):Int:=bW (bA (bH x 1) 6148914691236517205+bA x 6148914691236517205)
def b2 (x:Int):Int:=bW (bA (bH x 2) 3689348814741910323+bA x 3689348814741910323)
def b3 (x:Int):Int:=bA (bW (bH x 4+x)) 1085102592571150095
def b4 (k:Nat) (x:Int):Int:=bW (x+bH x k)
def bR (x:Int):Int:=IntKind.i64.wrap ((Yn IntKind.i64.bits (IntKind.i64.wrap x)&&&Yn IntKind.i64.bits 127).toNat:Int)
def zvm (x:Int):Int:=bR (b4 32 (b4 16 (b4 8 (b3 (b2 (b1 x))))))
theorem zvn: ∀x:Nat,x<256->zvm x=((bitsN x).length:Int):=by decide+kernel
theorem zvo (x:Nat) (hx:x<256):Spec Tryz.prog 208 [.int .u64 (x:Int)] (fun v=>v=.int .i64 ((bitsN x).length:Int)):=by
 refine Spec.of_awlS hf208 okf208 (by simp) fun S hS=>?_
 rw[<-zvn x hx] at hS;simp only[Qs,zgm,iU,oI,zht,Za,YQ,Int.reduceToNat,ztM];exact hS
theorem c65 (x:Nat) (hx:x<256):Spec Tryz.prog 143 [.int .u64 (x:Int)] (fun v=>v=.int .i64 ((bitsN x).length:Int)):=by
 refine Spec.of_awlS hf143 okf143 (by simp) fun S hS=>?_
 have g:=zvo x hx;simp only[Qs,Za,zg2,ztK];refine zI g ?_ (ha:=by rfl);simp only[Qs];exact hS
end Go.Abs
namespace Go.Proofs
open Go.RowKit Go.Abs Go.Wd Go.Wire Go.Ex
def tzN (x:Nat):Nat:=(bitsN x).headD 0
def tzI (x:Nat):Int:=IntKind.u64.wrap (bits BinOp.and IntKind.u64 (x:Int) (IntKind.u64.wrap (-(x:Int)))*285870213051353865)/288230376151711744
theorem zvp: ∀x,x<256->x≠0->0<=tzI x/\tzI x<64/\zax[(tzI x).toNat]?=some (tzN x:Int)/\tzN x<64:=by decide+kernel
theorem zvq (x:Nat) (hx:x<256) (h0:x≠0) (w:World) {T:TypeId} {F:Nat×Nat} (hg:w.heap[1]?=some (.cells (zax.map fun z=>Value.int .u8 z).toArray T F)):Calls Tryz.prog 212 #[.int .u64 (x:Int)] w fun e w'=>e=.returned (.int .i64 (tzN x:Int))/\w'=w:=by
 have hx0: ¬(x:Int)=0:=by omega
 obtain⟨k1,k2,k3,k4⟩:=zvp x hx h0;obtain⟨j,hj⟩: ∃j:Nat,tzI x=j:=⟨(tzI x).toNat,by omega⟩;rw[hj] at k1 k2 k3;have hj':IntKind.u64.wrap (bits BinOp.and IntKind.u64 (x:Int) (IntKind.u64.wrap (-(x:Int)))*285870213051353865)/288230376151711744=(j:Int):=hj;have hc:w.cell? ⟨1,j,none⟩=some (.int .u8 (tzN x:Int)):=by
  simp only[World.cell?,hg];simp only[Ym] at k3;simp[k3]
 have hw:IntKind.i64.wrap (tzN x:Int)=(tzN x:Int):=Go.Abs.wrap_in (by omega) (by omega);generalize tzN x=z at hc hw k3 k4⊢;clear hj k3
 go_enter Tryz.func212,Tryz.ntmps212
 go_wp2
 go_ret
 exact⟨rfl,rfl⟩
end Go.Proofs
namespace Go.Abs
open Go.Proofs Go.RowKit Go.Lib Go.Wd Go.Wire Go.Ex
theorem zvr (x:Nat) (hx:x<256) (h0:x≠0):Spec Tryz.prog 212 [.int .u64 (x:Int)] (fun v=>v=.int .i64 (tzN x:Int)):=by
 refine⟨vN (by kernel_rfl),fun w Z vs hG hz ha=>?_⟩;obtain⟨l⟩:=vs
 match l,ha with
 |[],ha=>exact absurd ha.1 (by simp)
 |_::_::_,ha=>exact absurd ha.1 (by simp)
 |[v1],ha=>
  have e1:=vK (ha.2 0 _ v1 rfl rfl).2.2;subst e1;obtain⟨_,b,hb,hp⟩:=hG.2 1 _ rfl;cases b with
  |cells cs t f=>
   have hp':cs=_:=hp;subst hp';refine(zvq x hx h0 w hb).mono ?_;rintro e w' ⟨rfl,rfl⟩;exact⟨_,_,rfl,rfl,fun _=>rfl,nV hG ⟨rfl,rfl,rfl,Zw _,fun _ _=>rfl⟩ (fun _=>rfl) (fun _=>⟨rfl,.int _ _⟩)⟩
  |_=>exact hp.elim
theorem c75 (x:Nat) (hx:x<256) (h0:x≠0):Spec Tryz.prog 150 [.int .u64 (x:Int)] (fun v=>v=.int .i64 (tzN x:Int)):=by
 refine Spec.of_awlS hf150 okf150 (by simp) fun S hS=>?_
 have g:=zvr x hx h0;simp only[Qs,Za,zg2,ztL];refine zI g ?_ (ha:=by rfl);simp only[Qs];exact hS
def natI (l:List Nat):List Int:=l.map fun(k:Nat)=>(k:Int)
theorem zvs: ∀s,s<256->s≠0->bitsN s=tzN s::bitsN (s&&&(s-1))/\s&&&(s-1)<s:=by decide+kernel
theorem pR: ∀s,s<256->(bitsN s).length<=8:=by decide+kernel
theorem znU (l:List Nat) (k:Nat):natI l++[(k:Int)]=natI (l++[k]):=by simp[natI]
theorem wX (l:List Nat):(natI l).length=l.length:=by simp[natI]
theorem c35 (s0:Nat) (hs0:s0<256):Spec Tryz.prog 85 [.int .u64 (s0:Int)] (fun v=>v=lst 1 (zG (natI (bitsN s0)))):=by
 refine Spec.of_awlP hf85 okf85 (by simp) fun S hS=>?_
 have hb0:=pR s0 hs0;simp only[Qs,bne_iff_ne,ne_eq,Zn,Za,ztt];refine zR (fun x:Nat×List Nat×Option Bool=>[(0,.int .u64 (x.1:Int)),(3,.k (.own 3))]) (fun x=>[(3,.arr 3 1 x.2.2 (zG (natI x.2.1)))]) (fun x=>x.1<256/\x.2.1++bitsN x.1=bitsN s0) (fun x=>x.1) (s0,[],some true) rfl rfl ⟨hs0,rfl⟩ ?_;rintro⟨s,L,nl⟩ ⟨hs,hL⟩;simp only[] at hs hL;by_cases h0:s=0
 ·subst h0
  have e:bitsN 0=[]:=rfl;rw[e,Ze] at hL;subst hL;simp only[Int.natCast_zero,Qs,ZK,Za,Xa,YY,Zt];refine hS _ ?_;simp only[V.fz,V.fzL,V.nrm,V.nrmL,uK (yR _)]
  try rfl
 ·obtain⟨hb,hlt⟩:=zvs s hs h0
  rw[hb] at hL;have hl:L.length+1<=8:=by
   have:=congrArg List.length hL;rw[Zq,Zo] at this;omega
  have n0:((s:Int) !=0)=true:=by
   rw[bne_iff_ne];omega
  have w1:IntKind.u64.wrap ((s:Int)-1)=((s-1:Nat):Int):=by
   rw[show(s:Int)-1=((s-1:Nat):Int) by omega];exact lO (by omega)
  have ha:=gU (s:=s) (t:=s-1) (by omega) (by omega);have g:=c75 s hs h0;generalize tzN s=z at g hL;simp only[n0,Qs,Za];refine zI g ?_ (ha:=by rfl);simp only[w1,ha,yJ,wX,Qs,kU,oI,forall_eq,bne_iff_ne,ne_eq,ZJ,Zn,Zl,Z5,Za,Zt];refine⟨by omega,by omega,Next.intro (s&&&(s-1),L++[z],some false) rfl (by simp only[zck,znU];rfl) ⟨by simp only;omega,by simp only[Z3,ZQ,Yd];exact hL⟩ (by simp only;omega)⟩
def sets (l:List Nat):List (List C):=l.map fun(s:Nat)=>[.int .u64 (s:Int)]
theorem rK (l:List Nat):(sets l).length=l.length:=by simp[sets]
theorem zcV {l:List Nat} {i:Nat} (h:i<l.length):(sets l).getD i []=[.int .u64 (l[i]:Int)]:=by simp[sets,h]
theorem lP (l:List Nat):C.normRows (sets l)=sets l:=by
 induction l with
 |nil=>rfl
 |cons a l ih=>
  have h:sets (a::l)=[.int .u64 (a:Int)]::sets l:=rfl;rw[h,cV,ih];rfl
theorem znV (l:List Nat) (s:Nat):sets l++[[.int .u64 (s:Int)]]=sets (l++[s]):=by simp[sets]
theorem c76 (l:List Nat) (s:Nat) (hl:l.length<=1000000):Spec Tryz.prog 151 [lst 1 (sets l),.int .u64 (s:Int)] (fun v=>v=.int .i64 (fstN (fun x=>decide (s=x)) l 0)):=by
 refine Spec.of_awlS hf151 okf151 (by simp) fun S hS=>?_
 simp only[rK,Qs,ZN,Zc,Za,ztv];refine zR (fun i:Nat=>[(0,lst 1 (sets l)),(1,.int .u64 (s:Int)),(7,.int .i64 l.length),(8,.int .i64 i)]) (fun _=>[]) (fun i=>i<=l.length/\fstN (fun x=>decide (s=x)) (l.drop i) i=fstN (fun x=>decide (s=x)) l 0) (fun i=>l.length-i) 0 rfl rfl ⟨ZC _,by simp⟩ ?_;rintro i ⟨hi,hD⟩;by_cases hlt:i<l.length
 ·have c1:(i:Int)<l.length:=by omega
  have c4:IntKind.i64.wrap ((i:Int)+1)=(i:Int)+1:=wrap_in (by omega) (by omega);have hat:=zcV hlt;rw[qA hlt] at hD;generalize l[i]=y at hD hat;by_cases he:s=y
  ·have e1:((s:Int)==(y:Int))=true:=by rw[beq_iff_eq];omega
   rw[if_pos (decide_eq_true he)] at hD;rw[<-hD] at hS;simp only[c1,e1,rK,hat,Qs,ZN,Za];exact hS
  ·have e1:((s:Int)==(y:Int))=false:=by rw[beq_eq_false_iff_ne];omega
   rw[if_neg (by rw[decide_eq_false he];simp)] at hD;simp only[c1,c4,e1,rK,hat,Qs,ZN,Za];exact Next.intro (i+1) rfl rfl ⟨by omega,hD⟩ (by omega)
 ·have c1: ¬(i:Int)<l.length:=by omega
  rw[ZB (by omega)] at hD;rw[<-hD] at hS;simp only[c1,Qs,ZN,Za];exact hS
theorem c36 (l:List Nat) (s:Nat) (hl:l.length<=1000000):Spec Tryz.prog 86 [lst 1 (sets l),.int .u64 (s:Int)] (fun v=>v=.bool (decide (s∈l))):=by
 refine Spec.of_awlS hf86 okf86 (by simp) fun S hS=>?_
 have g1:=c76 l s hl;have hp:=rE (p:=fun x=>decide (s=x)) l 0;generalize fstN (fun x=>decide (s=x)) l 0=x at g1 hp;simp only[Qs,Zc,Za,ztu];refine zI g1 ?_ (ha:=by simp only[Zk,Zp,zC,V.norm,zM,C.norm,lP]<;>rfl);simp only[Qs];refine wR hS ?_;rw[decide_eq_true_eq,decide_eq_true_eq,hp,Yt];simp
theorem zvt (t:Nat) (ht:t<1024) (l:List Nat) (hs: ∀s∈l,s<1024) (hl:l.length<=1000000):Spec Tryz.prog 209 [lst 1 (sets l),.k (.c (.fn 146 [.ro [.int .u64 (t:Int)] 0]))] (fun v=>v=.int .i64 (fstN (fun s=>s&&&t==0) l 0)):=by
 refine Spec.of_awlS hf209 okf209 (by simp) fun S hS=>?_
 simp only[rK,Qs,ZN,Zc,Za,ztA];refine zR (fun i:Nat=>[(0,lst 1 (sets l)),(1,.k (.c (.fn 146 [.ro [.int .u64 (t:Int)] 0]))),(7,.int .i64 l.length),(8,.int .i64 i)]) (fun _=>[]) (fun i=>i<=l.length/\fstN (fun s=>s&&&t==0) (l.drop i) i=fstN (fun s=>s&&&t==0) l 0) (fun i=>l.length-i) 0 rfl rfl ⟨ZC _,by simp⟩ ?_;rintro i ⟨hi,hD⟩;by_cases hlt:i<l.length
 ·have c1:(i:Int)<l.length:=by omega
  have c4:IntKind.i64.wrap ((i:Int)+1)=(i:Int)+1:=wrap_in (by omega) (by omega);have hat:=zcV hlt;have gi:=c68 l[i] t (hs _ (Zv hlt)) ht;rw[qA hlt] at hD;simp only[c1,rK,hat,Qs,ZN,Za];refine rC gi ?_ (ha:=by simp only[Zk,Zp,ZQ,Yd,zC,V.norm,C.norm,C.normRow]<;>rfl);cases hp:(l[i]&&&t==0) with
  |true=>
   rw[if_pos hp] at hD;rw[<-hD] at hS;simp only[Qs,ZN,Za];exact hS
  |false=>
   rw[if_neg (by rw[hp];simp)] at hD;simp only[c4,Qs,ZN,Za];exact Next.intro (i+1) rfl rfl ⟨by omega,hD⟩ (by omega)
 ·have c1: ¬(i:Int)<l.length:=by omega
  rw[ZB (by omega)] at hD;rw[<-hD] at hS;simp only[c1,Qs,ZN,Za];exact hS
theorem c67 (t:Nat) (ht:t<1024) (l:List Nat) (hs: ∀s∈l,s<1024) (hl:l.length<=1000000):Spec Tryz.prog 145 [lst 1 (sets l),.k (.c (.fn 146 [.ro [.int .u64 (t:Int)] 0]))] (fun v=>v=.bool (!hitP l t)):=by
 refine Spec.of_awlS hf145 okf145 (by simp) fun S hS=>?_
 have g1:=zvt t ht l hs hl;have hp:=rE (p:=fun s=>s&&&t==0) l 0;generalize fstN (fun s=>s&&&t==0) l 0=x at g1 hp;simp only[Qs,Zc,Za,zty];refine zI g1 ?_ (ha:=by simp only[Zk,Zp,zC,V.norm,zM,C.norm,C.normRow,lP]<;>rfl);simp only[Qs];refine wR hS ?_;rw[decide_eq_true_eq,hp];unfold hitP;rw[Xn,Yt,YP];simp
theorem c66 (t nv db:Nat) (ht:t<1024) (l:List Nat) (hs: ∀s∈l,s<1024) (hl:l.length<=1000000):Spec Tryz.prog 144 [.int .u64 (t:Int),.k (.c (.ro [zB 1 (sets l),.int .u64 (nv:Int),.int .u64 (db:Int)] 0))] (fun v=>v=.bool (hitP l t)):=by
 refine Spec.of_awlS hf144 okf144 (by simp) fun S hS=>?_
 have g:=c67 t ht l hs hl;generalize hitP l t=b at g hS;simp only[Qs,iZ,Zc,Zl,Za,ztx];refine zI g ?_ (ha:=by simp only[Zk,Zp,zC,V.norm,zM,C.norm,C.normRow,lP]<;>rfl);simp only[Qs,Bool.not_not];cases b<;>exact hS
end Go.Abs
namespace Go.Proofs
open Go.Shelf Go.RowKit Go.Lib Go.Sort
def Tryz.laysSortP_ren:Go.Shelf.Ren:=
 {
  f:=fun x=>
   match x with
   |6=>75
   |15=>105
   |14=>134
   |28=>173
   |29=>174
   |20=>195
   |21=>196
   |22=>197
   |23=>198
   |24=>199
   |25=>200
   |26=>201
   |27=>202
   |46=>252
   |47=>233
   |48=>234
   |49=>253
   |50=>254
   |57=>272
   |n=>n,
  t:=fun x=>
   match x with
   |22=>64
   |24=>25
   |25=>111
   |3=>3
   |39=>115
   |0=>0
   |53=>195
   |55=>197
   |4=>4
   |46=>187
   |45=>186
   |50=>192
   |5=>5
   |9=>9
   |66=>243
   |70=>247
   |76=>280
   |77=>281
   |n=>n,
  g:=fun n=>n}
theorem Tryz.laysSortP:SlLaysF0.n6 Tryz.prog Tryz.laysSortP_ren:=
 {mixed:=by kernel_rfl,
  f6:=
   Yc "slices.SortFunc[[]allonge/api.Place,allonge/api.Place]"
    ⟨of_decide_eq_true (id (ZG true)),
     ZI Tryz.func75
      (congrArg some
       (ZG
        {SlBodyF.n6 Tryz.laysSortP_ren with name:= "slices.SortFunc[[]allonge/api.Place,allonge/api.Place]" }))⟩,
  f14:=
   Yc "slices.pdqsortCmpFunc[allonge/api.Place]"
    ⟨of_decide_eq_true (id (ZG true)),
     ZI Tryz.func134
      (congrArg some
       (ZG
        {SlBodyF.n14 Tryz.laysSortP_ren with name:= "slices.pdqsortCmpFunc[allonge/api.Place]" }))⟩,
  f15:=ZI Tryz.func105 (congrArg some (ZG (SlBodyF.n15 Tryz.laysSortP_ren))),
  f20:=
   Yc "slices.insertionSortCmpFunc[allonge/api.Place]"
    ⟨of_decide_eq_true (id (ZG true)),
     ZI Tryz.func195
      (congrArg some
       (ZG
        {SlBodyF.n20 Tryz.laysSortP_ren with name:= "slices.insertionSortCmpFunc[allonge/api.Place]" }))⟩,
  f21:=
   Yc "slices.heapSortCmpFunc[allonge/api.Place]"
    ⟨of_decide_eq_true (id (ZG true)),
     ZI Tryz.func196
      (congrArg some
       (ZG
        {SlBodyF.n21 Tryz.laysSortP_ren with name:= "slices.heapSortCmpFunc[allonge/api.Place]" }))⟩,
  f22:=
   Yc "slices.breakPatternsCmpFunc[allonge/api.Place]"
    ⟨of_decide_eq_true (id (ZG true)),
     ZI Tryz.func197
      (congrArg some
       (ZG
        {SlBodyF.n22 Tryz.laysSortP_ren with name:= "slices.breakPatternsCmpFunc[allonge/api.Place]" }))⟩,
  f23:=
   Yc "slices.choosePivotCmpFunc[allonge/api.Place]"
    ⟨of_decide_eq_true (id (ZG true)),
     ZI Tryz.func198
      (congrArg some
       (ZG
        {SlBodyF.n23 Tryz.laysSortP_ren with name:= "slices.choosePivotCmpFunc[allonge/api.Place]" }))⟩,
  f24:=
   Yc "slices.reverseRangeCmpFunc[allonge/api.Place]"
    ⟨of_decide_eq_true (id (ZG true)),
     ZI Tryz.func199
      (congrArg some
       (ZG
        {SlBodyF.n24 Tryz.laysSortP_ren with name:= "slices.reverseRangeCmpFunc[allonge/api.Place]" }))⟩,
  f25:=
   Yc "slices.partialInsertionSortCmpFunc[allonge/api.Place]"
    ⟨of_decide_eq_true (id (ZG true)),
     ZI Tryz.func200
      (congrArg some
       (ZG
        {SlBodyF.n25 Tryz.laysSortP_ren with name:= "slices.partialInsertionSortCmpFunc[allonge/api.Place]" }))⟩,
  f26:=
   Yc "slices.partitionEqualCmpFunc[allonge/api.Place]"
    ⟨of_decide_eq_true (id (ZG true)),
     ZI Tryz.func201
      (congrArg some
       (ZG
        {SlBodyF.n26 Tryz.laysSortP_ren with name:= "slices.partitionEqualCmpFunc[allonge/api.Place]" }))⟩,
  f27:=
   Yc "slices.partitionCmpFunc[allonge/api.Place]"
    ⟨of_decide_eq_true (id (ZG true)),
     ZI Tryz.func202
      (congrArg some
       (ZG
        {SlBodyF.n27 Tryz.laysSortP_ren with name:= "slices.partitionCmpFunc[allonge/api.Place]" }))⟩,
  f28:=ZI Tryz.func173 (congrArg some (ZG (SlBodyF.n28 Tryz.laysSortP_ren))),
  f29:=ZI Tryz.func174 (congrArg some (ZG (SlBodyF.n29 Tryz.laysSortP_ren))),
  f46:=
   Yc "slices.siftDownCmpFunc[allonge/api.Place]"
    ⟨of_decide_eq_true (id (ZG true)),
     ZI Tryz.func252
      (congrArg some
       (ZG
        {SlBodyF.n46 Tryz.laysSortP_ren with name:= "slices.siftDownCmpFunc[allonge/api.Place]" }))⟩,
  f47:=ZI Tryz.func233 (congrArg some (ZG (SlBodyF.n47 Tryz.laysSortP_ren))),
  f48:=ZI Tryz.func234 (congrArg some (ZG (SlBodyF.n48 Tryz.laysSortP_ren))),
  f49:=
   Yc "slices.medianAdjacentCmpFunc[allonge/api.Place]"
    ⟨of_decide_eq_true (id (ZG true)),
     ZI Tryz.func253
      (congrArg some
       (ZG
        {SlBodyF.n49 Tryz.laysSortP_ren with name:= "slices.medianAdjacentCmpFunc[allonge/api.Place]" }))⟩,
  f50:=
   Yc "slices.medianCmpFunc[allonge/api.Place]"
    ⟨of_decide_eq_true (id (ZG true)),
     ZI Tryz.func254
      (congrArg some
       (ZG
        {SlBodyF.n50 Tryz.laysSortP_ren with name:= "slices.medianCmpFunc[allonge/api.Place]" }))⟩,
  f57:=
   Yc "slices.order2CmpFunc[allonge/api.Place]"
    ⟨of_decide_eq_true (id (ZG true)),
     ZI Tryz.func272
      (congrArg some
       (ZG
        {SlBodyF.n57 Tryz.laysSortP_ren with name:= "slices.order2CmpFunc[allonge/api.Place]" }))⟩,
  t0:=Tryz.underlying0,a0:=Tryz.isAgg0,z0:=Tryz.sizeOf0,v0:=Tryz.zeroValue0,t3:=Tryz.underlying3,
  a3:=Tryz.isAgg3,z3:=Tryz.sizeOf3,v3:=Tryz.zeroValue3,t4:=Tryz.underlying4,a4:=Tryz.isAgg4,
  z4:=Tryz.sizeOf4,v4:=Tryz.zeroValue4,t5:=Tryz.underlying5,a5:=Tryz.isAgg5,z5:=Tryz.sizeOf5,
  v5:=Tryz.zeroValue5,t9:=Tryz.underlying9,a9:=Tryz.isAgg9,z9:=Tryz.sizeOf9,v9:=Tryz.zeroValue9,
  t22:=Tryz.underlying64,a22:=Tryz.isAgg64,z22:=Tryz.sizeOf64,v22:=Tryz.zeroValue64,
  t25:=Tryz.underlying111,a25:=Tryz.isAgg111,z25:=Tryz.sizeOf111,v25:=Tryz.zeroValue111,
  t39:=Tryz.underlying115,a39:=Tryz.isAgg115,z39:=Tryz.sizeOf115,v39:=Tryz.zeroValue115,
  t45:=Tryz.underlying186,a45:=Tryz.isAgg186,z45:=Tryz.sizeOf186,v45:=Tryz.zeroValue186,
  t46:=Tryz.underlying187,a46:=Tryz.isAgg187,z46:=Tryz.sizeOf187,v46:=Tryz.zeroValue187,
  t50:=Tryz.underlying192,a50:=Tryz.isAgg192,z50:=Tryz.sizeOf192,v50:=Tryz.zeroValue192,
  t53:=Tryz.underlying195,a53:=Tryz.isAgg195,z53:=Tryz.sizeOf195,v53:=Tryz.zeroValue195,
  t55:=Tryz.underlying197,a55:=Tryz.isAgg197,z55:=Tryz.sizeOf197,v55:=Tryz.zeroValue197,
  t66:=Tryz.underlying243,a66:=Tryz.isAgg243,z66:=Tryz.sizeOf243,v66:=Tryz.zeroValue243,
  t70:=Tryz.underlying247,a70:=Tryz.isAgg247,z70:=Tryz.sizeOf247,v70:=Tryz.zeroValue247,
  t76:=Tryz.underlying280,a76:=Tryz.isAgg280,z76:=Tryz.sizeOf280,v76:=Tryz.zeroValue280,
  t77:=Tryz.underlying281,a77:=Tryz.isAgg281,z77:=Tryz.sizeOf281,v77:=Tryz.zeroValue281}
def Tryz.laysSortC_ren:Go.Shelf.Ren:=
 {
  f:=fun x=>
   match x with
   |6=>100
   |15=>105
   |14=>163
   |28=>173
   |29=>174
   |20=>224
   |21=>225
   |22=>226
   |23=>227
   |24=>228
   |25=>229
   |26=>230
   |27=>231
   |46=>262
   |47=>233
   |48=>234
   |49=>263
   |50=>264
   |57=>279
   |n=>n,
  t:=fun x=>
   match x with
   |22=>32
   |24=>28
   |25=>140
   |3=>3
   |39=>115
   |0=>0
   |53=>195
   |55=>197
   |4=>4
   |46=>187
   |45=>186
   |50=>192
   |5=>5
   |9=>9
   |66=>243
   |70=>247
   |76=>280
   |77=>281
   |n=>n,
  g:=fun n=>n}
theorem Tryz.laysSortC:SlLaysF.n6 Tryz.prog Tryz.laysSortC_ren:=
 {mixed:=by kernel_rfl,
  f6:=
   Yc "slices.SortFunc[[][]int,[]int]"
    ⟨of_decide_eq_true (id (ZG true)),
     ZI Tryz.func100
      (congrArg some
       (ZG
        {SlBodyF.n6 Tryz.laysSortC_ren with name:= "slices.SortFunc[[][]int,[]int]" }))⟩,
  f14:=
   Yc "slices.pdqsortCmpFunc[[]int]"
    ⟨of_decide_eq_true (id (ZG true)),
     ZI Tryz.func163
      (congrArg some
       (ZG
        {SlBodyF.n14 Tryz.laysSortC_ren with name:= "slices.pdqsortCmpFunc[[]int]" }))⟩,
  f15:=ZI Tryz.func105 (congrArg some (ZG (SlBodyF.n15 Tryz.laysSortC_ren))),
  f20:=
   Yc "slices.insertionSortCmpFunc[[]int]"
    ⟨of_decide_eq_true (id (ZG true)),
     ZI Tryz.func224
      (congrArg some
       (ZG
        {SlBodyF.n20 Tryz.laysSortC_ren with name:= "slices.insertionSortCmpFunc[[]int]" }))⟩,
  f21:=
   Yc "slices.heapSortCmpFunc[[]int]"
    ⟨of_decide_eq_true (id (ZG true)),
     ZI Tryz.func225
      (congrArg some
       (ZG
        {SlBodyF.n21 Tryz.laysSortC_ren with name:= "slices.heapSortCmpFunc[[]int]" }))⟩,
  f22:=
   Yc "slices.breakPatternsCmpFunc[[]int]"
    ⟨of_decide_eq_true (id (ZG true)),
     ZI Tryz.func226
      (congrArg some
       (ZG
        {SlBodyF.n22 Tryz.laysSortC_ren with name:= "slices.breakPatternsCmpFunc[[]int]" }))⟩,
  f23:=
   Yc "slices.choosePivotCmpFunc[[]int]"
    ⟨of_decide_eq_true (id (ZG true)),
     ZI Tryz.func227
      (congrArg some
       (ZG
        {SlBodyF.n23 Tryz.laysSortC_ren with name:= "slices.choosePivotCmpFunc[[]int]" }))⟩,
  f24:=
   Yc "slices.reverseRangeCmpFunc[[]int]"
    ⟨of_decide_eq_true (id (ZG true)),
     ZI Tryz.func228
      (congrArg some
       (ZG
        {SlBodyF.n24 Tryz.laysSortC_ren with name:= "slices.reverseRangeCmpFunc[[]int]" }))⟩,
  f25:=
   Yc "slices.partialInsertionSortCmpFunc[[]int]"
    ⟨of_decide_eq_true (id (ZG true)),
     ZI Tryz.func229
      (congrArg some
       (ZG
        {SlBodyF.n25 Tryz.laysSortC_ren with name:= "slices.partialInsertionSortCmpFunc[[]int]" }))⟩,
  f26:=
   Yc "slices.partitionEqualCmpFunc[[]int]"
    ⟨of_decide_eq_true (id (ZG true)),
     ZI Tryz.func230
      (congrArg some
       (ZG
        {SlBodyF.n26 Tryz.laysSortC_ren with name:= "slices.partitionEqualCmpFunc[[]int]" }))⟩,
  f27:=
   Yc "slices.partitionCmpFunc[[]int]"
    ⟨of_decide_eq_true (id (ZG true)),
     ZI Tryz.func231
      (congrArg some
       (ZG
        {SlBodyF.n27 Tryz.laysSortC_ren with name:= "slices.partitionCmpFunc[[]int]" }))⟩,
  f28:=ZI Tryz.func173 (congrArg some (ZG (SlBodyF.n28 Tryz.laysSortC_ren))),
  f29:=ZI Tryz.func174 (congrArg some (ZG (SlBodyF.n29 Tryz.laysSortC_ren))),
  f46:=
   Yc "slices.siftDownCmpFunc[[]int]"
    ⟨of_decide_eq_true (id (ZG true)),
     ZI Tryz.func262
      (congrArg some
       (ZG
        {SlBodyF.n46 Tryz.laysSortC_ren with name:= "slices.siftDownCmpFunc[[]int]" }))⟩,
  f47:=ZI Tryz.func233 (congrArg some (ZG (SlBodyF.n47 Tryz.laysSortC_ren))),
  f48:=ZI Tryz.func234 (congrArg some (ZG (SlBodyF.n48 Tryz.laysSortC_ren))),
  f49:=
   Yc "slices.medianAdjacentCmpFunc[[]int]"
    ⟨of_decide_eq_true (id (ZG true)),
     ZI Tryz.func263
      (congrArg some
       (ZG
        {SlBodyF.n49 Tryz.laysSortC_ren with name:= "slices.medianAdjacentCmpFunc[[]int]" }))⟩,
  f50:=
   Yc "slices.medianCmpFunc[[]int]"
    ⟨of_decide_eq_true (id (ZG true)),
     ZI Tryz.func264
      (congrArg some
       (ZG
        {SlBodyF.n50 Tryz.laysSortC_ren with name:= "slices.medianCmpFunc[[]int]" }))⟩,
  f57:=
   Yc "slices.order2CmpFunc[[]int]"
    ⟨of_decide_eq_true (id (ZG true)),
     ZI Tryz.func279
      (congrArg some
       (ZG
        {SlBodyF.n57 Tryz.laysSortC_ren with name:= "slices.order2CmpFunc[[]int]" }))⟩,
  t0:=Tryz.underlying0,a0:=Tryz.isAgg0,z0:=Tryz.sizeOf0,v0:=Tryz.zeroValue0,t3:=Tryz.underlying3,
  a3:=Tryz.isAgg3,z3:=Tryz.sizeOf3,v3:=Tryz.zeroValue3,t4:=Tryz.underlying4,a4:=Tryz.isAgg4,
  z4:=Tryz.sizeOf4,v4:=Tryz.zeroValue4,t5:=Tryz.underlying5,a5:=Tryz.isAgg5,z5:=Tryz.sizeOf5,
  v5:=Tryz.zeroValue5,t9:=Tryz.underlying9,a9:=Tryz.isAgg9,z9:=Tryz.sizeOf9,v9:=Tryz.zeroValue9,
  t22:=Tryz.underlying32,a22:=Tryz.isAgg32,z22:=Tryz.sizeOf32,v22:=Tryz.zeroValue32,a24:=Tryz.isAgg28,
  z24:=Tryz.sizeOf28,t25:=Tryz.underlying140,a25:=Tryz.isAgg140,z25:=Tryz.sizeOf140,
  v25:=Tryz.zeroValue140,t39:=Tryz.underlying115,a39:=Tryz.isAgg115,z39:=Tryz.sizeOf115,
  v39:=Tryz.zeroValue115,t45:=Tryz.underlying186,a45:=Tryz.isAgg186,z45:=Tryz.sizeOf186,
  v45:=Tryz.zeroValue186,t46:=Tryz.underlying187,a46:=Tryz.isAgg187,z46:=Tryz.sizeOf187,
  v46:=Tryz.zeroValue187,t50:=Tryz.underlying192,a50:=Tryz.isAgg192,z50:=Tryz.sizeOf192,
  v50:=Tryz.zeroValue192,t53:=Tryz.underlying195,a53:=Tryz.isAgg195,z53:=Tryz.sizeOf195,
  v53:=Tryz.zeroValue195,t55:=Tryz.underlying197,a55:=Tryz.isAgg197,z55:=Tryz.sizeOf197,
  v55:=Tryz.zeroValue197,t66:=Tryz.underlying243,a66:=Tryz.isAgg243,z66:=Tryz.sizeOf243,
  v66:=Tryz.zeroValue243,t70:=Tryz.underlying247,a70:=Tryz.isAgg247,z70:=Tryz.sizeOf247,
  v70:=Tryz.zeroValue247,t76:=Tryz.underlying280,a76:=Tryz.isAgg280,z76:=Tryz.sizeOf280,
  v76:=Tryz.zeroValue280,t77:=Tryz.underlying281,a77:=Tryz.isAgg281,z77:=Tryz.sizeOf281,
  v77:=Tryz.zeroValue281}
def Tryz.laysCmp_ren:Go.Shelf.Ren:=
 {
  f:=fun x=>
   match x with
   |5=>210
   |7=>237
   |n=>n,
  t:=fun x=>
   match x with
   |22=>3
   |3=>3
   |4=>4
   |n=>n,
  g:=fun n=>n}
theorem Tryz.laysCmp:SlLaysC2.n5 Tryz.prog Tryz.laysCmp_ren:=
 {mixed:=by kernel_rfl,
  f5:=
   Yc "cmp.Compare[int]"
    ⟨of_decide_eq_true (id (ZG true)),
     ZI Tryz.func210
      (congrArg some
       (ZG
        {SlBodyC2.n5 Tryz.laysCmp_ren with name:= "cmp.Compare[int]" }))⟩,
  f7:=
   Yc "cmp.isNaN[int]"
    ⟨of_decide_eq_true (id (ZG true)),
     ZI Tryz.func237
      (congrArg some
       (ZG
        {SlBodyC2.n7 Tryz.laysCmp_ren with name:= "cmp.isNaN[int]" }))⟩,
  t3:=Tryz.underlying3,a3:=Tryz.isAgg3,z3:=Tryz.sizeOf3,v3:=Tryz.zeroValue3,t4:=Tryz.underlying4,
  a4:=Tryz.isAgg4,z4:=Tryz.sizeOf4,v4:=Tryz.zeroValue4,t22:=Tryz.underlying3,a22:=Tryz.isAgg3,
  z22:=Tryz.sizeOf3,v22:=Tryz.zeroValue3}
end Go.Proofs
namespace Go.Abs
open Go.Sort Go.Proofs Go.Shelf Go.Lib Go.RowKit
def zD (e:TypeId) (k τ:Nat) (rows:List (List C)):Nat->Option O:=fun s=>if s=τ then some (.arr e k none rows) else none
def zcT (w:World) (Z:Bk->Prop) (r:List C) (v:List Value):Prop:=v.length=r.length/\ ∀(j:Nat) c u,r[j]?=some c->v[j]?=some u->PRep w Z c u
theorem zcU {w:World} {b:Nat} {cur F:Array Value} {e:TypeId} (hb:w.heap[b]?=some (.cells cur e (0,0))) (hF:F.size<=cur.size) (h: ∀j,j<F.size->cur[j]?=some F[j]!):Holds id w b 0 F:=by
 intro j hj;refine⟨?_,by simp[World.frozen?,hb]⟩;simp only[World.cell?,hb,ZY];simp only[YT,Z1,if_false];exact h j hj
theorem znQ {w:World} {g n:Nat} {os:Array Obj} {cur:Array Value} {e:TypeId} {fr:Nat×Nat} (d:Array Value) (hb:w.heap[g]?=some (.cells cur e fr)):
  (grow (putRow id (Sort.ahead w n) g 0 d) os).heap[g]?=some (.cells (putCells id 0 d cur) e fr):=by
 have hg:g<w.heap.size:=(Zs.1 hb).1;rw[heap_grow_old _ _ (by simpa using hg)];simp[putRow,mapBlock,Sort.ahead,Y1,hb,onCells]
theorem aH {w:World} {g n:Nat} {os:Array Obj} (d:Array Value):w.grownBy (grow (putRow id (Sort.ahead w n) g 0 d) os) (some g):=by
 refine⟨rfl,rfl,rfl,by simp,fun k hk hne=>?_⟩;rw[heap_grow_old _ _ (by simpa using hk)];have:g≠k:=fun e=>hne (by rw[e])
 simp[putRow,mapBlock,Sort.ahead,Y1,this]
theorem znR {vs:Array Value} (h:vs.size=2): ∃a b,vs= #[a,b]:=by
 obtain⟨l⟩:=vs
 match l,h with
 |[a,b],_=>exact⟨a,b,rfl⟩
theorem znS {τ:Nat} {x y r:V} (o:Nat->Option O) (ob:O) (h: ∀s,s≠τ->o s=none):(((⟨fun s=>[x,y].getD s .any,o⟩:St).scrub τ).setO τ ob).put 0 r=⟨fun s=>if s=0 then r else(([x,y].getD s .any).scrub τ),fun s=>if s=τ then some ob else none⟩:=by
 simp only[St.put,St.setO,St.scrub,St.mk.injEq];refine⟨trivial,?_⟩;funext s;by_cases hs:s=τ
 ·simp[hs]
 ·simp[hs,h s hs]
theorem znT {P:Program} {ρ:Ren} (L:SlLaysF0.n6 P ρ) (hc:tJ P (ρ.f 6)) (e:TypeId) (k:Nat) (k0:0<k) (aE: ∀w,(isAgg (ρ.t 24)).run P w=.ok true w) (zE: ∀w,(Go.sizeOf (ρ.t 24)).run P w=.ok k w)
  {β:Type} (encR:β->List C) (hk: ∀x,(encR x).length=k) (cf:β->β->Int) (lt:β->β->Bool) (hlt: ∀x y,decide (cf x y<0)=lt x y) (hO:SWO lt) (g:Nat) (eg: ∀args w,(callFunc g args).run P w=.ok (.enter g args) w)
  (τ:Nat) (ks:List β) (hm:ks.length<4611686018427387904)
  (hcl: ∀x∈ks,∀y∈ks,∀(W:World) (Z:Bk->Prop) (vx vy:List Value),(∀b,Z b->b.2<W.heap.size)->zcT W Z (encR x) vx->zcT W Z (encR y) vy->
   Calls P g #[.agg vx.toArray,.agg vy.toArray] W fun e w'=>e=.returned (.int .i64 (cf x y))/\ ∃q os',w'=grow (W.drewN q) os'):
  yV P (ρ.f 6) [.k (.own τ),.k (.c (.fn g []))] (zD e k τ (ks.map encR)) [τ] (fun r o'=>r=.tup []/\ ∃out:List β,out.Perm ks/\out.Pairwise (fun x y=>lt y x=false)/\o'=zD e k τ (out.map encR)):=by
 refine⟨hc,fun w0 Z0 κ w vs hsz hi=>?_⟩;obtain⟨v,fv,rfl⟩:=znR hsz;have ho:(zD e k τ (ks.map encR)) τ=some (.arr e k none (ks.map encR)):=by simp[zD]
 have hno: ∀s,s≠τ->zD e k τ (ks.map encR) s=none:=fun s hs=>by simp[zD,hs]
 have hob:=hi.objs τ _ ho;have htm:zK w (Zof w0 Z0 κ (zD e k τ (ks.map encR)) w) κ (zD e k τ (ks.map encR)) (.k (.own τ)) v:=by simpa using hi.tmps 0
 have htf:zK w (Zof w0 Z0 κ (zD e k τ (ks.map encR)) w) κ (zD e k τ (ks.map encR)) (.k (.c (.fn g []))) fv:=by simpa using hi.tmps 1
 have hfv:fv=.func (.func g) #[] #[]:=by
  have:=htf.2;unfold yU at this;cases this with
  |fn f caps us val h1 h2 h3=>
   have:us= #[]:=YM h1;rw[this]
 subst hfv;have none_case: ∀(p:Option Addr) (cap:Nat),ks=[]->v=.slice p 0 cap->Calls P (ρ.f 6) #[v,.func (.func g) #[] #[]] w fun e_1 w'=> ∃v κ' r o',e_1=.returned v/\(r=.tup []/\ ∃out:List β,out.Perm ks/\out.Pairwise (fun x y=>lt y x=false)/\o'=zD e k τ (out.map encR))/\yZ (fun τ_1=>τ_1∈[τ]) (zD e k τ (ks.map encR)) o' κ κ' w w'/\Inv w0 Z0 κ' ⟨fun s=>if s=0 then r else .any,o'⟩ #[v] w':=by
  intro p cap hnil hv;subst hnil hv;refine(AnyF.slices_SortFunc_none L p cap _ w).mono ?_;rintro ex w' ⟨rfl,hw⟩;rw[hw];have hI:=hi.moveG (τ:=τ) (d:=0) (ob:=.arr e k none []) (v:=.tup []) (u:=.tuple #[]) (bo:=κ τ) (w':=w) ho (by simp) rfl rfl rfl (Zw _) (fun _ _ _=>rfl) (fun b hb=> .inr hb)
   (fun Z hZ=>?_) ⟨#[],rfl,rfl,trivial⟩
  ·have hI2:=hI.only (T:=[τ]) (r:=.tup []) (v:=.tuple #[]) ⟨#[],rfl,rfl,trivial⟩ rfl (fun t ht ob hob=>by
    simp only[ZT] at ht
    subst ht
    simp[St.put,St.setO] at hob
    subst hob;rfl)
   have htab:yE [τ] ((((⟨fun s=>[V.k (.own τ),.k (.c (.fn g []))].getD s .any,zD e k τ (([]:List β).map encR)⟩:St).scrub τ).setO τ (.arr e k none [])).put 0 (.tup [])).o=zD e k τ (([]:List β).map encR):=by
    funext t;unfold yE zD;by_cases ht:t=τ
    ·subst ht;simp[St.put,St.setO]
    ·simp[ht]
   rw[htab] at hI2;refine⟨.tuple #[],_,.tup [],_,rfl,⟨rfl,[],XB _,Xx,rfl⟩,?_,hI2⟩;intro s hs;simp only[ZT] at hs;subst hs;refine⟨by simp[yI,zD],by simp,fun _ b hb cur e' f hcur=>⟨cur,hcur,rfl⟩⟩
  ·have hZ':=hob
   rcases hZ' with⟨h1,_,_⟩|⟨b,cur,cap',h1,h2,h3,h4,h5,h6,_,h8,_⟩
   ·exact .inl ⟨by simp[h1],rfl,by simp⟩
   ·exact .inr ⟨b,cur,cap',by simp[h1],h2,h3,h4,by simp,h6,by simp,by simp,fun i j r c hr=>by simp at hr⟩
 rcases hob with⟨hκ,hrows,_⟩|⟨b,cur,cap,hκ,hheap,h0,hcs,hlen,hcap,_,hall,hrr⟩
 ·have hl0:ks=[]:=by simpa using hrows
  have hv:v=.slice none 0 0:=by
   rcases htm.2 e k none _ ho with⟨_,hv⟩|⟨b,_,_,hb,_⟩
   ·exact hv
   ·rw[hκ] at hb;cases hb
  exact none_case none 0 hl0 hv
 ·obtain⟨cap',hv,hcap'⟩: ∃cap',v=.slice (some ⟨b,0,none⟩) ks.length cap'/\cur.size=cap'*k:=by
   rcases htm.2 e k none _ ho with⟨hn,_⟩|⟨b',cur',cap',hb,hh,hc2,hv⟩
   ·rw[hκ] at hn;cases hn
   ·rw[hκ] at hb;cases hb
    rw[hheap] at hh;cases hh;exact⟨cap',by simpa using hv,hc2⟩
  by_cases hks:ks=[]
  ·exact none_case _ cap' hks (by rw[hv,hks];rfl)
  have hpos:0<ks.length:=Ye.2 hks;subst hv;have hlt':b<w.heap.size:=wU hheap;rw[Zg] at hlen;have hcsz:ks.length*k<=cur.size:=by rw[hcs];exact ZZ k hlen
  haveI:Inhabited (Fin ks.length):=⟨⟨0,hpos⟩⟩
  let enc:Fin ks.length->List Value:=fun i=>(List.range k).map fun j=>cur.getD (i.1*k+j) (.bool true)
  have enck: ∀x,(enc x).length=k:=fun x=>by simp[enc]
  have hcell: ∀(i:Fin ks.length) (j:Nat) c,(encR ks[i.1])[j]?=some c-> ∃u,cur[i.1*k+j]?=some u/\(enc i)[j]?=some u/\PRep w (Zof w0 Z0 κ (zD e k τ (ks.map encR)) w) c u:=by
   intro i j c hcj;have hj:j<k:=by rw[<-hk ks[i.1]];exact(Zu.1 hcj).1
   obtain⟨u,hu,hp⟩:=hrr i.1 j (encR ks[i.1]) c (by rw[Zz,Zf i.2];rfl) hcj;refine⟨u,hu,?_,hp⟩;simp only[enc,Zz,List.getElem?_range hj,YA];rw[ZW,hu];rfl
  have henc1: ∀x,∀u∈enc x,u.oneCell'=true:=by
   intro x u hu;obtain⟨j,hj,rfl⟩:=YN hu;have hj':j<k:=by rwa [enck] at hj
   obtain⟨u2,_,h2,h3⟩:=hcell x j _ (Zf (by rw[hk];exact hj'));rw[Zf hj] at h2;cases h2;exact h3.oneCell
  let d:Array (Fin ks.length):=Array.ofFn fun i=>i
  have hds:d.size=ks.length:=by simp[d]
  have hdi: ∀i (h:i<ks.length),d[i]! =⟨i,h⟩:=fun i h=>by simp[d,h]
  have hflat: ∀(d':Array (Fin ks.length)),d'.size=ks.length-> ∀t,t<ks.length*k->(flatK enc k d')[t]! =cur.getD (d'[t/k]!.1*k+t % k) (.bool true):=by
   intro d' hd' t ht;rw[get_flatK _ _ _ _ (by rw[hd'];exact ht)];have hm2:t % k<k:=XE _ k0;simp only[enc];rw[getElem!_pos _ _ (by simpa using hm2)];simp
  have hH:HoldsK enc k w b 0 d:=by
   refine zcU hheap (by simp[hds];exact hcsz) fun t ht=>?_
   rw[size_flatK,hds] at ht;rw[hflat d hds t ht];have hq:t/k<ks.length:=(Nat.div_lt_iff_lt_mul k0).2 ht;rw[hdi _ hq];have e1:t/k*k+t % k=t:=Nat.div_add_mod' t k;show cur[t]?=some (cur.getD (t/k*k+t % k) _);rw[e1,ZW,Ya (by omega)];rfl
  let cfF:Fin ks.length->Fin ks.length->Int:=fun i j=>cf ks[i.1] ks[j.1]
  have hltF: ∀x y,ltOf cfF x y=lt ks[x.1] ks[y.1]:=fun x y=>by unfold ltOf;exact hlt _ _
  have hOF:SWO (ltOf cfF):=⟨fun x=>by rw[hltF];exact hO.irrefl _,fun x y z h1 h2=>by rw[hltF] at*;exact hO.trans _ _ _ h1 h2,fun x y z h1 h2=>by rw[hltF] at*;exact hO.ntrans _ _ _ h1 h2⟩;have hcmp:CmpLays P g #[] enc k cfF b 0 d.size w:=by
   intro m os dk hdk x y;have hsame:xY (Zof w0 Z0 κ (zD e k τ (ks.map encR)) w) w (sortWorldK enc k w b 0 m dk os):=by
    intro bk hbk;have hne:bk.2≠b:=fun e2=>hbk.2.2 τ (by rw[ho];simp) (by rw[hκ,e2])
    exact(aH (flatK enc k dk)).block bk.2 hbk.2.1 (fun e2=>hne (by cases e2;rfl))
   have hrow: ∀i:Fin ks.length,zcT (sortWorldK enc k w b 0 m dk os) (Zof w0 Z0 κ (zD e k τ (ks.map encR)) w) (encR ks[i.1]) (enc i):=by
    intro i;refine⟨by rw[enck,hk],fun j c u hcj hu=>?_⟩;obtain⟨u2,_,h2,h3⟩:=hcell i j c hcj;rw[h2] at hu;cases hu;exact h3.mono hsame fun _ h=>h
   have hsz2:w.heap.size<=(sortWorldK enc k w b 0 m dk os).heap.size:=(aH (flatK enc k dk)).size;have:=hcl ks[x.1] (Zv _) ks[y.1] (Zv _) (sortWorldK enc k w b 0 m dk os) (Zof w0 Z0 κ (zD e k τ (ks.map encR)) w) (enc x) (enc y) (fun bk hbk=>ZO hbk.2.1 hsz2) (hrow x) (hrow y);rw[show(#[.agg (enc x).toArray,.agg (enc y).toArray]++ #[]:Array Value)= #[.agg (enc x).toArray,.agg (enc y).toArray] from rfl];exact this
  have hcon:=AnyQ.slices_SortFunc L k aE zE enc enck henc1 cfF hOF g #[] b 0 cap' d w eg hcmp hH hlt' (by rw[hds];exact hm);rw[hds] at hcon;refine hcon.mono ?_;rintro ex w' ⟨rfl,d',n,os,⟨p1,p2,p3⟩,hs,rfl⟩;rw[hds] at p1;have hfull: ∀a:Array (Fin ks.length),a.size=ks.length->a.extract 0 ks.length=a:=fun a ha=>by
   apply Array.ext
   ·simp[ha]
   ·intro i h1 h2;simp
  rw[hfull d' p1,hfull d hds] at p3
  let out:List β:=d'.toList.map fun i=>ks[i.1]
  have hol:out.length=ks.length:=by simp[out,p1]
  have hperm:out.Perm ks:=by
   have h1:(d.toList.map fun i:Fin ks.length=>ks[i.1])=ks:=by
    apply Xg
    ·simp[d]
    ·intro i h1 h2;simp[d]
   have h2:(d'.toList.map fun i:Fin ks.length=>ks[i.1]).Perm (d.toList.map fun i:Fin ks.length=>ks[i.1]):=p3.map _;rw[h1] at h2;exact h2
  have hpw:out.Pairwise fun x y=>lt y x=false:=by
   rw[List.pairwise_iff_getElem];intro i j h1 h2 hij;have hi1:i<d'.size:=by rw[p1,<-hol];exact h1
   have hj1:j<d'.size:=by rw[p1,<-hol];exact h2
   have:=hs i j (ZC _) hij (by rw[<-p1];exact hj1);rw[hltF,getElem!_pos d' i hi1,getElem!_pos d' j hj1] at this;simpa [out] using this
  have hh2:=znQ (w:=w) (n:=n) (os:=os) (flatK enc k d') hheap;obtain⟨g1,g2,g3,g4,g5⟩:=aH (w:=w) (g:=b) (n:=n) (os:=os) (flatK enc k d');have hsz2:(putCells id 0 (flatK enc k d') cur).size=cur.size:=by simp[putCells]
  have hzsame:xY (Zof w0 Z0 κ (zD e k τ (ks.map encR)) w) w (sortWorldK enc k w b 0 n d' os):=by
   intro bk hbk;have hne:bk.2≠b:=fun e2=>hbk.2.2 τ (by rw[ho];simp) (by rw[hκ,e2])
   exact g5 bk.2 hbk.2.1 (fun e2=>hne (by cases e2;rfl))
  have hI:=hi.moveG (τ:=τ) (d:=0) (ob:=.arr e k none (out.map encR)) (v:=.tup []) (u:=.tuple #[]) (bo:=some b) (w':=sortWorldK enc k w b 0 n d' os) ho (by simp) g1 g2 g3 g4
   (fun q hq hne=>g5 q hq (by rw[hκ] at hne;exact fun h=>hne (by cases h;rfl))) (fun b' hb=> .inr (by cases hb;exact hκ))
   (fun Z hZ=> .inr ⟨b,_,cap,by simp,hh2,h0,by rw[hsz2];exact hcs,by rw[Zg,hol];exact hlen,hcap,by simp,fun r hr=>by obtain⟨x,_,rfl⟩:=ZH.1 hr;exact hk x,fun i j r c hr hcj=>?_⟩) ⟨#[],rfl,rfl,trivial⟩
  ·rw[znS _ _ hno] at hI
   have hI2:=hI.only (T:=[τ]) (r:=.tup []) (v:=.tuple #[]) ⟨#[],rfl,rfl,trivial⟩ rfl (fun t ht ob hob=>by
    simp only[ZT] at ht
    subst ht
    simp at hob
    subst hob;rfl)
   have htab:yE [τ] (fun s=>if s=τ then some (O.arr e k none (out.map encR)) else none)=zD e k τ (out.map encR):=by
    funext t;unfold yE zD;by_cases ht:t=τ
    ·subst ht;simp
    ·simp[ht]
   rw[htab] at hI2;refine⟨.tuple #[],_,.tup [],_,rfl,⟨rfl,out,hperm,hpw,rfl⟩,?_,hI2⟩;intro s hs;simp only[ZT] at hs;subst hs;refine⟨by simp[zD,yI,hol],by simp[hκ],fun _ b' hb cur0 e0 f0 hc0=>?_⟩;rw[hκ] at hb;cases hb;rw[hheap] at hc0;cases hc0;exact⟨_,hh2,hsz2⟩
  ·
   have hi':i<ks.length:=by have:=(Zu.1 hr).1;rwa [Zg,hol] at this
   have hid:i<d'.size:=by rw[p1];exact hi'
   have hout:out[i]'(by rw[hol];exact hi')=ks[(d'[i]).1]:=by simp[out]
   have hr':r=encR ks[(d'[i]).1]:=by
    rw[Zz,Zf (by rw[hol];exact hi')] at hr;have:=Yr hr;rw[<-this,hout]
   subst hr';have hj:j<k:=by rw[<-hk ks[(d'[i]).1]];exact(Zu.1 hcj).1
   obtain⟨u,hu,_,hp⟩:=hcell d'[i] j c hcj;have hlt2:i*k+j<ks.length*k:=by
    have:=ZZ k (show i+1<=ks.length from hi');rw[YD,Xs] at this;omega
   have e1:(i*k+j)/k=i:=(blk_iff k i _ k0).1 ⟨by omega,by omega⟩;have e2:(i*k+j) % k=j:=by rw[Nat.mod_eq_sub_div_mul,e1];omega
   refine⟨u,?_,hp.mono hzsame hZ⟩;have hf:=hflat d' p1 (i*k+j) hlt2;rw[e1,e2,getElem!_pos d' i hid,ZW,hu] at hf;have hfs:i*k+j<(flatK enc k d').size:=by rw[size_flatK,p1];exact hlt2
   have hcs2:i*k+j<cur.size:=by omega
   simp only[putCells];rw[Array.getElem?_mapIdx,Ya hcs2];simp only[YA,ZC,true_and,ZY,hfs,if_true,XG,id];rw[hf];rfl
end Go.Abs
namespace Go.Abs
def tP:List Int->List Int->Int
 |[],[]=>0
 |[],_::_=> -1
 |_::_,[]=>1
 |a::x,b::y=>if Lib.compareInt a b≠0 then Lib.compareInt a b else tP x y
def uV (a b:List Int):Int:=if (a.length:Int)-b.length≠0 then(a.length:Int)-b.length else tP a b
theorem zvu (a b:Int):(a<b/\Lib.compareInt a b= -1)\/(a=b/\Lib.compareInt a b=0)\/(b<a/\Lib.compareInt a b=1):=by
 unfold Lib.compareInt;rcases Int.lt_trichotomy a b with h|h|h
 ·exact .inl ⟨h,by simp[h]⟩
 ·exact .inr (.inl ⟨h,by subst h;simp⟩)
 ·refine .inr (.inr ⟨h,?_⟩)
  rw[if_neg (by omega),if_pos h]
end Go.Abs
namespace Go.Proofs
open Go.Shelf Go.RowKit Go.Lib Go.Sort Go.Abs
theorem zcW {p:Prop} (h:p):Aside p:=h
def mD (w:World) (p:Option Addr) (b o:Nat) (x:List Int):Prop:=(x.length≠0->p=some ⟨b,o,none⟩)/\ ∀j,j<x.length->w.cell? ⟨b,o+j,none⟩=some (.int .i64 (x.getD j 0))
theorem znW (b1 o1 c1 b2 o2 c2:Nat) (p1 p2:Option Addr) (x y:List Int) (w:World) (hx:x.length<=1000) (hy:y.length<=1000) (I:Aside (mD w p1 b1 o1 x/\mD w p2 b2 o2 y)):
  Calls Tryz.prog 148 #[.slice p1 x.length c1,.slice p2 y.length c2] w fun e w'=>e=.returned (.int .i64 (tP x y))/\w'=w:=by
 have hc108: ∀a b W,Calls Tryz.prog 210 #[.int .i64 a,.int .i64 b] W fun e w'=>e=.returned (.int .i64 (Lib.compareInt a b))/\w'=W:=fun a b W=>AnyG.cmp_Compare_int Tryz.laysCmp a b W
 go_enter Tryz.func148,Tryz.ntmps148
 go_wp2
 go_loopg [11] x.length (fun g i wr=> ∃k,k<=x.length/\g=x.length-k/\i=.int .i64 (k:Nat)/\wr=w/\k<=y.length/\tP (x.drop k) (y.drop k)=tP x y)
 case atStart=>exact⟨0,ZC _,rfl,rfl,rfl,ZC _,rfl⟩
 case round=>
  obtain⟨k,hk,rfl,rfl,rfl,hky,hR⟩:=hrel;by_cases hlt:k<x.length
  ·have hlt':(k:Int)<x.length:=by omega
   obtain rfl:=I.out.1.1 (by omega);have f1:=I.out.1.2 k hlt;by_cases hyt:k<y.length
   ·have hyt':(k:Int)<y.length:=by omega
    obtain rfl:=I.out.2.1 (by omega);have f2:=I.out.2.2 k hyt;have e1:x.getD k 0=x[k]:=by simp[List.getD,hlt]
    have e2:y.getD k 0=y[k]:=by simp[List.getD,hyt]
    rw[ZE hlt,ZE hyt,tP,<-e1,<-e2] at hR;generalize x.getD k 0=a at f1 hR;generalize y.getD k 0=b at f2 hR;have c108:=hc108 a b;generalize Lib.compareInt a b=r at c108 hR;have R:=zcW hR;clear hR e1 e2 hc108;by_cases hr:r=0
    ·subst hr
     go_wp2_with (go_at_call 210;refine(c108 _).mono ?_;rintro e w1 ⟨rfl,rfl⟩)
     have wk:IntKind.i64.wrap ((k:Int)+1)=((k+1:Nat):Int):=by rw[Go.Abs.wrap_in (by omega) (by omega)];omega
     go_roundg (x.length-(k+1))
     case rel=>exact⟨k+1,hlt,rfl,by go_num,rfl,hyt,by have:=R.out;rwa [if_neg (by simp)] at this⟩
     case measure=>omega
    ·go_wp2_with (go_at_call 210;refine(c108 _).mono ?_;rintro e w1 ⟨rfl,rfl⟩)
     go_ret
     have:=R.out;rw[if_pos hr] at this;exact⟨by rw[<-this];rfl,rfl⟩
   ·have hyt':(k:Int)>=y.length:=by omega
    have e1:y.drop k=[]:=List.drop_of_length_le (by omega);rw[e1,ZE hlt,tP] at hR;have R:=zcW hR;clear hR e1 hc108
    go_wp2
    go_ret
    exact⟨by rw[<-R.out];rfl,rfl⟩
  ·obtain rfl:k=x.length:=by omega
   rw[List.drop_length] at hR;have R:=zcW hR;clear hR hc108;by_cases hyt:x.length<y.length
   ·have hyt':(x.length:Int)<y.length:=by omega
    go_wp2
    go_ret
    have:=R.out;rw[ZE hyt,tP] at this;exact⟨by rw[<-this];rfl,rfl⟩
   ·have hyt': ¬(x.length:Int)<y.length:=by omega
    go_wp2
    go_ret
    have:=R.out;rw[List.drop_of_length_le (by omega),tP] at this;exact⟨by rw[<-this];rfl,rfl⟩
theorem zvv (b1 o1 c1 b2 o2 c2:Nat) (p1 p2:Option Addr) (x y:List Int) (w:World) (hx:x.length<=1000) (hy:y.length<=1000) (I:Aside (mD w p1 b1 o1 x/\mD w p2 b2 o2 y)):
  Calls Tryz.prog 147 #[.slice p1 x.length c1,.slice p2 y.length c2] w fun e w'=>e=.returned (.int .i64 (uV x y))/\w'=w:=by
 have c71:=znW b1 o1 c1 b2 o2 c2 p1 p2 x y w hx hy I;by_cases hd:(x.length:Int)-y.length=0
 ·have hd':((x.length:Int)-y.length !=0)=false:=by simp[hd]
  have R:Aside (uV x y=tP x y):=by show uV x y=_;unfold uV;rw[if_neg (by simpa using hd)]
  go_enter Tryz.func147,Tryz.ntmps147
  go_wp2_with (go_at_call 148;refine c71.mono ?_;rintro e w1 ⟨rfl,rfl⟩)
  go_ret
  exact⟨by rw[R.out];rfl,rfl⟩
 ·have hd':((x.length:Int)-y.length !=0)=true:=by simp[hd]
  have R:Aside (uV x y=(x.length:Int)-y.length):=by show uV x y=_;unfold uV;rw[if_pos hd]
  clear c71
  go_enter Tryz.func147,Tryz.ntmps147
  go_wp2
  go_ret
  exact⟨by rw[R.out];rfl,rfl⟩
end Go.Proofs
namespace Go.Ex
end Go.Ex
namespace Go.Ex
end Go.Ex
namespace Go.Ex
open Go.Lib Go.Wd Go.Wire Go.Abs
def zyT (F:List Nat):Nat:=(F.filter fun f=>decide (f=0)).length
def stG (F:List Nat):Int:=if zyT F=0 then 0 else if zyT F=F.length then 1 else 2
theorem zzh (m:Nat) (F:List Nat):stG F=stateV (mB m F):=by
 have hs:(mB m F).sets=wL F []:=rfl;have hmem: ∀x,x∈wL F [] ↔ x∈F:=fun x=>by rw[bQ];simp
 have hnd:=zy6 F [] List.nodup_nil;have h0:zyT F=0 ↔ 0 ∉ F:=by
  unfold zyT;rw[List.length_eq_zero_iff,List.filter_eq_nil_iff];constructor
  ·intro h q;exact h 0 q (by simp)
  ·intro h f hf q;rw[decide_eq_true_eq] at q;exact h (q▸hf)
 have h1:zyT F=F.length ↔ ∀f∈F,f=0:=by
  unfold zyT;rw[List.length_filter_eq_length_iff];simp
 unfold stG stateV;rw[hs];by_cases hz:(0:Nat)∈F
 ·rw[if_neg (fun q=>h0.1 q hz),if_pos ((hmem 0).2 hz)]
  have h2:zyT F=F.length ↔ (wL F []).length=1:=by
   rw[h1];have hz2:=(hmem 0).2 hz;constructor
   ·intro h
    match ho:wL F [],hnd,hz2 with
    |[a],_,_=>rfl
    |a::b::r,hnd,_=>
     exfalso;have ha:=h a ((hmem a).1 (by rw[ho];simp));have hb:=h b ((hmem b).1 (by rw[ho];simp));have:=(ZK.1 hnd).1;rw[ha,hb] at this;exact this (by simp)
   ·intro h f hf
    obtain⟨a,ha⟩:=List.length_eq_one_iff.1 h;have h3:=(hmem f).2 hf;rw[ha] at h3 hz2;simp at h3 hz2;omega
  by_cases hg:zyT F=F.length
  ·rw[if_pos hg,if_pos (h2.1 hg)]
  ·rw[if_neg hg,if_neg (fun q=>hg (h2.2 q))]
 ·rw[if_pos (h0.2 hz),if_neg (fun q=>hz ((hmem 0).1 q))]
end Go.Ex
namespace Go.Ex
open Go.Lib
section
variable {α : Type} [Inhabited α] [DecidableEq α]
def cfG (a:α):List α->List α
 |[]=>[]
 |b::l=>if a=b then cfG b l else b::cfG b l
def yL:List α->List α
 |[]=>[]
 |a::l=>a::cfG a l
omit [Inhabited α] in
theorem zn1 (b:α): ∀(l:List α) (a:α),cfG a (l++[b])=cfG a l++(if (a::l).getLast (by simp)=b then[] else[b])
 |[],a=>rfl
 |c::l,a=>by
  rw[ZQ,cfG,cfG,zn1 b l c];have:(a::c::l).getLast (by simp)=(c::l).getLast (by simp):=by simp
  rw[this];split<;>simp
theorem zn2 (a:α) (l:List α): ∀m,m<=l.length->compactUpTo (a::l).toArray (m+1)=a::cfG a (l.take m)
 |0,_=>by
  rw[compactUpTo_succ,keeps_lt_one _ 0 (by decide)];simp[compactUpTo,cfG]
 |m+1,h=>by
  rw[compactUpTo_succ,zn2 a l m (by omega)];have hm:m<l.length:=by omega
  have e1:(a::l).toArray[m+1]! =l[m]:=by
   rw[getElem!_pos _ _ (by simp;omega)];simp
  have e2:(a::l).toArray[m]! =(a::l.take m).getLast (by simp):=by
   rw[getElem!_pos _ _ (by simp;omega),List.getLast_eq_getElem];simp only[List.getElem_toArray,Zo,Yl,YV (show m<=l.length by omega),Nat.add_sub_cancel];cases m with
   |zero=>simp
   |succ m=>simp
  rw[ZD hm,zn1];have e3:keeps (a::l).toArray (m+1)= !decide ((a::l.take m).getLast (by simp)=l[m]):=by
   unfold keeps;rw[Nat.add_sub_cancel,e1,e2];simp[eq_comm]
  rw[e3,e1];by_cases q:(a::l.take m).getLast (by simp)=l[m]<;>simp[q]
theorem gX: ∀l:List α,compact l=yL l
 |[]=>by simp[compact,compactUpTo,yL]
 |a::l=>by
  unfold compact;rw[Zo,zn2 a l _ (Zw _),Yk,yL]
end
end Go.Ex
namespace Go.Ex
open Go.Lib Go.Wd Go.Wire Go.Abs
theorem zoC {a b:List Nat} (ha:a.Pairwise (· < ·)) (hb:b.Pairwise (· < ·)) (h: ∀k,k∈a ↔ k∈b):a=b:=by
 have hs:Strict (fun a b:Nat=>decide (a<b)):=⟨fun a=>by simp,fun a b c h1 h2=>by simp at*;omega,fun a b h1 h2=>by simp at*;omega⟩;have nd: ∀{l:List Nat},l.Pairwise (· < ·)->l.Nodup:=fun hl=>hl.imp fun q e=>by omega
 exact zcI hs ((List.perm_ext_iff_of_nodup (nd ha) (nd hb)).2 h) (ha.imp fun q=>by simp;omega) (hb.imp fun q=>by simp;omega)
theorem zwE (s:Nat):(bitsN s).Pairwise (· < ·):=XT _ List.pairwise_lt_range
theorem zwF (L:List Dmd) (p:List Pln):(uD L p).Pairwise (· < ·):=XT _ List.pairwise_lt_range
theorem zwG {L:List Dmd} (hL:L.length<=8) (p:List Pln):uD L p=bitsN (uE (uD L p)):=by
 have h256:2 ^ L.length<=256:=(Ys (n:=2) (by decide) hL:2 ^ L.length<=2 ^ 8);have hlt:=bZ (l:=uD L p) (m:=L.length) fun k hk=>(zcJ.1 hk).1
 refine zoC (zwF L p) (zwE _) fun k=>?_
 rw[uA (by omega),zcK,decide_eq_true_eq]
def failC (L:List Dmd) (D:List Dcm):List (List Nat):=yL (sortO ltC ((List.range (yF D)).map fun i=>uD L (rdsD D i)))
theorem zoD {L:List Dmd} (hL:L.length<=8) (D:List Dcm):failC L D=yL (sortO ltC ((yT L D).map bitsN)):=by
 unfold failC yT;rw[Xm];congr 2;exact Xj fun i _=>zwG hL _
section
variable {α : Type} [DecidableEq α] {lt : α -> α -> Bool}
theorem zdh {z:α}: ∀{l:List α} {a:α},z∈a::cfG a l ↔ z∈a::l
 |[],a=>Xp
 |b::l,a=>by
  rw[cfG];have ih:=zdh (z:=z) (l:=l) (a:=b);split
  ·rename_i e
   subst e;rw[ih];simp
  ·rw[ZJ,ih,<-ZJ]
theorem aZ {z:α}: ∀{l:List α},z∈yL l ↔ z∈l
 |[]=>Xp
 |a::l=>zdh
theorem zoE (hs:Strict lt): ∀(l:List α) (a:α),(a::l).Pairwise (fun x y=>lt y x=false)->(a::cfG a l).Pairwise fun x y=>lt x y=true
 |[],a,_=>List.pairwise_singleton _ _
 |b::l,a,h=>by
  have h1:=Xc.1 h;have ih:=zoE hs l b h1.2;rw[cfG];split
  ·rename_i e;subst e;exact ih
  ·rename_i hne
   refine Xc.2 ⟨fun x hx=>?_,ih⟩;have hx:=zdh.1 hx;cases q:lt a x with
   |true=>rfl
   |false=>
    exfalso;have e:=hs.tot _ _ q (h1.1 x hx);subst e;rcases ZJ.1 hx with e|hx
    ·exact hne e
    ·exact hne (hs.tot _ _ ((Xc.1 h1.2).1 a hx) (h1.1 b (by simp)))
theorem zoF (hs:Strict lt): ∀l:List α,l.Pairwise (fun x y=>lt y x=false)->(yL l).Pairwise fun x y=>lt x y=true
 |[],_=>Xx
 |a::l,h=>zoE hs l a h
end
theorem fF {L:List Dmd} (hL:L.length<=8) {D:List Dcm} {x:List Nat}:x∈failC L D ↔ ∃f∈yT L D,x=bitsN f:=by
 rw[zoD hL,aZ,(vE ltC _).mem_iff,ZH];exact⟨fun⟨f,h1,h2⟩=>⟨f,h1,h2.symm⟩,fun⟨f,h1,h2⟩=>⟨f,h1,h2.symm⟩⟩
theorem pW {L:List Dmd} (hL:L.length<=8) {D:List Dcm} {f:Nat} (h:f∈yT L D):f<1024:=by
 have h256:2 ^ L.length<=256:=(Ys (n:=2) (by decide) hL:2 ^ L.length<=2 ^ 8);have:=rI L D f h;omega
def fH (L:List Dmd) (D:List Dcm):List Nat:=(List.range L.length).filter fun k=>(yT L D).any (·.testBit k)
theorem zwI {L:List Dmd} (hL:L.length<=8) {D:List Dcm} {k:Nat}:k∈fH L D ↔ k∈(failC L D).flatten:=by
 unfold fH;rw[Yh,Z2,Yt,XA];constructor
 ·rintro⟨_,f,hf,h⟩
  exact⟨bitsN f,(fF hL).2 ⟨f,hf,rfl⟩,(uA (pW hL hf)).2 h⟩
 ·rintro⟨x,hx,h⟩
  obtain⟨f,hf,rfl⟩:=(fF hL).1 hx;have h2:=(uA (pW hL hf)).1 h;exact⟨wV.1 (rI L D f hf) k h2,f,hf,h2⟩
theorem zwJ {L:List Dmd} (hL:L.length<=8) {D:List Dcm} {l:List Nat} (ha:l.Pairwise (· < ·)) (h: ∀k,k∈l ↔ k∈(failC L D).flatten):l=fH L D:=
 zoC ha (XT _ List.pairwise_lt_range) fun k=>by rw[h,zwI hL]
def zyV (a b:List Nat):Bool:=a.all fun k=>decide (k∈b)
def sI:List (List Nat)->List (List Nat)->List (List Nat)
 |[],out=>out
 |s::l,out=>if (out.any fun t=>zyV t s)=true then sI l out else sI l (out++[s])
def zy7 (L:List Dmd) (D:List Dcm):List (List Nat):=sI (failC L D) []
end Go.Ex
namespace Go.Abs
open Go.Proofs Go.RowKit Go.Lib Go.Wd Go.Wire Go.Ex
theorem pZ {l:List Int} {i:Nat} (h:i<l.length):(zG l).getD i []=[.int .i64 l[i]]:=by simp[zG,h]
theorem zwK (l:List Int) (x:Int) (hl:l.length<=1000000):Spec Tryz.prog 180 [lst 1 (zG l),.int .i64 x] (fun v=>v=.int .i64 (fstN (fun y=>decide (x=y)) l 0)):=by
 refine Spec.of_awlS hf180 okf180 (by simp) fun S hS=>?_
 simp only[yJ,Qs,ZN,Zc,Za,ztb];refine zR (fun i:Nat=>[(0,lst 1 (zG l)),(1,.int .i64 x),(7,.int .i64 l.length),(8,.int .i64 i)]) (fun _=>[]) (fun i=>i<=l.length/\fstN (fun y=>decide (x=y)) (l.drop i) i=fstN (fun y=>decide (x=y)) l 0) (fun i=>l.length-i) 0 rfl rfl ⟨ZC _,by simp⟩ ?_;rintro i ⟨hi,hD⟩;by_cases hlt:i<l.length
 ·have c1:(i:Int)<l.length:=by omega
  have c4:IntKind.i64.wrap ((i:Int)+1)=(i:Int)+1:=wrap_in (by omega) (by omega);have hat:=pZ hlt;rw[qA hlt] at hD;generalize l[i]=y at hat hD;by_cases hp:x=y
  ·rw[if_pos (by simpa using hp)] at hD
   rw[<-hD] at hS;have hb:(x==y)=true:=by simpa using hp
   simp only[c1,yJ,hat,hb,Qs,ZN,Za];exact hS
  ·rw[if_neg (by simpa using hp)] at hD
   have hb:(x==y)=false:=by simpa using hp
   simp only[c1,yJ,hat,hb,c4,Qs,ZN,Za];exact Next.intro (i+1) rfl rfl ⟨by omega,hD⟩ (by omega)
 ·have c1: ¬(i:Int)<l.length:=by omega
  rw[ZB (by omega)] at hD;rw[<-hD] at hS;simp only[c1,Qs,ZN,Za];exact hS
theorem zoH (l:List Int) (x:Int) (hl:l.length<=1000000):Spec Tryz.prog 114 [lst 1 (zG l),.int .i64 x] (fun v=>v=.bool (decide (x∈l))):=by
 refine Spec.of_awlS hf114 okf114 (by simp) fun S hS=>?_
 have g1:=zwK l x hl;have hp:=rE (p:=fun y=>decide (x=y)) l 0;generalize fstN (fun y=>decide (x=y)) l 0=z at g1 hp;simp only[Qs,Zc,Za,zta];refine zI g1 ?_ (ha:=by simp only[Zk,Zp,zC,V.norm,zM,C.norm,yR]<;>rfl);simp only[Qs];refine wR hS ?_;rw[decide_eq_true_eq,decide_eq_true_eq,hp,Yt];simp
def qF (cs:List C):Prop:=(cs.map fun c=>V.k (.c c.norm))=cs.map fun c=>V.k (.c c)
theorem zwL {g:Nat} {cs:List C} {p:Int->Bool} (hc:qF cs) (l:List Int) (hg: ∀x∈l,Spec Tryz.prog g (.int .i64 x::cs.map fun c=> .k (.c c)) (fun v=>v=.bool (p x))) (hl:l.length<=1000000):Spec Tryz.prog 179 [lst 1 (zG l),.k (.c (.fn g cs))] (fun v=>v=.int .i64 (fstN p l 0)):=by
 refine Spec.of_awlS hf179 okf179 (by simp) fun S hS=>?_
 simp only[yJ,Qs,ZN,Zc,Za,zs5];refine zR (fun i:Nat=>[(0,lst 1 (zG l)),(1,.k (.c (.fn g cs))),(7,.int .i64 l.length),(8,.int .i64 i)]) (fun _=>[]) (fun i=>i<=l.length/\fstN p (l.drop i) i=fstN p l 0) (fun i=>l.length-i) 0 rfl rfl ⟨ZC _,by simp⟩ ?_;rintro i ⟨hi,hD⟩;by_cases hlt:i<l.length
 ·have c1:(i:Int)<l.length:=by omega
  have c4:IntKind.i64.wrap ((i:Int)+1)=(i:Int)+1:=wrap_in (by omega) (by omega);have hat:=pZ hlt;have gi:=hg l[i] (Zv hlt);rw[qA hlt] at hD;generalize l[i]=y at hat hD gi;simp only[c1,yJ,hat,Qs,ZN,Za];refine rC gi ?_ (ha:=by rw[hc];rfl);cases hp:p y with
  |true=>
   rw[if_pos hp] at hD;rw[<-hD] at hS;simp only[Qs,ZN,Za];exact hS
  |false=>
   rw[if_neg (by rw[hp];simp)] at hD;simp only[c4,Qs,ZN,Za];exact Next.intro (i+1) rfl rfl ⟨by omega,hD⟩ (by omega)
 ·have c1: ¬(i:Int)<l.length:=by omega
  rw[ZB (by omega)] at hD;rw[<-hD] at hS;simp only[c1,Qs,ZN,Za];exact hS
theorem zoI {g:Nat} {cs:List C} {p:Int->Bool} (hn:C.normRow cs=cs) (hc:qF cs) (l:List Int) (hg: ∀x∈l,Spec Tryz.prog g (.int .i64 x::cs.map fun c=> .k (.c c)) (fun v=>v=.bool (p x))) (hl:l.length<=1000000):Spec Tryz.prog 112 [lst 1 (zG l),.k (.c (.fn g cs))] (fun v=>v=.bool (l.any p)):=by
 refine Spec.of_awlS hf112 okf112 (by simp) fun S hS=>?_
 have g1:=zwL hc l hg hl;have hp:=rE (p:=p) l 0;generalize fstN p l 0=z at g1 hp;simp only[Qs,Zc,Za,zs4];refine zI g1 ?_ (ha:=by simp only[Zk,Zp,zC,V.norm,zM,C.norm,yR,hn]<;>rfl);simp only[Qs];refine wR hS ?_;rw[decide_eq_true_eq,hp]
theorem zwM (n:Int) (b:List Int) (hb:b.length<=1000000):Spec Tryz.prog 113 [.int .i64 n,.k (.c (.ro [zB 1 (zG b)] 0))] (fun v=>v=.bool (!decide (n∈b))):=by
 refine Spec.of_awlS hf113 okf113 (by simp) fun S hS=>?_
 have g1:=zoH b n hb;generalize decide (n∈b)=y at g1 hS;simp only[Qs,Zc,Za,zs3];refine zI g1 ?_ (ha:=by simp only[Zk,Zp,zC,V.norm,zM,C.norm,yR]<;>rfl);simp only[Qs];cases y<;>exact hS
theorem zdk (b:List Int):C.normRow [C.ro [zB 1 (zG b)] 0]=[C.ro [zB 1 (zG b)] 0]:=by simp only[C.normRow,C.norm,zM,yR]
theorem zdl (b:List Int):qF [C.ro [zB 1 (zG b)] 0]:=by
 unfold qF;simp only[Zk,Zp,C.normRow,C.norm,zM,yR]
def subI (a b:List Int):Bool:=a.all fun k=>decide (k∈b)
theorem q54 (a b:List Int) (ha:a.length<=1000000) (hb:b.length<=1000000):Spec Tryz.prog 54 [lst 1 (zG a),lst 1 (zG b)] (fun v=>v=.bool (subI a b)):=by
 refine Spec.of_awlS hf54 okf54 (by simp) fun S hS=>?_
 have g1:=zoI (g:=113) (cs:=[C.ro [zB 1 (zG b)] 0]) (p:=fun n=> !decide (n∈b)) (zdk b) (zdl b) a (fun x _=>zwM x b hb) ha;have e:subI a b= !(a.any fun n=> !decide (n∈b)):=by unfold subI;rw[List.not_any_eq_all_not];simp
 rw[e] at hS;generalize (a.any fun n=> !decide (n∈b))=y at g1 hS;simp only[Qs,iZ,Zc,Za,zs2];refine zI g1 ?_ (ha:=by simp only[Zk,Zp,zC,V.norm,zM,C.norm,C.normRow,yR]<;>rfl);simp only[Qs];cases y<;>exact hS
theorem q53 (t s:List Int) (ht:t.length<=1000000) (hs:s.length<=1000000):Spec Tryz.prog 53 [lst 1 (zG t),.k (.c (.ro [zB 1 (zG s)] 0))] (fun v=>v=.bool (subI t s)):=by
 refine Spec.of_awlS hf53 okf53 (by simp) fun S hS=>?_
 have g:=q54 t s ht hs;generalize subI t s=b at g hS;simp only[Qs,Zc,Za,zs7];refine zI g ?_ (ha:=by simp only[Zk,Zp,zC,V.norm,zM,C.norm,yR]<;>rfl);simp only[Qs];cases b<;>exact hS
def vU (L:List (List Int)):List (List C):=L.map fun x=>[zB 1 (zG x)]
theorem oA (L:List (List Int)):(vU L).length=L.length:=by simp[vU]
theorem fI {L:List (List Int)} {i:Nat} (h:i<L.length):(vU L).getD i []=[zB 1 (zG L[i])]:=by simp[vU,h]
theorem fJ (L:List (List Int)):C.normRows (vU L)=vU L:=zQ (fun x=>by simp only[C.normRow,zM,yR]) L
theorem zwN {g:Nat} {cs:List C} {p:List Int->Bool} (hc:qF cs) (l:List (List Int)) (hg: ∀x∈l,Spec Tryz.prog g (lst 1 (zG x)::cs.map fun c=> .k (.c c)) (fun v=>v=.bool (p x))) (hl:l.length<=1000000):Spec Tryz.prog 111 [lst 1 (vU l),.k (.c (.fn g cs))] (fun v=>v=.int .i64 (fstN p l 0)):=by
 refine Spec.of_awlS hf111 okf111 (by simp) fun S hS=>?_
 simp only[oA,Qs,ZN,Zc,Za,zs9];refine zR (fun i:Nat=>[(0,lst 1 (vU l)),(1,.k (.c (.fn g cs))),(7,.int .i64 l.length),(8,.int .i64 i)]) (fun _=>[]) (fun i=>i<=l.length/\fstN p (l.drop i) i=fstN p l 0) (fun i=>l.length-i) 0 rfl rfl ⟨ZC _,by simp⟩ ?_;rintro i ⟨hi,hD⟩;by_cases hlt:i<l.length
 ·have c1:(i:Int)<l.length:=by omega
  have c4:IntKind.i64.wrap ((i:Int)+1)=(i:Int)+1:=wrap_in (by omega) (by omega);have hat:=fI hlt;have gi:=hg l[i] (Zv hlt);rw[qA hlt] at hD;generalize l[i]=y at hat hD gi;simp only[c1,oA,hat,Qs,ZN,Za];refine rC gi ?_ (ha:=by rw[hc];simp only[Zk,Zp,zC,V.norm,zM,C.norm,yR,ZQ,Yd]<;>rfl);cases hp:p y with
  |true=>
   rw[if_pos hp] at hD;rw[<-hD] at hS;simp only[Qs,ZN,Za];exact hS
  |false=>
   rw[if_neg (by rw[hp];simp)] at hD;simp only[c4,Qs,ZN,Za];exact Next.intro (i+1) rfl rfl ⟨by omega,hD⟩ (by omega)
 ·have c1: ¬(i:Int)<l.length:=by omega
  rw[ZB (by omega)] at hD;rw[<-hD] at hS;simp only[c1,Qs,ZN,Za];exact hS
theorem q52 {g:Nat} {cs:List C} {p:List Int->Bool} (hn:C.normRow cs=cs) (hc:qF cs) (l:List (List Int)) (hg: ∀x∈l,Spec Tryz.prog g (lst 1 (zG x)::cs.map fun c=> .k (.c c)) (fun v=>v=.bool (p x))) (hl:l.length<=1000000):Spec Tryz.prog 52 [lst 1 (vU l),.k (.c (.fn g cs))] (fun v=>v=.bool (l.any p)):=by
 refine Spec.of_awlS hf52 okf52 (by simp) fun S hS=>?_
 have g1:=zwN hc l hg hl;have hp:=rE (p:=p) l 0;generalize fstN p l 0=z at g1 hp;simp only[Qs,Zc,Za,zs8];refine zI g1 ?_ (ha:=by simp only[Zk,Zp,zC,V.norm,zM,C.norm,fJ,hn]<;>rfl);simp only[Qs];refine wR hS ?_;rw[decide_eq_true_eq,hp]
theorem zwO (a b:List Int) (ha:a.length<=1000000) (hb:b.length<=1000000):Spec Tryz.prog 103 [lst 1 (zG a),lst 1 (zG b)] (fun v=>v=.bool (decide (a=b))):=by
 refine Spec.of_awlS hf103 okf103 (by simp) fun S hS=>?_
 by_cases hne:a.length=b.length
 ·have e0:((a.length:Int) !=b.length)=false:=by simp[hne]
  simp only[yJ,e0,Qs,Zc,Za,zly];refine zR (fun i:Nat=>[(0,lst 1 (zG a)),(1,lst 1 (zG b)),(12,.int .i64 a.length),(13,.int .i64 i)]) (fun _=>[]) (fun i=>i<=a.length/\a.take i=b.take i) (fun i=>a.length-i) 0 rfl rfl ⟨ZC _,by simp⟩ ?_;rintro i ⟨hi,hT⟩;by_cases hlt:i<a.length
  ·have c1:(i:Int)<a.length:=by omega
   have c2:(i:Int)<b.length:=by omega
   have hlb:i<b.length:=by omega
   have c4:IntKind.i64.wrap ((i:Int)+1)=(i:Int)+1:=wrap_in (by omega) (by omega);have h1:=pZ hlt;have h2:=pZ hlb;by_cases hx:a[i]=b[i]
   ·have e1:(a[i] !=b[i])=false:=by simp[hx]
    simp only[c1,c2,yJ,h1,h2,e1,c4,Qs,Za];exact Next.intro (i+1) rfl rfl ⟨by omega,by rw[ZD hlt,ZD hlb,hT,hx]⟩ (by omega)
   ·have e1:(a[i] !=b[i])=true:=by simp[hx]
    have e2:decide (a=b)=false:=decide_eq_false fun q=>hx (by subst q;rfl)
    rw[e2] at hS;simp only[c1,c2,yJ,h1,h2,e1,Qs,Za];exact hS
  ·have c1: ¬(i:Int)<a.length:=by omega
   have e2:decide (a=b)=true:=decide_eq_true (by rw[Z7 (by omega),Z7 (by omega)] at hT;exact hT);rw[e2] at hS;simp only[c1,Qs,Za];exact hS
 ·have e0:((a.length:Int) !=b.length)=true:=by simp;omega
  have e2:decide (a=b)=false:=decide_eq_false fun q=>hne (by rw[q])
  rw[e2] at hS;simp only[yJ,e0,Qs,Zc,Za,zly];exact hS
theorem q34 (l:List Int) (x:Int) (hl:l.length<=1000000):Spec Tryz.prog 34 [lst 1 (zG l),.int .i64 x] (fun v=>v=.bool (decide (x∈l))):=by
 refine Spec.of_awlS hf34 okf34 (by simp) fun S hS=>?_
 simp only[Qs,Zc,ztd];refine zR (fun i:Nat=>[(0,lst 1 (zG l)),(1,.int .i64 x),(5,.int .i64 i)]) (fun _=>[]) (fun i=>i<=l.length/\decide (x∈l.drop i)=decide (x∈l)) (fun i=>l.length-i) 0 rfl rfl ⟨ZC _,by simp⟩ ?_;rintro i ⟨hi,hD⟩;by_cases hlt:i<l.length
 ·have c1:(i:Int)<l.length:=by omega
  have c4:IntKind.i64.wrap ((i:Int)+1)=(i:Int)+1:=wrap_in (by omega) (by omega);have hat:=pZ hlt;rw[ZE hlt] at hD;generalize l[i]=y at hat hD;by_cases hp:y=x
  ·rw[hp,decide_eq_true (Yj ..)] at hD
   rw[<-hD] at hS;simp only[c1,yJ,hat,hp,Qs,BEq.rfl,Za];exact hS
  ·have hb:(y==x)=false:=by simpa using hp
   simp only[c1,yJ,hat,hb,c4,Qs,Za];exact Next.intro (i+1) rfl rfl ⟨by omega,by rw[<-hD];simp[Ne.symm hp]⟩ (by omega)
 ·have c1: ¬(i:Int)<l.length:=by omega
  rw[ZB (by omega)] at hD;rw[<-hD] at hS;simp only[c1,yJ,Qs,Za];exact hS
theorem zoJ {α:Type} [DecidableEq α] {a b:List α} (h:a.length=b.length) {i:Nat} (hi:i<a.length):decide (a.drop i=b.drop i)=(decide (a[i]=b[i]'(by omega))&&decide (a.drop (i+1)=b.drop (i+1))):=by
 rw[ZE hi,ZE (l:=b) (show i<b.length by omega),Yw];simp only[decide_eq_true_eq,Zr,List.cons.injEq]
theorem q17 (a b:List Int) (ha:a.length<=1000000) (hb:b.length<=1000000):Spec Tryz.prog 17 [lst 1 (zG a),lst 1 (zG b)] (fun v=>v=.bool (decide (a=b))):=by
 refine Spec.of_awlS hf17 okf17 (by simp) fun S hS=>?_
 by_cases hl:a.length=b.length
 ·have e:((a.length:Int) !=b.length)=false:=by simp[hl]
  simp only[yJ,e,Qs,Zc,Za,zlL];refine zR (fun i:Nat=>[(0,lst 1 (zG a)),(1,lst 1 (zG b)),(5,.int .i64 i)]) (fun _=>[]) (fun i=>i<=a.length/\decide (a.drop i=b.drop i)=decide (a=b)) (fun i=>a.length-i) 0 rfl rfl ⟨ZC _,by simp⟩ ?_;rintro i ⟨hi,hD⟩;by_cases hlt:i<a.length
  ·have c1:(i:Int)<a.length:=by omega
   have c2:(i:Int)<b.length:=by omega
   have c4:IntKind.i64.wrap ((i:Int)+1)=(i:Int)+1:=wrap_in (by omega) (by omega);have hat:=pZ hlt;have hat2:=pZ (l:=b) (i:=i) (by omega);rw[zoJ hl hlt] at hD;have h2:i<b.length:=by omega
   generalize a[i]=y at hat hD;generalize b[i]=z at hat2 hD;by_cases hp:y=z
   ·rw[decide_eq_true hp,ZU] at hD
    have hb:(y !=z)=false:=by simp[hp]
    simp only[c1,c2,yJ,hat,hat2,hb,c4,Qs,Za];exact Next.intro (i+1) rfl rfl ⟨by omega,hD⟩ (by omega)
   ·rw[decide_eq_false hp,Z4] at hD
    rw[<-hD] at hS;have hb:(y !=z)=true:=by simpa using hp
    simp only[c1,c2,yJ,hat,hat2,hb,Qs,Za];exact hS
  ·have c1: ¬(i:Int)<a.length:=by omega
   rw[ZB (by omega),ZB (by omega),decide_eq_true rfl] at hD;rw[<-hD] at hS;simp only[c1,yJ,Qs,Za];exact hS
 ·have e:((a.length:Int) !=b.length)=true:=by simpa using fun h:(a.length:Int)=b.length=>hl (by omega)
  rw[decide_eq_false fun h=>hl (by rw[h])] at hS;simp only[yJ,e,Qs,Zc,Za,zlL];exact hS
theorem q18 (a b:List (List Int)) (ha:a.length<=1000000) (ha2: ∀x∈a,x.length<=1000000) (hb2: ∀x∈b,x.length<=1000000):Spec Tryz.prog 18 [lst 1 (vU a),lst 1 (vU b)] (fun v=>v=.bool (decide (a=b))):=by
 refine Spec.of_awlS hf18 okf18 (by simp) fun S hS=>?_
 by_cases hl:a.length=b.length
 ·have e:((a.length:Int) !=b.length)=false:=by simp[hl]
  simp only[oA,e,Qs,Zc,Za,zlN];refine zR (fun i:Nat=>[(0,lst 1 (vU a)),(1,lst 1 (vU b)),(5,.int .i64 i)]) (fun _=>[]) (fun i=>i<=a.length/\decide (a.drop i=b.drop i)=decide (a=b)) (fun i=>a.length-i) 0 rfl rfl ⟨ZC _,by simp⟩ ?_;rintro i ⟨hi,hD⟩;by_cases hlt:i<a.length
  ·have c1:(i:Int)<a.length:=by omega
   have c2:(i:Int)<b.length:=by omega
   have c4:IntKind.i64.wrap ((i:Int)+1)=(i:Int)+1:=wrap_in (by omega) (by omega);have h2:i<b.length:=by omega
   have hat:=fI hlt;have hat2:=fI h2;rw[zoJ hl hlt] at hD;have g:=q17 a[i] b[i] (ha2 _ (Zv hlt)) (hb2 _ (Zv h2));generalize a[i]=y at hat hD g;generalize b[i]=z at hat2 hD g;generalize decide (y=z)=c at hD g;simp only[c1,c2,oA,hat,hat2,Qs,Za];refine sP g ?_ (ha:=by simp only[Zk,Zp,zC,V.norm,zM,C.norm,yR]<;>rfl);cases c with
   |true=>
    rw[ZU] at hD;simp only[c4,Qs,zgD,Za];exact Next.intro (i+1) rfl rfl ⟨by omega,hD⟩ (by omega)
   |false=>
    rw[Z4] at hD;rw[<-hD] at hS;simp only[Qs,zgD];exact hS
  ·have c1: ¬(i:Int)<a.length:=by omega
   rw[ZB (by omega),ZB (by omega),decide_eq_true rfl] at hD;rw[<-hD] at hS;simp only[c1,oA,Qs,Za];exact hS
 ·have e:((a.length:Int) !=b.length)=true:=by simpa using fun h:(a.length:Int)=b.length=>hl (by omega)
  rw[decide_eq_false fun h=>hl (by rw[h])] at hS;simp only[oA,e,Qs,Zc,Za,zlN];exact hS
theorem q19 (a:List Txt) (ha:a.length<=1000000):Spec Tryz.prog 19 [lst 1 (zF a),lst 1 (zF a)] (fun v=>v=.bool true):=by
 refine Spec.of_awlS hf19 okf19 (by simp) fun S hS=>?_
 simp only[zS,Qs,forall_const,Zc,Za,not_true_eq_false,ztD];refine zR (fun i:Nat=>[(0,lst 1 (zF a)),(1,lst 1 (zF a)),(5,.int .i64 i)]) (fun _=>[]) (fun i=>i<=a.length) (fun i=>a.length-i) 0 rfl rfl (ZC _) ?_;intro i hi;by_cases hlt:i<a.length
 ·have d1:(i:Int)<a.length:=by omega
  have c4:IntKind.i64.wrap ((i:Int)+1)=(i:Int)+1:=wrap_in (by omega) (by omega);have hat:=uI hlt;generalize a[i]=s at hat;simp only[d1,c4,hat,zS,Qs,BEq.rfl,Za];exact Next.intro (i+1) rfl rfl (by omega) (by omega)
 ·have d1: ¬(i:Int)<a.length:=by omega
  simp only[d1,zS,Qs,Za];exact hS
end Go.Abs
namespace Go.Abs
open Go.Sort Go.Proofs Go.Shelf Go.Lib Go.RowKit
theorem heap_row {α:Type} [Inhabited α] {w:World} {g n:Nat} {os:Array Obj} {cur:Array Value} {e:TypeId} {fr:Nat×Nat} (enc:α->Value) (d:Array α) (hb:w.heap[g]?=some (.cells cur e fr)):
  (grow (putRow enc (Sort.ahead w n) g 0 d) os).heap[g]?=some (.cells (putCells enc 0 d cur) e fr):=by
 have hg:g<w.heap.size:=(Zs.1 hb).1;rw[heap_grow_old _ _ (by simpa using hg)];simp[putRow,mapBlock,Sort.ahead,Y1,hb,onCells]
theorem aI {α:Type} [Inhabited α] {w:World} {g n:Nat} {os:Array Obj} (enc:α->Value) (d:Array α):w.grownBy (grow (putRow enc (Sort.ahead w n) g 0 d) os) (some g):=by
 refine⟨rfl,rfl,rfl,by simp,fun k hk hne=>?_⟩;rw[heap_grow_old _ _ (by simpa using hk)];have:g≠k:=fun e=>hne (by rw[e])
 simp[putRow,mapBlock,Sort.ahead,Y1,this]
theorem znX {P:Program} {ρ:Ren} (L:SlLaysF.n6 P ρ) (hc:tJ P (ρ.f 6)) (e:TypeId)
  {β:Type} (encC:β->C) (cf:β->β->Int) (lt:β->β->Bool) (hlt: ∀x y,decide (cf x y<0)=lt x y) (hO:SWO lt) (g:Nat) (eg: ∀args w,(callFunc g args).run P w=.ok (.enter g args) w)
  (τ:Nat) (ks:List β) (hm:ks.length<4611686018427387904)
  (hcl: ∀x∈ks,∀y∈ks,∀(W:World) (Z:Bk->Prop) (vx vy:Value),(∀b,Z b->b.2<W.heap.size)->PRep W Z (encC x) vx->PRep W Z (encC y) vy->
   Calls P g #[vx,vy] W fun e w'=>e=.returned (.int .i64 (cf x y))/\ ∃q os',w'=grow (W.drewN q) os'):
  yV P (ρ.f 6) [.k (.own τ),.k (.c (.fn g []))] (zD e 1 τ (ks.map fun x=>[encC x])) [τ] (fun r o'=>r=.tup []/\ ∃out:List β,out.Perm ks/\out.Pairwise (fun x y=>lt y x=false)/\o'=zD e 1 τ (out.map fun x=>[encC x])):=by
 obtain⟨encR,hEn⟩: ∃encR:β->List C,encR=fun x=>[encC x]:=⟨_,rfl⟩
 have hk: ∀x,(encR x).length=1:=fun x=>by rw[hEn];rfl
 have k0:0<1:=by decide
 rw[<-hEn];refine⟨hc,fun w0 Z0 κ w vs hsz hi=>?_⟩;obtain⟨v,fv,rfl⟩:=znR hsz;have ho:(zD e 1 τ (ks.map encR)) τ=some (.arr e 1 none (ks.map encR)):=by simp[zD]
 have hno: ∀s,s≠τ->zD e 1 τ (ks.map encR) s=none:=fun s hs=>by simp[zD,hs]
 have hob:=hi.objs τ _ ho;have htm:zK w (Zof w0 Z0 κ (zD e 1 τ (ks.map encR)) w) κ (zD e 1 τ (ks.map encR)) (.k (.own τ)) v:=by simpa using hi.tmps 0
 have htf:zK w (Zof w0 Z0 κ (zD e 1 τ (ks.map encR)) w) κ (zD e 1 τ (ks.map encR)) (.k (.c (.fn g []))) fv:=by simpa using hi.tmps 1
 have hfv:fv=.func (.func g) #[] #[]:=by
  have:=htf.2;unfold yU at this;cases this with
  |fn f caps us val h1 h2 h3=>
   have:us= #[]:=YM h1;rw[this]
 subst hfv;have none_case: ∀(p:Option Addr) (cap:Nat),ks=[]->v=.slice p 0 cap->Calls P (ρ.f 6) #[v,.func (.func g) #[] #[]] w fun e_1 w'=> ∃v κ' r o',e_1=.returned v/\(r=.tup []/\ ∃out:List β,out.Perm ks/\out.Pairwise (fun x y=>lt y x=false)/\o'=zD e 1 τ (out.map encR))/\yZ (fun τ_1=>τ_1∈[τ]) (zD e 1 τ (ks.map encR)) o' κ κ' w w'/\Inv w0 Z0 κ' ⟨fun s=>if s=0 then r else .any,o'⟩ #[v] w':=by
  intro p cap hnil hv;subst hnil hv;refine(AnyF.slices_SortFunc_none {L with} p cap _ w).mono ?_;rintro ex w' ⟨rfl,hw⟩;rw[hw];have hI:=hi.moveG (τ:=τ) (d:=0) (ob:=.arr e 1 none []) (v:=.tup []) (u:=.tuple #[]) (bo:=κ τ) (w':=w) ho (by simp) rfl rfl rfl (Zw _) (fun _ _ _=>rfl) (fun b hb=> .inr hb)
   (fun Z hZ=>?_) ⟨#[],rfl,rfl,trivial⟩
  ·have hI2:=hI.only (T:=[τ]) (r:=.tup []) (v:=.tuple #[]) ⟨#[],rfl,rfl,trivial⟩ rfl (fun t ht ob hob=>by
    simp only[ZT] at ht
    subst ht
    simp[St.put,St.setO] at hob
    subst hob;rfl)
   have htab:yE [τ] ((((⟨fun s=>[V.k (.own τ),.k (.c (.fn g []))].getD s .any,zD e 1 τ (([]:List β).map encR)⟩:St).scrub τ).setO τ (.arr e 1 none [])).put 0 (.tup [])).o=zD e 1 τ (([]:List β).map encR):=by
    funext t;unfold yE zD;by_cases ht:t=τ
    ·subst ht;simp[St.put,St.setO]
    ·simp[ht]
   rw[htab] at hI2;refine⟨.tuple #[],_,.tup [],_,rfl,⟨rfl,[],XB _,Xx,rfl⟩,?_,hI2⟩;intro s hs;simp only[ZT] at hs;subst hs;refine⟨by simp[yI,zD],by simp,fun _ b hb cur e' f hcur=>⟨cur,hcur,rfl⟩⟩
  ·have hZ':=hob
   rcases hZ' with⟨h1,_,_⟩|⟨b,cur,cap',h1,h2,h3,h4,h5,h6,_,h8,_⟩
   ·exact .inl ⟨by simp[h1],rfl,by simp⟩
   ·exact .inr ⟨b,cur,cap',by simp[h1],h2,h3,h4,by simp,h6,by simp,by simp,fun i j r c hr=>by simp at hr⟩
 rcases hob with⟨hκ,hrows,_⟩|⟨b,cur,cap,hκ,hheap,h0,hcs,hlen,hcap,_,hall,hrr⟩
 ·have hl0:ks=[]:=by simpa using hrows
  have hv:v=.slice none 0 0:=by
   rcases htm.2 e 1 none _ ho with⟨_,hv⟩|⟨b,_,_,hb,_⟩
   ·exact hv
   ·rw[hκ] at hb;cases hb
  exact none_case none 0 hl0 hv
 ·obtain⟨cap',hv,hcap'⟩: ∃cap',v=.slice (some ⟨b,0,none⟩) ks.length cap'/\cur.size=cap'*1:=by
   rcases htm.2 e 1 none _ ho with⟨hn,_⟩|⟨b',cur',cap',hb,hh,hc2,hv⟩
   ·rw[hκ] at hn;cases hn
   ·rw[hκ] at hb;cases hb
    rw[hheap] at hh;cases hh;exact⟨cap',by simpa using hv,hc2⟩
  by_cases hks:ks=[]
  ·exact none_case _ cap' hks (by rw[hv,hks];rfl)
  have hpos:0<ks.length:=Ye.2 hks;subst hv;have hlt':b<w.heap.size:=wU hheap;rw[Zg] at hlen;have hcsz:ks.length<=cur.size:=by rw[hcs,Yv];exact hlen
  haveI:Inhabited (Fin ks.length):=⟨⟨0,hpos⟩⟩
  let enc:Fin ks.length->Value:=fun i=>cur.getD i.1 (.bool true)
  have hcell: ∀i:Fin ks.length,∃u,cur[i.1]?=some u/\enc i=u/\PRep w (Zof w0 Z0 κ (zD e 1 τ (ks.map encR)) w) (encC ks[i.1]) u:=by
   intro i;obtain⟨u,hu,hp⟩:=hrr i.1 0 [encC ks[i.1]] (encC ks[i.1]) (by rw[Zz,Zf i.2,hEn];rfl) rfl;rw[Yv,Yf] at hu;exact⟨u,hu,by simp[enc,ZW,hu],hp⟩
  have henc1:OneCell enc:=fun x=>by obtain⟨u,_,h2,h3⟩:=hcell x;rw[h2];exact h3.oneCell
  let d:Array (Fin ks.length):=Array.ofFn fun i=>i
  have hds:d.size=ks.length:=by simp[d]
  have hdi: ∀i (h:i<ks.length),d[i]! =⟨i,h⟩:=fun i h=>by simp[d,h]
  have hH:Holds enc w b 0 d:=by
   intro j hj;rw[hds] at hj;refine⟨?_,by simp[World.frozen?,hheap]⟩;obtain⟨u,hu,h2,_⟩:=hcell ⟨j,hj⟩;rw[hdi j hj,h2];simp only[World.cell?,hheap,ZY];simpa using hu
  let cfF:Fin ks.length->Fin ks.length->Int:=fun i j=>cf ks[i.1] ks[j.1]
  have hltF: ∀x y,ltOf cfF x y=lt ks[x.1] ks[y.1]:=fun x y=>by unfold ltOf;exact hlt _ _
  have hOF:SWO (ltOf cfF):=⟨fun x=>by rw[hltF];exact hO.irrefl _,fun x y z h1 h2=>by rw[hltF] at*;exact hO.trans _ _ _ h1 h2,fun x y z h1 h2=>by rw[hltF] at*;exact hO.ntrans _ _ _ h1 h2⟩;have hcmp:CmpLays1 P g #[] enc cfF b 0 d.size w:=by
   intro m os dk hdk x y;have hsame:xY (Zof w0 Z0 κ (zD e 1 τ (ks.map encR)) w) w (sortWorld enc w b 0 m dk os):=by
    intro bk hbk;have hne:bk.2≠b:=fun e2=>hbk.2.2 τ (by rw[ho];simp) (by rw[hκ,e2])
    exact(aI enc dk).block bk.2 hbk.2.1 (fun e2=>hne (by cases e2;rfl))
   have hrow: ∀i:Fin ks.length,PRep (sortWorld enc w b 0 m dk os) (Zof w0 Z0 κ (zD e 1 τ (ks.map encR)) w) (encC ks[i.1]) (enc i):=by
    intro i;obtain⟨u2,_,h2,h3⟩:=hcell i;rw[h2];exact h3.mono hsame fun _ h=>h
   have hsz2:w.heap.size<=(sortWorld enc w b 0 m dk os).heap.size:=(aI enc dk).size;have:=hcl ks[x.1] (Zv _) ks[y.1] (Zv _) (sortWorld enc w b 0 m dk os) (Zof w0 Z0 κ (zD e 1 τ (ks.map encR)) w) (enc x) (enc y) (fun bk hbk=>ZO hbk.2.1 hsz2) (hrow x) (hrow y);rw[show(#[enc x,enc y]++ #[]:Array Value)= #[enc x,enc y] from rfl];exact this
  have hcon:=Any.slices_SortFunc L enc henc1 cfF hOF g #[] b 0 cap' d w eg hcmp hH hlt' (by rw[hds];exact hm);rw[hds] at hcon;refine hcon.mono ?_;rintro ex w' ⟨rfl,d',n,os,⟨p1,p2,p3⟩,hs,rfl⟩;rw[hds] at p1;have hfull: ∀a:Array (Fin ks.length),a.size=ks.length->a.extract 0 ks.length=a:=fun a ha=>by
   apply Array.ext
   ·simp[ha]
   ·intro i h1 h2;simp
  rw[hfull d' p1,hfull d hds] at p3
  let out:List β:=d'.toList.map fun i=>ks[i.1]
  have hol:out.length=ks.length:=by simp[out,p1]
  have hperm:out.Perm ks:=by
   have h1:(d.toList.map fun i:Fin ks.length=>ks[i.1])=ks:=by
    apply Xg
    ·simp[d]
    ·intro i h1 h2;simp[d]
   have h2:(d'.toList.map fun i:Fin ks.length=>ks[i.1]).Perm (d.toList.map fun i:Fin ks.length=>ks[i.1]):=p3.map _;rw[h1] at h2;exact h2
  have hpw:out.Pairwise fun x y=>lt y x=false:=by
   rw[List.pairwise_iff_getElem];intro i j h1 h2 hij;have hi1:i<d'.size:=by rw[p1,<-hol];exact h1
   have hj1:j<d'.size:=by rw[p1,<-hol];exact h2
   have:=hs i j (ZC _) hij (by rw[<-p1];exact hj1);rw[hltF,getElem!_pos d' i hi1,getElem!_pos d' j hj1] at this;simpa [out] using this
  have hh2:=heap_row (w:=w) (n:=n) (os:=os) enc d' hheap;obtain⟨g1,g2,g3,g4,g5⟩:=aI (w:=w) (g:=b) (n:=n) (os:=os) enc d';have hsz2:(putCells enc 0 d' cur).size=cur.size:=by simp[putCells]
  have hzsame:xY (Zof w0 Z0 κ (zD e 1 τ (ks.map encR)) w) w (sortWorld enc w b 0 n d' os):=by
   intro bk hbk;have hne:bk.2≠b:=fun e2=>hbk.2.2 τ (by rw[ho];simp) (by rw[hκ,e2])
   exact g5 bk.2 hbk.2.1 (fun e2=>hne (by cases e2;rfl))
  have hI:=hi.moveG (τ:=τ) (d:=0) (ob:=.arr e 1 none (out.map encR)) (v:=.tup []) (u:=.tuple #[]) (bo:=some b) (w':=sortWorld enc w b 0 n d' os) ho (by simp) g1 g2 g3 g4
   (fun q hq hne=>g5 q hq (by rw[hκ] at hne;exact fun h=>hne (by cases h;rfl))) (fun b' hb=> .inr (by cases hb;exact hκ))
   (fun Z hZ=> .inr ⟨b,_,cap,by simp,hh2,h0,by rw[hsz2];exact hcs,by rw[Zg,hol];exact hlen,hcap,by simp,fun r hr=>by obtain⟨x,_,rfl⟩:=ZH.1 hr;exact hk x,fun i j r c hr hcj=>?_⟩) ⟨#[],rfl,rfl,trivial⟩
  ·rw[znS _ _ hno] at hI
   have hI2:=hI.only (T:=[τ]) (r:=.tup []) (v:=.tuple #[]) ⟨#[],rfl,rfl,trivial⟩ rfl (fun t ht ob hob=>by
    simp only[ZT] at ht
    subst ht
    simp at hob
    subst hob;rfl)
   have htab:yE [τ] (fun s=>if s=τ then some (O.arr e 1 none (out.map encR)) else none)=zD e 1 τ (out.map encR):=by
    funext t;unfold yE zD;by_cases ht:t=τ
    ·subst ht;simp
    ·simp[ht]
   rw[htab] at hI2;refine⟨.tuple #[],_,.tup [],_,rfl,⟨rfl,out,hperm,hpw,rfl⟩,?_,hI2⟩;intro s hs;simp only[ZT] at hs;subst hs;refine⟨by simp[zD,yI,hol],by simp[hκ],fun _ b' hb cur0 e0 f0 hc0=>?_⟩;rw[hκ] at hb;cases hb;rw[hheap] at hc0;cases hc0;exact⟨_,hh2,hsz2⟩
  ·
   have hi':i<ks.length:=by have:=(Zu.1 hr).1;rwa [Zg,hol] at this
   have hid:i<d'.size:=by rw[p1];exact hi'
   have hout:out[i]'(by rw[hol];exact hi')=ks[(d'[i]).1]:=by simp[out]
   have hr':r=encR ks[(d'[i]).1]:=by
    rw[Zz,Zf (by rw[hol];exact hi')] at hr;have:=Yr hr;rw[<-this,hout]
   subst hr';have hj:j<1:=by rw[<-hk ks[(d'[i]).1]];exact(Zu.1 hcj).1
   obtain rfl:j=0:=by omega
   have hc1:c=encC ks[(d'[i]).1]:=by rw[hEn] at hcj;cases hcj;rfl
   subst hc1;obtain⟨u,hu,he,hp⟩:=hcell d'[i];refine⟨u,?_,hp.mono hzsame hZ⟩;have hcs2:i<cur.size:=by omega
   simp only[putCells,Yv,Yf];rw[Array.getElem?_mapIdx,Ya hcs2];simp only[YA,ZC,true_and,ZY,hid,if_true,XG];rw[getElem!_pos d' i hid,he]
theorem zwP {τ:Nat} {r:V} (args:List V) (o:Nat->Option O) (ob:O) (h: ∀s,s≠τ->o s=none):(((⟨fun s=>args.getD s .any,o⟩:St).scrub τ).setO τ ob).put 0 r=⟨fun s=>if s=0 then r else((args.getD s .any).scrub τ),fun s=>if s=τ then some ob else none⟩:=by
 simp only[St.put,St.setO,St.scrub,St.mk.injEq];refine⟨trivial,?_⟩;funext s;by_cases hs:s=τ
 ·simp[hs]
 ·simp[hs,h s hs]
structure RowAns {β:Type} (k:Nat) (encR:β->List C) (W w':World) (Z:Bk->Prop) (b:Nat) (out:List β):Prop where
 gb:W.grownBy w' (some b)
 blk: ∀cur e fr,W.heap[b]?=some (.cells cur e fr)-> ∃cur':Array Value,w'.heap[b]?=some (.cells cur' e fr)/\cur'.size=cur.size/\ ∀i (hi:i<out.length) j c,(encR out[i])[j]?=some c-> ∃v,cur'[i*k+j]?=some v/\PRep W Z c v
structure RowGot {β:Type} (k:Nat) (encR:β->List C) (W:World) (Z:Bk->Prop) (b:Nat) (F0:Array Value) (l:List β):Prop where
 z: ∀q,Z q->q.2≠b/\q.2<W.heap.size
 lt:b<W.heap.size
 s:F0.size=l.length*k
 h:Holds id W b 0 F0
 hp: ∃cur e,W.heap[b]?=some (.cells cur e (0,0))/\l.length*k<=cur.size
 r: ∀i (hi:i<l.length) j c,(encR l[i])[j]?=some c->PRep W Z c F0[i*k+j]!
theorem jS {P:Program} {f:FuncId} (hc:tJ P f) (e:TypeId) (τ:Nat) {β:Type} {k:Nat} (k0:0<k) (encR:β->List C) (hk: ∀x,(encR x).length=k) (l:List β) (xs:List C) (res:Bool) (Q:List β->Prop)
  (h0:l=[]->Q [])
  (hn:l=[]-> ∀(p:Option Addr) (cap:Nat) (us:List Value) (W:World),us.length=xs.length->Calls P f (Value.slice p 0 cap::us).toArray W fun ex w'=>ex=.returned (if res=true then .slice p 0 cap else .tuple #[])/\w'=W)
  (h:0<l.length-> ∀(W:World) (Z:Bk->Prop) (b cap:Nat) (F0:Array Value) (us:List Value),(∀W',W.grownBy W' (some b)->yN (base W'))->RowGot k encR W Z b F0 l->us.length=xs.length->(∀i (hi:i<xs.length) (hu:i<us.length),PRep W Z xs[i] us[i])->l.length<=cap->cap<=maxLen->
   Calls P f (Value.slice (some ⟨b,0,none⟩) l.length cap::us).toArray W fun ex w'=> ∃out:List β,Q out/\out.length<=l.length/\(res=false->out.length=l.length)/\ex=.returned (if res=true then .slice (some ⟨b,0,none⟩) out.length cap else .tuple #[])/\RowAns k encR W w' Z b out):
  yV P f (.k (.own τ)::xs.map fun c=> .k (.c c)) (zD e k τ (l.map encR)) (if res=true then[] else[τ]) (fun r o'=>r=(if res=true then .k (.own τ) else .tup [])/\ ∃out,Q out/\o'=zD e k τ (out.map encR)):=by
 refine⟨hc,fun w0 Z0 κ w vs hsz hi=>?_⟩;obtain⟨vl⟩:=vs;obtain⟨v,us,rfl⟩: ∃v us,vl=v::us:=by
  cases vl with
  |nil=>simp at hsz
  |cons v us=>exact⟨v,us,rfl⟩
 have hul:us.length=xs.length:=by simpa using hsz
 have ho:zD e k τ (l.map encR) τ=some (.arr e k none (l.map encR)):=by simp[zD]
 have hno: ∀s,s≠τ->zD e k τ (l.map encR) s=none:=fun s hs=>by simp[zD,hs]
 have hob:=hi.objs τ _ ho;have htm:zK w (Zof w0 Z0 κ (zD e k τ (l.map encR)) w) κ (zD e k τ (l.map encR)) (.k (.own τ)) v:=by simpa using hi.tmps 0
 have hxs: ∀i (hi:i<xs.length) (hu:i<us.length),PRep w (Zof w0 Z0 κ (zD e k τ (l.map encR)) w) xs[i] us[i]:=by
  intro i h1 h2;have:=hi.tmps (i+1);simp only[List.getD_cons_succ,ZW,Y3,List.getElem?_cons_succ] at this;rw[Zf h2,Zi,Zz,Zf h1] at this;exact this.2
 have fin: ∀(out:List β) (rv:Value) (w':World),Q out->out.length<=l.length->(res=false->out.length=l.length)->
   w'.os=w.os->w'.tape=w.tape->w'.output=w.output->w.heap.size<=w'.heap.size->(∀k,k<w.heap.size->κ τ≠some k->w'.heap[k]?=w.heap[k]?)->
   (∀Z,(∀b,Zof w0 Z0 κ (zD e k τ (l.map encR)) w b->Z b)->wB w' Z κ (zD e k τ (out.map encR)) τ (.arr e k none (out.map encR)))->
   (zK w' (Zof w0 Z0 κ (zD e k τ (out.map encR)) w') κ (zD e k τ (out.map encR)) (if res=true then .k (.own τ) else .tup []) rv)->
   (∀b,κ τ=some b-> ∀cur e f,w.heap[b]?=some (.cells cur e f)-> ∃cur':Array Value,w'.heap[b]?=some (.cells cur' e f)/\cur'.size=cur.size)->
   ∃v κ' r o',Ending.returned rv=.returned v/\(r=(if res=true then .k (.own τ) else .tup [])/\ ∃out,Q out/\o'=zD e k τ (out.map encR))/\yZ (fun t=>t∈(if res=true then[] else[τ])) (zD e k τ (l.map encR)) o' κ κ' w w'/\Inv w0 Z0 κ' ⟨fun s=>if s=0 then r else .any,o'⟩ #[v] w':=by
  intro out rv w' hQ hle hfl e1 e2 e3 e4 e5 e6 e7 e8;obtain⟨r,hr⟩: ∃r,(if res=true then V.k (.own τ) else .tup [])=r:=⟨_,rfl⟩;rw[hr] at e7⊢;have hstt:=zwP (τ:=τ) (r:=r) (V.k (.own τ)::xs.map fun c=>V.k (.c c)) (zD e k τ (l.map encR)) (.arr e k none (out.map encR)) hno;have hoo:(fun s=>if s=τ then some (O.arr e k none (out.map encR)) else none)=zD e k τ (out.map encR):=rfl;rw[hoo] at hstt;have hkk:(fun s=>if s=τ then κ τ else κ s)=κ:=by
   funext s;by_cases hs:s=τ
   ·subst hs;simp
   ·simp[hs]
  have hI:=hi.moveG (τ:=τ) (d:=0) (ob:=.arr e k none (out.map encR)) (v:=r) (u:=rv) (bo:=κ τ) (w':=w') ho (by simp) e1 e2 e3 e4 e5 (fun b hb=> .inr hb)
   (fun Z hZ=>by rw[hkk,hstt];exact e6 Z hZ) (by rw[hkk,hstt];exact e7)
  rw[hkk,hstt] at hI;have hI2:=hI.only (T:=[τ]) (r:=r) (v:=rv) e7 (by rw[<-hr];split<;>simp[V.within,Abs.K.within,V.withinL]) (fun t ht ob hob=>by
   simp only[ZT] at ht
   subst ht
   simp[zD] at hob
   subst hob;rfl)
  have htab:yE [τ] (zD e k τ (out.map encR))=zD e k τ (out.map encR):=by
   funext t;unfold yE zD;by_cases ht:t=τ
   ·subst ht;simp
   ·simp[ht]
  rw[htab] at hI2;refine⟨rv,κ,r,_,rfl,⟨rfl,out,hQ,rfl⟩,?_,hI2⟩;intro s hs;cases res with
  |true=>simp at hs
  |false=>
   simp only[Z1,if_false,ZT] at hs;subst hs;exact⟨by simp[yI,zD,hfl rfl],rfl,fun _ b hb cur e' f hcur=>e8 b hb cur e' f hcur⟩
 have none_case: ∀(p:Option Addr) (cap:Nat),l=[]->v=.slice p 0 cap->((κ τ=none/\p=none/\cap=0)\/ ∃b cur c2,κ τ=some b/\w.heap[b]?=some (.cells cur e (0,0))/\p=some ⟨b,0,none⟩/\cur.size=cap*k/\cur.size=c2*k/\c2<=maxLen)->Calls P f (v::us).toArray w fun ex w'=> ∃v κ' r o',ex=.returned v/\(r=(if res=true then .k (.own τ) else .tup [])/\ ∃out,Q out/\o'=zD e k τ (out.map encR))/\yZ (fun t=>t∈(if res=true then[] else[τ])) (zD e k τ (l.map encR)) o' κ κ' w w'/\Inv w0 Z0 κ' ⟨fun s=>if s=0 then r else .any,o'⟩ #[v] w':=by
  intro p cap hnil hv hp;subst hv;refine(hn hnil p cap us w hul).mono ?_;rintro ex w' ⟨rfl,hw⟩;rw[hw];refine fin [] _ w (h0 hnil) (ZC _) (fun _=>by rw[hnil]) rfl rfl rfl (Zw _) (fun _ _ _=>rfl) (fun Z hZ=>?_) ?_ (fun b hb cur e f hc=>⟨cur,hc,rfl⟩)
  ·rcases hp with⟨h1,_,_⟩|⟨b,cur,c2,h1,h2,_,_,h5,h6⟩
   ·exact .inl ⟨h1,rfl,by simp⟩
   ·exact .inr ⟨b,cur,c2,h1,h2,k0,h5,by simp,h6,by simp,by simp,fun i j r c hr=>by simp at hr⟩
  ·cases res with
   |false=>exact⟨#[],rfl,rfl,trivial⟩
   |true=>
    refine⟨rfl,fun e2 sz2 nl2 rows2 h2=>?_⟩;simp[zD] at h2;obtain⟨rfl,rfl,rfl,rfl⟩:=h2;rcases hp with⟨h1,rfl,rfl⟩|⟨b,cur,c2,h1,h2,rfl,h4,_,_⟩
    ·exact .inl ⟨h1,rfl⟩
    ·exact .inr ⟨b,_,cap,h1,h2,h4,by simp⟩
 rcases hob with⟨hκ,hrows,_⟩|⟨b,cur,cap,hκ,hheap,k0,hcs,hlen,hcap,_,hall,hrr⟩
 ·have hl0:l=[]:=by simpa using hrows
  have hv:v=.slice none 0 0:=by
   rcases htm.2 e k none _ ho with⟨_,hv⟩|⟨b,_,_,hb,_⟩
   ·exact hv
   ·rw[hκ] at hb;cases hb
  exact none_case none 0 hl0 hv (.inl ⟨hκ,rfl,rfl⟩)
 ·obtain⟨cap',hv,hcap'⟩: ∃cap',v=.slice (some ⟨b,0,none⟩) l.length cap'/\cur.size=cap'*k:=by
   rcases htm.2 e k none _ ho with⟨hn,_⟩|⟨b',cur',cap',hb,hh,hc2,hv⟩
   ·rw[hκ] at hn;cases hn
   ·rw[hκ] at hb;cases hb
    rw[hheap] at hh;cases hh;exact⟨cap',by simpa using hv,hc2⟩
  rw[Zg] at hlen;by_cases hks:l=[]
  ·exact none_case _ cap' hks (by rw[hv,hks];rfl) (.inr ⟨b,cur,cap,hκ,hheap,rfl,hcap',hcs,hcap⟩)
  have hpos:0<l.length:=Ye.2 hks;subst hv;have hlt':b<w.heap.size:=wU hheap;have hnb:=(hi.own τ b (fun q=>nomatch (ho.symm.trans q)) hκ).1;have hglob: ∀W',w.grownBy W' (some b)->yN (base W'):=fun W' hg=>hi.glob.later ⟨hg.os.trans hi.kept.os,hg.tape.trans hi.kept.tape,hg.output.trans hi.kept.output,ZX hi.kept.size hg.size,fun k hk=>(hg.block k (ZO (w0.lt k hk) hi.kept.size) (fun q=>hnb (by cases q;exact hk))).trans (hi.kept.block k hk)⟩
  have hcl:l.length*k<=cur.size:=by rw[hcs];exact ZZ k hlen
  have hF: ∀t,t<l.length*k->(cur.extract 0 (l.length*k))[t]! =cur[t]! :=by
   intro t h1;have hsz:(cur.extract 0 (l.length*k)).size=l.length*k:=by rw[Array.size_extract];omega
   rw[getElem!_pos _ _ (by omega),getElem!_pos cur t (by omega)];simp
  have hH:Holds id w b 0 (cur.extract 0 (l.length*k)):=by
   refine zcU hheap (by rw[Array.size_extract];omega) fun j hj=>?_
   have hj':j<l.length*k:=by simp at hj;omega
   rw[hF j hj',getElem!_pos cur j (by omega)];simp[show j<cur.size by omega]
  refine(h hpos w (Zof w0 Z0 κ (zD e k τ (l.map encR)) w) b cap' (cur.extract 0 (l.length*k)) us hglob ⟨fun q hq=>⟨fun e2=>hq.2.2 τ (by rw[ho];simp) (by rw[hκ,e2]),hq.2.1⟩,hlt',by simp;omega,hH,⟨cur,e,hheap,hcl⟩,fun i h1 j c hj=>?_⟩ hul hxs (Nat.le_of_mul_le_mul_right (by omega) k0) (by rw[show cap'=cap from XF k0 (hcap'.symm.trans hcs)];exact hcap)).mono ?_
  ·obtain⟨u,hu,hp⟩:=hrr i j (encR l[i]) c (by rw[Zz,Zf h1];rfl) hj
   have hjk:j<k:=by rw[<-hk l[i]];exact(Zu.1 hj).1
   have hlt3:i*k+j<l.length*k:=ZO (by omega) (YL i k▸ZZ k h1);rw[hF _ hlt3,getElem!_pos cur _ (by omega)];rw[Ya (by omega)] at hu;cases hu;exact hp
  ·rintro ex w' ⟨out,hQ,hle,hfl,rfl,⟨g1,g2,g3,g4,g5⟩,hblk⟩
   obtain⟨cur',hh2,hs2,hrow⟩:=hblk cur e (0,0) hheap;have hsame:xY (Zof w0 Z0 κ (zD e k τ (l.map encR)) w) w w':=by
    intro bk hbk;have hne:bk.2≠b:=fun e2=>hbk.2.2 τ (by rw[ho];simp) (by rw[hκ,e2])
    exact g5 bk.2 hbk.2.1 (fun e2=>hne (by cases e2;rfl))
   refine fin out _ w' hQ hle hfl g1 g2 g3 g4 (fun k hk hne=>g5 k hk (by rw[hκ] at hne;exact fun h=>hne (by cases h;rfl))) (fun Z hZ=>?_) ?_ (fun b' hb cur0 e0 f0 hc0=>?_)
   ·refine .inr ⟨b,cur',cap,hκ,hh2,k0,by rw[hs2];exact hcs,by rw[Zg];omega,hcap,by simp,fun r hr=>by obtain⟨x,_,rfl⟩:=ZH.1 hr;exact hk x,fun i j r c hr hcj=>?_⟩
    have hi':i<out.length:=by have:=(Zu.1 hr).1;rwa [Zg] at this
    rw[Zz,Zf hi'] at hr;cases hr;obtain⟨u,hu,hp⟩:=hrow i hi' j c hcj;exact⟨u,hu,hp.mono hsame hZ⟩
   ·cases res with
    |false=>exact⟨#[],rfl,rfl,trivial⟩
    |true=>
     refine⟨rfl,fun e2 sz2 nl2 rows2 h2=>?_⟩;simp[zD] at h2;obtain⟨rfl,rfl,rfl,rfl⟩:=h2;exact .inr ⟨b,_,cap',hκ,hh2,by rw[hs2];exact hcap',by simp⟩
   ·rw[hκ] at hb;cases hb
    rw[hheap] at hc0;cases hc0;exact⟨cur',hh2,hs2⟩
end Go.Abs
namespace Go.Abs
open Go.Sort Go.Proofs Go.Shelf Go.Lib Go.RowKit Go.Ex
theorem zwQ {b:Nat} {F:Array Value} {w:World} {cur:Array Value} {e:TypeId} {fr:Nat×Nat} (h:Holds id w b 0 F) (hb:w.heap[b]?=some (.cells cur e fr)):F.size<=cur.size:=by
 by_cases h0:F.size=0
 ·omega
 ·have h1:=(h (F.size-1) (by omega)).1
  simp only[World.cell?,hb,ZY] at h1;have:cur[F.size-1]?≠none:=by
   intro hn;simp[hn] at h1
  have h2:F.size-1<cur.size:=by
   rcases Y7 (F.size-1) cur.size with h|h
   ·exact h
   ·exact absurd (Array.getElem?_eq_none_iff.2 h) this
  omega
section
variable {α : Type} [Inhabited α] {enc : α -> Value} {encC : α -> C}
theorem zac (hrep: ∀(w:World) (Z:Bk->Prop) x,PRep w Z (encC x) (enc x)) {W:World} {Z:Bk->Prop} {b n:Nat} {os:Array Obj} {d':Array α} {out:List α} {F0:Array Value} (hH:Holds id W b 0 F0) (hs:d'.size=F0.size) (hl:out.length<=d'.size) (ho: ∀i (hi:i<out.length),d'[i]! =out[i]):
  RowAns 1 (fun x=>[encC x]) W (grow (putRow enc (Sort.ahead W n) b 0 d') os) Z b out:=by
 refine⟨aI enc d',fun cur e fr hb=>?_⟩;refine⟨_,heap_row enc d' hb,by simp[putCells],fun i hi j c hj=>?_⟩;obtain rfl:j=0:=by have:=(Zu.1 hj).1;simp at this;exact this
 cases hj;refine⟨enc out[i],?_,hrep _ _ _⟩;rw[Yv,Yf];have:=zwQ hH hb;simp only[putCells];rw[Array.getElem?_mapIdx,Ya (by omega)];simp only[YA,ZC,true_and,ZY,XG];rw[if_pos (by omega),ho i hi]
theorem zad (hdet: ∀(w:World) (Z:Bk->Prop) x v,PRep w Z (encC x) v->v=enc x) {W:World} {Z:Bk->Prop} {b:Nat} {F0:Array Value} {l:List α} (h:RowGot 1 (fun x=>[encC x]) W Z b F0 l):Holds enc W b 0 l.toArray:=by
 intro j hj;have hj':j<l.length:=by simpa using hj
 obtain⟨h1,h2⟩:=h.h j (by have:=h.s;omega);refine⟨?_,h2⟩;have h3:=h.r j hj' 0 _ rfl;rw[Yv,Yf] at h3;rw[h1,id,hdet _ _ _ _ h3,getElem!_pos l.toArray j (by simpa using hj)];simp
end
theorem mH {us:List Value} {xs:List C} (h:us.length=xs.length) (hx:xs=[]):us=[]:=by subst hx;exact List.length_eq_zero_iff.1 h
def ltT (a b:List UInt8):Bool:=Op.bytesLess a b
theorem zae (a b:List UInt8):ltT a b=decide (a<b):=bytesLess_eq a b
theorem zwR:Strict ltT:=⟨fun a=>by rw[zae];simp[List.lt_irrefl],fun a b c h1 h2=>by rw[zae,decide_eq_true_eq] at*;exact List.lt_trans h1 h2,
 fun a b h1 h2=>by rw[zae,decide_eq_false_iff_not] at*;exact List.le_antisymm (List.not_lt.1 h2) (List.not_lt.1 h1)⟩
theorem zwS (l:List (List UInt8)):(l.mergeSort fun x y=>decide (x<=y))=sortO ltT l:=by
 refine jM zwR (List.mergeSort_perm l _) ?_;have:=List.pairwise_mergeSort (le:=fun x y:List UInt8=>decide (x<=y)) (fun a b c h1 h2=>by simp only[decide_eq_true_eq] at*;exact List.le_trans h1 h2) (fun a b=>by simpa using List.le_total a b) l;exact this.imp fun h=>by rw[zae,decide_eq_false_iff_not];exact List.not_lt.2 (by simpa using h)
theorem zwT {P:Program} {ρ:Ren} (L:Lays.n190 P ρ) (hc:tJ P (ρ.f 190)) (e:TypeId) (τ:Nat) (l:List (List UInt8)) (hm:l.length<4611686018427387904):
  yV P (ρ.f 190) [.k (.own τ)] (zD e 1 τ (l.map fun x=>[C.str x])) [τ] (fun r o'=>r=.tup []/\ ∃out,out=sortO ltT l/\o'=zD e 1 τ (out.map fun x=>[C.str x])):=by
 refine(jS hc e τ (k:=1) (by decide) (fun x=>[C.str x]) (fun _=>rfl) l [] false (fun out=>out=sortO ltT l) (fun h=>by subst h;rfl) ?_ ?_)
 ·rintro rfl p cap us W hu
  obtain rfl:=mH hu rfl;exact(Any.slices_Sort_string_none L p cap W).mono fun _ _ h=>h
 ·intro _ W Z b cap F0 us _ hG hu _ hcap _
  have hF:=hG.s;rw[Yv] at hF;obtain rfl:=mH hu rfl;refine(Any.slices_Sort_string L b 0 cap l W (zad (enc:=encStr) (fun w Z x v h=>vX h) hG) hG.lt hm).mono ?_;rintro ex w' ⟨rfl,n,os,rfl⟩;have hls:(sortO ltT l).length=l.length:=(vE ltT l).length_eq;rw[zwS];exact⟨_,rfl,by omega,fun _=>hls,rfl,zac (fun _ _ _=> .str _) hG.h (by simp[hls,hF]) (by simp) fun i hi=>by simp[hi]⟩
theorem zoK {α:Type} [DecidableEq α]: ∀(l:List α) (a:α),(cfG a l).length<=l.length
 |[],_=>Zw _
 |b::l,a=>by
  have h:=zoK l b;rw[cfG];split
  ·rw[Zo];omega
  ·rw[Zo,Zo];omega
theorem fK {α:Type} [DecidableEq α]: ∀l:List α,(yL l).length<=l.length
 |[]=>Zw _
 |a::l=>by rw[yL,Zo,Zo];exact Nat.succ_le_succ (zoK l a)
theorem zwU {P:Program} {ρ:Ren} (L:Lays.n194 P ρ) (hc:tJ P (ρ.f 194)) (e:TypeId) (τ:Nat) (l:List (List UInt8)) (hm:l.length<=9223372036854775807):
  yV P (ρ.f 194) [.k (.own τ)] (zD e 1 τ (l.map fun x=>[C.str x])) [] (fun r o'=>r=.k (.own τ)/\ ∃out,out=yL l/\o'=zD e 1 τ (out.map fun x=>[C.str x])):=by
 refine(jS hc e τ (k:=1) (by decide) (fun x=>[C.str x]) (fun _=>rfl) l [] true (fun out=>out=yL l) (fun h=>by subst h;rfl) ?_ ?_)
 ·rintro rfl p cap us W hu
  obtain rfl:=mH hu rfl;exact(Any.slices_Compact_string_empty L p cap W).mono fun _ _ h=>h
 ·intro _ W Z b cap F0 us _ hG hu _ hcap _
  have hF:=hG.s;rw[Yv] at hF;obtain rfl:=mH hu rfl;refine(Any.slices_Compact_string L b 0 cap l W (zad (enc:=encStr) (fun w Z x v h=>vX h) hG) hm hcap).mono ?_;rintro ex w' ⟨rfl,q,rfl⟩;have hle:=fK l;rw[gX];refine⟨_,rfl,hle,(fun h=>nomatch h),rfl,?_⟩;rw[<-grow_empty (putRow _ _ _ _ _)];exact zac (fun _ _ _=> .str _) hG.h (by simp[hF];omega) (by simp) fun i hi=>by simp[List.getElem?_append,hi]
end Go.Abs
set_option maxRecDepth 1000000
namespace Go.Abs
open Go.Sort Go.Proofs Go.Shelf Go.Lib Go.RowKit Go.Ex
structure RowIn {β:Type} [Inhabited β] (encC:β->C) (W wr:World) (Z:Bk->Prop) (b:Nat) (e:TypeId) (sz:Nat) (dk:Array β):Prop where
 gb:W.grownBy wr (some b)
 hb: ∃cs:Array Value,wr.heap[b]?=some (.cells cs e (0,0))/\cs.size=sz/\dk.size<=sz/\ ∀i,i<dk.size-> ∃v,cs[i]?=some v/\PRep W Z (encC dk[i]!) v
section
variable {β : Type} [Inhabited β] {encC : β -> C} {W wr w' : World} {Z : Bk -> Prop} {b sz : Nat} {e : TypeId} {dk : Array β}
theorem RowIn.cell (h:RowIn encC W wr Z b e sz dk) {i:Nat} (hi:i<dk.size): ∃v,wr.cell? ⟨b,i,none⟩=some v/\wr.frozen? ⟨b,i,none⟩=false/\PRep W Z (encC dk[i]!) v:=by
 obtain⟨cs,h1,_,_,h4⟩:=h.hb;obtain⟨v,hv,hp⟩:=h4 i hi;exact⟨v,by simp only[World.cell?,h1];exact hv,by simp[World.frozen?,h1],hp⟩
theorem RowIn.lt (h:RowIn encC W wr Z b e sz dk):b<wr.heap.size:=by
 obtain⟨cs,h1,_⟩:=h.hb;exact(Zs.1 h1).1
theorem zaf {W wr w':World} {b:Nat} (h:W.grownBy wr (some b)) (hb:Below wr.heap.size wr w'):W.grownBy w' (some b):=
 ⟨hb.os.trans h.os,hb.tape.trans h.tape,hb.output.trans h.output,ZX h.size hb.size,fun k hk hne=>(hb.block k (ZO hk h.size)).trans (h.block k hk hne)⟩
theorem RowIn.later (h:RowIn encC W wr Z b e sz dk) (hb:Below wr.heap.size wr w'):RowIn encC W w' Z b e sz dk:=by
 obtain⟨cs,h1,h2⟩:=h.hb;exact⟨zaf h.gb hb,cs,(hb.block b h.lt).trans h1,h2⟩
theorem RowIn.set (h:RowIn encC W wr Z b e sz dk) {i:Nat} (hi:i<dk.size) {x:β} {v:Value} (hv:PRep W Z (encC x) v):RowIn encC W (wr.setCell ⟨b,i,none⟩ v) Z b e sz (dk.setIfInBounds i x):=by
 obtain⟨cs,h1,h2,h3,h4⟩:=h.hb;have hh:(wr.setCell ⟨b,i,none⟩ v).heap[b]?=some (.cells (cs.setIfInBounds i v) e (0,0)):=by
  simp[World.setCell,Y1,h1]
 refine⟨⟨h.gb.os,h.gb.tape,h.gb.output,by have:=h.gb.size;simpa [World.setCell] using this,fun k hk hne=>?_⟩,_,hh,by simpa using h2,by simpa using h3,fun j hj=>?_⟩
 ·rw[<-h.gb.block k hk hne]
  exact Below.heap_setCell _ _ _ _ (fun q=>hne (by rw[q]))
 ·have hj':j<dk.size:=by simpa using hj
  rw[getElem!_pos _ j hj,Array.getElem_setIfInBounds hj'];by_cases q:i=j
  ·subst q
   rw[if_pos rfl];exact⟨v,by simp[show i<cs.size by omega],hv⟩
  ·rw[if_neg q]
   obtain⟨u,hu,hp⟩:=h4 j hj';rw[getElem!_pos dk j hj'] at hp;exact⟨u,by simp[Yi,q,hu],hp⟩
theorem RowIn.start {F0:Array Value} {l:List β} (hG:RowGot 1 (fun x=>[encC x]) W Z b F0 l): ∃e sz,RowIn encC W W Z b e sz l.toArray:=by
 obtain⟨cur,e,h1,h2⟩:=hG.hp;refine⟨e,cur.size,⟨rfl,rfl,rfl,Zw _,fun _ _ _=>rfl⟩,cur,h1,rfl,by simpa using h2,fun i hi=>?_⟩;have hi':i<l.length:=by simpa using hi
 have hs:=hG.s;have hp:=hG.r i hi' 0 _ rfl;have hc:=(hG.h i (by omega)).1;simp only[World.cell?,h1,ZY] at hc;rw[Yv,Yf] at hp;refine⟨_,by simpa using hc,?_⟩;rw[getElem!_pos l.toArray i hi];simpa using hp
theorem RowIn.ans (h:RowIn encC W wr Z b e sz dk) (hsz: ∀cur e' fr,W.heap[b]?=some (.cells cur e' fr)->cur.size=sz/\e'=e/\fr=(0,0)) {out:List β} (ho:out.length<=dk.size) (hd: ∀i (hi:i<out.length),dk[i]! =out[i])
  (w':World) (hg:W.grownBy w' (some b)) (hc: ∀cs,wr.heap[b]?=some (.cells cs e (0,0))-> ∃cs':Array Value,w'.heap[b]?=some (.cells cs' e (0,0))/\cs'.size=cs.size/\ ∀i,i<out.length->cs'[i]?=cs[i]?):RowAns 1 (fun x=>[encC x]) W w' Z b out:=by
 obtain⟨cs,h1,h2,h3,h4⟩:=h.hb;obtain⟨cs',k1,k2,k3⟩:=hc cs h1;refine⟨hg,fun cur e' fr hb=>?_⟩;obtain⟨q1,rfl,rfl⟩:=hsz cur e' fr hb;refine⟨cs',k1,by omega,fun i hi j c hj=>?_⟩;obtain rfl:j=0:=by have:=(Zu.1 hj).1;simp at this;exact this
 cases hj;obtain⟨v,hv,hp⟩:=h4 i (by omega);rw[hd i hi] at hp;exact⟨v,by rw[Yv,Yf,k3 i hi];exact hv,hp⟩
theorem zwV (h:W.grownBy wr (some b)) (i:Nat) (v:Value):W.grownBy (wr.setCell ⟨b,i,none⟩ v) (some b):=
 ⟨h.os,h.tape,h.output,by have:=h.size;simpa [World.setCell] using this,fun k hk hne=>by
  rw[<-h.block k hk hne]
  exact Below.heap_setCell _ _ _ _ (fun q=>hne (by rw[q]))⟩
theorem zdm: ∀(vs:List Value) (o:Nat) {wr:World},W.grownBy wr (some b)->W.grownBy (wr.setCells b o vs) (some b)
 |[],_,_,h=>h
 |v::r,o,_,h=>zdm r (o+1) (zwV h o v)
theorem zdn: ∀(vs:List Value) (o:Nat) {wr:World} {cs:Array Value},wr.heap[b]?=some (.cells cs e (0,0))-> ∃cs':Array Value,(wr.setCells b o vs).heap[b]?=some (.cells cs' e (0,0))/\cs'.size=cs.size/\ ∀i,i<o->cs'[i]?=cs[i]?
 |[],_,_,cs,h=>⟨cs,h,rfl,fun _ _=>rfl⟩
 |v::r,o,wr,cs,h=>by
  have hh:(wr.setCell ⟨b,o,none⟩ v).heap[b]?=some (.cells (cs.setIfInBounds o v) e (0,0)):=by simp[World.setCell,Y1,h]
  obtain⟨cs',h1,h2,h3⟩:=zdn r (o+1) hh;exact⟨cs',h1,by simpa using h2,fun i hi=>by rw[h3 i (by omega),Yi,if_neg (by omega)]⟩
end
end Go.Abs
namespace Go.Proofs
open Go.Sort Go.Abs Go.Shelf Go.Lib Go.RowKit Go.Ex
theorem zwW (b cap:Nat) (e:TypeId) (sz:Nat) (l:List (List Int)) (W:World) (Z:Bk->Prop) (hI0:RowIn (fun x=>zB 1 (zG x)) W W Z b e sz l.toArray) (hsz:l.length<=1000000) (hcap:l.length<=cap)
  (hq: ∀x∈l,∀y∈l,∀(W':World) vx vy,W.grownBy W' (some b)->PRep W Z (zB 1 (zG x)) vx->PRep W Z (zB 1 (zG y)) vy->Calls Tryz.prog 103 #[vx,vy] W' fun ex w'=>ex=.returned (.bool (decide (x=y)))/\Below W'.heap.size W' w'):
  Calls Tryz.prog 102 #[.slice (some ⟨b,0,none⟩) l.length cap,.func (.func 103) #[] #[]] W fun ex w'=>ex=.returned (.slice (some ⟨b,0,none⟩) (yL l).length cap)/\ ∃(dk:Array (List Int)) (wr:World),RowIn (fun x=>zB 1 (zG x)) W wr Z b e sz dk/\dk.size=l.length/\(∀i (hi:i<(yL l).length),dk[i]! =(yL l)[i])/\W.grownBy w' (some b)/\ ∀cs,wr.heap[b]?=some (.cells cs e (0,0))-> ∃cs':Array Value,w'.heap[b]?=some (.cells cs' e (0,0))/\cs'.size=cs.size/\ ∀i,i<(yL l).length->cs'[i]?=cs[i]?:=by
 have eg: ∀args w,(callFunc 103 args).run Tryz.prog w=.ok (.enter 103 args) w:=enters_of Tryz.func103 (by kernel_rfl) rfl;have mixed:Tryz.prog.follows Departure.mixedOrders=true:=by kernel_rfl
 by_cases h2:l.length<2
 ·have HI:Aside (RowIn (fun x=>zB 1 (zG x)) W W Z b e sz l.toArray):=hI0
  clear hI0
  go_enter Tryz.func102,Tryz.ntmps102
  go_wp2
  go_ret
  have e1:yL l=l:=by
   match l,h2 with
   |[],_=>rfl
   |[a],_=>rfl
  rw[e1];exact⟨rfl,l.toArray,W,HI.out,by simp,fun i hi=>by simp[hi],⟨rfl,rfl,rfl,Zw _,fun _ _ _=>rfl⟩,fun cs h=>⟨cs,h,rfl,fun _ _=>rfl⟩⟩
 ·have HI:Aside (RowIn (fun x=>zB 1 (zG x)) W W Z b e sz l.toArray):=hI0
  have HQ:Aside (∀x∈l,∀y∈l,∀(W':World) vx vy,W.grownBy W' (some b)->PRep W Z (zB 1 (zG x)) vx->PRep W Z (zB 1 (zG y)) vy->Calls Tryz.prog 103 #[vx,vy] W' fun ex w'=>ex=.returned (.bool (decide (x=y)))/\Below W'.heap.size W' w'):=hq;clear hI0 hq;obtain⟨d,hd⟩: ∃d,l.toArray=d:=⟨_,rfl⟩;have hds:d.size=l.length:=by rw[<-hd];simp
  go_enter Tryz.func102,Tryz.ntmps102
  go_wp2
  go_loopg [5] l.length (fun g s5 wr=> ∃k:Nat,1<=k/\k<=l.length/\l.length-k<=g/\s5=.int .i64 k/\RowIn (fun x=>zB 1 (zG x)) W wr Z b e sz d/\ ∀j,j<k->keeps d j=true)
  case atStart=>exact⟨1,Zw _,by omega,by omega,rfl,hd▸HI.out,keeps_lt_one d⟩
  case round=>
   obtain⟨k,hk1,hk,hg,rfl,hI,hall⟩:=hrel;by_cases hlt:k<l.length
   ·obtain⟨vx,c1,f1,p1⟩:=hI.cell (i:=k) (by omega)
    obtain⟨vy,c0,f0,p0⟩:=hI.cell (i:=k-1) (by omega);have A:Aside (∀j,j<k->keeps d j=true):=hall;have hx:d[k]! ∈l:=by rw[getElem!_pos d k (by omega)];simp[<-hd]
    have hy:d[k-1]! ∈l:=by rw[getElem!_pos d (k-1) (by omega)];simp[<-hd]
    have hcall: ∀W',Below wr.heap.size wr W'->Calls Tryz.prog 103 #[vx,vy] W' fun ex w'=>ex=.returned (.bool (decide (d[k]! =d[k-1]!)))/\Below W'.heap.size W' w':=fun W' hB=>HQ.out _ hx _ hy W' vx vy (zaf hI.gb hB) p1 p0
    clear hx hy p1 p0;have J:Aside (RowIn (fun x=>zB 1 (zG x)) W wr Z b e sz d):=hI;clear hI hall;have hS0:wr.drew.cell? ⟨b,k,none⟩=some vx/\wr.drew.cell? ⟨b,k-1,none⟩=some vy/\Below wr.heap.size wr wr.drew:=⟨c1,c0,uB wr⟩;clear c1 c0;have hbl:b<wr.heap.size:=J.out.lt;have hSl: ∀W' w'':World,(W'.cell? ⟨b,k,none⟩=some vx/\W'.cell? ⟨b,k-1,none⟩=some vy/\Below wr.heap.size wr W')->Below W'.heap.size W' w''->(w''.cell? ⟨b,k,none⟩=some vx/\w''.cell? ⟨b,k-1,none⟩=some vy/\Below wr.heap.size wr w''):=fun W' w'' ⟨g1,g2,g3⟩ hB=>by
     have hlt':b<W'.heap.size:=ZO hbl g3.size;exact⟨(hB.cell (p:=⟨b,k,none⟩) hlt').trans g1,(hB.cell (p:=⟨b,k-1,none⟩) hlt').trans g2,g3.trans (hB.mono g3.size)⟩
    clear hbl;obtain⟨t,ht⟩: ∃t,decide (d[k]! =d[k-1]!)=t:=⟨_,rfl⟩;rw[ht] at hcall;have T:Aside (decide (d[k]! =d[k-1]!)=t):=ht;clear ht;have hw1:IntKind.i64.wrap ((k:Int)-1)=((k-1:Nat):Int):=by rw[wrap_in (by omega) (by omega)];omega
    have hb1':((k-1:Nat):Int)<l.length:=by omega
    have hb2':(k:Int)<l.length:=by omega
    have hb3':(0:Int)<=((k-1:Nat):Int):=by omega
    go_wp2_with fail
    go_region_held3 (fun W'=>W'.cell? ⟨b,k,none⟩=some vx/\W'.cell? ⟨b,k-1,none⟩=some vy/\Below wr.heap.size wr W') (first|exact hS0|exact hSl _ _ (by assumption) hb1|exact hSl _ _ hS0 hb1|exact hSl _ _ ⟨by assumption,by assumption,by assumption⟩ hb1|go_keep) (first|(go_at_call 103;refine(hcall _ (by simp[*])).mono ?_;rintro ex w1 ⟨rfl,hb1⟩)|fail)
    have hJ1:Aside (RowIn (fun x=>zB 1 (zG x)) W w1 Z b e sz d):=J.out.later ((uB wr).trans hb1);clear hS0 hSl hcall hb1;cases t with
    |false=>
     go_wp2
     go_roundg (l.length-(k+1))
     case measure=>omega
     case rel=>
      refine⟨k+1,by omega,by omega,Zw _,by go_num,hJ1.out,fun j hj=>?_⟩;by_cases q:j=k
      ·subst q
       exact keeps_pos (of_decide_eq_false T.out)
      ·exact A.out j (by omega)
    |true=>
     go_wp2
     go_loopg [5,7] l.length (fun g s5 s7 wr2=> ∃(kk k2:Nat) (dk:Array (List Int)),s5=.int .i64 kk/\s7=.int .i64 k2/\1<=k2/\k+k2<=l.length/\l.length-(k+k2)<=g/\RowIn (fun x=>zB 1 (zG x)) W wr2 Z b e sz dk/\CompInv d (k+k2) kk dk)
     case atStart=>exact⟨k,1,d,rfl,rfl,Zw _,by omega,by omega,hJ1.out,CompInv.start A.out (keeps_neg (by omega) (of_decide_eq_true T.out))⟩
     case round=>
      obtain⟨kk,k2,dk,rfl,rfl,h1,hle,hg2,hR,hI⟩:=hrel;have hkk:=hI.lt;have hdk:=hI.size;by_cases hlt2:k+k2<l.length
      ·obtain⟨vu,cm,fm,pu⟩:=hR.cell (i:=k+k2) (by omega)
       obtain⟨vv,cp,fp,pv⟩:=hR.cell (i:=k+k2-1) (by omega);obtain⟨vo,ck,fk,_⟩:=hR.cell (i:=kk) (by omega);rw[hI.high (k+k2) (by omega)] at pu;rw[hI.high (k+k2-1) (by omega)] at pv;rw[show k+k2-1=k+(k2-1) by omega] at cp fp pv;have hu:d[k+k2]! ∈l:=by rw[getElem!_pos d _ (by omega)];simp[<-hd]
       have hv:d[k+(k2-1)]! ∈l:=by rw[getElem!_pos d _ (by omega)];simp[<-hd]
       have hcall: ∀W',Below wr.heap.size wr W'->Calls Tryz.prog 103 #[vu,vv] W' fun ex w'=>ex=.returned (.bool (decide (d[k+k2]! =d[k+(k2-1)]!)))/\Below W'.heap.size W' w':=fun W' hB=>HQ.out _ hu _ hv W' vu vv (zaf hR.gb hB) pu pv
       have hone:=pu.oneCell;have PU:Aside (PRep W Z (zB 1 (zG d[k+k2]!)) vu):=pu;clear hu hv pv pu;have J:Aside (RowIn (fun x=>zB 1 (zG x)) W wr Z b e sz dk):=hR;have I:Aside (CompInv d (k+k2) kk dk):=hI;clear hR hI;have hS0:wr.drew.cell? ⟨b,k+k2,none⟩=some vu/\wr.drew.cell? ⟨b,k+(k2-1),none⟩=some vv/\wr.drew.cell? ⟨b,kk,none⟩=some vo/\wr.drew.frozen? ⟨b,kk,none⟩=false/\Below wr.heap.size wr wr.drew:=⟨cm,cp,ck,fk,uB wr⟩;have hbl:b<wr.heap.size:=J.out.lt;have hSl: ∀W' w'':World,(W'.cell? ⟨b,k+k2,none⟩=some vu/\W'.cell? ⟨b,k+(k2-1),none⟩=some vv/\W'.cell? ⟨b,kk,none⟩=some vo/\W'.frozen? ⟨b,kk,none⟩=false/\Below wr.heap.size wr W')->Below W'.heap.size W' w''->(w''.cell? ⟨b,k+k2,none⟩=some vu/\w''.cell? ⟨b,k+(k2-1),none⟩=some vv/\w''.cell? ⟨b,kk,none⟩=some vo/\w''.frozen? ⟨b,kk,none⟩=false/\Below wr.heap.size wr w''):=fun W' w'' ⟨g1,g2,g3,g4,g5⟩ hB=>by
        have hlt':b<W'.heap.size:=ZO hbl g5.size;exact⟨(hB.cell (p:=⟨b,k+k2,none⟩) hlt').trans g1,(hB.cell (p:=⟨b,k+(k2-1),none⟩) hlt').trans g2,(hB.cell (p:=⟨b,kk,none⟩) hlt').trans g3,(hB.frozen (p:=⟨b,kk,none⟩) hlt').trans g4,g5.trans (hB.mono g5.size)⟩
       clear hbl cm cp ck fk fm fp;obtain⟨t,ht⟩: ∃t,decide (d[k+k2]! =d[k+(k2-1)]!)=t:=⟨_,rfl⟩;rw[ht] at hcall;have T2:Aside (decide (d[k+k2]! =d[k+(k2-1)]!)=t):=ht;clear ht;have hw2:IntKind.i64.wrap ((k2:Int)-1)=((k2-1:Nat):Int):=by rw[wrap_in (by omega) (by omega)];omega
       have hb4:((k2-1:Nat):Int)<((l.length-k:Nat):Int):=by omega
       have hb5:(k2:Int)<((l.length-k:Nat):Int):=by omega
       have hb6:(0:Int)<=((k2-1:Nat):Int):=by omega
       go_wp2_with fail
       go_region_held3 (fun W'=>W'.cell? ⟨b,k+k2,none⟩=some vu/\W'.cell? ⟨b,k+(k2-1),none⟩=some vv/\W'.cell? ⟨b,kk,none⟩=some vo/\W'.frozen? ⟨b,kk,none⟩=false/\Below wr.heap.size wr W') (first|exact hS0|exact hSl _ _ (by assumption) hb2|exact hSl _ _ hS0 hb2|go_keep) (first|(go_at_call 103;refine(hcall _ (by simp[*])).mono ?_;rintro ex w2 ⟨rfl,hb2⟩)|fail)
       have hJ2:Aside (RowIn (fun x=>zB 1 (zG x)) W w2 Z b e sz dk):=J.out.later ((uB wr).trans hb2);obtain⟨cm,cp,ck,fk,_⟩:=hSl _ _ hS0 hb2;clear hS0 hSl hcall hb2;cases t with
       |true=>
        go_wp2
        go_roundg (l.length-(k+(k2+1)))
        case measure=>omega
        case rel=>exact⟨kk,k2+1,dk,rfl,by go_num,by omega,by omega,Zw _,hJ2.out,I.out.skip (keeps_neg (by omega) (by rw[show k+k2-1=k+(k2-1) by omega];exact of_decide_eq_true T2.out))⟩
       |false=>
        have hst:Sem.run Tryz.prog (storeCells ⟨b,kk,none⟩ [vu]) w2=.ok () (w2.setCell ⟨b,kk,none⟩ vu):=by
         have:=run_storeCells_cells (P:=Tryz.prog) b kk [vu] 0 w2 (fun j hj=>by
          obtain rfl:j=0:=by simpa using hj
          show(w2.cell? ⟨b,kk,none⟩).isSome=true
          rw[ck];rfl) (fun j hj=>by
          obtain rfl:j=0:=by simpa using hj
          exact fk) (fun v hv=>by rw[ZT.1 hv];exact hone)
         exact this
        go_wp2
        rw[hst]
        go_wp2
        go_roundg (l.length-(k+(k2+1)))
        case measure=>omega
        case rel=>exact⟨kk+1,k2+1,dk.setIfInBounds kk d[k+k2]!,by go_num,by go_num,by omega,by omega,Zw _,hJ2.out.set (by omega) PU.out,I.out.keep (by omega) (keeps_pos (by rw[show k+k2-1=k+(k2-1) by omega];exact of_decide_eq_false T2.out))⟩
      ·have hend:k+k2=l.length:=by omega
       have hcl: ∀ty,(Builtin.clear_ #[32] ty #[.slice (some ⟨b,kk,none⟩) (l.length-kk) (cap-kk)]).run Tryz.prog wr=.ok (.tuple #[]) (wr.setCells b kk (List.replicate (l.length-kk) (.slice none 0 0))):=
        fun ty=>Lib.run_clear_slice wr 32 28 ty _ Tryz.underlying32 (fun w=>by simp[go_sem]) rfl rfl b kk _ _ (by omega) (fun j hj=>by
         obtain⟨v,h,_,_⟩:=hR.cell (i:=kk+j) (by omega)
         rw[h];rfl) (fun j hj=>by
         obtain⟨v,_,h,_⟩:=hR.cell (i:=kk+j) (by omega)
         exact h)
       have J:Aside (RowIn (fun x=>zB 1 (zG x)) W wr Z b e sz dk):=hR;have I:Aside (CompInv d (k+k2) kk dk):=hI;clear hR hI
       go_wp2
       go_ret
       have hI:=I.out;have hR:=J.out;have e1:compactUpTo d d.size=yL l:=by rw[<-gX,<-hd];rfl
       rw[hend,<-hds] at hI;have hlen:(yL l).length=kk:=by rw[<-e1];exact hI.len
       refine⟨by rw[hlen];rfl,dk,wr,hR,by rw[hdk];exact hds,fun i hi=>?_,zdm _ _ hR.gb,fun cs h=>?_⟩
       ·have:=hI.low i (by omega)
        rw[e1,Zf hi] at this;exact(Yr this).symm
       ·obtain⟨cs',h1,h2,h3⟩:=zdn (List.replicate (l.length-kk) (Value.slice none 0 0)) kk h
        exact⟨cs',h1,h2,fun i hi=>h3 i (by omega)⟩
   ·have:k=l.length:=by omega
    subst this;have J:Aside (RowIn (fun x=>zB 1 (zG x)) W wr Z b e sz d):=hI;clear hI;have e1:yL l=l:=by
     have h:=compactUpTo_all d d.size (fun j hj=>hall j (by omega));rw[show compactUpTo d d.size=yL l by rw[<-gX,<-hd];rfl] at h;rw[h,<-hd];apply Xg
     ·simp
     ·intro i h1 h2;simp[h2]
    go_wp2
    go_ret
    rw[e1];exact⟨rfl,d,wr,J.out,hds,fun i hi=>by rw[getElem!_pos d i (by omega)];simp[<-hd],J.out.gb,fun cs h=>⟨cs,h,rfl,fun _ _=>rfl⟩⟩
end Go.Proofs
namespace Go.Abs
open Go.Sort Go.Proofs Go.Shelf Go.Lib Go.RowKit Go.Ex
theorem znY: ∀x y:List Nat,x.length=y.length->(tP (natI x) (natI y)<0 ↔ sQ x y=true)
 |[],[],_=>by simp[tP,sQ,natI]
 |[],_::_,h=>by simp at h
 |_::_,[],h=>by simp at h
 |a::x,b::y,h=>by
  have e1:natI (a::x)=(a:Int)::natI x:=rfl;have e2:natI (b::y)=(b:Int)::natI y:=rfl;rw[e1,e2,tP,sQ];rcases zvu (a:Int) b with⟨h1,h2⟩|⟨h1,h2⟩|⟨h1,h2⟩
  ·rw[h2,if_pos (by decide),if_neg (by omega)];simp;omega
  ·rw[h2,if_neg (by decide),if_pos (by omega)]
   exact znY x y (by simpa using h)
  ·rw[h2,if_pos (by decide),if_neg (by omega)];simp;omega
theorem znZ (x y:List Nat):decide (uV (natI x) (natI y)<0)=ltC x y:=by
 unfold uV ltC;rw[wX,wX];by_cases h:x.length=y.length
 ·rw[if_neg (by omega),if_pos h,Yw,decide_eq_true_eq,znY _ _ h]
 ·rw[if_pos (by omega),if_neg h,Yw,decide_eq_true_eq,decide_eq_true_eq];omega
theorem aJ {α:Type} {lt:α->α->Bool} (h:Strict lt):SWO lt where
 irrefl:=h.irr
 trans:=h.tr
 ntrans x y z h1 h2:=by
  cases q:lt x z with
  |false=>rfl
  |true=>
   exfalso;cases q2:lt z y with
   |true=>have:=h.tr _ _ _ q q2;rw[h1] at this;cases this
   |false=>
    have e:=h.tot y z h2 q2;subst e;rw[h1] at q;cases q
theorem gV {w:World} {Z:Bk->Prop} {x:List Nat} {v:Value} (h:PRep w Z (zB 1 (zG (natI x))) v): ∃p b o cap,v=.slice p (natI x).length cap/\mD w p b o (natI x):=by
 obtain⟨p,cap,rfl,hq,_⟩:=(ztY (natI x)).slice h;rw[yJ] at hq;by_cases h0:(natI x).length=0
 ·exact⟨p,0,0,cap,by rw[yJ],fun hk=>absurd h0 hk,fun j hj=>absurd hj (by omega)⟩
 ·obtain⟨b,o,rfl,hc⟩:=hq (by omega)
  refine⟨_,b,o,cap,by rw[yJ],fun _=>rfl,fun j hj=>hc j _ ?_⟩;have:sA (zG (natI x))=(natI x).map fun n=>Value.int .i64 n:=by
   generalize natI x=l
   induction l with
   |nil=>rfl
   |cons a l ih=>simp only[sA,zG,Zk,Yy,ZS] at ih⊢;rw[ih];rfl
  rw[this,Zz,Zf hj];simp[List.getD,hj]
def cfs (L:List (List Nat)):List (List C):=L.map fun x=>[zB 1 (zG (natI x))]
theorem c69 (τ:Nat) (L:List (List Nat)) (hm:L.length<=1000000) (hk: ∀x∈L,x.length<=1000):yV Tryz.prog 100 [.k (.own τ),.k (.c (.fn 147 []))] (zD 28 1 τ (cfs L)) [τ] (fun r o'=>r=.tup []/\o'=zD 28 1 τ (cfs (sortO ltC L))):=by
 refine(znX Tryz.laysSortC (vN (by kernel_rfl)) 28 (fun x=>zB 1 (zG (natI x))) (fun x y=>uV (natI x) (natI y)) ltC znZ (aJ jN) 147 (enters_of Tryz.func147 (by kernel_rfl) rfl) τ L (by omega) ?_).mono ?_
 ·intro x hx y hy W Z vx vy hZ hvx hvy
  obtain⟨p1,b1,o1,c1,rfl,q1⟩:=gV hvx;obtain⟨p2,b2,o2,c2,rfl,q2⟩:=gV hvy;have hx':=hk x hx;have hy':=hk y hy;refine(zvv b1 o1 c1 b2 o2 c2 p1 p2 (natI x) (natI y) W (by rw[wX];exact hx') (by rw[wX];exact hy') ⟨q1,q2⟩).mono ?_;rintro e w' ⟨rfl,rfl⟩;exact⟨rfl,0,#[],by rw[grow_empty];rfl⟩
 ·rintro r o' ⟨rfl,out,hp,hs,rfl⟩
  rw[jM jN hp hs];exact⟨rfl,rfl⟩
end Go.Abs
namespace Go.Proofs
open Go.RowKit Go.Lib Go.Sort Go.Abs Go.Ex
def qC (a b:Plc):Int:=if a.doc≠b.doc then a.doc-b.doc else a.fld-b.fld
theorem zvw (a b:Plc) (ha:0<=a.doc/\a.doc<=1000000/\0<=a.fld/\a.fld<=1000000) (hb:0<=b.doc/\b.doc<=1000000/\0<=b.fld/\b.fld<=1000000) (w:World):
  Calls Tryz.prog 149 #[.agg #[.int .i64 a.doc,.int .i64 a.fld],.agg #[.int .i64 b.doc,.int .i64 b.fld]] w fun e w'=>e=.returned (.int .i64 (qC a b))/\ ∃q os',w'=grow (w.drewN q) os':=by
 obtain⟨a1,a2⟩:=a;obtain⟨b1,b2⟩:=b;simp only[] at ha hb;have w1:IntKind.i64.wrap (a1-b1)=a1-b1:=Go.Abs.wrap_in (by omega) (by omega);have w2:IntKind.i64.wrap (a2-b2)=a2-b2:=Go.Abs.wrap_in (by omega) (by omega);by_cases h:a1=b1
 ·subst h
  have e:qC ⟨a1,a2⟩ ⟨a1,b2⟩=a2-b2:=by unfold qC;rw[if_neg (by simp)]
  rw[e]
  go_enter Tryz.func149,Tryz.ntmps149
  go_wp2
  go_ret
  exact⟨rfl,0,_,by rw[alloc_eq_grow,alloc_eq_grow,grow_grow];rfl⟩
 ·have e:qC ⟨a1,a2⟩ ⟨b1,b2⟩=a1-b1:=by unfold qC;rw[if_pos h]
  have hne:(a1==b1)=false:=by simp[h]
  rw[e]
  go_enter Tryz.func149,Tryz.ntmps149
  go_wp2
  go_ret
  exact⟨rfl,0,_,by rw[alloc_eq_grow,alloc_eq_grow,grow_grow];rfl⟩
end Go.Proofs
namespace Go.Abs
open Go.Sort Go.Proofs Go.Shelf Go.Lib Go.RowKit Go.Ex
theorem zn0 (a b:Plc):decide (qC a b<0)=wW a b:=by
 unfold qC wW;by_cases h:a.doc=b.doc
 ·rw[if_neg (by simp[h]),if_pos h,Yw,decide_eq_true_eq,decide_eq_true_eq];omega
 ·rw[if_pos h,if_neg h,Yw,decide_eq_true_eq,decide_eq_true_eq];omega
def gW (a:Plc):Prop:=0<=a.doc/\a.doc<=1000000/\0<=a.fld/\a.fld<=1000000
theorem c72 (τ:Nat) (L:List Plc) (hm:L.length<=100000000000000) (hk: ∀x∈L,gW x):yV Tryz.prog 75 [.k (.own τ),.k (.c (.fn 149 []))] (zD 25 2 τ (pls L)) [τ] (fun r o'=>r=.tup []/\o'=zD 25 2 τ (pls (sortO wW L))):=by
 refine(znT Tryz.laysSortP (vN (by kernel_rfl)) 25 2 (by decide) Tryz.isAgg25 Tryz.sizeOf25 wG (fun _=>rfl) qC wW zn0 (aJ aA) 149 (enters_of Tryz.func149 (by kernel_rfl) rfl) τ L (by omega) ?_).mono ?_
 ·intro x hx y hy W Z vx vy hZ hvx hvy
  have e1:=jI (r:=wG x) (by simp[wG,C.sc]) hvx;have e2:=jI (r:=wG y) (by simp[wG,C.sc]) hvy;subst e1 e2;exact zvw x y (hk x hx) (hk y hy) W
 ·rintro r o' ⟨rfl,out,hp,hs,rfl⟩
  rw[jM aA hp hs];exact⟨rfl,rfl⟩
end Go.Abs
namespace Go.Proofs
open Go.RowKit Go.Lib Go.Sort Go.Ex
instance:Inhabited Plc:=⟨⟨0,0⟩⟩
def plV (x:Plc):List Value:=[.int .i64 x.doc,.int .i64 x.fld]
theorem zn3 (x:Plc):(plV x).length=2:=rfl
theorem zn4 (x y:Plc):(x.doc==y.doc&&x.fld==y.fld)=decide (x=y):=by
 obtain⟨a,b⟩:=x;obtain⟨c,d⟩:=y;rw[Yw,Zr,beq_iff_eq,beq_iff_eq,decide_eq_true_eq,Plc.mk.injEq]
theorem zvx (x y:Plc) (w:World):Sem.run Tryz.prog (binOp .eql 25 (.agg #[.int .i64 x.doc,.int .i64 x.fld]) (.agg #[.int .i64 y.doc,.int .i64 y.fld])) w=.ok (.bool (decide (x=y))) w:=by
 rw[run_eql_struct,run_equalIn_agg (P:=Tryz.prog) w 9999 25 _ _ (by kernel_rfl) (by kernel_rfl),<-zn4];simp[go_sem];by_cases h1:x.doc=y.doc<;>by_cases h2:x.fld=y.fld<;>simp[h1,h2]
theorem zvy (x y:Plc) (w:World):Sem.run Tryz.prog (binOp .neq 25 (.agg #[.int .i64 x.doc,.int .i64 x.fld]) (.agg #[.int .i64 y.doc,.int .i64 y.fld])) w=.ok (.bool (!decide (x=y))) w:=by
 rw[run_neq_struct,run_equalIn_agg (P:=Tryz.prog) w 9999 25 _ _ (by kernel_rfl) (by kernel_rfl),<-zn4];simp[go_sem];by_cases h1:x.doc=y.doc<;>by_cases h2:x.fld=y.fld<;>simp[h1,h2]
theorem zvz (op:BinOp) (a b:Operand) (x y:Plc) (w:World):Sem.run Tryz.prog (eqGuard op 25 a b (.agg #[.int .i64 x.doc,.int .i64 x.fld]) (.agg #[.int .i64 y.doc,.int .i64 y.fld])) w=.ok () w:=run_eqGuard_agg _ _ _ _ _ _ _ (by kernel_rfl)
theorem zvA (d:Array Plc) (i:Nat) (x:Plc) (hi:i<d.size):setMany (flatK plV 2 d) (i*2) (plV x)=flatK plV 2 (d.setIfInBounds i x):=by
 refine ext_get! (by simp) fun t ht=>?_
 have ht':t<d.size*2:=by simpa using ht
 rw[get_setMany _ _ _ t (by simpa using ht'),get_flatK _ _ _ t ht',get_flatK _ _ _ t (by simpa using ht'),zn3];by_cases a:t/2=i
 ·rw[if_pos (by omega),show t-i*2=t % 2 by omega,a]
  simp[hi]
 ·rw[if_neg (by omega)]
  congr 2;rw[getElem!_pos d _ (by omega),getElem!_pos (d.setIfInBounds i x) _ (by simp;omega),Array.getElem_setIfInBounds,if_neg (Ne.symm a)]
theorem zvB {w wr:World} {n blk off:Nat} {dk:Array Plc} {i:Nat} (hi:i<dk.size) (hwr:wr=putRowK plV 2 (Sort.ahead w n) blk off dk) (x:Plc):wr.setCells blk (off+i*2) (plV x)=putRowK plV 2 (Sort.ahead w n) blk off (dk.setIfInBounds i x):=by
 subst hwr;unfold putRowK;rw[setCells_putRow _ _ _ _ _ _ (by rw[zn3,size_flatK];omega),zvA _ _ _ hi]
theorem gY {W:World} {blk off:Nat} {d:Array Plc} (h:HoldsK plV 2 W blk off d) {i:Nat} (hi:i<d.size):
  W.cell? ⟨blk,off+i*2,none⟩=some (.int .i64 d[i]!.doc)/\W.cell? ⟨blk,off+i*2+1,none⟩=some (.int .i64 d[i]!.fld):=by
 have h0:=(h.cell (c:=0) hi (by decide)).1;have h1:=(h.cell (c:=1) hi (by decide)).1;exact⟨h0,h1⟩
theorem zvC: ∀w,(zeroValue 25).run Tryz.prog w=.ok (.agg #[.int .i64 0,.int .i64 0]) w:=by
 intro w;simp[go_sem]
theorem zvD (w:World) (ty:TypeId) (b o n c:Nat) (hn:0<n)
  (hc: ∀j,j<n*2->(w.cell? ⟨b,o+j,none⟩).isSome=true) (hf: ∀j,j<n*2->w.frozen? ⟨b,o+j,none⟩=false):
  (Builtin.clear_ #[64] ty #[.slice (some ⟨b,o,none⟩) n c]).run Tryz.prog w=.ok (.tuple #[]) (w.setCells b o (List.replicate (n*2) (.int .i64 0))):=by
 have hzc:(Builtin.zeroCells #[.int .i64 0,.int .i64 0] n).toList=List.replicate (n*2) (.int .i64 0):=by
  simp[Builtin.zeroCells];apply Xg
  ·simp[Nat.mul_comm]
  ·intro i h1 h2
   simp;rcases Nat.mod_two_eq_zero_or_one i with h|h<;>simp[h]
 have hst:=run_storeCells_cells (P:=Tryz.prog) b o (List.replicate (n*2) (.int .i64 0)) 0 w (by simpa using hc) (by simpa using hf) (by intro v hv';rw[List.eq_of_mem_replicate hv'];rfl);simp only[Yf] at hst;obtain⟨m,rfl⟩: ∃m,n=m+1:=⟨n-1,by omega⟩;simp only[Builtin.clear_];simp[go_sem,run_underlying Tryz.underlying64,zvC,hzc,hst,Value.cells]
theorem zvE {α:Type} [Inhabited α] (d:Array α):(List.range d.size).map (d[·]!)=d.toList:=by
 apply Xg
 ·simp
 ·intro i h1 h2
  simp at h1;simp[h1]
theorem zvF (blk off cap:Nat) (d:Array Plc) (w:World) (hH:HoldsK plV 2 w blk off d) (hsz:d.size<=100000000000000) (hcap:d.size<=cap):
  Calls Tryz.prog 78 #[.slice (some ⟨blk,off,none⟩) d.size cap] w fun e w'=>e=.returned (.slice (some ⟨blk,off,none⟩) (compactUpTo d d.size).length cap)/\(compactUpTo d d.size).length<=d.size/\ ∃(q:Nat) (F:Array Value),F.size=d.size*2/\(∀j,j<(compactUpTo d d.size).length*2->F[j]! =(flatK plV 2 (compactUpTo d d.size).toArray)[j]!)/\w'=putRow id (Sort.ahead w q) blk off F:=by
 have same: ∀q,(∀j,j<d.size->keeps d j=true)->(compactUpTo d d.size).length=d.size/\w.drewN q=putRow id (Sort.ahead w q) blk off (flatK plV 2 d)/\ ∀j,j<(compactUpTo d d.size).length*2->(flatK plV 2 d)[j]! =(flatK plV 2 (compactUpTo d d.size).toArray)[j]! :=by
  intro q hall;have e:compactUpTo d d.size=d.toList:=by rw[compactUpTo_all d _ hall];exact zvE d
  rw[e];exact⟨by simp,(putRowK_self plV 2 (Sort.ahead w q) blk off d (holdsK_ahead plV 2 w q blk off d hH)).symm,fun j _=>by simp⟩
 have HS:Aside (∀q,(∀j,j<d.size->keeps d j=true)->(compactUpTo d d.size).length=d.size/\w.drewN q=putRow id (Sort.ahead w q) blk off (flatK plV 2 d)/\ ∀j,j<(compactUpTo d d.size).length*2->(flatK plV 2 d)[j]! =(flatK plV 2 (compactUpTo d d.size).toArray)[j]!):=same;clear same;have heq':=zvx;have hne':=zvy;have hgd':=zvz;have mixed:Tryz.prog.follows Departure.mixedOrders=true:=by kernel_rfl
 have HH:Aside (HoldsK plV 2 w blk off d):=hH;clear hH;by_cases h2:d.size<2
 ·go_enter Tryz.func78,Tryz.ntmps78
  go_wp2
  go_ret
  obtain⟨e1,e2,e3⟩:=HS.out 0 (fun j hj=>keeps_lt_one d j (by omega));exact⟨by rw[e1];rfl,by omega,0,_,by simp,e3,e2⟩
 ·go_enter Tryz.func78,Tryz.ntmps78
  go_wp2
  go_loopg [3] d.size (fun g s3 wr=> ∃k q:Nat,1<=k/\k<=d.size/\d.size-k<=g/\s3=.int .i64 k/\wr=w.drewN q/\ ∀j,j<k->keeps d j=true)
  case atStart=>exact⟨1,0,Zw _,by omega,by omega,rfl,rfl,keeps_lt_one d⟩
  case round=>
   obtain⟨k,q,hk1,hk,hg,rfl,rfl,hall⟩:=hrel;by_cases hlt:k<d.size
   ·obtain⟨c1,f1⟩:=gY HH.out hlt
    obtain⟨c0,f0⟩:=gY HH.out (show k-1<d.size by omega);have A:Aside (∀j,j<k->keeps d j=true):=hall;clear hall;obtain⟨x,hx⟩: ∃x,d[k]! =x:=⟨_,rfl⟩;obtain⟨y,hy⟩: ∃y,d[k-1]! =y:=⟨_,rfl⟩;rw[hx] at c1 f1;rw[hy] at c0 f0;have B:Aside (d[k]! =x/\d[k-1]! =y):=⟨hx,hy⟩;clear hx hy;by_cases hdup:x=y
    ·subst hdup
     go_wp2_with fail
     go_region_o
     go_wp2
     clear c0 c1 f0 f1
     go_loopg [3,5] d.size (fun g s3 s5 wr=> ∃(kk k2 q2:Nat) (dk:Array Plc),s3=.int .i64 kk/\s5=.int .i64 k2/\1<=k2/\k+k2<=d.size/\d.size-(k+k2)<=g/\wr=putRowK plV 2 (Sort.ahead w q2) blk off dk/\CompInv d (k+k2) kk dk)
     case atStart=>exact⟨k,1,q+1,d,rfl,rfl,Zw _,by omega,by omega,(putRowK_self plV 2 (Sort.ahead w (q+1)) blk off d (holdsK_ahead plV 2 w (q+1) blk off d HH.out)).symm,CompInv.start A.out (keeps_neg (by omega) (by rw[B.out.1,B.out.2]))⟩
     case round=>
      obtain⟨kk,k2,q2,dk,rfl,rfl,h1,hle,hg2,hwr,hI⟩:=hrel;have hkk:=hI.lt;have hds:=hI.size;have hHk:HoldsK plV 2 wr blk off dk:=by rw[hwr];exact holdsK_putRowK plV 2 _ blk off d dk (holdsK_ahead plV 2 w q2 blk off d HH.out) hds
      have W2:Aside (wr=putRowK plV 2 (Sort.ahead w q2) blk off dk):=hwr;have I2:Aside (CompInv d (k+k2) kk dk):=hI;clear hwr;by_cases hlt2:k+k2<d.size
      ·obtain⟨cm,cm'⟩:=gY hHk (show k+k2<dk.size by omega)
       obtain⟨cp,cp'⟩:=gY hHk (show k+k2-1<dk.size by omega);rw[hI.high (k+k2) (by omega),show off+(k+k2)*2=off+k*2+k2*2 by omega] at cm cm';rw[hI.high (k+k2-1) (by omega),show off+(k+k2-1)*2=off+k*2+(k2-1)*2 by omega] at cp cp';obtain⟨ck,ck'⟩:=gY hHk (show kk<dk.size by omega);have fk:=(hHk.cell (c:=0) (show kk<dk.size by omega) (by decide)).2;have fk':=(hHk.cell (c:=1) (show kk<dk.size by omega) (by decide)).2;rw[Yf] at fk;have ne1:(⟨blk,off+kk*2,none⟩:Addr)≠⟨blk,off+kk*2+1,none⟩:=by intro h;injection h;omega
       have ck2: ∀x,(wr.setCell ⟨blk,off+kk*2,none⟩ x).cell? ⟨blk,off+kk*2+1,none⟩=some (.int .i64 dk[kk]!.fld):=fun x=>(World.cell?_setCell_other _ _ _ _ ne1).trans ck'
       clear hHk hI;obtain⟨u,hu⟩: ∃u,d[k+k2]! =u:=⟨_,rfl⟩;obtain⟨v,hv⟩: ∃v,d[k+k2-1]! =v:=⟨_,rfl⟩;rw[hu] at cm cm';rw[hv] at cp cp';have C:Aside (d[k+k2]! =u/\d[k+k2-1]! =v):=⟨hu,hv⟩;clear hu hv;by_cases huv:u=v
       ·subst huv
        go_wp2_with fail
        go_region_o
        go_wp2
        go_roundg (d.size-(k+(k2+1)))
        case measure=>omega
        case rel=>exact⟨kk,k2+1,q2+1,dk,rfl,by go_num,by omega,by omega,Zw _,by rw[W2.out];rfl,I2.out.skip (keeps_neg (by omega) (by rw[C.out.1,C.out.2]))⟩
       ·go_wp2_with fail
        go_region_o
        go_wp2
        go_roundg (d.size-(k+(k2+1)))
        case measure=>omega
        case rel=>exact⟨kk+1,k2+1,q2+1,dk.setIfInBounds kk u,by go_num,by go_num,by omega,by omega,Zw _,by
         have:=zvB (i:=kk) (by omega) W2.out u
         simp only[plV,World.setCells] at this
         rw[this];rfl,by have:=I2.out.keep hlt2 (keeps_pos (by rw[C.out.1,C.out.2];exact huv));rwa [C.out.1] at this⟩
      ·have hend:k+k2=d.size:=by omega
       have hcl: ∀ty,(Builtin.clear_ #[64] ty #[.slice (some ⟨blk,off+kk*2,none⟩) (d.size-kk) (cap-kk)]).run Tryz.prog wr=.ok (.tuple #[]) (wr.setCells blk (off+kk*2) (List.replicate ((d.size-kk)*2) (.int .i64 0))):=
        fun ty=>zvD wr ty blk (off+kk*2) _ _ (by omega) (fun j hj=>by rw[show off+kk*2+j=off+(kk*2+j) by omega,(hHk (kk*2+j) (by simp;omega)).1];rfl) (fun j hj=>by rw[show off+kk*2+j=off+(kk*2+j) by omega];exact(hHk (kk*2+j) (by simp;omega)).2)
       clear hHk hI
       go_wp2
       go_ret
       have hI:=I2.out;rw[hend] at hI;refine⟨by rw[hI.len];rfl,by rw[hI.len];omega,q2,setMany (flatK plV 2 dk) (kk*2) (List.replicate ((d.size-kk)*2) (.int .i64 0)),by simp;omega,fun j hj=>?_,?_⟩
       ·rw[hI.len] at hj
        rw[get_setMany _ _ _ _ (by simp;omega),if_neg (by omega),get_flatK _ _ _ _ (by omega),get_flatK _ _ _ _ (by simp;rw[hI.len];exact hj)];congr 2;have hlo:=hI.low (j/2) (by omega);have hj2:j/2<(compactUpTo d d.size).length:=by rw[hI.len];omega
        rw[Zf hj2] at hlo;rw[getElem!_pos (compactUpTo d d.size).toArray (j/2) (by simpa using hj2)];simpa using(Yr hlo).symm
       ·rw[W2.out]
        unfold putRowK;rw[setCells_putRow _ _ _ _ _ _ (by simp;omega)]
    ·go_wp2_with fail
     go_region_o
     go_wp2
     go_roundg (d.size-(k+1))
     case measure=>omega
     case rel=>
      refine⟨k+1,q+1,by omega,by omega,Zw _,by go_num,rfl,fun j hj=>?_⟩;by_cases e:j=k
      ·subst e
       exact keeps_pos (by rw[B.out.1,B.out.2];exact hdup)
      ·exact A.out j (by omega)
   ·have:k=d.size:=by omega
    subst this
    go_wp2
    go_ret
    obtain⟨e1,e2,e3⟩:=HS.out q hall;exact⟨by rw[e1];rfl,by omega,q,_,by simp,e3,e2⟩
theorem zvG (p:Option Addr) (cap:Nat) (w:World):Calls Tryz.prog 78 #[.slice p 0 cap] w fun e w'=>e=.returned (.slice p 0 cap)/\w'=w:=by
 go_enter Tryz.func78,Tryz.ntmps78
 go_wp2
 go_ret
 exact⟨rfl,rfl⟩
end Go.Proofs
namespace Go.Abs
open Go.Sort Go.Proofs Go.Shelf Go.Lib Go.RowKit Go.Ex
theorem zn5: ∀L:List Plc,uL L=compact L:=by
 intro L;rw[gX];have key: ∀(l:List Plc) (a:Plc),uL (a::l)=a::cfG a l:=by
  intro l
  induction l with
  |nil=>intro a;rfl
  |cons b l ih=>
   intro a;rw[uL,cfG];by_cases h:a=b
   ·subst h;rw[if_pos rfl,if_pos rfl,ih]
   ·rw[if_neg h,if_neg h,ih]
 cases L with
 |nil=>rfl
 |cons a l=>rw[key,yL]
theorem zn6 (L:List Plc):(uL L).length<=L.length:=by
 rw[zn5];unfold compact compactUpTo;rw[Zg];exact ZX (Yq _ _) (by simp)
theorem c74 (τ:Nat) (L:List Plc) (hm:L.length<=100000000000000):yV Tryz.prog 78 [.k (.own τ)] (zD 25 2 τ (pls L)) [] (fun r o'=>r=.k (.own τ)/\o'=zD 25 2 τ (pls (uL L))):=by
 refine⟨vN (by kernel_rfl),fun w0 Z0 κ w vs hsz hi=>?_⟩;obtain⟨v,rfl⟩:=zse hsz;have ho:(zD 25 2 τ (pls L)) τ=some (.arr 25 2 none (pls L)):=by simp[zD]
 have hno: ∀s,s≠τ->zD 25 2 τ (pls L) s=none:=fun s hs=>by simp[zD,hs]
 have hob:=hi.objs τ _ ho;have htm:zK w (Zof w0 Z0 κ (zD 25 2 τ (pls L)) w) κ (zD 25 2 τ (pls L)) (.k (.own τ)) v:=by simpa using hi.tmps 0
 rcases hob with⟨hκ,hrows,_⟩|⟨b,cur,cap,hκ,hheap,h0,hcs,hlen,hcap,_,hall,hrr⟩
 ·have hl0:L=[]:=by simpa [pls] using hrows
  subst hl0;have hv:v=.slice none 0 0:=by
   rcases htm.2 25 2 none _ ho with⟨_,hv⟩|⟨b,_,_,hb,_⟩
   ·exact hv
   ·rw[hκ] at hb;cases hb
  subst hv;refine(zvG none 0 w).mono ?_;rintro ex w' ⟨rfl,hw⟩;rw[hw];have hI:=hi.moveG (τ:=τ) (d:=0) (ob:=.arr 25 2 none (pls [])) (v:=.k (.own τ)) (u:=.slice none 0 0) (bo:=none) (w':=w) ho (by simp) rfl rfl rfl (Zw _) (fun _ _ _=>rfl) (fun b hb=>by cases hb)
   (fun Z _=> .inl ⟨by simp,rfl,by simp⟩) ⟨rfl,fun _ _ _ _ _=> .inl ⟨by simp,rfl⟩⟩
  rw[zko _ _ hno] at hI;exact⟨.slice none 0 0,_,.k (.own τ),_,rfl,⟨rfl,rfl⟩,fun s hs=>by simp at hs,hI⟩
 ·rw[tM] at hlen
  obtain⟨cap',hv,hcap'⟩: ∃cap',v=.slice (some ⟨b,0,none⟩) L.length cap'/\cur.size=cap'*2:=by
   rcases htm.2 25 2 none _ ho with⟨hn,_⟩|⟨b',cur',cap',hb,hh,hc2,hv⟩
   ·rw[hκ] at hn;cases hn
   ·rw[hκ] at hb;cases hb
    rw[hheap] at hh;cases hh;exact⟨cap',by simpa [tM] using hv,hc2⟩
  subst hv;have hlt:b<w.heap.size:=wU hheap;have hcell: ∀(i:Nat) (h:i<L.length) (j:Nat),j<2->cur[i*2+j]?=some (plV L[i])[j]! :=by
   intro i h j hj;have hr:(pls L)[i]?=some (wG L[i]):=by simp[pls,h]
   match j,hj with
   |0,_=>
    obtain⟨u,hu,hp⟩:=hrr i 0 _ _ hr rfl;rw[vK hp] at hu;exact hu
   |1,_=>
    obtain⟨u,hu,hp⟩:=hrr i 1 _ _ hr rfl;rw[vK hp] at hu;exact hu
  have hH:HoldsK plV 2 w b 0 L.toArray:=by
   refine zcU hheap (by simp;omega) fun t ht=>?_
   have ht':t<L.length*2:=by simpa using ht
   rw[get_flatK _ _ _ _ (by simpa using ht')];have:=hcell (t/2) (by omega) (t % 2) (by omega);rw[show t/2*2+t % 2=t by omega] at this;rw[this,getElem!_pos L.toArray _ (by simp;omega)];simp
  have hcon:=zvF b 0 cap' L.toArray w hH (by simpa using hm) (by simp;omega);have e1:compactUpTo L.toArray L.toArray.size=uL L:=by rw[zn5];rfl
  rw[e1] at hcon;rw[show L.toArray.size=L.length from rfl] at hcon;refine hcon.mono ?_;rintro ex w' ⟨rfl,hle,q,F,hF,hFc,rfl⟩;have hh2:=znQ (w:=w) (n:=q) (os:= #[]) F hheap;have hg:=aH (w:=w) (g:=b) (n:=q) (os:= #[]) F;rw[grow_empty] at hh2 hg;have hsz2:(putCells id 0 F cur).size=cur.size:=by simp[putCells]
  obtain⟨g1,g2,g3,g4,g5⟩:=hg;have hI:=hi.moveG (τ:=τ) (d:=0) (ob:=.arr 25 2 none (pls (uL L))) (v:=.k (.own τ)) (u:=.slice (some ⟨b,0,none⟩) (uL L).length cap') (bo:=some b) (w':=putRow id (Sort.ahead w q) b 0 F) ho (by simp) g1 g2 g3 g4
   (fun k hk hne=>g5 k hk (by rw[hκ] at hne;exact fun h=>hne (by cases h;rfl))) (fun b' hb=> .inr (by cases hb;exact hκ))
   (fun Z _=> .inr ⟨b,_,cap,by simp,hh2,by omega,by rw[hsz2];exact hcs,by rw[tM];omega,hcap,by simp,fun r hr=>by obtain⟨x,_,rfl⟩:=ZH.1 hr;rfl,fun i j r c hr hcj=>?_⟩) (by
    refine⟨rfl,fun e2 sz2 nl2 rows2 h2=>?_⟩
    simp[St.put,St.setO] at h2
    obtain⟨rfl,rfl,rfl,rfl⟩:=h2
    exact .inr ⟨b,_,cap',by simp,hh2,by rw[hsz2];exact hcap',by simp[tM]⟩)
  ·rw[zko _ _ hno] at hI
   exact⟨_,_,.k (.own τ),_,rfl,⟨rfl,rfl⟩,fun s hs=>by simp at hs,hI⟩
  ·have hi':i<(uL L).length:=by have:=(Zu.1 hr).1;rwa [tM] at this
   have hr':r=wG (uL L)[i]:=by simp[pls,hi'] at hr;exact hr.symm
   subst hr';have hj:j<2:=(Zu.1 hcj).1;have hfc:=hFc (i*2+j) (by omega);rw[get_flatK _ _ _ _ (by simp;omega),show(i*2+j)/2=i by omega,show(i*2+j) % 2=j by omega,getElem!_pos (uL L).toArray i (by simpa using hi')] at hfc;have hcs2:i*2+j<cur.size:=by omega
   have hfs:i*2+j<F.size:=by omega
   refine⟨F[i*2+j]!,?_,?_⟩
   ·simp only[putCells]
    rw[Array.getElem?_mapIdx,Ya hcs2];simp only[YA,ZC,true_and,ZY,hfs,if_true,XG,id]
   ·rw[hfc]
    match j,hj with
    |0,_=>cases hcj;exact .int _ _
    |1,_=>cases hcj;exact .int _ _
theorem zn7 {P:Program} {f d τ e k:Nat} {xs:List AX} {K:KK} {ts:TS} {os:OS} {nl:Option Bool} {X:Prop} {rows rows':List (List C)} (rows0:List (List C))
  (hs:yV P f [.k (.own τ)] (zD e k τ rows) [] (fun r o'=>r=.k (.own τ)/\o'=zD e k τ rows')) (ho:lookO τ os=some (.arr e k nl rows0)) (hn:C.normRows rows0=rows)
  (hk:K (insT d (.k (.own τ)) (mapT (V.scrub τ) ts)) (insO τ (.arr e k none rows') (mapO (O.scrub τ) os))):X\/nQ P f [.k (.own τ)] xs K (some d) ts os:=by
 refine .inr (.inl ?_);refine⟨[τ],[],[τ],fun r o'=>r=.k (.own τ)/\o'=zD e k τ rows',by simp[V.within,Abs.K.within],rfl,?_,fun s hs=> .inr hs,?_,?_⟩
 ·intro s hs ob hob
  simp only[ZT] at hs;subst hs;rw[ho] at hob;cases hob;rfl
 ·have e1:(yE [τ] fun s=>(lookO s os).map O.nrm)=zD e k τ rows:=by
   funext s;by_cases h:s=τ
   ·subst h
    simp[yE,ho,zD,O.nrm,hn]
   ·simp[yE,zD,h]
  rw[e1];exact hs
 ·rintro r o' ⟨rfl,rfl⟩
  refine⟨fun s hs=>by simp at hs;simp[zD,hs],by simp[V.within,Abs.K.within],fun s ob h=>?_,?_⟩
  ·unfold zD at h
   split at h
   ·cases h;rfl
   ·cases h
  ·have e2:(mkS ts os).back [τ] [τ] (zD e k τ rows')=mkS (mapT (V.scrub τ) ts) (insO τ (.arr e k none rows') (mapO (O.scrub τ) os)):=by
    simp only[St.back,mkS,St.mk.injEq];refine⟨by funext s;rw[nO _ rfl];rfl,?_⟩;funext s;rw[nM];by_cases h:s=τ
    ·subst h;simp[zD]
    ·simp only[Xl,XS,XM,beq_iff_eq,h,if_false,lA]
     cases lookO s os<;>rfl
   show onS K (((mkS ts os).back [τ] [τ] (zD e k τ rows')).put d (.k (.own τ)));rw[e2,tZ];exact xN hk
end Go.Abs
namespace Go.Abs
open Go.Sort Go.Proofs Go.Shelf Go.Lib Go.RowKit Go.Wd Go.Wire Go.Ex
theorem aK {P:Program} {f d τ g e k:Nat} {xs:List AX} {K:KK} {ts:TS} {os:OS} {nl:Option Bool} {X:Prop} {β:Type} {encR:β->List C} {Q:List β->Prop} (rows0:List (List C)) (ks:List β)
  (hs:yV P f [.k (.own τ),.k (.c (.fn g []))] (zD e k τ (ks.map encR)) [τ] (fun r o'=>r=.tup []/\ ∃out,Q out/\o'=zD e k τ (out.map encR))) (ho:lookO τ os=some (.arr e k nl rows0)) (hn:C.normRows rows0=ks.map encR)
  (hk: ∀out,Q out->K (insT d (.tup []) ts) (insO τ (.arr e k none (out.map encR)) os)):X\/nQ P f [.k (.own τ),.k (.c (.fn g []))] xs K (some d) ts os:=by
 refine .inr (.inl ?_);refine⟨[τ],[τ],[],fun r o'=>r=.tup []/\ ∃out,Q out/\o'=zD e k τ (out.map encR),by simp[V.within,Abs.K.within],rfl,?_,fun s hs=> .inl hs,?_,?_⟩
 ·intro s hs ob hob
  simp only[ZT] at hs;subst hs;rw[ho] at hob;cases hob;rfl
 ·have e1:(yE [τ] fun s=>(lookO s os).map O.nrm)=zD e k τ (ks.map encR):=by
   funext s;by_cases h:s=τ
   ·subst h
    simp[yE,ho,zD,O.nrm,hn]
   ·simp[yE,zD,h]
  rw[e1];exact hs
 ·rintro r o' ⟨rfl,out,hQ,rfl⟩
  refine⟨fun s hs=>by simp at hs;simp[zD,hs],rfl,fun s ob h=>?_,?_⟩
  ·unfold zD at h
   split at h
   ·cases h;rfl
   ·cases h
  ·have e2:(mkS ts os).back [τ] [] (zD e k τ (out.map encR))=mkS ts (insO τ (.arr e k none (out.map encR)) os):=by
    simp only[St.back,mkS,St.mk.injEq];refine⟨by funext s;rfl,?_⟩;funext s;rw[nM];by_cases h:s=τ
    ·subst h;simp[zD]
    ·simp only[Xl,XS,XM,beq_iff_eq,h,if_false]
     cases lookO s os<;>rfl
   show onS K (((mkS ts os).back [τ] [] (zD e k τ (out.map encR))).put d (.tup []));rw[e2,tZ];exact xN (hk out hQ)
theorem zn8 (m:Dmd): ∀(l:List Pln) (i:Nat),(∀p∈l,PlnS p)->(uT m l i).length<=l.length*1000000
 |[],_,_=>by simp[uT]
 |p::l,i,h=>by
  rw[uT,Zq,Zo,YL];have h1:=zn8 m l (i+1) fun q hq=>h q (Zy _ hq)
  have h2:=(h p (by simp)).ns;have h3:(oN m p i).length<=p.names.length:=by
   unfold oN;rw[Zg];exact ZX (Yq _ _) (by simp)
  omega
theorem zn9 (m:Dmd) (l:List Pln) (hl:tA l):(looksP m l).length<=1000000000000:=by
 unfold looksP;split
 ·simp
 ·have:=zn8 m l 0 hl.2
  have h:=hl.1;omega
theorem zoa (m:Dmd): ∀(l:List Pln) (i:Nat),(∀p∈l,PlnS p)-> ∀x∈uT m l i,(i:Int)<=x.doc/\x.doc<i+l.length/\0<=x.fld/\x.fld<1000000
 |[],_,_,x,hx=>by simp[uT] at hx
 |p::l,i,h,x,hx=>by
  rw[uT,Yo] at hx;rcases hx with hx|hx
  ·unfold oN at hx
   obtain⟨k,hk,rfl⟩:=ZH.1 hx;have hk:=Z2.1 (Yh.1 hk).1;have h2:=(h p (by simp)).ns;simp only[Zo];omega
  ·have:=zoa m l (i+1) (fun q hq=>h q (Zy _ hq)) x hx
   simp only[Zo];omega
theorem zvH (m:Dmd) (l:List Pln) (hl:tA l): ∀x∈looksP m l,gW x:=by
 intro x hx;unfold looksP at hx;split at hx
 ·cases hx
 ·have:=zoa m l 0 hl.2 x hx
  have h:=hl.1;unfold gW;omega
def rawP (L:List Dmd) (which:List Nat) (l:List Pln) (i:Nat):List Plc:=((which.take i).map fun k=>looksP (L.getD k wM) l).flatten
theorem zob (L:List Dmd) (which:List Nat) (l:List Pln) {i:Nat} (h:i<which.length):rawP L which l (i+1)=rawP L which l i++looksP (L.getD which[i] wM) l:=by
 unfold rawP;rw[ZD h,ZS,List.flatten_append,List.map_singleton,Yy,List.flatten_nil,Ze]
theorem zcX (L:List Dmd) (which:List Nat) (l:List Pln) (hl:tA l): ∀i,(rawP L which l i).length<=i*1000000000000
 |0=>by simp[rawP]
 |i+1=>by
  have ih:=zcX L which l hl i;by_cases h:i<which.length
  ·rw[zob _ _ _ h,Zq,YL]
   exact Nat.add_le_add ih (zn9 (L.getD which[i] wM) l hl)
  ·have:rawP L which l (i+1)=rawP L which l i:=by unfold rawP;rw[Z7 (by omega),Z7 (by omega)]
   rw[this,YL];exact ZX ih (Nat.le_add_right _ _)
theorem c34 (L:List Dmd) (which:List Nat) (p:List Pln) (hL:L.length<=1000000) (hw:which.length<=8) (hk: ∀k∈which,k<L.length) (hp:tA p):Spec Tryz.prog 84 [lst 8 (L.map zU),lst 1 (zG (natI which)),lst 3 (p.map xT)] (fun v=>v=lst 2 (pls (wO L which p))):=by
 refine Spec.of_awlP hf84 okf84 (by simp) fun S hS=>?_
 have hwl:(natI which).length=which.length:=wX which;simp only[yJ,hwl,Qs,bne_iff_ne,ne_eq,Zc,Zn,Za,ztB];refine zR (fun x:Nat×Option Bool=>[(0,lst 8 (L.map zU)),(2,lst 3 (p.map xT)),(7,.k (.own 7)),(10,lst 1 (zG (natI which))),(11,.int .i64 which.length),(12,.int .i64 x.1)]) (fun x=>[(7,.arr 25 2 x.2 (pls (rawP L which p x.1)))]) (fun x=>x.1<=which.length) (fun x=>which.length-x.1) (0,some true) rfl rfl (ZC _) ?_;rintro⟨i,nl⟩ hi;simp only[] at hi;have hrl:=zcX L which p hp i;by_cases hlt:i<which.length
 ·have d1:(i:Int)<which.length:=by omega
  have c4:IntKind.i64.wrap ((i:Int)+1)=(i:Int)+1:=wrap_in (by omega) (by omega);have hat:(zG (natI which)).getD i []=[.int .i64 (which[i]:Int)]:=by simp[zG,natI,hlt]
  have hki:=hk _ (Zv hlt);have hs:=zob L which p hlt;have hd:=aG hki;generalize which[i]=k at hat hki hs hd;have d2:(0:Int)<=(k:Int)/\(k:Int)<L.length:=⟨by omega,by omega⟩;have g1:=c16 (L.getD k wM) p hp;have hl1:=zn9 (L.getD k wM) p hp;generalize L.getD k wM=m at hs hd g1 hl1;unfold zU at g1;simp only[d1,d2,hat,hd,hwl,yJ,zL,Ym,Qs,Za,Zg];refine yQ g1 ?_ (ha:=by simp only[Zk,Zp,zC,V.norm,C.norm,yP oL,C.normRow]<;>rfl);simp only[c4,tM,Qs,Za,gM];have hb:(rawP L which p i).length+(looksP m p).length<=8000000000000:=by
   rw[<-Zq,<-hs];exact ZX (zcX L which p hp (i+1)) (ZZ 1000000000000 (ZX hlt hw))
  have hpp:pls (rawP L which p i)++pls (looksP m p)=pls (rawP L which p (i+1)):=by rw[hs];simp[pls]
  rw[hpp];generalize (rawP L which p i).length+(looksP m p).length=q at hb;exact⟨ZX hb (by decide),ZX (ZZ 16 hb) (by decide),Next.intro (i+1,nlApp nl (pls (looksP m p))) rfl rfl (by simp only;omega) (by simp only;omega)⟩
 ·have d1: ¬(i:Int)<which.length:=by omega
  obtain rfl:i=which.length:=by omega
  simp only[d1,Qs,Za];have hall: ∀x∈rawP L which p which.length,gW x:=by
   intro x hx;unfold rawP at hx;obtain⟨l,hl,hx⟩:=XA.1 hx;obtain⟨k,_,rfl⟩:=ZH.1 hl;exact zvH _ p hp x hx
  have hle:(rawP L which p which.length).length<=8000000000000:=ZX hrl (ZZ 1000000000000 hw);have e:wO L which p=uL (sortO wW (rawP L which p which.length)):=by unfold wO rawP;rw[Yk]
  rw[e] at hS;generalize rawP L which p which.length=R at hall hle hS;have g1:=c72 7 R (by omega) hall;have hsl:(sortO wW R).length=R.length:=(vE wW R).length_eq;have g2:=c74 7 (sortO wW R) (by omega);refine aK (Q:=fun out=>out=sortO wW R) (pls R) R (g1.mono fun r o ⟨h1,h2⟩=>⟨h1,_,rfl,h2⟩) rfl (tN _) ?_;rintro out rfl;simp only[Qs,Za];refine zn7 (pls (sortO wW R)) g2 rfl (tN _) ?_;simp only[Qs,nT,ZK,Zt];refine hS _ ?_;simp only[V.fz,V.fzL,V.nrm,V.nrmL,tN,uK (tN _)]
def pS (nv n:Nat):List Nat:=((List.range n).filter fun k=>nv.testBit k).map (fun k=>1<<<k)
theorem zvI (nv n:Nat):pS nv (n+1)=pS nv n++if nv.testBit n=true then[1<<<n] else[]:=by
 unfold pS;rw[Xk,Xw,ZS];congr 1;by_cases h:nv.testBit n=true<;>simp[h]
theorem zcY (nv n:Nat):(pS nv n).length<=n:=by
 unfold pS;rw[Zg];exact ZX (Yq _ _) (by simp)
theorem aL (D:Nat): ∀n p,(sE D n p).length<=n
 |0,_=>Zw _
 |n+1,p=>by
  rw[sE];split
  ·simp
  ·rw[Zo];have:=aL D n ((p-1)&&&D);omega
def oR (F:List Nat) (s j:Nat):Bool:=hitP F s&&((bitsN s).take j).all fun k=> !hitP F (andN s (1<<<k))
theorem zvJ (F:List Nat) (s:Nat):oR F s (bitsN s).length=vT F s:=by unfold oR vT;rw[Yk]
theorem zvK (F:List Nat) (s:Nat) {j:Nat} (h:j<(bitsN s).length):oR F s (j+1)=(oR F s j&& !hitP F (andN s (1<<<(bitsN s)[j]))):=by
 unfold oR;rw[ZD h,List.all_append];simp[Bool.and_assoc]
theorem zvL (s k:Nat) (hk:k<64):(s:Int).fdiv (2 ^ min k IntKind.u64.bits)=((s/2 ^ k:Nat):Int):=by
 have e:min k IntKind.u64.bits=k:=YV (show k<=64 by omega);rw[e,show((2:Int) ^ k)=((2 ^ k:Nat):Int) by simp];rw[Int.fdiv_eq_ediv_of_nonneg _ (Int.natCast_nonneg _)];exact(Int.natCast_ediv s (2 ^ k)).symm
theorem zvM (s k:Nat) (hs:s<18446744073709551616) (hk:k<64):IntKind.u64.wrap ((Yn IntKind.u64.bits ((s:Int).fdiv (2 ^ min k IntKind.u64.bits))&&&Yn IntKind.u64.bits 1).toNat:Int)=if s.testBit k=true then 1 else 0:=by
 rw[zvL s k hk];have h:=gU (s:=s/2 ^ k) (t:=1) (Nat.lt_of_le_of_lt (Xv _ _) hs) (by decide);rw[show((1:Nat):Int)=1 from rfl] at h;rw[h,Nat.and_one_is_mod,Nat.testBit_eq_decide_div_mod_eq];have:s/2 ^ k % 2=0\/s/2 ^ k % 2=1:=by omega
 rcases this with h|h<;>rw[h]<;>simp
theorem zcZ (k:Nat) (hk:k<64):IntKind.u64.wrap (1*2 ^ min k IntKind.u64.bits)=((1<<<k:Nat):Int):=by
 have e:min k IntKind.u64.bits=k:=YV (show k<=64 by omega);rw[e,Int.one_mul,show((2:Int) ^ k)=((2 ^ k:Nat):Int) by simp,XW];exact lO (ZO (Nat.pow_lt_pow_right (by decide) hk) (by decide))
theorem zoc {s t m:Nat} (h:s<2 ^ m):andN s t<2 ^ m:=wV.2 fun k hk=>by
 rw[rH,Zr] at hk;exact wV.1 h k hk.1
theorem zod {s t:Nat} (hs:s<2 ^ 64):IntKind.u64.wrap ((Yn IntKind.u64.bits (s:Int)&&& ~~~Yn IntKind.u64.bits (t:Int)).toNat:Int)=((andN s t:Nat):Int):=by
 show IntKind.u64.wrap ((Yn 64 (s:Int)&&& ~~~Yn 64 (t:Int)).toNat:Int)=_;rw[jP,jP];have e:(BitVec.ofNat 64 s&&& ~~~BitVec.ofNat 64 t).toNat=andN s t:=by
  apply Nat.eq_of_testBit_eq;intro i;rw[rH,BitVec.testBit_toNat,BitVec.getLsbD_and,BitVec.getLsbD_not,BitVec.getLsbD_ofNat,BitVec.getLsbD_ofNat];by_cases hi:i<64
  ·simp[hi]
  ·have:s.testBit i=false:=by
    cases q:s.testBit i with
    |false=>rfl
    |true=>exact absurd (wV.1 hs i q) hi
   simp[hi,this]
 rw[e];exact lO (zoc hs)
theorem mE (L:List (List Nat)):C.normRows (cfs L)=cfs L:=zQ (fun x=>by simp only[C.normRow,zM,yR]) L
theorem c33 (v:Vw) (hn:v.never<256) (hd:v.doubt<256) (hs: ∀s∈v.sets,s<256) (hl:v.sets.length<=1000000):Spec Tryz.prog 83 [.agg [zB 1 (sets v.sets),.int .u64 (v.never:Int),.int .u64 (v.doubt:Int)]] (fun r=>r=lst 1 (cfs (sortO ltC ((conflP v).map bitsN)))):=by
 obtain⟨F,nv,db⟩:=v;simp only[] at hn hd hs hl;refine Spec.of_awlP hf83 okf83 (by simp) fun S hS=>?_
 simp only[Qs,bne_iff_ne,ne_eq,Zn,Za,ztw];refine zR (fun x:Nat×Option Bool=>[(1,.k (.c (.ro [zB 1 (sets F),.int .u64 (nv:Int),.int .u64 (db:Int)] 0))),(3,.k (.own 3)),(13,.int .i64 x.1)]) (fun x=>[(3,.arr 115 1 x.2 (sets (pS nv x.1)))]) (fun x=>x.1<=64) (fun x=>64-x.1) (0,some true) rfl rfl (by decide) ?_;rintro⟨k,nl⟩ hk;simp only[] at hk;have hnl:=zcY nv k;by_cases hlt:k<64
 ·have d1:(k:Int)<64:=by omega
  have d0:(0:Int)<=k:=by omega
  have c4:IntKind.i64.wrap ((k:Int)+1)=(k:Int)+1:=wrap_in (by omega) (by omega);have hx:=zvI nv k;have c5:=zvM nv k (by omega) hlt;have c6:=zcZ k hlt;by_cases hb:nv.testBit k=true
  ·rw[if_pos hb] at c5 hx
   simp only[d1,d0,c4,c5,c6,rK,znV,Ym,Qs,zhd,iU,oI,forall_eq,bne_iff_ne,ne_eq,BEq.rfl,ZJ,Zc,Zn,Zl,Z5,Za,Zt];refine⟨by omega,by omega,Next.intro (k+1,some false) rfl (by rw[hx];rfl) (by simp only;omega) (by simp only;omega)⟩
  ·rw[if_neg hb] at c5 hx
   rw[Ze] at hx;simp only[d1,d0,c4,c5,Ym,Qs,iU,oI,Zc,Zl,Za,Int.reduceBEq];exact Next.intro (k+1,nl) rfl (by rw[hx];rfl) (by simp only;omega) (by simp only;omega)
 ·obtain rfl:k=64:=by omega
  simp only[show¬(((64:Nat):Int)<64) by omega,Qs,Zc,Za,Int.reduceLT,YY];have hT:(conflP ⟨F,nv,db⟩)=pS nv 64++(sE db 256 db).filter (vT F):=rfl;have hTl:(conflP ⟨F,nv,db⟩).length<=320:=by
   rw[hT,Zq];have h1:=aL db 256 db;have h2:=Yq (vT F) (sE db 256 db);omega
  have hTb: ∀s∈conflP ⟨F,nv,db⟩,s<256:=by
   intro s hs2;rw[hT,Yo] at hs2;rcases hs2 with hs2|hs2
   ·obtain⟨k,hk,rfl⟩:=ZH.1 hs2
    have hk:=(Yh.1 hk).2;have:k<8:=wV.1 (show nv<2 ^ 8 from hn) k hk;rw[XW];exact(Nat.pow_lt_pow_right (by decide) this:2 ^ k<2 ^ 8)
   ·have h:=(Yh.1 hs2).1
    rw[znq db hd,znr hd] at h;have:=Nat.and_le_right (n:=s) (m:=db);omega
  generalize conflP ⟨F,nv,db⟩=T at hS hT hTl hTb;refine zR (fun x:Nat×Nat×List Nat×Option Bool=>[(1,.k (.c (.ro [zB 1 (sets F),.int .u64 (nv:Int),.int .u64 (db:Int)] 0))),(3,.k (.own 3)),(5,.k (.c (.fn 144 [.ro [zB 1 (sets F),.int .u64 (nv:Int),.int .u64 (db:Int)] 0]))),(6,.int .u64 x.1)]) (fun x=>[(3,.arr 115 1 x.2.2.2 (sets x.2.2.1))]) (fun x=>x.1<=x.2.1/\x.1<256/\T=x.2.2.1++(sE db x.2.1 x.1).filter (vT F)) (fun x=>x.1) (db,256,pS nv 64,nl) rfl rfl ⟨by simp only;omega,hd,hT⟩ ?_;rintro⟨p,n,Out,nl2⟩ ⟨hpn,hp,hO⟩;simp only[] at hpn hp hO;have hOl:Out.length<=320:=by
   have:=congrArg List.length hO;rw[Zq] at this;omega
  by_cases h0:p=0
  ·subst h0
   have e0:sE db n 0=[]:=by cases n<;>simp[sE]
   rw[e0,List.filter_nil,Ze] at hO;subst hO;simp only[show(((0:Nat):Int) !=0)=false from rfl,rK,Qs,iV,iW,bne_iff_ne,ne_eq,Zn,Za,Xa,YY];refine zR (fun x:Nat×Option Bool=>[(10,.k (.own 10)),(64,.k (.own 3)),(65,.int .i64 T.length),(66,.int .i64 x.1)]) (fun x=>[(3,.arr 115 1 nl2 (sets T)),(10,.arr 28 1 x.2 (cfs ((T.take x.1).map bitsN)))]) (fun x=>x.1<=T.length) (fun x=>T.length-x.1) (0,some true) rfl rfl (ZC _) ?_;rintro⟨i,nl3⟩ hi;simp only[] at hi;by_cases hil:i<T.length
   ·have d1:(i:Int)<T.length:=by omega
    have c4:IntKind.i64.wrap ((i:Int)+1)=(i:Int)+1:=wrap_in (by omega) (by omega);have hat:=zcV hil;have htk:(T.take (i+1)).map bitsN=(T.take i).map bitsN++[bitsN T[i]]:=by rw[ZD hil,ZS];rfl
    have hT8:=hTb _ (Zv hil);have hll:((T.take i).map bitsN).length=i:=by simp;omega
    generalize T[i]=p at hat htk hT8;generalize (T.take i).map bitsN=A at htk hll;have g2:=c35 p hT8;simp only[d1,hat,rK,Qs,cI,cJ,cK,Za];refine yQ g2 ?_ (ha:=by rfl);have hq:cfs A++[[zB 1 (zG (natI (bitsN p)))]]=cfs (A++[bitsN p]):=by simp[cfs]
    have hAl:(cfs A).length=i:=by simp[cfs,hll]
    simp only[c4,hq,hAl,Qs,cL,zr0,forall_eq,bne_iff_ne,ne_eq,ZJ,Zn,Zl,Z5,Za,Zt];exact⟨by omega,by omega,Next.intro (i+1,some false) rfl (by rw[htk];rfl) (by simp only;omega) (by simp only;omega)⟩
   ·obtain rfl:i=T.length:=by omega
    have d1: ¬((T.length:Int)<T.length):=by omega
    rw[Yk];simp only[d1,Qs,Za];have hL8: ∀x∈T.map bitsN,x.length<=1000:=by
     intro x hx;obtain⟨s,hs,rfl⟩:=ZH.1 hx;have:=pR s (hTb s hs);omega
    have hLl:(T.map bitsN).length<=320:=by simp;exact hTl
    generalize T.map bitsN=R at hS hL8 hLl;have g1:=c69 10 R (by omega) hL8;refine aK (Q:=fun out=>out=sortO ltC R) (encR:=fun x=>[zB 1 (zG (natI x))]) (cfs R) R (g1.mono fun r o ⟨h1,h2⟩=>⟨h1,_,rfl,h2⟩) rfl (mE _) ?_;rintro out rfl;simp only[Qs,ZK,Za,Zt];refine hS _ ?_;have e1:=mE (sortO ltC R);unfold cfs at e1;simp only[V.fz,V.fzL,V.nrm,V.nrmL,e1,uK e1];rfl
  ·obtain⟨m,rfl⟩: ∃m,n=m+1:=⟨n-1,by omega⟩
   rw[sE,if_neg h0] at hO;have n0:((p:Int) !=0)=true:=by rw[bne_iff_ne];omega
   have g1:=c66 p nv db (by omega) F (fun s h=>by have:=hs s h;omega) hl;have g2:=c35 p hp;have hbl:=pR p hp;simp only[n0,Qs,Za];refine rC g1 ?_ (ha:=by simp only[Zk,Zp,zC,V.norm,zM,C.norm,C.normRow,lP]<;>rfl);simp only[Qs,Za];refine yQ g2 ?_ (ha:=by rfl);simp only[yJ,wX,Qs];have hz:oR F p 0=hitP F p:=by unfold oR;simp
   refine zR (fun j:Nat=>[(1,.k (.c (.ro [zB 1 (sets F),.int .u64 (nv:Int),.int .u64 (db:Int)] 0))),(3,.k (.own 3)),(5,.k (.c (.fn 144 [.ro [zB 1 (sets F),.int .u64 (nv:Int),.int .u64 (db:Int)] 0]))),(6,.int .u64 p),(7,.bool (oR F p j)),(42,lst 1 (zG (natI (bitsN p)))),(43,.int .i64 (bitsN p).length),(44,.int .i64 j)]) (fun _=>[(3,.arr 115 1 nl2 (sets Out))]) (fun j=>j<=(bitsN p).length) (fun j=>(bitsN p).length-j) 0 (by rw[hz];rfl) rfl (ZC _) ?_;rintro j hj;by_cases hjl:j<(bitsN p).length
   ·have d1:(j:Int)<(bitsN p).length:=by omega
    have c4:IntKind.i64.wrap ((j:Int)+1)=(j:Int)+1:=wrap_in (by omega) (by omega);have hat:(zG (natI (bitsN p))).getD j []=[.int .i64 ((bitsN p)[j]:Int)]:=by simp[zG,natI,hjl]
    have hls:=zvK F p hjl;have hb64:(bitsN p)[j]<64:=by
     have:=Zv hjl;unfold bitsN at this;have:=Z2.1 (Yh.1 this).1;show(bitsN p)[j]<64;unfold bitsN;omega
    generalize (bitsN p)[j]=k at hat hls hb64;have c6:=zcZ k hb64;have k0:(0:Int)<=k:=by omega
    cases hL:oR F p j with
    |false=>
     rw[hL,Z4] at hls;simp only[d1,hat,c4,c6,k0,hL,yJ,wX,Ym,Qs,dZ,Za];exact Next.intro (j+1) (by rw[hls];rfl) rfl (by omega) (by omega)
    |true=>
     rw[hL,ZU] at hls;have ht:andN p (1<<<k)<256:=zoc (m:=8) hp;have c7:=zod (s:=p) (t:=1<<<k) (by omega);have g3:=c66 (andN p (1<<<k)) nv db (by omega) F (fun s h=>by have:=hs s h;omega) hl;generalize andN p (1<<<k)=t at hls c7 g3;simp only[d1,hat,c4,c6,c7,k0,hL,yJ,wX,Ym,Qs,dZ,zhd,zrU,Za];refine rC g3 ?_ (ha:=by simp only[Zk,Zp,zC,V.norm,zM,C.norm,C.normRow,lP]<;>rfl);simp only[c4,Qs,Za];exact Next.intro (j+1) (by rw[hls];rfl) rfl (by omega) (by omega)
   ·obtain rfl:j=(bitsN p).length:=by omega
    rw[zvJ];have d1: ¬(((bitsN p).length:Int)<(bitsN p).length):=by omega
    have hn1:(p-1)&&&db<=p-1:=Nat.and_le_left;have w1:IntKind.u64.wrap ((p:Int)-1)=((p-1:Nat):Int):=by
     rw[show(p:Int)-1=((p-1:Nat):Int) by omega];exact lO (by omega)
    have ha:=gU (s:=p-1) (t:=db) (by omega) (by omega);generalize (p-1)&&&db=p2 at hO hn1 ha;cases hc:vT F p with
    |false=>
     rw[List.filter_cons_of_neg (by rw[hc];simp)] at hO;simp only[d1,w1,ha,Qs,kU,oI,Zc,Zn,Za];exact Next.intro (p2,m,Out,nl2) rfl rfl ⟨by simp only;omega,by simp only;omega,hO⟩ (by simp only;omega)
    |true=>
     rw[List.filter_cons_of_pos hc,<-List.singleton_append,<-Z3] at hO;simp only[d1,w1,ha,rK,znV,Qs,kU,oI,forall_eq,bne_iff_ne,ne_eq,ZJ,Zc,Zn,Zl,Z5,Za,Zt];exact⟨by omega,by omega,Next.intro (p2,m,Out++[p],some false) rfl rfl ⟨by simp only;omega,by simp only;omega,hO⟩ (by simp only;omega)⟩
end Go.Abs
namespace Go.Proofs
open Go.Shelf Go.RowKit Go.Lib
theorem zvN (B b:Nat) (bs:List Value) (c:Int) (w:World) (h:Lib.IsBuilderF 230 5 B b bs w) (hlen:bs.length+1<=140737488355328) (hBw:B<=w.heap.size):
  Calls Tryz.prog 325 #[.pointer (some ⟨b,0,none⟩),.int .u8 c] w fun e w'=>e=.returned .nilIface/\Lib.IsBuilderF 230 5 B b (bs++[.int .u8 c]) w'/\Below B w w':=by
 obtain⟨i0,hi,hz0,hz1,hz2⟩:=info_parts Tryz.bx169.infoByte
 go_enter Tryz.func325,Tryz.ntmps325
 go_wp2_with (go_at_call 257;refine(znf B b bs _ h).mono ?_)
 rintro e w1 ⟨rfl,h1,hb1⟩;obtain⟨hB,v,hbk,hown,hne⟩:=h1;have c0:w1.cell? ⟨b,0,none⟩=some (.pointer (some ⟨b,0,none⟩)):=by rw[Lib.cell_of_heap hbk];rfl
 have c1:w1.cell? ⟨b,1,none⟩=some v:=by rw[Lib.cell_of_heap hbk];rfl
 go_wp2_with (at_builtin;refine wpList_append_ownF _ rfl _ _ 228 rfl B 5 i0 (.int .u8 0) 1 1 Tryz.underlying228 hi hz0 hz1 hz2 rfl (by decide) _ _ _ rfl (hown.alloc _) ⟨w1.heap.size,0,none⟩ 1 1 [.int .u8 c] rfl rfl ?c1 ?c2 ?c3 ?c4 ?c5 ?_)
 case c1=>
  intro j u hj
  match j,hj with
  |0,hj=>simp at hj;subst hj;simp[Addr.add]
 case c2=>intro u hu;simp at hu;subst hu;rfl
 case c3=>unfold maxLen;omega
 case c4=>omega
 case c5=>have:=hb1.size;simp;omega
 intro v' w2 hown' hgrow _;have hlt:b<w1.heap.size:=by
  rcases Y7 b w1.heap.size with h'|h'
  ·exact h'
  ·simp[Array.getElem?_eq_none h'] at hbk
 have hb2:w2.heap[b]?=some (.cells #[.pointer (some ⟨b,0,none⟩),v] 230 (0,0)):=by
  rw[hgrow.block b (by simp;omega) (fun e=>hne e.symm),Lib.alloc_old w1 _ b hlt];exact hbk
 have d0:w2.cell? ⟨b,0,none⟩=some (.pointer (some ⟨b,0,none⟩)):=by rw[Lib.cell_of_heap hb2];rfl
 have d1:w2.cell? ⟨b,1,none⟩=some v:=by rw[Lib.cell_of_heap hb2];rfl
 have f1:w2.frozen? ⟨b,1,none⟩=false:=Lib.frozen_of_heap hb2 1;obtain⟨g,cap,rfl⟩: ∃g cap,v'=.slice (some ⟨g,0,none⟩) (bs.length+1) cap:=by
  rcases hown'.2 with⟨_,h0⟩|⟨g,cap,cur,fz,hv,_⟩
  ·omega
  ·exact⟨g,cap,hv⟩
 go_wp2
 go_ret
 refine⟨rfl,.inr ?_,?_⟩
 ·exact Lib.BuilderAtF.put (T:=230) (e:=5) hB hb2 (bs':=bs++[.int .u8 c]) (by simpa using hown') (by decide)
 ·exact((hb1.alloc (by have:=hb1.size;omega) _).grown hgrow (by have:=hb1.size;simp;omega) (fun k hk=>(hown.lt k hk).1)).setCell (p:=⟨b,1,none⟩) hB _
end Go.Proofs
namespace Go.Abs
open Go.Proofs Go.RowKit Go.Lib Go.Wd Go.Wire Go.Ex
def zc0:Txt:=[110,101,101,100,32]
def tQ:Txt:=[32,59]
def rL:Txt:=[102,105,101,108,100,32]
def aM:Txt:=[32,115,97,109,101,32]
theorem zvO (s:Txt) (hs:s.length<=1000000):Spec Tryz.prog 311 [.agg [.str s]] (fun v=>v=.str (zc0++s++tQ)):=by
 refine Spec.of_awlS hf311 okf311 (by simp) fun S hS=>?_
 simp only[Qs,Zc,Zl,Za,zsJ];exact⟨by (first|omega|(simp only[Zq,Zo,ZF] at*;omega)),by (first|omega|(simp only[Zq,Zo,ZF] at*;omega)),hS⟩
theorem zvP (d f e g:Txt) (hd:d.length<=1000000) (hf:f.length<=1000000) (he:e.length<=1000000) (hg:g.length<=1000000):Spec Tryz.prog 329 [.agg [.str d,.str f,.str e,.str g]] (fun v=>v=.str (rL++(d++vP++f)++aM++(e++vP++g)++tQ)):=by
 refine Spec.of_awlS hf329 okf329 (by simp) fun S hS=>?_
 have g1:=bM d f hd hf;have g2:=bM e g he hg;have l1:(d++vP++f).length<=3000000:=by simp only[vP,Zq,Zo,ZF];omega
 have l2:(e++vP++g).length<=3000000:=by simp only[vP,Zq,Zo,ZF];omega
 generalize (d++vP++f)=x at g1 hS l1;generalize (e++vP++g)=y at g2 hS l2;simp only[Qs,Zc,Zl,Za,zsU];refine sP g1 ?_ (ha:=by rfl);simp only[Qs,Zc,Zl,Za];refine⟨by omega,by omega,?_⟩;refine sP g2 ?_ (ha:=by rfl);simp only[Qs,Zc,Zl,Za];refine⟨?_,?_,?_⟩
 ·(first|omega|(simp only[Zq,Zo,ZF] at*;omega))
 ·(first|omega|(simp only[Zq,Zo,ZF] at*;omega))
 ·simpa [rL,aM,tQ] using hS
end Go.Abs
namespace Go.Proofs
open Go.Shelf Go.RowKit
def Tryz.laysItoa_ren:Go.Shelf.Ren:=
 {
  f:=fun x=>
   match x with
   |171=>119
   |243=>183
   |246=>246
   |283=>267
   |284=>268
   |285=>269
   |286=>270
   |129=>174
   |317=>280
   |318=>281
   |319=>282
   |320=>150
   |337=>211
   |338=>212
   |n=>n,
  t:=fun x=>
   match x with
   |3=>3
   |9=>9
   |2=>2
   |4=>4
   |171=>284
   |0=>0
   |53=>197
   |37=>228
   |5=>5
   |173=>286
   |212=>299
   |51=>195
   |20=>20
   |213=>300
   |46=>115
   |232=>273
   |233=>274
   |n=>n,
  g:=fun x=>
   match x with
   |17=>2
   |18=>0
   |19=>1
   |n=>n}
theorem Tryz.laysItoa:LaysM.n171 Tryz.prog Tryz.laysItoa_ren:=
 {mixed:=by kernel_rfl,f129:=ZI Tryz.func174 (congrArg some (ZG (Body.n129 Tryz.laysItoa_ren))),
  f171:=ZI Tryz.func119 (congrArg some (ZG (Body.n171 Tryz.laysItoa_ren))),
  f243:=ZI Tryz.func183 (congrArg some (ZG (Body.n243 Tryz.laysItoa_ren))),
  f246:=ZI Tryz.func246 (congrArg some (ZG (Body.n246 Tryz.laysItoa_ren))),
  f283:=ZI Tryz.func267 (congrArg some (ZG (Body.n283 Tryz.laysItoa_ren))),
  f284:=ZI Tryz.func268 (congrArg some (ZG (Body.n284 Tryz.laysItoa_ren))),
  f285:=ZI Tryz.func269 (congrArg some (ZG (Body.n285 Tryz.laysItoa_ren))),
  f286:=ZI Tryz.func270 (congrArg some (ZG (Body.n286 Tryz.laysItoa_ren))),
  f317:=ZI Tryz.func280 (congrArg some (ZG (Body.n317 Tryz.laysItoa_ren))),
  f318:=ZI Tryz.func281 (congrArg some (ZG (Body.n318 Tryz.laysItoa_ren))),
  f319:=ZI Tryz.func282 (congrArg some (ZG (Body.n319 Tryz.laysItoa_ren))),
  f320:=ZI Tryz.func150 (congrArg some (ZG (Body.n320 Tryz.laysItoa_ren))),
  f337:=ZI Tryz.func211 (congrArg some (ZG (Body.n337 Tryz.laysItoa_ren))),
  f338:=ZI Tryz.func212 (congrArg some (ZG (Body.n338 Tryz.laysItoa_ren))),t0:=Tryz.underlying0,
  a0:=Tryz.isAgg0,z0:=Tryz.sizeOf0,v0:=Tryz.zeroValue0,t2:=Tryz.underlying2,a2:=Tryz.isAgg2,
  z2:=Tryz.sizeOf2,v2:=Tryz.zeroValue2,t3:=Tryz.underlying3,a3:=Tryz.isAgg3,z3:=Tryz.sizeOf3,
  v3:=Tryz.zeroValue3,t4:=Tryz.underlying4,a4:=Tryz.isAgg4,z4:=Tryz.sizeOf4,v4:=Tryz.zeroValue4,
  t5:=Tryz.underlying5,a5:=Tryz.isAgg5,z5:=Tryz.sizeOf5,v5:=Tryz.zeroValue5,t9:=Tryz.underlying9,
  a9:=Tryz.isAgg9,z9:=Tryz.sizeOf9,v9:=Tryz.zeroValue9,t20:=Tryz.underlying20,a20:=Tryz.isAgg20,
  z20:=Tryz.sizeOf20,v20:=Tryz.zeroValue20,t37:=Tryz.underlying228,a37:=Tryz.isAgg228,z37:=Tryz.sizeOf228,
  v37:=Tryz.zeroValue228,t46:=Tryz.underlying115,a46:=Tryz.isAgg115,z46:=Tryz.sizeOf115,
  v46:=Tryz.zeroValue115,t51:=Tryz.underlying195,a51:=Tryz.isAgg195,z51:=Tryz.sizeOf195,
  v51:=Tryz.zeroValue195,t53:=Tryz.underlying197,a53:=Tryz.isAgg197,z53:=Tryz.sizeOf197,
  v53:=Tryz.zeroValue197,t171:=Tryz.underlying284,a171:=Tryz.isAgg284,z171:=Tryz.sizeOf284,
  v171:=Tryz.zeroValue284,t173:=Tryz.underlying286,a173:=Tryz.isAgg286,z173:=Tryz.sizeOf286,
  v173:=Tryz.zeroValue286,t212:=Tryz.underlying299,a212:=Tryz.isAgg299,z212:=Tryz.sizeOf299,
  v212:=Tryz.zeroValue299,t213:=Tryz.underlying300,a213:=Tryz.isAgg300,z213:=Tryz.sizeOf300,
  t232:=Tryz.underlying273,a232:=Tryz.isAgg273,z232:=Tryz.sizeOf273,v232:=Tryz.zeroValue273,
  t233:=Tryz.underlying274,a233:=Tryz.isAgg274,z233:=Tryz.sizeOf274,v233:=Tryz.zeroValue274,
  g17:=by kernel_rfl,g18:=by kernel_rfl,
  g19:=by kernel_rfl,i0:=by kernel_rfl,
  i2:=by kernel_rfl,
  i3:=by kernel_rfl,i4:=by kernel_rfl,
  i5:=by kernel_rfl,
  i9:=by kernel_rfl,i20:=by kernel_rfl,
  i37:=by kernel_rfl,
  i46:=by kernel_rfl,
  i51:=by kernel_rfl,
  i53:=by kernel_rfl,
  i171:=
   ZG
    (some
     (some
       (Value.agg
        #[Value.int IntKind.u8 0,Value.int IntKind.u8 0,Value.int IntKind.u8 0,Value.int IntKind.u8 0,
          Value.int IntKind.u8 0,Value.int IntKind.u8 0,Value.int IntKind.u8 0,Value.int IntKind.u8 0,
          Value.int IntKind.u8 0,Value.int IntKind.u8 0,Value.int IntKind.u8 0,Value.int IntKind.u8 0,
          Value.int IntKind.u8 0,Value.int IntKind.u8 0,Value.int IntKind.u8 0,Value.int IntKind.u8 0,
          Value.int IntKind.u8 0,Value.int IntKind.u8 0,Value.int IntKind.u8 0,Value.int IntKind.u8 0,
          Value.int IntKind.u8 0,Value.int IntKind.u8 0,Value.int IntKind.u8 0,Value.int IntKind.u8 0]),
      24,24)),
  i173:=by kernel_rfl,
  i212:=
   ZG
    (some
     (some
       (Value.agg
        #[Value.int IntKind.u64 0,Value.int IntKind.u64 0,Value.int IntKind.u64 0,Value.int IntKind.u64 0,
          Value.int IntKind.u64 0,Value.int IntKind.u64 0,Value.int IntKind.u64 0,Value.int IntKind.u64 0,
          Value.int IntKind.u64 0,Value.int IntKind.u64 0,Value.int IntKind.u64 0,Value.int IntKind.u64 0,
          Value.int IntKind.u64 0,Value.int IntKind.u64 0,Value.int IntKind.u64 0,Value.int IntKind.u64 0,
          Value.int IntKind.u64 0,Value.int IntKind.u64 0,Value.int IntKind.u64 0,Value.int IntKind.u64 0]),
      20,160)),
  i232:=
   ZG
    (some
     (some
       (Value.agg
        #[Value.int IntKind.u8 0,Value.int IntKind.u8 0,Value.int IntKind.u8 0,Value.int IntKind.u8 0,
          Value.int IntKind.u8 0,Value.int IntKind.u8 0,Value.int IntKind.u8 0,Value.int IntKind.u8 0,
          Value.int IntKind.u8 0,Value.int IntKind.u8 0,Value.int IntKind.u8 0,Value.int IntKind.u8 0,
          Value.int IntKind.u8 0,Value.int IntKind.u8 0,Value.int IntKind.u8 0,Value.int IntKind.u8 0,
          Value.int IntKind.u8 0,Value.int IntKind.u8 0,Value.int IntKind.u8 0,Value.int IntKind.u8 0,
          Value.int IntKind.u8 0,Value.int IntKind.u8 0,Value.int IntKind.u8 0,Value.int IntKind.u8 0,
          Value.int IntKind.u8 0,Value.int IntKind.u8 0,Value.int IntKind.u8 0,Value.int IntKind.u8 0,
          Value.int IntKind.u8 0,Value.int IntKind.u8 0,Value.int IntKind.u8 0,Value.int IntKind.u8 0]),
      32,32)),
  i233:=
   ZG
    (some
     (some
       (Value.agg
        (let y:=
          let y:=
           let y:=
            let y:=
             [Value.int IntKind.u8 0,Value.int IntKind.u8 0,Value.int IntKind.u8 0,
              Value.int IntKind.u8 0];
            Value.int IntKind.u8 0::
             Value.int IntKind.u8 0::Value.int IntKind.u8 0::Value.int IntKind.u8 0::y;
           let y:=
            Value.int IntKind.u8 0::
             Value.int IntKind.u8 0::Value.int IntKind.u8 0::Value.int IntKind.u8 0::y;
           Value.int IntKind.u8 0::
            Value.int IntKind.u8 0::Value.int IntKind.u8 0::Value.int IntKind.u8 0::y;
          let y:=
           let y:=
            Value.int IntKind.u8 0::
             Value.int IntKind.u8 0::Value.int IntKind.u8 0::Value.int IntKind.u8 0::y;
           Value.int IntKind.u8 0::
            Value.int IntKind.u8 0::Value.int IntKind.u8 0::Value.int IntKind.u8 0::y;
          let y:=
           Value.int IntKind.u8 0::
            Value.int IntKind.u8 0::Value.int IntKind.u8 0::Value.int IntKind.u8 0::y;
          Value.int IntKind.u8 0::
           Value.int IntKind.u8 0::Value.int IntKind.u8 0::Value.int IntKind.u8 0::y;
         let y:=
          let y:=
           let y:=
            Value.int IntKind.u8 0::
             Value.int IntKind.u8 0::Value.int IntKind.u8 0::Value.int IntKind.u8 0::y;
           Value.int IntKind.u8 0::
            Value.int IntKind.u8 0::Value.int IntKind.u8 0::Value.int IntKind.u8 0::y;
          let y:=
           Value.int IntKind.u8 0::
            Value.int IntKind.u8 0::Value.int IntKind.u8 0::Value.int IntKind.u8 0::y;
          Value.int IntKind.u8 0::
           Value.int IntKind.u8 0::Value.int IntKind.u8 0::Value.int IntKind.u8 0::y;
         let y:=
          let y:=
           Value.int IntKind.u8 0::
            Value.int IntKind.u8 0::Value.int IntKind.u8 0::Value.int IntKind.u8 0::y;
          Value.int IntKind.u8 0::
           Value.int IntKind.u8 0::Value.int IntKind.u8 0::Value.int IntKind.u8 0::y;
         let y:=
          Value.int IntKind.u8 0::
           Value.int IntKind.u8 0::Value.int IntKind.u8 0::Value.int IntKind.u8 0::y;
         Value.int IntKind.u8 0::
          Value.int IntKind.u8 0::Value.int IntKind.u8 0::Value.int IntKind.u8 0::y).toArray),
      64,64)),
  m17:=by kernel_rfl,m18:=by kernel_rfl,
  m19:=by kernel_rfl}
end Go.Proofs
namespace Go.Abs
open Go.Proofs Go.RowKit Go.Lib Go.Wd Go.Wire Go.Ex
theorem zvQ {w:World} (hG:yN (base w)):Go.Lib.TabIs Tryz.prog w "internal/strconv.uint64pow10" .u64 Go.Lib.pow10Tab:=by
 obtain⟨_,b,hb,hp⟩:=hG.2 2 _ rfl;have hn:Tryz.prog.globalNamed "internal/strconv.uint64pow10" =some 2:=by kernel_rfl
 unfold Go.Lib.TabIs World.var?;rw[hn,YG];have hb':w.heap[2]?=some b:=hb;rw[hb'];cases b with
 |cells cs t f=>
  have e:cs=_:=hp;simp only[e];rfl
 |_=>exact hp.elim
theorem aO (n:Int) (h0: -9223372036854775808<=n) (h1:n<=9223372036854775807):Spec Tryz.prog 119 [.int .i64 n] (fun r=>r=.str (Go.Lib.itoa n)):=
 zsk Tryz.laysItoa (vN (by kernel_rfl)) (fun w hG=>zvQ hG) n h0 h1
def gZ:Txt:=[115,117,109,32]
def fA:Txt:=[32,102,114,111,109,32]
def fB:Txt:=[32,116,111,32]
theorem zoe (d f:Txt) (lo hi:Int) (sum:Bool) (hd:d.length<=1000000) (hf:f.length<=1000000) (h1: -9223372036854775808<=lo) (h2:lo<=9223372036854775807) (h3: -9223372036854775808<=hi) (h4:hi<=9223372036854775807):Spec Tryz.prog 334 [.agg [.str d,.str f,.int .i64 lo,.int .i64 hi,.bool sum]] (fun v=>v=.str ((if sum then gZ else rL)++(d++vP++f)++fA++itoa lo++fB++itoa hi++tQ)):=by
 refine Spec.of_awlS hf334 okf334 (by simp) fun S hS=>?_
 have g1:=bM d f hd hf;have g2:=aO lo h1 h2;have g3:=aO hi h3 h4;have l1:(d++vP++f).length<=3000000:=by simp only[vP,Zq,Zo,ZF];omega
 have l2:=itoa_length_le lo h1 h2;have l3:=itoa_length_le hi h3 h4;generalize (d++vP++f)=x at g1 hS l1;generalize itoa lo=y at g2 hS l2;generalize itoa hi=z at g3 hS l3;cases sum with
 |false=>
  simp only[Qs,Zc,Zl,Za,zlo];refine sP g1 ?_ (ha:=by rfl);simp only[Qs,Zc,Zl,Za];refine⟨by (first|omega|(simp only[Zq,Zo,ZF] at*;omega)),by (first|omega|(simp only[Zq,Zo,ZF] at*;omega)),?_⟩;refine sP g2 ?_ (ha:=by rfl);simp only[Qs,Zc,Zl,Za];refine⟨by (first|omega|(simp only[Zq,Zo,ZF] at*;omega)),by (first|omega|(simp only[Zq,Zo,ZF] at*;omega)),?_⟩;refine sP g3 ?_ (ha:=by rfl);simp only[Qs,Zc,Zl,Za];refine⟨by (first|omega|(simp only[Zq,Zo,ZF] at*;omega)),by (first|omega|(simp only[Zq,Zo,ZF] at*;omega)),?_⟩;simpa [rL,fA,fB,tQ] using hS
 |true=>
  simp only[Qs,Zc,Zl,Za,zlo];refine sP g1 ?_ (ha:=by rfl);simp only[Qs,Zc,Zl,Za];refine⟨by (first|omega|(simp only[Zq,Zo,ZF] at*;omega)),by (first|omega|(simp only[Zq,Zo,ZF] at*;omega)),?_⟩;refine sP g2 ?_ (ha:=by rfl);simp only[Qs,Zc,Zl,Za];refine⟨by (first|omega|(simp only[Zq,Zo,ZF] at*;omega)),by (first|omega|(simp only[Zq,Zo,ZF] at*;omega)),?_⟩;refine sP g3 ?_ (ha:=by rfl);simp only[Qs,Zc,Zl,Za];refine⟨by (first|omega|(simp only[Zq,Zo,ZF] at*;omega)),by (first|omega|(simp only[Zq,Zo,ZF] at*;omega)),?_⟩;simpa [gZ,fA,fB,tQ] using hS
end Go.Abs
namespace Go.Ex
def oS (c:UInt8):List UInt8:=if c=34\/c=92 then[92,c] else[c]
def uM (l:List UInt8):List UInt8:=l.flatMap oS
theorem zvR (l:List UInt8) (c:UInt8):uM (l++[c])=uM l++oS c:=by simp[uM]
theorem aP (l:List UInt8):(uM l).length<=2*l.length:=by
 induction l with
 |nil=>simp[uM]
 |cons c l ih=>
  have:(oS c).length<=2:=by unfold oS;split<;>simp
  simp only[uM,XR,Zq,Zo] at ih⊢;omega
end Go.Ex
namespace Go.Proofs
open Go.Shelf Go.RowKit Go.Lib Go.Ex
theorem lQ (B b:Nat) (l:List UInt8) (c:UInt8) (z:Int) (hz:z=(c.toNat:Int)) (w:World) (h:Lib.IsBuilderF 230 5 B b (Lib.byteCells l) w) (hlen:l.length+1<=140737488355328) (hBw:B<=w.heap.size):
  Calls Tryz.prog 325 #[.pointer (some ⟨b,0,none⟩),.int .u8 z] w fun e w'=>e=.returned .nilIface/\Lib.IsBuilderF 230 5 B b (Lib.byteCells (l++[c])) w'/\Below B w w':=by
 subst hz;refine(zvN B b (Lib.byteCells l) c.toNat w h (by simpa [Lib.byteCells] using hlen) hBw).mono ?_;rintro e w' ⟨h1,h2,h3⟩;exact⟨h1,by simpa [Lib.byteCells] using h2,h3⟩
theorem zvS {c:UInt8} (h:(c.toNat:Int)=34):c=34:=by
 have h2:c.toNat=34:=by omega
 have h3:UInt8.ofNat c.toNat=UInt8.ofNat 34:=by rw[h2]
 rw[UInt8.ofNat_toNat] at h3;exact h3
theorem zvT {c:UInt8} (h:(c.toNat:Int)=92):c=92:=by
 have h2:c.toNat=92:=by omega
 have h3:UInt8.ofNat c.toNat=UInt8.ofNat 92:=by rw[h2]
 rw[UInt8.ofNat_toNat] at h3;exact h3
theorem zvU {c:UInt8} (q1: ¬(c.toNat:Int)=34) (q2: ¬(c.toNat:Int)=92):([c]:List UInt8)=oS c:=by
 unfold oS;rw[if_neg];rintro(h|h)
 ·subst h;exact q1 rfl
 ·subst h;exact q2 rfl
theorem zof {c:UInt8} (h:c=34\/c=92):([92]++[c]:List UInt8)=oS c:=by
 unfold oS;rw[if_pos h];rfl
theorem zvV (l:List UInt8) (hl:l.length<=1000000) (w:World):
  Calls Tryz.prog 324 #[.string ⟨l.toArray⟩] w fun e w'=>e=.returned (.string ⟨([34]++uM l++[34]).toArray⟩)/\Below w.heap.size w w':=by
 obtain⟨n,hN⟩: ∃n,l.length=n:=⟨_,rfl⟩;have hN':Aside (l.length=n):=hN;have hsz:(⟨l.toArray⟩:ByteArray).size=n:=by show l.toArray.size=_;simpa using hN
 have hg1:(w.alloc (.cells #[.pointer none,.slice none 0 0] 230)).heap[w.heap.size]?=some (.cells #[.pointer none,.slice none 0 0] 230 (0,0)):=Go.Abs.alloc_get w _;have hb2:Below w.heap.size w (w.alloc (.cells #[.pointer none,.slice none 0 0] 230)):=(Below.refl _ w).alloc (Zw _) _;have hI1:Lib.IsBuilderF 230 5 w.heap.size w.heap.size (Lib.byteCells []) (w.alloc (.cells #[.pointer none,.slice none 0 0] 230)):=by
  exact .inl ⟨Zw _,.slice none 0 0,hg1,World.ownsRowF_of (World.ownsRow_nil _ _ _ _),by simp[Value.ownBlock]⟩
 go_enter Tryz.func324,Tryz.ntmps324
 go_wp2_with (go_at_call 325;refine(lQ w.heap.size w.heap.size [] 34 34 rfl _ hI1 (by decide) hb2.size).mono ?_;rintro e w3 ⟨rfl,hI3,hb3⟩)
 rw[Yd] at hI3;have hb4:=hb2.trans hb3
 go_loopg [4,8] n (fun g t i wr=>Below w.heap.size w wr/\ ∃k:Nat,k<=n/\g=n-k/\i=.int .i64 k/\Lib.IsBuilderF 230 5 w.heap.size w.heap.size (Lib.byteCells ([34]++uM (l.take k))) wr)
 case atStart=>exact⟨hb4,0,ZC _,rfl,rfl,hI3⟩
 case round=>
  obtain⟨hbx,k,hk,rfl,rfl,hIx⟩:=hrel;by_cases hlt:k<n
  ·have hkn:(k:Int)<n:=by omega
   have hkl:k<l.length:=by omega
   obtain⟨c,hc⟩: ∃c,(⟨l.toArray⟩:ByteArray)[k]'(by rw[hsz];exact hlt)=c:=⟨_,rfl⟩;have hcl:l[k]=c:=hc;have hE:Aside ([34]++uM (l.take (k+1))=[34]++uM (l.take k)++oS c):=show _=_ by rw[ZD hkl,hcl,zvR,Z3]
   have hA:=aP (l.take k);rw[Yl] at hA;have hA2:([34]++uM (l.take k)).length<=2000001:=by simp only[Zq,Zo,ZF];omega
   generalize [34]++uM (l.take k)=A at hIx hE hA2;have hwr:IntKind.i64.wrap ((k:Int)+1)=((k+1:Nat):Int):=by rw[Go.Abs.wrap_in (by omega) (by omega)];omega
   clear hcl hA;by_cases q1:(c.toNat:Int)=34
   ·have o1:c=34:=zvS q1
    go_wp2_with (first|(go_at_call 325;refine(lQ w.heap.size w.heap.size (A++[92]) c 34 q1.symm _ hI5 (by rw[Zq];simp only[Zo,ZF];omega) (hbx.trans hb7).size).mono ?_;rintro e w6 ⟨rfl,hI6,hb8⟩)|(go_at_call 325;refine(lQ w.heap.size w.heap.size A 92 92 rfl _ hIx (by omega) hbx.size).mono ?_;rintro e w5 ⟨rfl,hI5,hb7⟩))
    rw[Z3,zof (.inl o1),<-hE.out] at hI6
    go_roundg (n-(k+1))
    case measure=>omega
    case rel=>exact⟨(hbx.trans hb7).trans hb8,k+1,by omega,rfl,by go_num,hI6⟩
   ·by_cases q2:(c.toNat:Int)=92
    ·have o1:c=92:=zvT q2
     go_wp2_with (first|(go_at_call 325;refine(lQ w.heap.size w.heap.size (A++[92]) c 92 q2.symm _ hI5 (by rw[Zq];simp only[Zo,ZF];omega) (hbx.trans hb7).size).mono ?_;rintro e w6 ⟨rfl,hI6,hb8⟩)|(go_at_call 325;refine(lQ w.heap.size w.heap.size A 92 92 rfl _ hIx (by omega) hbx.size).mono ?_;rintro e w5 ⟨rfl,hI5,hb7⟩))
     rw[Z3,zof (.inr o1),<-hE.out] at hI6
     go_roundg (n-(k+1))
     case measure=>omega
     case rel=>exact⟨(hbx.trans hb7).trans hb8,k+1,by omega,rfl,by go_num,hI6⟩
    ·have e1:((c.toNat:Int)==34)=false:=by simp only[beq_eq_false_iff_ne,ne_eq];exact q1
     have e2:((c.toNat:Int)==92)=false:=by simp only[beq_eq_false_iff_ne,ne_eq];exact q2
     have hEE:=zvU q1 q2;clear q1 q2
     go_wp2_with (go_at_call 325;refine(lQ w.heap.size w.heap.size A c (c.toNat:Int) rfl _ hIx (by omega) hbx.size).mono ?_;rintro e w6 ⟨rfl,hI6,hb8⟩)
     rw[hEE,<-hE.out] at hI6
     go_roundg (n-(k+1))
     case measure=>omega
     case rel=>exact⟨hbx.trans hb8,k+1,by omega,rfl,by go_num,hI6⟩
  ·obtain rfl:k=n:=by omega
   have hE:Aside (l.take k=l):=show _=_ by rw[Z7 (by omega)]
   have hA:=aP l;rw[hE.out] at hIx;have hA2:([34]++uM l).length<=2000001:=by simp only[Zq,Zo,ZF];omega
   obtain⟨A,hAe⟩: ∃A,[34]++uM l=A:=⟨_,rfl⟩;rw[hAe] at hIx hA2;clear hA
   go_wp2_with (first|(go_at_call 220;refine(zng w.heap.size w.heap.size (A++[34]) _ hI5 (hbx.trans hb7).size).mono ?_;rintro e w6 ⟨rfl,hI6,hb8⟩)|(go_at_call 325;refine(lQ w.heap.size w.heap.size A 34 34 rfl _ hIx (by omega) hbx.size).mono ?_;rintro e w5 ⟨rfl,hI5,hb7⟩))
   go_ret
   exact⟨by rw[<-hAe];rfl,(hbx.trans hb7).trans hb8⟩
end Go.Proofs
namespace Go.Abs
open Go.Proofs Go.RowKit Go.Lib Go.Wd Go.Wire Go.Ex
theorem zvW (s:Txt) (hl:s.length<=1000000):Spec Tryz.prog 324 [.str s] (fun r=>r=.str ([34]++uM s++[34])):=by
 refine⟨vN (by kernel_rfl),fun w Z vs hG hz ha=>?_⟩;obtain⟨l⟩:=vs
 match l,ha with
 |[],ha=>exact absurd ha.1 (by simp)
 |_::_::_,ha=>exact absurd ha.1 (by simp)
 |[v1],ha=>
  have e1:=vX (ha.2 0 _ v1 rfl rfl).2.2;subst e1;refine(zvV s hl w).mono ?_;rintro e w' ⟨rfl,hb⟩;exact⟨_,_,rfl,rfl,fun _=>rfl,nV hG (xM hb) (fun _=>rfl) (fun _=>⟨rfl,.str _⟩)⟩
theorem zvX (s:Txt) (hl:s.length<=1000000):Spec Tryz.prog 322 [.str s] (fun r=>r=.tup (if s.length>400\/spanN jF s≠s.length then[.str [],.bool false] else[.str ([34]++uM s++[34]),.bool true])):=by
 refine Spec.of_awlS hf322 okf322 (by simp) fun S hS=>?_
 have g1:=zco zuz s (big hl);have g2:=zvW s hl;generalize [34]++uM s++[34]=x at g2 hS;generalize spanN jF s=y at g1 hS;by_cases q1:(s.length:Int)>400
 ·rw[if_pos (.inl (by omega))] at hS
  simp only[q1,Qs,Ze,Za,zlr];exact hS
 ·simp only[q1,Qs,Za,zlr]
  refine zI g1 ?_ (ha:=by rfl);by_cases q2:(y:Int)=s.length
  ·rw[if_neg (by omega)] at hS
   simp only[q2,Qs,forall_const,Ze,Za,not_true_eq_false];refine zI g2 ?_ (ha:=by rfl);simp only[Qs,Ze,Za];exact hS
  ·rw[if_pos (.inr (by omega))] at hS
   simp only[q2,Qs,forall_const,Ze,Za];exact hS
def quoB (s:Txt):Bool:=decide (¬(s.length>400\/spanN jF s≠s.length))
def quoT (s:Txt):Txt:=if quoB s then[34]++uM s++[34] else[]
def aQ:Txt:=[32,105,115,32]
theorem zog (s:Txt) (hl:s.length<=1000000):Spec Tryz.prog 322 [.str s] (fun r=>r=.tup [.str (quoT s),.bool (quoB s)]):=by
 refine(zvX s hl).mono ?_;rintro r rfl;unfold quoT quoB;by_cases h:s.length>400\/spanN jF s≠s.length
 ·rw[if_pos h];simp[h]
 ·rw[if_neg h];simp[h]
theorem zvY (s:Txt) (h:s.length<=1000000):(quoT s).length<=2000002:=by
 have:=aP s;unfold quoT;split
 ·simp only[Zq,Zo,ZF];omega
 ·simp
theorem zvZ (d f t:Txt) (hd:d.length<=1000000) (hf:f.length<=1000000) (ht:t.length<=1000000):Spec Tryz.prog 318 [.agg [.str d,.str f,.str t]] (fun v=>v=.bool (quoB t&&(nameP d&&nameP f))):=by
 refine Spec.of_awlS hf318 okf318 (by simp) fun S hS=>?_
 have g1:=zog t ht;have g2:=bL d f hd hf;generalize (nameP d&&nameP f)=x at g2 hS;generalize quoB t=y at g1 hS;simp only[Qs,Zc,Za,zsP];refine zI g1 ?_ (ha:=by rfl);cases y with
 |false=>
  simp only[Qs,Za];exact hS
 |true=>
  simp only[Qs,Zc,Zl,Za];refine zI g2 ?_ (ha:=by rfl);simp only[Qs,Za];exact hS
theorem zv0 (d f t:Txt) (hd:d.length<=1000000) (hf:f.length<=1000000) (ht:t.length<=1000000):Spec Tryz.prog 319 [.agg [.str d,.str f,.str t]] (fun v=>v=.str (rL++(d++vP++f)++aQ++quoT t++tQ)):=by
 refine Spec.of_awlS hf319 okf319 (by simp) fun S hS=>?_
 have g1:=zog t ht;have g2:=bM d f hd hf;have l1:(d++vP++f).length<=3000000:=by simp only[vP,Zq,Zo,ZF];omega
 have l2:=zvY t ht;generalize (d++vP++f)=x at g2 hS l1;generalize quoT t=y at g1 hS l2;simp only[Qs,Zc,Za,zsQ];refine zI g1 ?_ (ha:=by rfl);simp only[Qs,Zc,Zl,Za];refine zI g2 ?_ (ha:=by rfl);simp only[Qs,Zc,Zl,Za];refine⟨?_,?_,?_⟩
 ·(first|omega|(simp only[Zq,Zo,ZF] at*;omega))
 ·(first|omega|(simp only[Zq,Zo,ZF] at*;omega))
 ·refine⟨by (first|omega|(simp only[Zq,Zo,ZF] at*;omega)),by (first|omega|(simp only[Zq,Zo,ZF] at*;omega)),?_⟩
  simpa [rL,aQ,tQ] using hS
end Go.Abs
namespace Go.Ex
open Go.Lib Go.Wd Go.Wire Go.Abs Go.Proofs
def okD (op:Int):Bool:=decide (op=0)||(decide (op=1)||(decide (op=3)||(decide (op=2)||decide (op=4))))
def aT (m:Dmd):Dmd:=
 if m.op=0 then⟨0,m.doc,[],[],[],[],0,0⟩ else if m.op=1 then⟨1,m.doc,m.fld,[],[],m.txt,0,0⟩
 else if m.op=3 then⟨3,m.doc,m.fld,m.oth,m.sec,[],0,0⟩ else if m.op=2 then⟨2,m.doc,m.fld,[],[],[],m.lo,m.hi⟩ else⟨4,m.doc,m.fld,[],[],[],m.lo,m.hi⟩
def aU (m:Dmd):Bool:=
 if m.op=0 then nameP m.doc else if m.op=1 then quoB m.txt&&(nameP m.doc&&nameP m.fld)
 else if m.op=3 then(nameP m.doc&&nameP m.fld)&&(nameP m.oth&&nameP m.sec)
 else(nameP m.doc&&nameP m.fld)&&(decide (m.lo>=0)&&(decide (m.lo<=m.hi)&&decide (m.hi<=1099511627776)))
def lR (m:Dmd):Txt:=
 if m.op=0 then zc0++m.doc++tQ else if m.op=1 then rL++(m.doc++vP++m.fld)++aQ++quoT m.txt++tQ
 else if m.op=3 then rL++(m.doc++vP++m.fld)++aM++(m.oth++vP++m.sec)++tQ
 else(if m.op=4 then gZ else rL)++(m.doc++vP++m.fld)++fA++itoa m.lo++fB++itoa m.hi++tQ
def rM (m:Dmd):Bool:=okD m.op&&(decide (m=aT m)&&aU m)
def sS (L:List Dmd):Bool:=decide (L=[])||(decide (L.length<=20)&&L.all rM)
structure DmdS (m:Dmd):Prop where
 d:m.doc.length<=1000000
 f:m.fld.length<=1000000
 o:m.oth.length<=1000000
 s:m.sec.length<=1000000
 t:m.txt.length<=1000000
 l1: -9223372036854775808<=m.lo
 l2:m.lo<=9223372036854775807
 h1: -9223372036854775808<=m.hi
 h2:m.hi<=9223372036854775807
theorem oT {s:Txt} (h:nameP s=true):s.length<=20:=by
 unfold nameP at h;simp only[Zr,decide_eq_true_eq] at h;exact h.2.2.1
theorem zv1 (t:Txt):(uM t).length<=2*t.length:=aP t
theorem fC {m:Dmd} (hm:DmdS m) (h:rM m=true):(lR m).length<=1000:=by
 unfold rM at h;simp only[Zr] at h;obtain⟨_,_,h⟩:=h;have e1:=itoa_length_le m.lo hm.l1 hm.l2;have e2:=itoa_length_le m.hi hm.h1 hm.h2;unfold aU at h;unfold lR;split at h
 ·rename_i h0
  have:=oT h;rw[if_pos h0];simp only[zc0,tQ,Zq,Zo,ZF];omega
 split at h
 ·rename_i h0 h1
  simp only[Zr] at h;have n1:=oT h.2.1;have n2:=oT h.2.2;have n3:(quoT m.txt).length<=802:=by
   have hq:=h.1;unfold quoT;rw[if_pos hq];unfold quoB at hq;have hq:=of_decide_eq_true hq;have:=zv1 m.txt;simp only[Zq,Zo,ZF];omega
  rw[if_neg h0,if_pos h1];simp only[rL,aQ,vP,tQ,Zq,Zo,ZF];omega
 split at h
 ·rename_i h0 h1 h2
  simp only[Zr] at h;have n1:=oT h.1.1;have n2:=oT h.1.2;have n3:=oT h.2.1;have n4:=oT h.2.2;rw[if_neg h0,if_neg h1,if_pos h2];simp only[rL,aM,vP,tQ,Zq,Zo,ZF];omega
 ·rename_i h0 h1 h2
  simp only[Zr] at h;have n1:=oT h.1.1;have n2:=oT h.1.2;rw[if_neg h0,if_neg h1,if_neg h2];have n3:(if m.op=4 then gZ else rL).length<=10:=by split<;>simp[gZ,rL]
  simp only[fA,fB,vP,tQ,Zq,Zo,ZF];omega
end Go.Ex
namespace Go.Proofs
open Go.RowKit Go.Abs Go.Wd Go.Wire Go.Ex
def dmV (m:Dmd):Array Value:=((zU m).map vO).toArray
structure ClsAt (w:World) (m:Dmd) (T:TypeId) (us:Array Value) (fd fn fw:FuncId):Prop where
 ed: ∀args W,(callFunc fd args).run Tryz.prog W=.ok (.enter fd args) W
 en: ∀args W,(callFunc fn args).run Tryz.prog W=.ok (.enter fn args) W
 ew: ∀args W,(callFunc fw args).run Tryz.prog W=.ok (.enter fw args) W
 md: ∀W,(method 428 T (.agg us) "allonge/require.demand").run Tryz.prog W=.ok (fd,.agg us) W
 mn: ∀W,(method 428 T (.agg us) "allonge/require.named").run Tryz.prog W=.ok (fn,.agg us) W
 mw: ∀W,(method 428 T (.agg us) "allonge/require.words").run Tryz.prog W=.ok (fw,.agg us) W
 kd: ∀W,Below w.heap.size w W->Calls Tryz.prog fd #[.agg us] W fun e W'=>e=.returned (.agg (dmV (aT m)))/\Below W.heap.size W W'
 kn: ∀W,Below w.heap.size w W->Calls Tryz.prog fn #[.agg us] W fun e W'=>e=.returned (.bool (aU m))/\Below W.heap.size W W'
 kw: ∀W,Below w.heap.size w W->Calls Tryz.prog fw #[.agg us] W fun e W'=> ∃s:Txt,(rM m=true->s.length<=1000)/\e=.returned (.string ⟨s.toArray⟩)/\Below W.heap.size W W'
theorem zv2 (m:Dmd) (hm:DmdS m) (ho:okD m.op=true) (w:World) (hG:yN (base w)): ∃T us fd fn fw,clV m.op m.doc m.fld m.oth m.sec m.txt m.lo m.hi=.iface T (.agg us)/\ClsAt w m T us fd fn fw:=by
 have hg: ∀{W},Below w.heap.size w W->yN (base W):=fun hb=>hG.later (xM hb)
 obtain⟨op,d,f,o,s,t,lo,hi⟩:=m;have hms:=hm;obtain⟨hd,hf,hoo,hss,ht,l1,l2,h1,h2⟩:=hm;simp only[] at hd hf hoo hss ht l1 l2 h1 h2 ho⊢;by_cases q0:op=0
 ·subst q0
  refine⟨266,#[tV d],308,310,311,rfl,enters_of Tryz.func308 (by kernel_rfl) rfl,enters_of Tryz.func310 (by kernel_rfl) rfl,enters_of Tryz.func311 (by kernel_rfl) rfl,Tryz.m165demand _,Tryz.m165named _,Tryz.m165words _,fun W hb=>?_,fun W hb=>?_,fun W hb=>?_⟩
  ·exact(zuv d).aggC (by simp[zU,C.sc]) (hg hb) (Z:=zV W) (fun _ h=>h) (sD (r:=[.str d]) (by simp[C.sc]) (yY _ _))
  ·exact(zuu d hd).boolC (hg hb) (Z:=zV W) (fun _ h=>h) (sD (r:=[.str d]) (by simp[C.sc]) (yY _ _))
  ·refine Calls.mono ((zvO d hd).strC (hg hb) (Z:=zV W) (fun _ h=>h) (sD (r:=[.str d]) (by simp[C.sc]) (yY _ _))) ?_
   rintro e W' ⟨he,hb2⟩;exact⟨lR _,fun h=>fC hms h,he,hb2⟩
 by_cases q1:op=1
 ·subst q1
  refine⟨268,#[tV d,tV f,tV t],316,318,319,rfl,enters_of Tryz.func316 (by kernel_rfl) rfl,enters_of Tryz.func318 (by kernel_rfl) rfl,enters_of Tryz.func319 (by kernel_rfl) rfl,Tryz.m167demand _,Tryz.m167named _,Tryz.m167words _,fun W hb=>?_,fun W hb=>?_,fun W hb=>?_⟩
  ·exact(zuw d f t).aggC (by simp[zU,C.sc]) (hg hb) (Z:=zV W) (fun _ h=>h) (sD (r:=[.str d,.str f,.str t]) (by simp[C.sc]) (yY _ _))
  ·exact(zvZ d f t hd hf ht).boolC (hg hb) (Z:=zV W) (fun _ h=>h) (sD (r:=[.str d,.str f,.str t]) (by simp[C.sc]) (yY _ _))
  ·refine Calls.mono ((zv0 d f t hd hf ht).strC (hg hb) (Z:=zV W) (fun _ h=>h) (sD (r:=[.str d,.str f,.str t]) (by simp[C.sc]) (yY _ _))) ?_
   rintro e W' ⟨he,hb2⟩;exact⟨lR _,fun h=>fC hms h,he,hb2⟩
 by_cases q3:op=3
 ·subst q3
  refine⟨270,#[tV d,tV f,tV o,tV s],326,328,329,rfl,enters_of Tryz.func326 (by kernel_rfl) rfl,enters_of Tryz.func328 (by kernel_rfl) rfl,enters_of Tryz.func329 (by kernel_rfl) rfl,Tryz.m169demand _,Tryz.m169named _,Tryz.m169words _,fun W hb=>?_,fun W hb=>?_,fun W hb=>?_⟩
  ·exact(zux d f o s).aggC (by simp[zU,C.sc]) (hg hb) (Z:=zV W) (fun _ h=>h) (sD (r:=[.str d,.str f,.str o,.str s]) (by simp[C.sc]) (yY _ _))
  ·exact(zuy d f o s hd hf hoo hss).boolC (hg hb) (Z:=zV W) (fun _ h=>h) (sD (r:=[.str d,.str f,.str o,.str s]) (by simp[C.sc]) (yY _ _))
  ·refine Calls.mono ((zvP d f o s hd hf hoo hss).strC (hg hb) (Z:=zV W) (fun _ h=>h) (sD (r:=[.str d,.str f,.str o,.str s]) (by simp[C.sc]) (yY _ _))) ?_
   rintro e W' ⟨he,hb2⟩;exact⟨lR _,fun h=>fC hms h,he,hb2⟩
 have ar: ∀(W:World) (b:Bool),vW W (zV W) [.agg [.str d,.str f,.int .i64 lo,.int .i64 hi,.bool b]] (#[.agg #[tV d,tV f,.int .i64 lo,.int .i64 hi,.bool b]]:Array Value).toList:=fun W b=>sD (r:=[.str d,.str f,.int .i64 lo,.int .i64 hi,.bool b]) (by simp[C.sc]) (yY _ _)
 by_cases q2:op=2
 ·subst q2
  refine⟨272,#[tV d,tV f,.int .i64 lo,.int .i64 hi,.bool false],331,333,334,rfl,enters_of Tryz.func331 (by kernel_rfl) rfl,enters_of Tryz.func333 (by kernel_rfl) rfl,enters_of Tryz.func334 (by kernel_rfl) rfl,Tryz.m171demand _,Tryz.m171named _,Tryz.m171words _,fun W hb=>?_,fun W hb=>?_,fun W hb=>?_⟩
  ·exact(znc d f lo hi false).aggC (by simp[zU,C.sc]) (hg hb) (Z:=zV W) (fun _ h=>h) (ar W false)
  ·exact(znd d f lo hi false hd hf).boolC (hg hb) (Z:=zV W) (fun _ h=>h) (ar W false)
  ·refine Calls.mono ((zoe d f lo hi false hd hf l1 l2 h1 h2).strC (hg hb) (Z:=zV W) (fun _ h=>h) (ar W false)) ?_
   rintro e W' ⟨he,hb2⟩;exact⟨lR _,fun h=>fC hms h,he,hb2⟩
 by_cases q4:op=4
 ·subst q4
  refine⟨272,#[tV d,tV f,.int .i64 lo,.int .i64 hi,.bool true],331,333,334,rfl,enters_of Tryz.func331 (by kernel_rfl) rfl,enters_of Tryz.func333 (by kernel_rfl) rfl,enters_of Tryz.func334 (by kernel_rfl) rfl,Tryz.m171demand _,Tryz.m171named _,Tryz.m171words _,fun W hb=>?_,fun W hb=>?_,fun W hb=>?_⟩
  ·exact(znc d f lo hi true).aggC (by simp[zU,C.sc]) (hg hb) (Z:=zV W) (fun _ h=>h) (ar W true)
  ·exact(znd d f lo hi true hd hf).boolC (hg hb) (Z:=zV W) (fun _ h=>h) (ar W true)
  ·refine Calls.mono ((zoe d f lo hi true hd hf l1 l2 h1 h2).strC (hg hb) (Z:=zV W) (fun _ h=>h) (ar W true)) ?_
   rintro e W' ⟨he,hb2⟩;exact⟨lR _,fun h=>fC hms h,he,hb2⟩
 ·exfalso
  simp[okD,q0,q1,q2,q3,q4] at ho
def fD (w:World) (L:List Dmd) (p:Option Addr) (b o:Nat):Prop:=(0<L.length->p=some ⟨b,o,none⟩/\b<w.heap.size)/\ ∀k,k<L.length-> ∀j u,(dmV (L.getD k wM))[j]?=some u->w.cell? ⟨b,o+k*8+j,none⟩=some u
theorem fD.at {w:World} {L:List Dmd} {p:Option Addr} {b o:Nat} (h:fD w L p b o) {k:Nat} (hk:k<L.length) {W:World} (hb:Below w.heap.size w W) (m:Dmd) (e:L.getD k wM=m):
  W.cell? ⟨b,o+k*8,none⟩=some (.int .i64 m.op)/\W.cell? ⟨b,o+k*8+1,none⟩=some (.string ⟨m.doc.toArray⟩)/\W.cell? ⟨b,o+k*8+2,none⟩=some (.string ⟨m.fld.toArray⟩)/\W.cell? ⟨b,o+k*8+3,none⟩=some (.string ⟨m.oth.toArray⟩)/\
  W.cell? ⟨b,o+k*8+4,none⟩=some (.string ⟨m.sec.toArray⟩)/\W.cell? ⟨b,o+k*8+5,none⟩=some (.string ⟨m.txt.toArray⟩)/\W.cell? ⟨b,o+k*8+6,none⟩=some (.int .i64 m.lo)/\W.cell? ⟨b,o+k*8+7,none⟩=some (.int .i64 m.hi):=by
 subst e;have hlt:=(h.1 (by omega)).2;have key: ∀j u,(dmV (L.getD k wM))[j]?=some u->W.cell? ⟨b,o+k*8+j,none⟩=some u:=fun j u hu=>(hb.cell (p:=⟨b,o+k*8+j,none⟩) hlt).trans (h.2 k hk j u hu)
 exact⟨key 0 _ rfl,key 1 _ rfl,key 2 _ rfl,key 3 _ rfl,key 4 _ rfl,key 5 _ rfl,key 6 _ rfl,key 7 _ rfl⟩
theorem zv3 (a b:Txt):((⟨a.toArray⟩:ByteArray).toList==(⟨b.toArray⟩:ByteArray).toList)=decide (a=b):=by
 rw[ByteArray.toList_eq,ByteArray.toList_eq,Yw,beq_iff_eq,decide_eq_true_eq]
theorem zv4 (m m2:Dmd) (w:World):Sem.run Tryz.prog (binOp .neq 96 (.agg (dmV m)) (.agg (dmV m2))) w=.ok (.bool (!decide (m=m2))) w:=by
 rw[run_neq_struct,run_equalIn_agg (P:=Tryz.prog) w 9999 96 _ _ (by kernel_rfl) (by kernel_rfl)];obtain⟨op,d,f,ot,s,t,lo,hi⟩:=m;obtain⟨op2,d2,f2,ot2,s2,t2,lo2,hi2⟩:=m2;simp only[Dmd.mk.injEq];simp[go_sem,dmV,zU,vO,zv3];by_cases h1:op=op2<;>simp[h1]
 by_cases h2:d=d2<;>simp[h2]
 by_cases h3:f=f2<;>simp[h3]
 by_cases h4:ot=ot2<;>simp[h4]
 by_cases h5:s=s2<;>simp[h5]
 by_cases h6:t=t2<;>simp[h6]
 by_cases h7:lo=lo2<;>simp[h7]
 by_cases h8:hi=hi2<;>simp[h8]
theorem zv5 (o:BinOp) (a b:Operand) (m m2:Dmd) (w:World):Sem.run Tryz.prog (eqGuard o 96 a b (.agg (dmV m)) (.agg (dmV m2))) w=.ok () w:=run_eqGuard_agg _ _ _ _ _ _ _ (by kernel_rfl)
theorem zc1 {L:List Dmd} {m:Dmd} (hm:m∈L) (h: ¬L.length<=20\/rM m=false):sS L=false:=by
  unfold sS;rw[Bool.or_eq_false_iff];refine⟨decide_eq_false (by rintro rfl;cases hm),?_⟩;rw[Bool.and_eq_false_iff];rcases h with h|h
  ·exact .inl (decide_eq_false h)
  ·right
   rw[YP];exact⟨m,hm,by rw[h];simp⟩
abbrev vQ (w:World) (Bx:Nat) (op:Int) (d f ot s t:Txt) (lo hi:Int) (W:World):Prop:=
 W.cell? ⟨Bx,0,none⟩=some (.int .i64 op)/\W.cell? ⟨Bx,1,none⟩=some (.string ⟨d.toArray⟩)/\W.cell? ⟨Bx,2,none⟩=some (.string ⟨f.toArray⟩)/\W.cell? ⟨Bx,3,none⟩=some (.string ⟨ot.toArray⟩)/\
 W.cell? ⟨Bx,4,none⟩=some (.string ⟨s.toArray⟩)/\W.cell? ⟨Bx,5,none⟩=some (.string ⟨t.toArray⟩)/\W.cell? ⟨Bx,6,none⟩=some (.int .i64 lo)/\W.cell? ⟨Bx,7,none⟩=some (.int .i64 hi)/\Below w.heap.size w W
theorem zc2 {w W:World} {Bx:Nat} {op:Int} {d f ot s t:Txt} {lo hi:Int} (h:W.heap[Bx]?=some (.cells #[.int .i64 op,.string ⟨d.toArray⟩,.string ⟨f.toArray⟩,.string ⟨ot.toArray⟩,.string ⟨s.toArray⟩,.string ⟨t.toArray⟩,.int .i64 lo,.int .i64 hi] 96 (0,0))) (hb:Below w.heap.size w W):vQ w Bx op d f ot s t lo hi W:=by
 refine⟨?_,?_,?_,?_,?_,?_,?_,?_,hb⟩<;>simp[World.cell?,h]
theorem vQ.later {w W W':World} {Bx:Nat} {op:Int} {d f ot s t:Txt} {lo hi:Int} (h:vQ w Bx op d f ot s t lo hi W) (hb:Below W.heap.size W W'):vQ w Bx op d f ot s t lo hi W':=by
 obtain⟨h0,h1,h2,h3,h4,h5,h6,h7,h8⟩:=h;have hlt:Bx<W.heap.size:=World.block_lt_of_cell? _ _ h0;have k: ∀j,W'.cell? ⟨Bx,j,none⟩=W.cell? ⟨Bx,j,none⟩:=fun j=>hb.cell (p:=⟨Bx,j,none⟩) hlt
 exact⟨(k 0).trans h0,(k 1).trans h1,(k 2).trans h2,(k 3).trans h3,(k 4).trans h4,(k 5).trans h5,(k 6).trans h6,(k 7).trans h7,h8.trans (hb.mono h8.size)⟩
theorem zc3 {W W':World} {base e k:Nat} {v:Value} {xs:List Value} (h:W.ownsRow base e 1 v k xs) {B:World} (_:Below B.heap.size B W) (hb:Below W.heap.size W W'):W'.ownsRow base e 1 v k xs:=
 h.kept (lI hb) (by cases v.ownBlock<;>simp)
theorem zoh: ∀(l:List Txt),(∀s∈l,s.length<=1000)->wJ l<=l.length*1000
 |[],_=>by simp[wJ]
 |m::l,h=>by
  have:=zoh l fun x hx=>h x (Zy _ hx)
  have h2:=h m (by simp);simp only[wJ,Zo];omega
theorem zv6 (base:Nat) (v:Value) (l:List Txt) (W:World) (h:W.ownsRow base 9 1 v l.length (l.map tV)) (hn:l.length<=1000) (hs:wJ l<=1000000):
  Calls Tryz.prog 157 #[v,.string ⟨#[32]⟩] W fun e w'=>e=.returned (.string ⟨(joinS [32] l).toArray⟩)/\Below W.heap.size W w':=by
 rcases h with⟨_,⟨hv,h0⟩|⟨g,cap,cur,hv,hg,hh,h5,h6,h7,h8⟩⟩
 ·obtain rfl:=Yg h0
  subst hv;exact zcC 0 none _ W
 ·subst hv
  have hc: ∀j,j<l.length->W.cell? ⟨g,j,none⟩=some (.string ⟨(l.getD j []).toArray⟩):=by
   intro j hj;have h9:=congrArg (fun x:List Value=>x[j]?) h8;simp only[Yv,List.getElem?_take_of_lt hj,Zz,Zf hj,YA] at h9;rw[Yu] at h9;simp only[World.cell?,hh];simp only[YT,Z1,if_false];rw[h9,Zi,Zf hj];rfl
  rcases Y7 l.length 2 with h2|h2
  ·rcases Y7 l.length 1 with h1|h1
   ·obtain rfl:=Yg (by omega:l.length=0)
    exact zcC cap _ _ W
   ·obtain⟨t,rfl⟩:=List.length_eq_one_iff.1 (by omega:l.length=1)
    exact znk cap g 0 _ _ W (hc 0 (by simp)) h5
  ·exact znj l [32] cap g 0 W (Zs.1 hh).1 (fun k hk=>by rw[ZY];exact hc k hk) h2 hn h5 (by decide) (by decide) hs
theorem zv7 (L:List Dmd) (hL:L.length<=8) (hm: ∀m∈L,DmdS m) (w:World) (hG:yN (base w)) (p:Option Addr) (cap b o:Nat) (hD:fD w L p b o):
  Calls Tryz.prog 141 #[.slice p L.length cap] w fun e w'=> ∃X:Txt,e=.returned (.tuple #[.string ⟨X.toArray⟩,.bool (sS L)])/\Below w.heap.size w w':=by
 obtain⟨n,hN⟩: ∃n,L.length=n:=⟨_,rfl⟩;have hN':Aside (L.length=n):=hN;rw[hN] at hL⊢;have hp:0<n->p=some ⟨b,o,none⟩:=fun h=>(hD.1 (by omega)).1
 have HD:Aside (fD w L p b o):=hD;clear hN hD;obtain⟨i0,hif,hz0,hz1,hz2⟩:=info_parts (show(Tryz.prog.info? 9).map (fun i=>(i.zero,i.size,i.bytes))=some (some (.string ⟨#[]⟩),1,16) by kernel_rfl);have mixed:Tryz.prog.follows Departure.mixedOrders=true:=by kernel_rfl
 go_enter Tryz.func141,Tryz.ntmps141
 go_wp2
 go_loopg [4,12] n (fun g v i wr=> ∃k:Nat,k<=n/\n-k=g/\i=.int .i64 k/\(k=0\/n<=20)/\(L.take k).all rM=true/\(∃Ws:List Txt,Ws.length=k/\(∀s∈Ws,s.length<=1000)/\wr.ownsRow w.heap.size 9 1 v k (Ws.map tV))/\Below w.heap.size w wr)
 case atStart=>exact⟨0,ZC _,rfl,rfl,.inl rfl,rfl,⟨[],rfl,by simp,World.ownsRow_nil _ _ _ _⟩,Below.refl _ _⟩
 case round=>
  obtain⟨k,hkn,rfl,rfl,hk0,hall,⟨Ws,hWl0,hWb0,hown⟩,hb⟩:=hrel;have hWl:Aside (Ws.length=k):=hWl0;have hWb:Aside (∀s∈Ws,s.length<=1000):=hWb0;clear hWl0 hWb0;by_cases hlt:k<n
  ·have hkl:(k:Int)<n:=by omega
   obtain⟨m,hmk⟩: ∃m,L.getD k wM=m:=⟨_,rfl⟩;have hmem:m∈L:=by
    rw[<-hmk,Zi,Zf (by rw[hN'.out];exact hlt)];exact Zv _
   obtain⟨c0,c1,c2,c3,c4,c5,c6,c7⟩:=HD.out.at (by rw[hN'.out];exact hlt) hb m hmk;have hs:=hm m hmem;obtain rfl:=hp (by omega);obtain⟨op,d,f,ot,s,t,lo,hi⟩:=m;simp only[] at c0 c1 c2 c3 c4 c5 c6 c7;have hB2: ∀o1,Below w.heap.size w (wr.alloc o1):=fun o1=>hb.alloc hb.size _
   have k79:=zm4 op d f ot s t lo hi;simp only[tV] at k79;rw[show okO op=okD op from rfl] at k79;cases hok:okD op with
   |false=>
    have hpr:Aside (sS L=false):=zc1 hmem (.inr (by unfold rM;simp only[];rw[hok];rfl));rw[hok] at k79
    go_wp2_with (go_at_call 205;refine(k79 _).mono ?_;rintro ex w1 ⟨rfl,hb1⟩)
    go_ret2
    rw[hpr.out];exact⟨[],rfl,(hB2 _).trans (hb1.mono (hB2 _).size)⟩
   |true=>
    rw[hok] at k79;by_cases h20:n<=20
    ·have h20': ¬(n:Int)>20:=by omega
     obtain⟨T,us,fd,fn,fw,hcl,hC⟩:=zv2 ⟨op,d,f,ot,s,t,lo,hi⟩ hs hok w hG;simp only[tV] at hcl;rw[hcl] at k79;clear hcl;have ed:=hC.ed;have en:=hC.en;have md:=hC.md;have mn:=hC.mn;have kd:=hC.kd;have kn:=hC.kn;obtain⟨dm,hdm⟩: ∃dm,aT ⟨op,d,f,ot,s,t,lo,hi⟩=dm:=⟨_,rfl⟩;rw[hdm] at kd;have HDM:Aside (aT ⟨op,d,f,ot,s,t,lo,hi⟩=dm):=hdm;clear hdm;have hne:=zv4 ⟨op,d,f,ot,s,t,lo,hi⟩ dm;have hgd:=fun o a b=>zv5 o a b ⟨op,d,f,ot,s,t,lo,hi⟩ dm
     obtain⟨op2,d2,f2,ot2,s2,t2,lo2,hi2⟩:=dm;have ev: ∀op d f ot s t lo hi,dmV ⟨op,d,f,ot,s,t,lo,hi⟩= #[.int .i64 op,.string ⟨d.toArray⟩,.string ⟨f.toArray⟩,.string ⟨ot.toArray⟩,.string ⟨s.toArray⟩,.string ⟨t.toArray⟩,.int .i64 lo,.int .i64 hi]:=fun _ _ _ _ _ _ _ _=>rfl
     rw[ev] at kd;rw[ev,ev] at hne;rw[ev,ev] at hgd;clear ev;have hQ1: ∀o1 w1,(Below (wr.alloc o1).heap.size (wr.alloc o1) w1)->w1.heap[wr.heap.size]?=some o1/\Below w.heap.size w w1:=fun o1 w1 hb1=>⟨(hb1.block _ (by simp)).trans (World.alloc_heap_new _ _),(hB2 _).trans (hb1.mono (hB2 _).size)⟩
     have hQ1b: ∀o1 w1,(Below (wr.alloc o1).heap.size (wr.alloc o1) w1)->Below wr.heap.size wr w1:=fun o1 w1 hb1=>((Below.refl _ wr).alloc (Zw _) o1).trans (hb1.mono (by simp))
     by_cases heq:(⟨op,d,f,ot,s,t,lo,hi⟩:Dmd)=⟨op2,d2,f2,ot2,s2,t2,lo2,hi2⟩
     ·have hdec:decide ((⟨op,d,f,ot,s,t,lo,hi⟩:Dmd)=⟨op2,d2,f2,ot2,s2,t2,lo2,hi2⟩)=true:=decide_eq_true heq
      rw[hdec,Bool.not_true] at hne;have HEQ:Aside ((⟨op,d,f,ot,s,t,lo,hi⟩:Dmd)=⟨op2,d2,f2,ot2,s2,t2,lo2,hi2⟩):=heq;clear hdec heq;cases hnm:aU ⟨op,d,f,ot,s,t,lo,hi⟩ with
      |false=>
       have hpr:Aside (sS L=false):=zc1 hmem (.inr (by unfold rM;rw[hnm,YW,YW]));rw[hnm] at kn
       go_wp2_with (go_at_call 205;refine(k79 _).mono ?_;rintro ex w1 ⟨rfl,hb1⟩)
       obtain⟨hq1,hb2⟩:=hQ1 _ _ hb1;have hfin:Aside (∀w',Below w1.drew.heap.size w1.drew w'->Below w.heap.size w w'):=fun w' h=>hb2.trans (((uB w1).trans h).mono hb2.size)
       have hS1:vQ w wr.heap.size op d f ot s t lo hi w1.drew:=(zc2 hq1 hb2).later (uB w1)
       go_region_held3 (fun W=>vQ w wr.heap.size op d f ot s t lo hi W) (first|exact hS1|exact vQ.later (by assumption) hbN|exact vQ.later (by assumption) hbM) (first|(go_at_fn fd;refine(kd _ (by simp[*])).mono ?_;rintro ex w2 ⟨rfl,hbM⟩)|(go_at_fn fn;refine(kn _ (by simp[*])).mono ?_;rintro ex w3 ⟨rfl,hbN⟩))
       go_wp2
       go_ret2
       rw[hpr.out];exact⟨[],rfl,hfin.out _ (hbM.trans (hbN.mono hbM.size))⟩
      |true=>
       have hfine:rM ⟨op,d,f,ot,s,t,lo,hi⟩=true:=by
        unfold rM;rw[HDM.out,hnm,hok,ZU,Bool.and_true];exact decide_eq_true HEQ.out
       have htk:L.take (k+1)=L.take k++[⟨op,d,f,ot,s,t,lo,hi⟩]:=by
        have hkL:k<L.length:=by rw[hN'.out];exact hlt
        rw[ZD hkL];rw[Zi,Zf hkL] at hmk;rw[<-hmk];rfl
       have HFN:Aside (rM ⟨op,d,f,ot,s,t,lo,hi⟩=true):=hfine;have HA:Aside ((L.take (k+1)).all rM=true):=show _=_ by rw[htk,List.all_append,hall];simp[hfine]
       clear htk hfine;rw[hnm] at kn;have kw:=hC.kw;have ew:=hC.ew;have mw:=hC.mw
       go_wp2_with (go_at_call 205;refine(k79 _).mono ?_;rintro ex w1 ⟨rfl,hb1⟩)
       obtain⟨hq1,hb2⟩:=hQ1 _ _ hb1;have hfin:Aside (∀w',Below w1.drew.heap.size w1.drew w'->Below w.heap.size w w'):=fun w' h=>hb2.trans (((uB w1).trans h).mono hb2.size)
       have hS1:vQ w wr.heap.size op d f ot s t lo hi w1.drew:=(zc2 hq1 hb2).later (uB w1)
       go_region_held3 (fun W=>vQ w wr.heap.size op d f ot s t lo hi W) (first|exact hS1|exact vQ.later (by assumption) hbN|exact vQ.later (by assumption) hbM) (first|(go_at_fn fd;refine(kd _ (by simp[*])).mono ?_;rintro ex w2 ⟨rfl,hbM⟩)|(go_at_fn fn;refine(kn _ (by simp[*])).mono ?_;rintro ex w3 ⟨rfl,hbN⟩))
       have hB3:=hfin.out _ (hbM.trans (hbN.mono hbM.size));have hown3:=(zc3 (zc3 hown hb (hQ1b _ _ hb1)) hb2 ((uB w1).trans (hbM.trans (hbN.mono hbM.size))))
       go_wp2_with (first|(go_at_fn fw;refine(kw _ hB3).mono ?_;rintro ex w4 ⟨sw,hsw0,rfl,hb4⟩;have hsw:Aside (sw.length<=1000):=hsw0 HFN.out;clear hsw0;have hown4:=zc3 hown3 hB3 hb4)|(at_builtin;refine wpList_append_own_at _ rfl _ _ 35 rfl w.heap.size 9 i0 (.string ⟨#[]⟩) 1 16 Tryz.underlying35 hif hz0 hz1 hz2 rfl (by decide) _ _ _ rfl (hown4.alloc _) ⟨w4.heap.size,0,none⟩ 1 1 [tV sw] rfl rfl (cell_one_new _ _ _) (by intro u hu;rw[ZT.1 hu];rfl) (by unfold maxLen;omega) (by omega) (ZX (hB3.trans (hb4.mono hB3.size)).size (by simp)) ?_;intro v6 w6 hr6 hg6 hnil6 hat6;clear hnil6))
       have hB4:=hB3.trans (hb4.mono hB3.size);have hB5:=hB4.alloc hB4.size (.cells #[tV sw] 9);have hB6:Below w.heap.size w w6:=hB5.grown hg6 hB5.size (fun j hj=>(hown4.lt j hj).1)
       go_roundg (n-(k+1))
       case measure=>omega
       case rel=>exact⟨k+1,by omega,rfl,by go_num,.inr h20,HA.out,⟨Ws++[sw],by rw[Zq,hWl.out];rfl,fun s hs=>(Yo.1 hs).elim (hWb.out s) (fun q=>by rw[ZT.1 q];exact hsw.out),by rw[ZS];exact hr6⟩,hB6⟩
     ·have hdec:decide ((⟨op,d,f,ot,s,t,lo,hi⟩:Dmd)=⟨op2,d2,f2,ot2,s2,t2,lo2,hi2⟩)=false:=decide_eq_false heq
      have hpr:Aside (sS L=false):=zc1 hmem (.inr (by unfold rM;rw[HDM.out,hdec,Z4,YW]));rw[hdec,Bool.not_false] at hne;clear hdec heq
      go_wp2_with (go_at_call 205;refine(k79 _).mono ?_;rintro ex w1 ⟨rfl,hb1⟩)
      obtain⟨hq1,hb2⟩:=hQ1 _ _ hb1;have hfin:Aside (∀w',Below w1.drew.heap.size w1.drew w'->Below w.heap.size w w'):=fun w' h=>hb2.trans (((uB w1).trans h).mono hb2.size)
      have hS1:vQ w wr.heap.size op d f ot s t lo hi w1.drew:=(zc2 hq1 hb2).later (uB w1);refine wp_region_held (S:=fun W=>vQ w wr.heap.size op d f ot s t lo hi W) mixed ?_;show wpAnyH _ _ _ _ _ 9 _ _ _;refine wpAnyH_take (S:=fun W=>vQ w wr.heap.size op d f ot s t lo hi W) (i:=0) (v:=.agg #[.int .i64 op,.string ⟨d.toArray⟩,.string ⟨f.toArray⟩,.string ⟨ot.toArray⟩,.string ⟨s.toArray⟩,.string ⟨t.toArray⟩,.int .i64 lo,.int .i64 hi]) rfl (by kernel_rfl) (by kernel_rfl) (by kernel_rfl) (fun c a w h=>h) (.inl ⟨rfl,fun W hS=>?_⟩) hS1 ?_
      ·obtain⟨z0,z1,z2,z3,z4,z5,z6,z7,_⟩:=hS
       go_simp
      simp only[Act.put,ZV,Z8,Yb];refine wpAnyH_take (S:=fun W=>vQ w wr.heap.size op d f ot s t lo hi W) (i:=1) (v:=.iface T (.agg us)) rfl (by kernel_rfl) (by kernel_rfl) (by kernel_rfl) (fun c a w h=>h) (.inl ⟨rfl,fun W hS=>?_⟩) hS1 ?_
      ·obtain⟨z0,z1,z2,z3,z4,z5,z6,z7,_⟩:=hS
       go_simp
      simp only[Act.put,ZV,Z8,Yb];refine wpAnyH_all (rs:=[2]) (by kernel_rfl) (by simp) fun i hiq=>?_
      obtain rfl:=ZT.1 hiq;refine Or.inl (?_:Oper.wp Tryz.prog _ _ _ _ _)
      go_wp2_with (go_at_fn fd;refine(kd _ hS1.2.2.2.2.2.2.2.2).mono ?_;rintro ex w2 ⟨rfl,hbM⟩)
      have hS2:vQ w wr.heap.size op d f ot s t lo hi w2:=hS1.later hbM;refine⟨hS2,?_⟩;refine wpAnyH_take (S:=fun W=>vQ w wr.heap.size op d f ot s t lo hi W) (i:=3) (v:=.bool true) rfl (by kernel_rfl) (by kernel_rfl) (by kernel_rfl) (fun c a w h=>h) (.inl ⟨rfl,fun W hS=>?_⟩) hS2 ?_
      ·obtain⟨z0,z1,z2,z3,z4,z5,z6,z7,_⟩:=hS
       go_simp
      simp only[Act.put,ZV,Z8,Yb];refine wpAnyH_take (S:=fun W=>vQ w wr.heap.size op d f ot s t lo hi W) (i:=4) (v:=.bool true) rfl (by kernel_rfl) (by kernel_rfl) (by kernel_rfl) (fun c a w h=>h) (.inl ⟨rfl,fun W hS=>?_⟩) hS2 ?_
      ·obtain⟨z0,z1,z2,z3,z4,z5,z6,z7,_⟩:=hS
       go_simp
      simp only[Act.put,ZV,Z8,Yb];refine wpAnyH_take (S:=fun W=>vQ w wr.heap.size op d f ot s t lo hi W) (i:=5) (v:=undef) rfl (by kernel_rfl) (by kernel_rfl) (by kernel_rfl) (fun c a w h=>h) (.inr ⟨rfl,rfl⟩) hS2 ?_;simp only[Act.put,ZV,Z8,Yb];refine wpAnyH_take (S:=fun W=>vQ w wr.heap.size op d f ot s t lo hi W) (i:=6) (v:=undef) rfl (by kernel_rfl) (by kernel_rfl) (by kernel_rfl) (fun c a w h=>h) (.inr ⟨rfl,rfl⟩) hS2 ?_;simp only[Act.put,ZV,Z8,Yb];refine wpAnyH_take (S:=fun W=>vQ w wr.heap.size op d f ot s t lo hi W) (i:=7) (v:=undef) rfl (by kernel_rfl) (by kernel_rfl) (by kernel_rfl) (fun c a w h=>h) (.inr ⟨rfl,rfl⟩) hS2 ?_;simp only[Act.put,ZV,Z8,Yb];refine wpAnyH_take (S:=fun W=>vQ w wr.heap.size op d f ot s t lo hi W) (i:=8) (v:=.bool true) rfl (by kernel_rfl) (by kernel_rfl) (by kernel_rfl) (fun c a w h=>h) (.inl ⟨rfl,fun W hS=>?_⟩) hS2 ?_
      ·obtain⟨z0,z1,z2,z3,z4,z5,z6,z7,_⟩:=hS
       go_simp
      simp only[Act.put,ZV,Z8,Yb];refine wpAnyH_done (S:=fun W=>vQ w wr.heap.size op d f ot s t lo hi W) (by kernel_rfl) ?_ _
      go_wp2
      go_ret2
      rw[hpr.out];exact⟨[],rfl,hfin.out _ hbM⟩
    ·exact absurd (show n<=20 by omega) h20
  ·obtain rfl:k=n:=by omega
   have hkl: ¬(k:Int)<k:=by omega
   have htk:L.take k=L:=Z7 (by rw[hN'.out];exact Zw _);rw[htk] at hall;have hfl:sS L=true:=by
    unfold sS;rw[Yp,Zr,decide_eq_true_eq,decide_eq_true_eq];rcases hk0 with h|h
    ·exact .inl (Yg (by rw[hN'.out];exact h))
    ·exact .inr ⟨by rw[hN'.out];exact h,hall⟩
   have hsum:wJ Ws<=Ws.length*1000:=zoh Ws hWb.out;have hk20:k<=8:=hL;have hWk:=hWl.out;have hJ:Aside (Calls Tryz.prog 157 #[u4,.string ⟨#[32]⟩] wr fun e w'=>e=.returned (.string ⟨(joinS [32] Ws).toArray⟩)/\Below wr.heap.size wr w'):=by
    show Calls _ _ _ _ _;refine zv6 w.heap.size u4 Ws wr (by rw[hWk];exact hown) (by omega) (by omega)
   have hXl:=bN [32] Ws;simp only[Zo,ZF] at hXl;obtain⟨X,hX⟩: ∃X,joinS [32] Ws=X:=⟨_,rfl⟩;rw[hX] at hJ hXl;have hle:X.length<=20000:=by omega
   have hsz:(⟨X.toArray⟩:ByteArray).size=X.length:=by show X.toArray.size=_;simp
   have HFL:Aside (sS L=true):=hfl;clear hown hall htk hfl hsum hX hm hk0 hkn hk20 hp HD hN' hif hz0 hz1 hz2 hG hXl hWk hWl hWb;have hle': ¬(X.length:Int)>20000:=by omega
   go_wp2_with (go_at_call 157;refine Calls.mono hJ.out ?_;rintro e w' ⟨rfl,hb2⟩)
   go_ret2
   rw[HFL.out];exact⟨X,rfl,hb.trans (hb2.mono hb.size)⟩
end Go.Proofs
namespace Go.Proofs
open Go.RowKit Go.Shelf Go.Abs Go.Wd Go.Wire Go.Ex
attribute [local go_sem] Oper.semAt_some
abbrev U8:Type:={x:Nat//x<256}
def zc4 (x:U8):Array Value:= #[.int .u64 (x.1:Int)]
structure FailAt (L:List Dmd) (D:List Dcm) (b1 b2 b3 b4:Nat) (vl vd vc:Value) (W:World):Prop where
 c1:W.cell? ⟨b1,0,none⟩=some (.int .i64 (yF D:Nat))
 c2:W.cell? ⟨b2,0,none⟩=some vl
 c3:W.cell? ⟨b3,0,none⟩=some vd
 c4:W.cell? ⟨b4,0,none⟩=some vc
 pl:PRep W (zV W) (zB 8 (L.map zU)) vl
 pd:PRep W (zV W) (zB 2 (D.map zJ)) vd
 pc:PRep W (zV W) (zB 1 (zG (cnts D).1)) vc
 gl:yN (base W)
theorem FailAt.later {L:List Dmd} {D:List Dcm} {b1 b2 b3 b4:Nat} {vl vd vc:Value} {W W':World} (h:FailAt L D b1 b2 b3 b4 vl vd vc W) (hb:Below W.heap.size W W'):FailAt L D b1 b2 b3 b4 vl vd vc W':=by
 have k: ∀(b:Nat) v,W.cell? ⟨b,0,none⟩=some v->W'.cell? ⟨b,0,none⟩=some v:=fun b v h0=>(hb.cell (p:=⟨b,0,none⟩) (World.block_lt_of_cell? _ _ h0)).trans h0
 exact⟨k _ _ h.c1,k _ _ h.c2,k _ _ h.c3,k _ _ h.c4,sC h.pl hb,sC h.pd hb,sC h.pc hb,h.gl.later (xM hb)⟩
theorem zv8 {l:List Nat} {j:Nat} (h:j<l.length):uE (l.take (j+1))=uE (l.take j)|||(1<<<l[j]):=by
 unfold uE;rw[ZD h,Xz];rfl
theorem zoi {s t:Nat} (hs:s<256) (ht:t<256):IntKind.u64.wrap ((Yn IntKind.u64.bits (s:Int)|||Yn IntKind.u64.bits (t:Int)).toNat:Int)=((s|||t:Nat):Int):=by
 show IntKind.u64.wrap ((Yn 64 (s:Int)|||Yn 64 (t:Int)).toNat:Int)=_;rw[jP,jP,BitVec.toNat_or,XI,XI,XH (by omega),XH (by omega)];exact lO (ZO (Nat.or_lt_two_pow (n:=8) hs ht) (by decide))
theorem orK (s x:Nat) (hs:s<2 ^ 8) (hx:x<8):Value.int IntKind.u64 (bits BinOp.or IntKind.u64 (s:Int) (IntKind.u64.wrap (2 ^ x)))=Value.int IntKind.u64 ((s|||1<<<x:Nat):Int):=by
 have h1:=zcZ x (by omega);have e:min x IntKind.u64.bits=x:=YV (show x<=64 by omega);rw[e,Int.one_mul] at h1;rw[h1];have h2:1<<<x<256:=by rw[XW];exact(Nat.pow_lt_pow_right (by decide) hx:2 ^ x<2 ^ 8)
 rw[<-zoi hs h2];rfl
abbrev SF (L:List Dmd) (D:List Dcm) (b1 b2 b3 b4:Nat) (vl vd vc:Value) (w wr:World) (Kp:World->World->Prop) (W:World):Prop:=
 W.cell? ⟨b2,0,none⟩=some vl/\W.cell? ⟨b3,0,none⟩=some vd/\W.cell? ⟨b4,0,none⟩=some vc/\FailAt L D b1 b2 b3 b4 vl vd vc W/\Kp w W/\Below wr.heap.size wr W
theorem zv9 (n:Nat) (hn:3<=n) (L:List Dmd) (D:List Dcm) (hL:L.length<=8) (hD:rG D) (hok:CntOk D) (hp: ∀i,i<yF D->tA (rdsD D i)) (b1 b2 b3 b4:Nat) (vl vd vc:Value) (w:World)
  (Kp:World->World->Prop) (hKr:Kp w w) (hKt: ∀A B C,Kp A B->Kp B C->Kp A C) (hKb: ∀A B,Kp w A->Below A.heap.size A B->Kp w B) (hW: ∀W,Kp w W->FailAt L D b1 b2 b3 b4 vl vd vc W):
  bJ Fence.wide n Tryz.prog 206 #[.pointer (some ⟨b1,0,none⟩),.pointer (some ⟨b2,0,none⟩),.pointer (some ⟨b3,0,none⟩),.pointer (some ⟨b4,0,none⟩)] zc4 Kp (fun xs=>xs.map (fun x=>x.1)=yT L D) (yF D) w:=by
 intro l J W hKW hJ hY h0;have h1n:1<=n:=by omega
 have mixed:Tryz.prog.follows Departure.mixedOrders=true:=by kernel_rfl
 have hle:=hok.le;have hlen:(yT L D).length=yF D:=by simp[yT]
 obtain⟨N,hN⟩: ∃N,yF D=N:=⟨_,rfl⟩;have hF0:=hW W hKW;have c1:=hF0.c1;rw[hN] at c1 hle hlen hp hY;have k38: ∀(k:Nat) W',k<N->FailAt L D b1 b2 b3 b4 vl vd vc W'->Calls Tryz.prog 116 #[vd,vc,.int .i64 k] W' fun e W''=> ∃v,e=.returned v/\Below W'.heap.size W' W''/\PRep W'' (zV W'') (zB 3 (uU (rdsD D k))) v:=fun k W' hk h=>
  (c38 D hD hok k (by omega)).listC h.gl (Z:=zV W') (fun _ h=>h) (wS h.pd (wS h.pc (wS (.int .i64 (k:Int)) (yY _ _))))
 have k15: ∀(k:Nat) W' v,k<N->FailAt L D b1 b2 b3 b4 vl vd vc W'->PRep W' (zV W') (zB 3 (uU (rdsD D k))) v->Calls Tryz.prog 99 #[vl,v] W' fun e W''=> ∃p b o cap,e=.returned (.slice p (uD L (rdsD D k)).length cap)/\Below W'.heap.size W' W''/\mD W'' p b o (natI (uD L (rdsD D k))):=fun k W' v hk h hv=>by
  refine((c15 L (rdsD D k) (by omega) (hp k hk)).listC h.gl (Z:=zV W') (fun _ h=>h) (wS h.pl (wS hv (yY _ _)))).mono ?_;rintro e W'' ⟨v2,rfl,hb,hp2⟩;obtain⟨p,b,o,cap,rfl,hi⟩:=gV hp2;rw[wX] at*
  exact⟨p,b,o,cap,rfl,hb,hi⟩
 refine callsIn_of_wp Tryz.func206 rfl trivial ?_ rfl;simp only[Tryz.ntmps206,Yx,Zo,ZF,Zc,Y9,YI,YH,YS,YO,Yd,ZQ]
 gi_wp2
 gi_loopw [11] (fun q wr=> ∃(k:Nat) (pre:List U8),k<=N/\q=.int .i64 k/\pre.map (fun x=>x.1)=(yT L D).take k/\pre.length=k/\J pre wr/\Kp w wr)
  (fun q wr=>match q with| .int _ z=>N-z.toNat|_=>0)
 case atStart=>exact⟨0,[],ZC _,rfl,rfl,rfl,h0,hKW⟩
 case round=>
  obtain⟨k,pre,hk,rfl,hpre,hpl,hJw,hKp⟩:=hrel;by_cases hlt:k<N
  ·have hlti:(k:Int)<N:=by omega
   have hF:=hW wr hKp;have hS0:SF L D b1 b2 b3 b4 vl vd vc w wr Kp wr.drew:=⟨hF.c2,hF.c3,hF.c4,hF.later (uB wr),hKb _ _ hKp (uB wr),uB wr⟩;have hSl: ∀A B,SF L D b1 b2 b3 b4 vl vd vc w wr Kp A->Below A.heap.size A B->SF L D b1 b2 b3 b4 vl vd vc w wr Kp B:=fun A B hA hb=>⟨(hA.2.2.2.1.later hb).c2,(hA.2.2.2.1.later hb).c3,(hA.2.2.2.1.later hb).c4,hA.2.2.2.1.later hb,hKb _ _ hA.2.2.2.2.1 hb,hA.2.2.2.2.2.trans (hb.mono hA.2.2.2.2.2.size)⟩
   clear hF;have A0:Aside _:=hF0;have A1:Aside _:=hY;have A2:Aside _:=hJ;have A3:Aside _:=hJw;clear hF0 hY hJ hJw h0 hW
   gi_wp2
   refine wpIn_wide.2 ?_
   go_region_held3 (fun W=>SF L D b1 b2 b3 b4 vl vd vc w wr Kp W) (first|exact hS0|exact hSl _ _ (by assumption) hb3|exact hSl _ _ (by assumption) hb2) (first|(go_at_call 99;refine(k15 k _ v18 hlt (by simp[*]) hp2).mono ?_;rintro e w3 ⟨p,b,o,cap,rfl,hb3,hi3⟩)|(go_at_call 116;refine(k38 k _ hlt (by simp[*])).mono ?_;rintro e w2 ⟨v18,rfl,hb2,hp2⟩))
   have hS3:SF L D b1 b2 b3 b4 vl vd vc w wr Kp w3:=by assumption
   have hx8: ∀x∈uD L (rdsD D k),x<8:=fun x hx=>ZO (zcJ.1 hx).1 hL
   have hm8:(uD L (rdsD D k)).length<=8:=ZX (Yq _ _) (by simpa using hL);have HX:Aside ((yT L D).take (k+1)=(yT L D).take k++[uE (uD L (rdsD D k))]):=show _=_ by
    rw[ZD (by rw[hlen];exact hlt)];simp[yT]
   obtain⟨hi4,hi5⟩:=hi3;rw[wX] at hi4 hi5;have B3:Aside _:=hS3.2.2.2.2.1;have B4:Aside _:=hS3.2.2.2.2.2;obtain⟨F,hFe⟩: ∃F,uD L (rdsD D k)=F:=⟨_,rfl⟩;rw[hFe] at hx8 hm8 HX hi4 hi5;rw[hFe];have HI:Aside (∀j,j<F.length->w3.cell? ⟨b,o+j,none⟩=some (.int .i64 ((natI F).getD j 0))):=hi5;obtain⟨m,hm⟩: ∃m,F.length=m:=⟨_,rfl⟩;have HM:Aside (F.length=m):=hm;rw[hm] at hm8 hi4⊢;clear hi5 hS3 hp2 hFe hm k15 k38 hS0 hSl
   gi_wp2
   gi_loopw [7,21] (fun s q w5=> ∃j:Nat,j<=m/\q=.int .i64 j/\s=.int .u64 (uE (F.take j):Nat)/\w5=w3)
    (fun s q w5=>match q with| .int _ z=>m-z.toNat|_=>0)
   case atStart=>exact⟨0,ZC _,rfl,rfl,rfl⟩
   case round=>
    obtain⟨j,hj,rfl,rfl,rfl⟩:=hrel;by_cases hjm:j<m
    ·have hjF:j<F.length:=by rw[HM.out];exact hjm
     have hcj:=HI.out j hjF;have hgd:(natI F).getD j 0=(F[j]:Int):=by simp[natI,List.getD,hjF]
     rw[hgd] at hcj;obtain rfl:=hi4 (by omega);have hjmi:(j:Int)<m:=by omega
     have HT:Aside (uE (F.take (j+1))=uE (F.take j)|||(1<<<F[j])):=zv8 hjF;have hxj:=hx8 _ (Zv hjF);have hs8:uE (F.take j)<2 ^ 8:=bZ fun q hq=>hx8 q (Xf hq)
     obtain⟨x,hx⟩: ∃x,F[j]=x:=⟨_,rfl⟩;obtain⟨s,hs⟩: ∃s,uE (F.take j)=s:=⟨_,rfl⟩;rw[hx] at hcj HT hxj;rw[hs] at HT hs8⊢;clear hx hs hgd hjF hx8
     gi_wp2
     refine⟨⟨j+1,hjm,by rw[Int.natCast_add];rfl,?_,trivial⟩,by simp only[];omega⟩;rw[HT.out,orK s x hs8 hxj]
    ·obtain rfl:j=m:=by omega
     have htk:F.take j=F:=Z7 (by rw[HM.out];exact Zw _);rw[htk];have hjj: ¬(j:Int)<j:=by omega
     have hF8:uE F<256:=bZ (m:=8) fun q hq=>hx8 q hq
     obtain⟨fn,tmps,assign,body,hy,hR⟩:=A1.out pre ⟨uE F,hF8⟩ wr (A2.out _ _ _ A3.out B4.out) (by rw[hpl];exact hlt);simp only[zc4] at hy;clear hx8
     gi_wp2
     refine hR.mono ?_;rintro e W3 ⟨rfl,hJ3,hk3⟩
     gi_wp2
     refine⟨⟨k+1,pre++[⟨uE F,hF8⟩],hlt,by rw[Int.natCast_add];rfl,by rw[HX.out,ZS,hpre];rfl,by rw[Zq,hpl];rfl,hJ3,hKt _ _ _ B3.out hk3⟩,by simp only[];omega⟩
  ·obtain rfl:k=N:=by omega
   have hkk: ¬(k:Int)<k:=by omega
   have hall:pre.map (fun x=>x.1)=yT L D:=by rw[hpre,Z7 (by omega)]
   clear k38 k15 hW hY hJ
   gi_wp2
   go_end0
   exact⟨⟨_,rfl⟩,pre,hall,hJw⟩
end Go.Proofs
namespace Go.Ex
theorem zoj (x:Nat): ∀(F acc:List Nat),wL (F++[x]) acc=if x∈wL F acc then wL F acc else wL F acc++[x]
 |[],acc=>rfl
 |f::F,acc=>by rw[ZQ,wL,wL,zoj x F]
theorem zc5 (F acc:List Nat):(wL F acc).length<=F.length+acc.length:=by
 induction F generalizing acc with
 |nil=>simp[wL]
 |cons f F ih=>
  rw[wL];refine ZX (ih _) ?_;split<;>simp<;>omega
end Go.Ex
namespace Go.Proofs
open Go.RowKit Go.Shelf Go.Abs Go.Wd Go.Wire Go.Ex Go.Maps Go.ChangeMaps
def uF (W:World) (mb:Nat) (S:List Nat) (m:Nat):Prop:= ∃D:DataW Unit,W.ownsMap Tryz.prog 115 (plainElem Tryz.prog 4) mb m D/\IsMap D/\ ∀x:Nat,x<256->D.atKey (.int .u64 (x:Int)) (.lit (.bool false))=.lit (.bool (decide (x∈S)))
theorem zok:Keyed Tryz.prog 115:=int_keyed Tryz.underlying115
theorem wfU (x:Nat) (h:x<256):(Lit.int .u64 (x:Int)).wf=true:=by
 have:IntKind.u64.wrap (x:Int)=x:=lO (by omega);have e1:IntKind.u64.min=0:=by decide
 have e2:IntKind.u64.max=18446744073709551615:=by decide
 simp[Lit.wf,this];rw[e1,e2];omega
theorem zol (x:Nat) (h:x<256):keyOf Tryz.prog 115 (.int .u64 (x:Int))=some (.int .u64 (x:Int)):=keyOf_int_mk Tryz.underlying115 (wfU x h)
theorem uF.made (w:World):uF (w.alloc (.map #[] 0)) w.heap.size [] 0:=⟨.map [],World.ownsMap_made _ _ _ _,⟨[],rfl⟩,fun x _=>by simp;rfl⟩
theorem uF.kept {W W':World} {mb m:Nat} {S:List Nat} {row:Option Nat} (h:uF W mb S m) (hg:W.grownBy W' row) (hne:some mb≠row):uF W' mb S m:=by
 obtain⟨D,h1,h2,h3⟩:=h;exact⟨D,h1.kept hg hne,h2,h3⟩
theorem uF.setCell {W:World} {mb m:Nat} {S:List Nat} (h:uF W mb S m) {a:Addr} (ha:mb≠a.block) (u:Value):uF (W.setCell a u) mb S m:=by
 obtain⟨D,h1,h2,h3⟩:=h;exact⟨D,h1.setCell ha u,h2,h3⟩
theorem uF.lt {W:World} {mb m:Nat} {S:List Nat} (h:uF W mb S m):mb<W.heap.size:=by
 obtain⟨D,h1,_⟩:=h;exact h1.lt
theorem uF.look {W:World} {mb m:Nat} {S:List Nat} (h:uF W mb S m) {x:Nat} (hx:x<256):(Instr.lookup 169 (.map (some mb)) (.int .u64 (x:Int)) false).run Tryz.prog W=.ok (.bool (decide (x∈S))) W:=by
 obtain⟨D,h1,h2,h3⟩:=h;have hz:(zeroValue 4).run Tryz.prog W=.ok (.bool false) W:=by kernel_rfl
 obtain⟨v,ps,hr,hv⟩:=h1.lookup zok Tryz.underlying169 hz (plainElem_bool Tryz.underlying4 false) (zol x hx);rw[h3 x hx] at hv;unfold plainElem at hv;rw[Tryz.underlying4] at hv;cases v<;>simp at hv
 rw[hr,hv.1]
theorem uF.put {W:World} {mb m:Nat} {S:List Nat} (h:uF W mb S m) (hm:m<maxLen) {x:Nat} (hx:x<256): ∃W',(Instr.mapUpdate 169 (.map (some mb)) (.int .u64 (x:Int)) (.bool true)).run Tryz.prog W=.ok () W'/\uF W' mb (S++[x]) (m+1)/\W.grownBy W' (some mb):=by
 obtain⟨D,h1,h2,h3⟩:=h;obtain⟨W',hr,ho,hg⟩:=h1.update zok Tryz.underlying169 hm (zol x hx) (plainElem_bool Tryz.underlying4 true);refine⟨W',hr,⟨_,ho,h2.put _ _,fun y hy=>?_⟩,hg⟩;by_cases e:y=x
 ·subst e
  rw[atKey_put_same h2 (show WideAt.IsKeyLit (.int .u64 (y:Int)) from trivial)];simp
 ·rw[atKey_put_other (fun q=>e (by injection q with _ q;omega)),h3 y hy]
  simp[e]
structure LkI (n0:Nat) (w W0:World) (N bv bs bm mb:Nat) (pre:List U8) (W:World):Prop where
 v: ∃vs:Value,W.heap[bv]?=some (.cells #[vs,.int .u64 ((pre.map fun x=>x.1).foldl (· &&& ·) n0:Nat),.int .u64 0] 117 (0,0))/\W.ownsRow N 115 1 vs (wL (pre.map fun x=>x.1) []).length ((wL (pre.map fun x=>x.1) []).map fun(s:Nat)=>Value.int .u64 (s:Int))
 s:W.heap[bs]?=some (.cells #[.int .u64 ((pre.map fun x=>x.1).foldl (· ||| ·) 0:Nat)] 115 (0,0))
 m:W.heap[bm]?=some (.cells #[.map (some mb)] 169 (0,0))
 mp:uF W mb (wL (pre.map fun x=>x.1) []) pre.length
 kp:KpR N bv bs mb W0 W
 bl:Below w.heap.size w W
theorem aV {W:World} {base e k:Nat} {v:Value} {xs:List Value} (h:W.ownsRow base e 1 v k xs) {g:Nat} (hg:v.ownBlock=some g): ∃cur,W.heap[g]?=some (.cells cur e (0,0))/\base<=g:=by
 rcases h with⟨_,⟨hv,_⟩|⟨g2,cap,cur,hv,hb,hh,_⟩⟩
 ·subst hv;simp[Value.ownBlock] at hg
 ·subst hv
  simp[Value.ownBlock] at hg;subst hg;exact⟨cur,hh,hb⟩
theorem LkI.own {n0:Nat} {w W0:World} {N bv bs bm mb:Nat} (hv:bv<N) (hs:bs<N) (hm:bm<N) (hmb:mb<N) (hw:w.heap.size<=N) (hW:N<=W0.heap.size):OwnFrom N (LkI n0 w W0 N bv bs bm mb):=by
 rintro pre A B row ⟨⟨vs,k1,k2⟩,k3,k4,k5,k6,k7⟩ hg hr;have hsz:N<=A.heap.size:=ZX hW k6.1;have hb: ∀j,j<N->B.heap[j]?=A.heap[j]?:=fun j hj=>hg.block j (by omega) (fun e=>by have:=(hr j e.symm).1;omega)
 refine⟨⟨vs,(hb _ hv).trans k1,k2.kept hg ?_⟩,(hb _ hs).trans k3,(hb _ hm).trans k4,k5.kept hg (fun e=>by have:=(hr mb e.symm).1;omega),k6.trans (KpR.grown hsz hg fun r e=>(hr r e).1),k7.grown hg (ZX hw hsz) fun r e=>by have:=(hr r e).1;omega⟩;cases q:vs.ownBlock with
 |none=>exact .inl rfl
 |some g=>
  right;intro e;obtain⟨cur,hc,_⟩:=aV k2 q;obtain⟨_,o,ho,hno⟩:=hr g e.symm;rw[hc] at ho;cases ho;cases hno
theorem zom {n0:Nat} {w W0:World} {N bv bs bm mb:Nat} {pre:List U8} {W W3:World} {vs:Value} {x:U8} (h:LkI n0 w W0 N bv bs bm mb pre W) (nv:bv<N) (ns:bs<N) (nm:mb<N) (nb:bm<N) (d1:bv≠bs) (d2:bv≠mb) (d3:bs≠mb) (d4:bm≠bv) (d5:bm≠bs) (gv:w.heap.size<=bv) (gs:w.heap.size<=bs) (hN:N<=W.heap.size)
  (hv:W3.heap[bv]?=some (.cells #[vs,.int .u64 ((pre.map fun x=>x.1).foldl (· &&& ·) n0:Nat),.int .u64 0] 117 (0,0))) (hs:W3.heap[bs]?=W.heap[bs]?) (hm:W3.heap[bm]?=W.heap[bm]?)
  (hr:W3.ownsRow N 115 1 vs (wL ((pre++[x]).map fun x=>x.1) []).length ((wL ((pre++[x]).map fun x=>x.1) []).map fun(s:Nat)=>Value.int .u64 (s:Int))) (hp:uF W3 mb (wL ((pre++[x]).map fun x=>x.1) []) (pre.length+1))
  (kp:KpR N bv bs mb W W3) (bl:Below w.heap.size w W3) (kf:KeepsFrom N W W3) (a b:Nat) (ha:a=((pre++[x]).map fun x=>x.1).foldl (· &&& ·) n0) (hb:b=((pre++[x]).map fun x=>x.1).foldl (· ||| ·) 0):
  KeepsFrom N W ((W3.setCell ⟨bv,1,none⟩ (.int .u64 (a:Int))).setCell ⟨bs,0,none⟩ (.int .u64 (b:Int)))/\KpR N bv bs mb W ((W3.setCell ⟨bv,1,none⟩ (.int .u64 (a:Int))).setCell ⟨bs,0,none⟩ (.int .u64 (b:Int)))/\LkI n0 w W0 N bv bs bm mb (pre++[x]) ((W3.setCell ⟨bv,1,none⟩ (.int .u64 (a:Int))).setCell ⟨bs,0,none⟩ (.int .u64 (b:Int))):=by
 subst ha hb;have e1:=tG W3 bv 1 _ 117 (0,0) (.int .u64 (((pre++[x]).map fun x=>x.1).foldl (· &&& ·) n0:Nat)) hv;obtain⟨X,hX⟩: ∃X,W3.setCell ⟨bv,1,none⟩ (.int .u64 (((pre++[x]).map fun x=>x.1).foldl (· &&& ·) n0:Nat))=X:=⟨_,rfl⟩;have oX: ∀j,j≠bv->X.heap[j]?=W3.heap[j]?:=fun j hj=>by rw[<-hX];exact zyS _ _ _ _ hj
 have szX:X.heap.size=W3.heap.size:=by rw[<-hX];simp
 have rX:X.ownsRow N 115 1 vs (wL ((pre++[x]).map fun x=>x.1) []).length ((wL ((pre++[x]).map fun x=>x.1) []).map fun(s:Nat)=>Value.int .u64 (s:Int)):=by rw[<-hX];exact ownsRow_setCell_below hr nv _
 have pX:uF X mb (wL ((pre++[x]).map fun x=>x.1) []) (pre.length+1):=by rw[<-hX];exact hp.setCell (fun e=>d2 e.symm) _
 have bX:Below w.heap.size w X:=by rw[<-hX];exact bl.setCell (p:=⟨bv,1,none⟩) gv _
 rw[hX] at e1⊢;have hsX:X.heap[bs]?=some (.cells #[.int .u64 ((pre.map fun x=>x.1).foldl (· ||| ·) 0:Nat)] 115 (0,0)):=(oX bs (Ne.symm d1)).trans (hs.trans h.s);have e2:=tG X bs 0 _ 115 (0,0) (.int .u64 (((pre++[x]).map fun x=>x.1).foldl (· ||| ·) 0:Nat)) hsX;have oY: ∀j,j≠bs->(X.setCell ⟨bs,0,none⟩ (.int .u64 (((pre++[x]).map fun x=>x.1).foldl (· ||| ·) 0:Nat))).heap[j]?=X.heap[j]?:=fun j hj=>zyS _ _ _ _ hj
 have rY:=ownsRow_setCell_below rX (a:=⟨bs,0,none⟩) ns (.int .u64 (((pre++[x]).map fun x=>x.1).foldl (· ||| ·) 0:Nat));have pY:=pX.setCell (a:=⟨bs,0,none⟩) (fun e=>d3 e.symm) (.int .u64 (((pre++[x]).map fun x=>x.1).foldl (· ||| ·) 0:Nat));have bY:=bX.setCell (p:=⟨bs,0,none⟩) gs (.int .u64 (((pre++[x]).map fun x=>x.1).foldl (· ||| ·) 0:Nat));have szY:(X.setCell ⟨bs,0,none⟩ (.int .u64 (((pre++[x]).map fun x=>x.1).foldl (· ||| ·) 0:Nat))).heap.size=W3.heap.size:=by simp[szX]
 generalize X.setCell ⟨bs,0,none⟩ (.int .u64 (((pre++[x]).map fun x=>x.1).foldl (· ||| ·) 0:Nat))=Y at e2 oY rY pY bY szY⊢;have oW: ∀j,j≠bv->j≠bs->Y.heap[j]?=W3.heap[j]?:=fun j h1 h2=>(oY j h2).trans (oX j h1)
 have kY:KpR N bv bs mb W Y:=⟨by have:=kp.1;omega,fun j hj h1 h2 h3=>(oW j h1 h2).trans (kp.2 j hj h1 h2 h3)⟩;refine⟨⟨by have:=kf.size;omega,fun j o hj ho hc=>(oW j (by omega) (by omega)).trans (kf.same j o hj ho hc)⟩,kY,⟨⟨vs,(oY bv d1).trans e1,rY⟩,e2,((oW bm d4 d5).trans hm).trans h.m,by rw[Zq];exact pY,h.kp.trans kY,bY⟩⟩
end Go.Proofs
namespace Go.Abs
open Go.Proofs Go.RowKit Go.Lib Go.Wd Go.Wire Go.Ex
theorem Spec.list2C {P:Program} {f:FuncId} {xs:List V} {c:C} {k k':IntKind} {n m:Int} (h:Spec P f xs (fun r'=>r'=.tup [.k (.c c),.int k n,.int k' m])) {W:World} (hG:yN (base W)) {Z:Bk->Prop} (hz: ∀b,Z b->b.2<W.heap.size) {vs:Array Value} (ha:vW W Z xs vs.toList):
  Calls P f vs W fun e W'=> ∃v,e=.returned (.tuple #[v,.int k n,.int k' m])/\Below W.heap.size W W'/\PRep W' (zV W') c v:=by
 refine(h.2 W Z vs hG hz ha).mono ?_;rintro e w' ⟨v,r',rfl,rfl,_,hrep⟩;obtain⟨κ,hi⟩:=hrep 0;have h0:=hi.tmps 0;obtain⟨us,hu,hl,hv⟩:=h0;have hu':v=.tuple us:=hu;subst hu';obtain⟨l⟩:=us
 match l,hl,hv with
 |[x,y,z],_,hv=>
  have h1:=vK hv.2.1.2;have h2:=vK hv.2.2.1.2;subst h1 h2;exact⟨x,rfl,cZ hi.kept,(show PRep w' _ c x from hv.1.2).mono (fun _ _=>rfl) fun b hb=>hb.2.1⟩
theorem zon (L:List Dmd):Plain 8 (L.map zU):=by
 refine⟨by decide,fun r hr=>?_,fun r hr c hc=>?_⟩
 ·obtain⟨m,_,rfl⟩:=ZH.1 hr;rfl
 ·obtain⟨m,_,rfl⟩:=ZH.1 hr
  exact znK m c hc
end Go.Abs
namespace Go.Proofs
open Go.RowKit Go.Shelf Go.Abs Go.Wd Go.Wire Go.Ex Go.Maps Go.ChangeMaps
theorem zoo {w:World} {Z:Bk->Prop} {L:List Dmd} {v:Value} (h:PRep w Z (zB 8 (L.map zU)) v): ∃p b o cap,v=.slice p L.length cap/\fD w L p b o:=by
 obtain⟨p,cap,rfl,hq,_⟩:=(zon L).slice h;rw[Zg] at hq;by_cases h0:L.length=0
 ·refine⟨p,0,0,cap,by rw[Zg],fun hk=>absurd h0 (by omega),fun k hk=>absurd hk (by omega)⟩
 ·obtain⟨b,o,rfl,hc⟩:=hq (by omega)
  have hcell: ∀k,k<L.length-> ∀j u,(dmV (L.getD k wM))[j]?=some u->w.cell? ⟨b,o+k*8+j,none⟩=some u:=by
   intro k hk j u hu;have hr:(L.map zU)[k]?=some (zU L[k]):=by simp[hk]
   have hg:L.getD k wM=L[k]:=by rw[Zi,Zf hk];rfl
   rw[hg] at hu;unfold dmV at hu;rw[Y3,Zz] at hu;obtain⟨c,hc1,rfl⟩:=Zd.1 hu;have:=((zon L).at hr hc1).1;have:=hc _ _ this
   rwa [<-YK] at this
  refine⟨_,b,o,cap,by rw[Zg],fun _=>⟨rfl,?_⟩,hcell⟩;exact World.block_lt_of_cell? _ _ (hcell 0 (by omega) 0 _ rfl)
theorem zwa (L:List Dmd) (hL:L.length<=8) (hm: ∀m∈L,DmdS m) (w:World) (hG:yN (base w)) (v:Value) {Z:Bk->Prop} (h:PRep w Z (zB 8 (L.map zU)) v):
  Calls Tryz.prog 141 #[v] w fun e w'=> ∃X:Txt,e=.returned (.tuple #[.string ⟨X.toArray⟩,.bool (sS L)])/\Below w.heap.size w w':=by
 obtain⟨p,b,o,cap,rfl,hD⟩:=zoo h;exact zv7 L hL hm w hG p cap b o hD
theorem zwb (vl vd vc:Value) (n:Int) (w:World) (h1:vl.oneCell'=true) (h2:vd.oneCell'=true) (h3:vc.oneCell'=true):Calls Tryz.prog 142 #[vl,vd,vc,.int .i64 n] w fun e w'=>e=.returned (.func (.func 206) #[] #[.pointer (some ⟨w.heap.size+1+1+1,0,none⟩),.pointer (some ⟨w.heap.size,0,none⟩),.pointer (some ⟨w.heap.size+1,0,none⟩),.pointer (some ⟨w.heap.size+1+1,0,none⟩)])/\
   w'=(((w.alloc (.cells #[vl] 22)).alloc (.cells #[vd] 23)).alloc (.cells #[vc] 28)).alloc (.cells #[.int .i64 n] 3):=by
 go_enter Tryz.func142,Tryz.ntmps142
 go_wp2
 go_ret
 exact⟨rfl,rfl⟩
theorem zwc {s t:Nat} (hs:s<256) (ht:t<256):bits BinOp.and IntKind.u64 (s:Int) (t:Int)=((s&&&t:Nat):Int):=gU (s:=s) (t:=t) (by omega) (by omega)
theorem zwd {s t:Nat} (hs:s<256) (ht:t<256):bits BinOp.or IntKind.u64 (s:Int) (t:Int)=((s|||t:Nat):Int):=zoi hs ht
theorem zwe {s t:Nat} (hs:s<256):bits BinOp.andNot IntKind.u64 (s:Int) (t:Int)=((andN s t:Nat):Int):=zod (s:=s) (t:=t) (by omega)
end Go.Proofs
namespace Go.Ex
open Go.Lib Go.Wd Go.Wire Go.Abs
def lookE (L:List Dmd) (D:List Dcm):Int:=if sS L=true then(cnts D).2.2 else 2
end Go.Ex
namespace Go.Proofs
open Go.RowKit Go.Shelf Go.Abs Go.Wd Go.Wire Go.Ex Go.Maps Go.ChangeMaps
attribute [local go_sem] Oper.semAt_some
theorem zc6 {W:World} {b t:Nat} {x y z:Value} (h:W.heap[b]?=some (.cells #[x,y,z] t (0,0))) (a c d:Value):(((W.setCell ⟨b,0,none⟩ a).setCell ⟨b,1,none⟩ c).setCell ⟨b,2,none⟩ d).heap[b]?=some (.cells #[a,c,d] t (0,0)):=
 tG _ b 2 _ t (0,0) d (tG _ b 1 _ t (0,0) c (tG W b 0 _ t (0,0) a h))
theorem zwf {n:Nat} (hn:n<=8):IntKind.u64.wrap (IntKind.u64.wrap (2 ^ n)-1)=((2 ^ n-1:Nat):Int):=by
 have key: ∀n:Fin 9,IntKind.u64.wrap (IntKind.u64.wrap (2 ^ n.1)-1)=((2 ^ n.1-1:Nat):Int):=by decide
 exact key ⟨n,by omega⟩
theorem zc7 {W:World} {j:Nat} {o:Obj} (h:W.heap[j]?=some o):j<W.heap.size:=(Zs.1 h).1
theorem zwg (w:World) (o0 o1 o2 o3 o4 o5 o6 o7:Obj):((((((((w.alloc o0).alloc o1).alloc o2).alloc o3).alloc o4).alloc o5).alloc o6).alloc o7).heap.size=w.heap.size+8/\Below w.heap.size w ((((((((w.alloc o0).alloc o1).alloc o2).alloc o3).alloc o4).alloc o5).alloc o6).alloc o7)/\
  ((((((((w.alloc o0).alloc o1).alloc o2).alloc o3).alloc o4).alloc o5).alloc o6).alloc o7).heap[w.heap.size]?=some o0/\((((((((w.alloc o0).alloc o1).alloc o2).alloc o3).alloc o4).alloc o5).alloc o6).alloc o7).heap[w.heap.size+1]?=some o1/\((((((((w.alloc o0).alloc o1).alloc o2).alloc o3).alloc o4).alloc o5).alloc o6).alloc o7).heap[w.heap.size+1+1]?=some o2/\((((((((w.alloc o0).alloc o1).alloc o2).alloc o3).alloc o4).alloc o5).alloc o6).alloc o7).heap[w.heap.size+1+1+1]?=some o3/\
  ((((((((w.alloc o0).alloc o1).alloc o2).alloc o3).alloc o4).alloc o5).alloc o6).alloc o7).heap[w.heap.size+1+1+1+1]?=some o4/\((((((((w.alloc o0).alloc o1).alloc o2).alloc o3).alloc o4).alloc o5).alloc o6).alloc o7).heap[w.heap.size+1+1+1+1+1]?=some o5/\((((((((w.alloc o0).alloc o1).alloc o2).alloc o3).alloc o4).alloc o5).alloc o6).alloc o7).heap[w.heap.size+1+1+1+1+1+1]?=some o6/\((((((((w.alloc o0).alloc o1).alloc o2).alloc o3).alloc o4).alloc o5).alloc o6).alloc o7).heap[w.heap.size+1+1+1+1+1+1+1]?=some o7:=by
 have h:((((((((w.alloc o0).alloc o1).alloc o2).alloc o3).alloc o4).alloc o5).alloc o6).alloc o7).heap=(((((((w.heap.push o0).push o1).push o2).push o3).push o4).push o5).push o6).push o7:=rfl;have hs:(((((((w.heap.push o0).push o1).push o2).push o3).push o4).push o5).push o6).push o7=w.heap++ #[o0,o1,o2,o3,o4,o5,o6,o7]:=by
  apply XQ;simp only[Array.toList_push,Array.toList_append,Z3,ZQ,Yd]
 rw[h,hs];refine⟨by simp,⟨rfl,rfl,rfl,by rw[h,hs,Array.size_append];exact Nat.le_add_right _ _,fun k hk=>by rw[h,hs,Y2 hk]⟩,?_,?_,?_,?_,?_,?_,?_,?_⟩
 all_goals (rw[Array.getElem?_append_right (by omega)];simp[YK])
theorem zop {w W:World} (h:yN (base w)) (h1:w.heap.size<=W.heap.size) (h2: ∀j,j<w.heap.size->W.heap[j]?=w.heap[j]?):yN (base W):=by
 refine⟨fun g l hg=>?_,fun g p hg=>?_⟩
 ·obtain⟨h3,h4⟩:=h.1 g l hg
  refine⟨ZO h3 h1,fun j hj=>?_⟩;show W.cell? _=_;rw[World.cell?_of_block (w:=w) (a:=⟨g,j,none⟩) (h2 g h3)];exact h4 j hj
 ·obtain⟨h3,b,h4,h5⟩:=h.2 g p hg
  exact⟨ZO h3 h1,b,(h2 g h3).trans h4,h5⟩
theorem zwh (L:List Dmd) (D:List Dcm) (hL:L.length<=8) (hm: ∀m∈L,DmdS m) (hD:rG D) (hp:(cnts D).2.2=0-> ∀i,i<yF D->tA (rdsD D i)) (w:World) (hG:yN (base w)) (vl vd:Value) (hl:PRep w (zV w) (zB 8 (L.map zU)) vl) (hd:PRep w (zV w) (zB 2 (D.map zJ)) vd):
  Calls Tryz.prog 82 #[vl,vd] w fun e w'=>(lookE L D≠0/\e=.returned (.tuple #[.agg #[.slice none 0 0,.int .u64 0,.int .u64 0],.int .i64 (lookE L D)])/\Below w.heap.size w w')\/
   (lookE L D=0/\ ∃vs,e=.returned (.tuple #[.agg #[vs,.int .u64 ((viewD L D).never:Nat),.int .u64 ((viewD L D).doubt:Nat)],.int .i64 0])/\Below w.heap.size w w'/\w'.ownsRow w.heap.size 115 1 vs (viewD L D).sets.length ((viewD L D).sets.map fun(s:Nat)=>Value.int .u64 (s:Int))):=by
 refine(callsIn_wide (n:=8)).1 ?_;have hn1:1<=8:=by decide
 have ol:=hl.oneCell;have od:=hd.oneCell;obtain⟨p,_,_,cap,rfl,_⟩:=zoo hl;obtain⟨n,hN⟩: ∃n,L.length=n:=⟨_,rfl⟩;have hN':Aside (L.length=n):=hN;rw[hN] at hL hl ol⊢;have k63: ∀W,Below w.heap.size w W->Calls Tryz.prog 141 #[.slice p n cap] W fun e W'=> ∃X:Txt,e=.returned (.tuple #[.string ⟨X.toArray⟩,.bool (sS L)])/\Below W.heap.size W W':=fun W hb=>zwa L (by rw[hN];omega) hm W (hG.later (xM hb)) _ (sC hl hb)
 have k37: ∀W,Below w.heap.size w W->Calls Tryz.prog 115 #[vd] W fun e W'=> ∃v,e=.returned (.tuple #[v,.int .i64 (cnts D).2.1,.int .i64 (cnts D).2.2])/\Below W.heap.size W W'/\PRep W' (zV W') (zB 1 (zG (cnts D).1)) v:=fun W hb=>(c37 D hD).list2C (hG.later (xM hb)) (Z:=zV W) (fun _ h=>h) (wS (sC hd hb) (yY _ _))
 have hB0: ∀a,Below w.heap.size w (w.alloc a):=fun a=>(Below.refl _ w).alloc (Zw _) _
 have hE:lookE L D=if sS L=true then(cnts D).2.2 else 2:=rfl
 obtain⟨x2,hX⟩: ∃X,sS L=X:=⟨_,rfl⟩;clear hN;have A1:Aside _:=hl;have A2:Aside _:=hd;have A3:Aside _:=hp;have A4:Aside (yN (base w)):=hG;clear hl hd hp hG hm;rw[hX] at k63 hE;cases x2 with
 |false=>
  rw[if_neg (by simp)] at hE;rw[hE];refine callsIn_of_wp_marks Tryz.func82 rfl trivial ?_;simp only[Tryz.ntmps82,Yx,Zo,ZF,Zc,Y9,YI,YH,YS,YO,Yd,ZQ]
  gi_wp2_with (refine⟨trivial,?_⟩;gi_at_call 141;refine(callsIn_wide.2 (k63 _ (hB0 _))).mono ?_;rintro e w1 ⟨x1,rfl,hb1⟩;have q4:=(hb1.block w.heap.size (by simp only[World.size_alloc];omega)).trans (World.alloc_heap_new w _);obtain⟨c40,c41,c42⟩:=sG q4;have e7: ∀j,w1.frozen? ⟨w.heap.size,j,none⟩=false:=(fun j=>by simp[World.frozen?,q4]);have e8:=e7 0;have e9:=e7 1;have e10:=e7 2;have hB1:=(hB0 (.cells #[.slice none 0 0,.int .u64 0,.int .u64 0] 117)).trans (hb1.mono (hB0 _).size))
  refine⟨_,lL rfl _ _ rfl (zc6 q4 _ _ _) Tryz.underlying117 (by kernel_rfl),.inl ⟨by decide,rfl,((hB1.setCell (p:=⟨w.heap.size,0,none⟩) (Zw _) _).setCell (p:=⟨w.heap.size,1,none⟩) (Zw _) _).setCell (p:=⟨w.heap.size,2,none⟩) (Zw _) _⟩⟩
 |true=>
  rw[if_pos rfl] at hE;by_cases h0:(cnts D).2.2=0
  ·rw[h0] at hE k37
   rw[hE];have hok:=rJ h0;have hmm:=@run_makeMap Tryz.prog;have hnn:=hok.n;obtain⟨n0,hn0,hn0e⟩: ∃n0:Nat,IntKind.u64.wrap (IntKind.u64.wrap (2 ^ n)-1)=(n0:Int)/\Aside (n0=2 ^ n-1):=⟨2 ^ n-1,zwf hL,rfl⟩;obtain⟨M,hM⟩: ∃M,yF D=M:=⟨_,rfl⟩;have hM':Aside (yF D=M):=hM;rw[hM] at hnn;rw[hnn] at k37;have k64:=fun vc W h=>zwb (.slice p n cap) vd vc (M:Int) W ol od h
   clear hnn hM;refine callsIn_of_wp_marks Tryz.func82 rfl trivial ?_;simp only[Tryz.ntmps82,Yx,Zo,ZF,Zc,Y9,YI,YH,YS,YO,Yd,ZQ]
   gi_wp2_with (first|(refine⟨trivial,?_⟩;gi_at_call 142;refine(callsIn_wide.2 (k64 vc _ hpc.oneCell)).mono ?_;rintro e w3 ⟨rfl,hw3⟩)|(refine⟨trivial,?_⟩;gi_at_call 141;refine(callsIn_wide.2 (k63 _ (hB0 _))).mono ?_;rintro e w1 ⟨x1,rfl,hb1⟩;have hB1:=(hB0 (.cells #[.slice none 0 0,.int .u64 0,.int .u64 0] 117)).trans (hb1.mono (hB0 _).size);have q4:=(hb1.block w.heap.size (by simp only[World.size_alloc];omega)).trans (World.alloc_heap_new w _))|(refine⟨trivial,?_⟩;gi_at_call 115;refine(callsIn_wide.2 (k37 _ hB1)).mono ?_;rintro e w2 ⟨vc,rfl,hb2,hpc⟩;have q5:=(hb2.block w.heap.size (wU q4)).trans q4;obtain⟨c40,c41,c42⟩:=sG q5;have e7: ∀j,w2.frozen? ⟨w.heap.size,j,none⟩=false:=(fun j=>by simp[World.frozen?,q5]);have e8:=e7 0;have e9:=e7 1;have e10:=e7 2;have hB2:=hB1.trans (hb2.mono hB1.size)))
   have hal:=zwg w2 (.cells #[.slice none 0 0,.int .u64 (n0:Int),.int .u64 0] 117) (.map #[] 0) (.cells #[.map (some (w2.heap.size+1))] 169) (.cells #[.int .u64 0] 115) (.cells #[.slice p n cap] 22) (.cells #[vd] 23) (.cells #[vc] 28) (.cells #[.int .i64 (M:Int)] 3);rw[<-hw3] at hal⊢;obtain⟨hsz,hb23,a0,a1,a2,a3,a4,a5,a6,a7⟩:=hal;have hmp:uF w3 (w2.heap.size+1) [] 0:=by
    rw[hw3];have hmd:=uF.made (w2.alloc (.cells #[.slice none 0 0,.int .u64 (n0:Int),.int .u64 0] 117));rw[World.size_alloc] at hmd;exact(((((hmd.kept (World.grownBy_alloc _ _ none) (by simp)).kept (World.grownBy_alloc _ _ none) (by simp)).kept (World.grownBy_alloc _ _ none) (by simp)).kept (World.grownBy_alloc _ _ none) (by simp)).kept (World.grownBy_alloc _ _ none) (by simp)).kept (World.grownBy_alloc _ _ none) (by simp)
   have hww:=hB2.size;have hB3:Below w.heap.size w w3:=hB2.trans (hb23.mono hB2.size);clear hw3;have hpl:PRep w2 (zV w2) (zB 8 (L.map zU)) (.slice p n cap):=sC A1.out hB2;have hpd:PRep w2 (zV w2) (zB 2 (D.map zJ)) vd:=sC A2.out hB2;have hFA: ∀W,KpR w3.heap.size w2.heap.size (w2.heap.size+1+1+1) (w2.heap.size+1) w3 W->FailAt L D (w2.heap.size+1+1+1+1+1+1+1) (w2.heap.size+1+1+1+1) (w2.heap.size+1+1+1+1+1) (w2.heap.size+1+1+1+1+1+1) (.slice p n cap) vd vc W:=by
    intro W hK;have hlow: ∀j,j<w2.heap.size->W.heap[j]?=w2.heap[j]?:=fun j hj=>(hK.2 j (by omega) (by omega) (by omega) (by omega)).trans (hb23.block j hj)
    have hwz:w2.heap.size<=W.heap.size:=by have:=hK.1;omega
    have rep: ∀c v,PRep w2 (zV w2) c v->PRep W (zV W) c v:=fun c v h=>h.mono (fun b hb=>hlow b.2 hb) fun b hb=>ZO hb hwz
    have box: ∀j v t,w2.heap.size+1+1+1<j->w3.heap[j]?=some (.cells #[v] t (0,0))->W.cell? ⟨j,0,none⟩=some v:=fun j v t h1 h2=>sR ((hK.2 j (Zs.1 h2).1 (by omega) (by omega) (by omega)).trans h2)
    refine⟨?_,box _ _ _ (by omega) a4,box _ _ _ (by omega) a5,box _ _ _ (by omega) a6,rep _ _ hpl,rep _ _ hpd,rep _ _ hpc,zop (A4.out.later (xM hB2)) hwz hlow⟩;rw[hM'.out];exact box _ _ _ (by omega) a7
   obtain⟨Q0,hQ0⟩: ∃Q0:Prop,Q0:=⟨True,trivial⟩;refine zcw (α:=U8) rfl (by decide) (gf:=206) (lb:= #[.pointer (some ⟨w2.heap.size+1+1+1+1+1+1+1,0,none⟩),.pointer (some ⟨w2.heap.size+1+1+1+1,0,none⟩),.pointer (some ⟨w2.heap.size+1+1+1+1+1,0,none⟩),.pointer (some ⟨w2.heap.size+1+1+1+1+1+1,0,none⟩)]) rfl trivial (enters_of Tryz.func206 (by kernel_rfl) rfl)
    (zv9 7 (by decide) L D (by rw[hN'.out];exact hL) hD hok (A3.out h0) _ _ _ _ (.slice p n cap) vd vc w3 (KpR w3.heap.size w2.heap.size (w2.heap.size+1+1+1) (w2.heap.size+1)) ⟨Zw _,fun _ _ _ _ _=>rfl⟩ (fun _ _ _=>KpR.trans) (fun A B hA hb=>hA.trans (KpR.grown hA.1 (lI hb) (fun r e=>by cases e))) hFA)
    (fun _ _ _=>KpR.trans) (fun A B row hs hg hr=>KpR.grown hs hg hr) (fun _=>rfl) (LkI n0 w w3 w3.heap.size w2.heap.size (w2.heap.size+1+1+1) (w2.heap.size+1+1) (w2.heap.size+1)) (LkI.own (by omega) (by omega) (by omega) (by omega) hB3.size (Zw _)) ?h0
    (fun x a' W'=>a'={tmps:= #[.slice p n cap,vd,undef,undef,.pointer (some ⟨w.heap.size,0,none⟩),.int .i64 0,.string ⟨x1.toArray⟩,.bool true,vc,.int .i64 (M:Int),.int .i64 0,.pointer (some ⟨w2.heap.size,0,none⟩),.pointer (some ⟨w2.heap.size+1+1,0,none⟩),.pointer (some ⟨w2.heap.size+1+1+1,0,none⟩),.int .u64 (x.1:Int),.tuple #[.string ⟨x1.toArray⟩,.bool true],.slice p n cap,.tuple #[.string ⟨x1.toArray⟩,.bool true],.string ⟨x1.toArray⟩,.bool true,.bool true,.bool false,undef,.tuple #[vc,.int .i64 (M:Int),.int .i64 0],vd,.tuple #[vc,.int .i64 (M:Int),.int .i64 0],vc,.int .i64 (M:Int),.int .i64 0,.int .i64 0,.bool false,undef,undef,.slice p n cap,.int .i64 (n:Int),.int .u64 (IntKind.u64.wrap (2 ^ n)),.int .u64 (n0:Int),.agg #[.slice none 0 0,.int .u64 (n0:Int),.int .u64 0],.map (some (w2.heap.size+1)),.slice p n cap,vd,vc,.int .i64 (M:Int),.func (.func 206) #[] #[.pointer (some ⟨w2.heap.size+1+1+1+1+1+1+1,0,none⟩),.pointer (some ⟨w2.heap.size+1+1+1+1,0,none⟩),.pointer (some ⟨w2.heap.size+1+1+1+1+1,0,none⟩),.pointer (some ⟨w2.heap.size+1+1+1+1+1+1,0,none⟩)],.int .u64 (x.1:Int),undef,undef,undef,undef,undef,undef,undef,undef,undef,undef,undef,undef,undef,undef,undef,undef,undef,undef,undef,undef,undef,undef,undef,undef,undef,undef,undef,undef,undef,undef,undef],defers:=[]}) (fun x a' W' l ob ob' h _ _ _=>h) ?assign ?body ?done
   case h0=>
    exact⟨⟨.slice none 0 0,a0,World.ownsRow_nil _ _ _ _⟩,a3,a2,hmp,⟨Zw _,fun _ _ _ _ _=>rfl⟩,hB3⟩
   case assign=>
    intro l pre x W' K hI hsz' hK;simp only[zc4]
    gi_wp2
    exact hK _ _ rfl hI (KeepsFrom.refl _ _) ⟨Zw _,fun _ _ _ _ _=>rfl⟩ hsz'
   case body=>
    rintro l pre x a' W rfl hI hlen hsz2;have I0:Aside (LkI n0 w w3 w3.heap.size w2.heap.size (w2.heap.size+1+1+1) (w2.heap.size+1+1) (w2.heap.size+1) pre W):=hI;obtain⟨⟨vs,hv,hr⟩,hs,hbm,hmS,hkp,hbl⟩:=hI;obtain⟨F,hF⟩: ∃F,pre.map (fun x:U8=>x.1)=F:=⟨_,rfl⟩;have hF8: ∀f∈F,f<2 ^ 8:=by
     intro f hf;rw[<-hF] at hf;obtain⟨y,_,rfl⟩:=ZH.1 hf;exact y.2
    have hx8:=x.2;have hFx:Aside ((pre++[x]).map (fun x:U8=>x.1)=F++[x.1]):=show _=_ by rw[ZS,hF];rfl
    rw[hF] at hv hr hs hmS;have hA8:F.foldl (· &&& ·) n0<2 ^ 8:=wV.2 fun k hk=>by
     rw[bS,Zr] at hk;exact wV.1 (ZO (show n0<2 ^ n by rw[hn0e.out];have:=Nat.two_pow_pos n;omega) (Ys (by decide) hL)) k hk.1
    have hO8:F.foldl (· ||| ·) 0<2 ^ 8:=wV.2 fun k hk=>by
     rw[gR,Xb,YC,Yt] at hk;obtain⟨f,hf,hk⟩:=hk;exact wV.1 (hF8 f hf) k hk
    have hAe:Aside (F.foldl (· &&& ·) n0&&&x.1=((pre++[x]).map fun x:U8=>x.1).foldl (· &&& ·) n0):=show _=_ by rw[hFx.out,Xz];rfl
    have hOe:Aside (F.foldl (· ||| ·) 0|||x.1=((pre++[x]).map fun x:U8=>x.1).foldl (· ||| ·) 0):=show _=_ by rw[hFx.out,Xz];rfl
    have hon:=zoj x.1 F [];rw[<-hFx.out] at hon;have hol:=zc5 F [];have hpl2:F.length=pre.length:=by rw[<-hF,Zg]
    obtain⟨AA,hAA⟩: ∃A,F.foldl (· &&& ·) n0=A:=⟨_,rfl⟩;obtain⟨OO,hOO⟩: ∃O,F.foldl (· ||| ·) 0=O:=⟨_,rfl⟩;obtain⟨SS,hSS⟩: ∃S,wL F []=S:=⟨_,rfl⟩;rw[hAA] at hv hA8 hAe;rw[hOO] at hs hO8 hOe;rw[hSS] at hr hmS hon hol;have hlk:=hmS.look hx8;have hand:bits BinOp.and IntKind.u64 (AA:Int) (x.1:Int)=((AA&&&x.1:Nat):Int):=zwc hA8 hx8;have hor:bits BinOp.or IntKind.u64 (OO:Int) (x.1:Int)=((OO|||x.1:Nat):Int):=zwd hO8 hx8;obtain⟨e0,e1,e2⟩:=sG hv;have e3:=sR hs;have e4:=sR hbm;have f0:W.frozen? ⟨w2.heap.size,0,none⟩=false:=by simp[World.frozen?,hv]
    have f1:W.frozen? ⟨w2.heap.size,1,none⟩=false:=by simp[World.frozen?,hv]
    have f3:W.frozen? ⟨w2.heap.size+1+1+1,0,none⟩=false:=by simp[World.frozen?,hs]
    by_cases hmem:x.1∈SS
    ·rw[decide_eq_true hmem] at hlk
     rw[if_pos hmem] at hon;have hin:Aside (KeepsFrom w3.heap.size W ((W.setCell ⟨w2.heap.size,1,none⟩ (.int .u64 ((AA&&&x.1:Nat):Int))).setCell ⟨w2.heap.size+1+1+1,0,none⟩ (.int .u64 ((OO|||x.1:Nat):Int)))/\KpR w3.heap.size w2.heap.size (w2.heap.size+1+1+1) (w2.heap.size+1) W ((W.setCell ⟨w2.heap.size,1,none⟩ (.int .u64 ((AA&&&x.1:Nat):Int))).setCell ⟨w2.heap.size+1+1+1,0,none⟩ (.int .u64 ((OO|||x.1:Nat):Int)))/\LkI n0 w w3 w3.heap.size w2.heap.size (w2.heap.size+1+1+1) (w2.heap.size+1+1) (w2.heap.size+1) (pre++[x]) ((W.setCell ⟨w2.heap.size,1,none⟩ (.int .u64 ((AA&&&x.1:Nat):Int))).setCell ⟨w2.heap.size+1+1+1,0,none⟩ (.int .u64 ((OO|||x.1:Nat):Int)))):=by
      refine zom (vs:=vs) I0.out (by omega) (by omega) (by omega) (by omega) (by omega) (by omega) (by omega) (by omega) (by omega) (by omega) (by omega) (by omega) ?_ rfl rfl ?_ ?_ ⟨Zw _,fun _ _ _ _ _=>rfl⟩ hbl (KeepsFrom.refl _ _) _ _ hAe.out hOe.out
      ·rw[hF,hAA];exact hv
      ·rw[hon];exact hr
      ·rw[hon]
       obtain⟨D1,m1,m2,m3⟩:=hmS;exact⟨D1,m1.mono (Nat.le_succ _),m2,m3⟩
     clear hv hr hs hbm hmS hkp hF hF8 hAA hOO hSS hon hol hpl2 a0 a1 a2 a3 a4 a5 a6 a7 hFA q4 q5 hmp k63 k37 k64 hmm hpl hpd hpc
     gi_wp2
     exact hin.out
    ·rw[decide_eq_false hmem] at hlk
     rw[if_neg hmem] at hon;have hlenM:pre.length<M:=by rw[<-hM'.out];exact hlen
     have hM4:M<=4096:=by rw[<-hM'.out];exact hok.le
     obtain⟨W1,hput,hm1,hg1⟩:=hmS.put (by unfold maxLen;omega) hx8;have hmbW:=hmS.lt;have hown: ∀g,vs.ownBlock=some g->w3.heap.size<=g/\ ∃cur,W.heap[g]?=some (.cells cur 115 (0,0)):=fun g hg=>by
      obtain⟨cur,hc,hb⟩:=aV hr hg;exact⟨hb,cur,hc⟩
     have hr1:=hr.kept hg1 (by
      cases q:vs.ownBlock with
      |none=>exact .inl rfl
      |some g=>exact .inr fun e=>by cases e;have:=(hown _ q).1;omega)
     have old1: ∀j,j<W.heap.size->j≠w2.heap.size+1->W1.heap[j]?=W.heap[j]?:=fun j h1 h2=>hg1.block j h1 (fun e=>h2 (by cases e;rfl))
     have hsz1:=hg1.size;have hv1:=(old1 _ (wU hv) (by omega)).trans hv;have hs1:=(old1 _ (wU hs) (by omega)).trans hs;obtain⟨e0',e1',e2'⟩:=sG hv1;have e3':=sR hs1;have f0':W1.frozen? ⟨w2.heap.size,0,none⟩=false:=by simp[World.frozen?,hv1]
     have f1':W1.frozen? ⟨w2.heap.size,1,none⟩=false:=by simp[World.frozen?,hv1]
     have f3':W1.frozen? ⟨w2.heap.size+1+1+1,0,none⟩=false:=by simp[World.frozen?,hs1]
     have hrow2: ∀(W2:World),(W1.alloc (.cells #[.int .u64 (x.1:Int)] 115)).grownBy W2 vs.ownBlock->(∀j,j<W.heap.size->j≠w2.heap.size+1->vs.ownBlock≠some j->W2.heap[j]?=W.heap[j]?)/\W.heap.size<=W2.heap.size:=fun W2 hg2=>by
      have hsz2:=hg2.size;rw[World.size_alloc] at hsz2;refine⟨fun j h1 h2 h3=>?_,by omega⟩;rw[hg2.block j (by rw[World.size_alloc];omega) (fun e=>h3 e.symm)];rw[Below.heap_alloc _ _ _ (by omega)];exact old1 j h1 h2
     have hNW:w3.heap.size<=W.heap.size:=hsz2;have hfin:Aside (∀(W2:World) (v':Value),W2.ownsRow w3.heap.size 115 1 v' (SS.length+1) ((SS.map fun(s:Nat)=>Value.int .u64 (s:Int))++[.int .u64 (x.1:Int)])->(W1.alloc (.cells #[.int .u64 (x.1:Int)] 115)).grownBy W2 vs.ownBlock->(∀X,X=((W2.setCell ⟨w2.heap.size,0,none⟩ v').setCell ⟨w2.heap.size,1,none⟩ (.int .u64 ((AA&&&x.1:Nat):Int))).setCell ⟨w2.heap.size+1+1+1,0,none⟩ (.int .u64 ((OO|||x.1:Nat):Int))->KeepsFrom w3.heap.size W X/\KpR w3.heap.size w2.heap.size (w2.heap.size+1+1+1) (w2.heap.size+1) W X/\LkI n0 w w3 w3.heap.size w2.heap.size (w2.heap.size+1+1+1) (w2.heap.size+1+1) (w2.heap.size+1) (pre++[x]) X)):=by
      rintro W2 v' ho' hg2 X rfl;obtain⟨hold,hsz⟩:=hrow2 W2 hg2;have nlow: ∀j,j<w3.heap.size->vs.ownBlock≠some j:=fun j hj e=>by have:=(hown j e).1;omega
      have hv2:=(hold _ (wU hv) (by omega) (nlow _ (by omega))).trans hv;have oX: ∀j,j≠w2.heap.size->(W2.setCell ⟨w2.heap.size,0,none⟩ v').heap[j]?=W2.heap[j]?:=fun j hj=>zyS _ _ _ _ hj
      have szX:(W2.setCell ⟨w2.heap.size,0,none⟩ v').heap.size=W2.heap.size:=by simp
      have keep: ∀j,j<W.heap.size->j≠w2.heap.size->j≠w2.heap.size+1->vs.ownBlock≠some j->(W2.setCell ⟨w2.heap.size,0,none⟩ v').heap[j]?=W.heap[j]?:=fun j h1 h2 h3 h4=>(oX j h2).trans (hold j h1 h3 h4)
      have hbl2:Below w.heap.size w W2:=((hbl.grown hg1 (by omega) (fun k e=>by cases e;omega)).alloc (by omega) _).grown hg2 (by rw[World.size_alloc];omega) (fun k e=>by have:=(hown k e).1;omega);refine zom (vs:=v') I0.out (by omega) (by omega) (by omega) (by omega) (by omega) (by omega) (by omega) (by omega) (by omega) (by omega) (by omega) (by omega) ?_ (keep _ (wU hs) (by omega) (by omega) (nlow _ (by omega))) (keep _ (wU hbm) (by omega) (by omega) (nlow _ (by omega))) ?_ ?_ ⟨by omega,fun j h1 h2 h3 h4=>keep j (by omega) h2 h4 (nlow j h1)⟩ (hbl2.setCell (p:=⟨w2.heap.size,0,none⟩) (by omega) _) ⟨by omega,fun j o h1 h2 h3=>(keep j (zc7 h2) (by omega) (by omega) (fun e=>by obtain⟨_,cur,hc⟩:=hown j e;rw[hc] at h2;cases h2;cases h3)).trans h2⟩ _ _ hAe.out hOe.out
      ·rw[hF,hAA];exact tG W2 _ 0 _ 117 (0,0) v' hv2
      ·rw[hon,Zq,ZS]
       exact ownsRow_setCell_below ho' (by show w2.heap.size<_;omega) _
      ·rw[hon]
       exact((hm1.kept (World.grownBy_alloc _ _ none) (by simp)).kept hg2 (fun e=>nlow _ (by omega) e.symm)).setCell (by show w2.heap.size+1≠w2.heap.size;omega) _
     have hfac:Aside (∀(W2:World),(W1.alloc (.cells #[.int .u64 (x.1:Int)] 115)).grownBy W2 vs.ownBlock->W2.heap[w2.heap.size]?=some (.cells #[vs,.int .u64 (AA:Int),.int .u64 0] 117 (0,0))/\W2.heap[w2.heap.size+1+1+1]?=some (.cells #[.int .u64 (OO:Int)] 115 (0,0))):=by
      intro W2 hg2;obtain⟨hold,hsz⟩:=hrow2 W2 hg2;have nlow: ∀j,j<w3.heap.size->vs.ownBlock≠some j:=fun j hj e=>by have:=(hown j e).1;omega
      exact⟨(hold _ (wU hv) (by omega) (nlow _ (by omega))).trans hv,(hold _ (wU hs) (by omega) (nlow _ (by omega))).trans hs⟩
     obtain⟨i0,hif,hz0,hz1,hz2⟩:=info_parts (show(Tryz.prog.info? 115).map (fun i=>(i.zero,i.size,i.bytes))=some (some (.int .u64 0),1,8) by kernel_rfl);have hSl:SS.length<=4096:=by rw[hpl2] at hol;simp at hol;omega
     have hW1s:w3.heap.size<=W1.heap.size:=by omega
     clear hv hr hs hbm hmS hkp hF hF8 hAA hOO hSS hon hol hpl2 a0 a1 a2 a3 a4 a5 a6 a7 hFA q4 q5 hmp k63 k37 k64 hmm hpl hpd hpc hrow2 hown old1 hv1 hs1 hm1 hg1 hmem
     gi_wp2_with (gi_at_builtin;refine wpListIn_append_own _ rfl _ _ 114 rfl w3.heap.size 115 i0 (.int .u64 0) 1 8 Tryz.underlying114 hif hz0 hz1 hz2 rfl (by decide) _ _ _ rfl (hr1.alloc _) ⟨W1.heap.size,0,none⟩ 1 1 [.int .u64 (x.1:Int)] rfl rfl (cell_one_new _ _ _) (by simp[Value.oneCell']) (by unfold maxLen;omega) (by omega) (by simp;omega) ?_;intro v' W2 hown' hgrow _;obtain⟨g',cap',rfl⟩:=ownsRow_succ hown';obtain⟨t1,t2⟩:=hfac.out W2 hgrow;obtain⟨u0,u1,u2⟩:=sG t1;have u3:=sR t2;have v0:W2.frozen? ⟨w2.heap.size,0,none⟩=false:=(by simp[World.frozen?,t1]);have v1:W2.frozen? ⟨w2.heap.size,1,none⟩=false:=(by simp[World.frozen?,t1]);have v3:W2.frozen? ⟨w2.heap.size+1+1+1,0,none⟩=false:=(by simp[World.frozen?,t2]))
     exact hfin.out _ _ hown' hgrow _ rfl
   case done=>
    rintro D2 xs W3 hD2 hxs hI hK;obtain⟨⟨vs,hv,hr⟩,hs,hbm,hmS,hkp,hbl⟩:=hI;obtain⟨sa,sk,sc,rfl⟩: ∃a k c,vs=.slice a k c:=by
     rcases hr with⟨_,⟨hv,_⟩|⟨g2,cap,cur,hv,_⟩⟩
     ·exact⟨_,_,_,hv⟩
     ·exact⟨_,_,_,hv⟩
    have hxs':xs.map (fun x:U8=>x.1)=yT L D:=hxs;rw[hxs'] at hv hr hs;have hnv:(yT L D).foldl (· &&& ·) n0=(viewD L D).never:=by rw[hn0e.out,<-hN'.out];rfl
    rw[hnv] at hv;have hdb:andN ((yT L D).foldl (· ||| ·) 0) (viewD L D).never=(viewD L D).doubt:=rfl;have hst:wL (yT L D) []=(viewD L D).sets:=rfl;rw[hst] at hr;have hd8:(viewD L D).doubt<256:=ZO (gS (rI L D)) (by rw[hN'.out];exact(Ys (by decide) hL:2 ^ n<=2 ^ 8));have hO8:(yT L D).foldl (· ||| ·) 0<2 ^ 8:=wV.2 fun k hk=>by
     rw[gR,Xb,YC,Yt] at hk;obtain⟨f,hf,hk⟩:=hk;have h1:=rI L D f hf;rw[hN'.out] at h1;exact wV.1 (ZO h1 (Ys (by decide) hL)) k hk
    have hbn:=pR _ hd8;have hin:bits BinOp.andNot IntKind.u64 ((((yT L D).foldl (· ||| ·) 0:Nat)):Int) ((viewD L D).never:Int)=((viewD L D).doubt:Int):=by rw[zwe hO8,hdb]
    have q6:W3.heap[w.heap.size]?=some (.cells #[.slice none 0 0,.int .u64 0,.int .u64 0] 117 (0,0)):=(hkp.2 _ (by have:=wU q5;omega) (by have:=wU q5;omega) (by have:=wU q5;omega) (by have:=wU q5;omega)).trans ((hb23.block _ (wU q5)).trans q5);have hq5:=wU q5;have c65: ∀W,Below w.heap.size w W->Calls Tryz.prog 143 #[.int .u64 ((viewD L D).doubt:Int)] W fun e W'=>e=.returned (.int .i64 ((bitsN (viewD L D).doubt).length:Int))/\Below W.heap.size W W':=fun W hb=>(Go.Abs.c65 (viewD L D).doubt hd8).intC (A4.out.later (xM hb)) (Z:=zV W) (fun _ h=>h) (wS (.int .u64 _) (yY _ _))
    obtain⟨OO,hOO⟩: ∃O,(yT L D).foldl (· ||| ·) 0=O:=⟨_,rfl⟩;rw[hOO] at hs hin;obtain⟨S,hS⟩: ∃S,(viewD L D).sets=S:=⟨_,rfl⟩;obtain⟨NV,hNV⟩: ∃NV,(viewD L D).never=NV:=⟨_,rfl⟩;obtain⟨DB,hDB⟩: ∃DB,(viewD L D).doubt=DB:=⟨_,rfl⟩;have HQ:Aside ((viewD L D).sets=S/\(viewD L D).never=NV/\(viewD L D).doubt=DB):=⟨hS,hNV,hDB⟩;rw[hS] at hr;rw[hNV] at hv hin;rw[hDB] at hin c65 hbn;obtain⟨bl,hbl2⟩: ∃bl,(bitsN DB).length=bl:=⟨_,rfl⟩;rw[hbl2] at c65 hbn;have hb10: ¬(bl:Int)>10:=by omega
    obtain⟨e0,e1,e2⟩:=sG hv;have e3:=sR hs;have f2:W3.frozen? ⟨w2.heap.size,2,none⟩=false:=by simp[World.frozen?,hv]
    have hbs:Below w.heap.size w (W3.setCell ⟨w2.heap.size,2,none⟩ (.int .u64 (DB:Int))):=hbl.setCell (p:=⟨w2.heap.size,2,none⟩) (by omega) _;have hvX:=tG W3 w2.heap.size 2 _ 117 (0,0) (.int .u64 (DB:Int)) hv;have oX: ∀j,j≠w2.heap.size->(W3.setCell ⟨w2.heap.size,2,none⟩ (.int .u64 (DB:Int))).heap[j]?=W3.heap[j]?:=fun j hj=>zyS _ _ _ _ hj
    have rX:=ownsRow_setCell_below hr (a:=⟨w2.heap.size,2,none⟩) (by show w2.heap.size<_;omega) (.int .u64 (DB:Int));have qX:=(oX w.heap.size (by omega)).trans q6;have kX:=(oX D2 (by omega)).trans hK;have hfacs:Aside (∀W4,Below (W3.setCell ⟨w2.heap.size,2,none⟩ (.int .u64 (DB:Int))).heap.size (W3.setCell ⟨w2.heap.size,2,none⟩ (.int .u64 (DB:Int))) W4->W4.heap[w2.heap.size]?=some (.cells #[.slice sa sk sc,.int .u64 (NV:Int),.int .u64 (DB:Int)] 117 (0,0))/\W4.heap[w.heap.size]?=some (.cells #[.slice none 0 0,.int .u64 0,.int .u64 0] 117 (0,0))/\W4.heap[D2]?=some (.deferred (some []))/\W4.ownsRow w3.heap.size 115 1 (.slice sa sk sc) S.length (S.map fun(s:Nat)=>Value.int .u64 (s:Int))/\Below w.heap.size w W4):=
     fun W4 h4=>⟨(h4.block _ (wU hvX)).trans hvX,(h4.block _ (wU qX)).trans qX,(h4.block _ (zc7 kX)).trans kX,rX.kept (lI h4) (by cases (Value.slice sa sk sc).ownBlock<;>simp),hbs.trans (h4.mono hbs.size)⟩
    refine(‹∀(a:Act) (w:World),Code.wpIn Fence.wide 8 Tryz.prog _ _ a w->_›) _ _ ?_;clear hv hr hs hbm hmS hkp a0 a1 a2 a3 a4 a5 a6 a7 hFA q4 q5 hmp k63 k37 k64 hmm hpl hpd hpc hbl oX rX qX kX hvX hnv hdb hst hd8 hO8 hxs hxs' hK
    gi_wp2_with (refine⟨trivial,?_⟩;gi_at_call 143;refine(callsIn_wide.2 (c65 _ hbs)).mono ?_;rintro e W4 ⟨rfl,hb4⟩;obtain⟨t1,t2,t3,t4,t5⟩:=hfacs.out W4 hb4;obtain⟨u0,u1,u2⟩:=sG t1;obtain⟨u3,u4,u5⟩:=sG t2;have v0:W4.frozen? ⟨w.heap.size,0,none⟩=false:=(by simp[World.frozen?,t2]);have v1:W4.frozen? ⟨w.heap.size,1,none⟩=false:=(by simp[World.frozen?,t2]);have v2:W4.frozen? ⟨w.heap.size,2,none⟩=false:=(by simp[World.frozen?,t2]))
    have hY:=zc6 t2 (.slice sa sk sc) (.int .u64 (NV:Int)) (.int .u64 (DB:Int));have oY: ∀j,j≠w.heap.size->(((W4.setCell ⟨w.heap.size,0,none⟩ (.slice sa sk sc)).setCell ⟨w.heap.size,1,none⟩ (.int .u64 (NV:Int))).setCell ⟨w.heap.size,2,none⟩ (.int .u64 (DB:Int))).heap[j]?=W4.heap[j]?:=fun j hj=>((zyS _ _ _ _ hj).trans (zyS _ _ _ _ hj)).trans (zyS _ _ _ _ hj)
    have hBY:Below w.heap.size w (((W4.setCell ⟨w.heap.size,0,none⟩ (.slice sa sk sc)).setCell ⟨w.heap.size,1,none⟩ (.int .u64 (NV:Int))).setCell ⟨w.heap.size,2,none⟩ (.int .u64 (DB:Int))):=((t5.setCell (p:=⟨w.heap.size,0,none⟩) (Zw _) _).setCell (p:=⟨w.heap.size,1,none⟩) (Zw _) _).setCell (p:=⟨w.heap.size,2,none⟩) (Zw _) _;have hrY:=ownsRow_setCell_below (ownsRow_setCell_below (ownsRow_setCell_below t4 (a:=⟨w.heap.size,0,none⟩) (by show w.heap.size<_;omega) (.slice sa sk sc)) (a:=⟨w.heap.size,1,none⟩) (by show w.heap.size<_;omega) (.int .u64 (NV:Int))) (a:=⟨w.heap.size,2,none⟩) (by show w.heap.size<_;omega) (.int .u64 (DB:Int));have hKY:=(oY D2 (by omega)).trans t3;generalize (((W4.setCell ⟨w.heap.size,0,none⟩ (.slice sa sk sc)).setCell ⟨w.heap.size,1,none⟩ (.int .u64 (NV:Int))).setCell ⟨w.heap.size,2,none⟩ (.int .u64 (DB:Int)))=Y at hY oY hBY hrY hKY⊢;refine⟨by simp,.inl ⟨_,_,rfl,run_takeDeferred hKY,?_⟩⟩;obtain⟨e5,e6,e7⟩:=HQ.out;rw[e5,e6,e7];refine⟨_,lL rfl _ _ rfl ((World.putObj_heap_other (by omega)).trans hY) Tryz.underlying117 (by kernel_rfl),.inr ⟨trivial,_,rfl,hBY.grown (grownBy_putObj' _ D2 _) hBY.size (fun k e=>by cases e;omega),(ownsRow_putObj hrY _ hKY rfl).mono (by omega)⟩⟩
  ·obtain⟨er,her⟩: ∃er,(cnts D).2.2=er:=⟨_,rfl⟩
   rw[her] at hE k37 h0;rw[hE];have h0':(er==0)=false:=by simp[h0]
   have h0n:Aside (er≠0):=h0;clear h0 her;refine callsIn_of_wp_marks Tryz.func82 rfl trivial ?_;simp only[Tryz.ntmps82,Yx,Zo,ZF,Zc,Y9,YI,YH,YS,YO,Yd,ZQ]
   gi_wp2_with (first|(refine⟨trivial,?_⟩;gi_at_call 141;refine(callsIn_wide.2 (k63 _ (hB0 _))).mono ?_;rintro e w1 ⟨x1,rfl,hb1⟩;have hB1:=(hB0 (.cells #[.slice none 0 0,.int .u64 0,.int .u64 0] 117)).trans (hb1.mono (hB0 _).size);have q4:=(hb1.block w.heap.size (by simp only[World.size_alloc];omega)).trans (World.alloc_heap_new w _))|(refine⟨trivial,?_⟩;gi_at_call 115;refine(callsIn_wide.2 (k37 _ hB1)).mono ?_;rintro e w2 ⟨vc,rfl,hb2,hpc⟩;have q5:=(hb2.block w.heap.size (wU q4)).trans q4;obtain⟨c40,c41,c42⟩:=sG q5;have e7: ∀j,w2.frozen? ⟨w.heap.size,j,none⟩=false:=(fun j=>by simp[World.frozen?,q5]);have e8:=e7 0;have e9:=e7 1;have e10:=e7 2;have hB2:=hB1.trans (hb2.mono hB1.size)))
   refine⟨_,lL rfl _ _ rfl (zc6 q5 _ _ _) Tryz.underlying117 (by kernel_rfl),.inl ⟨h0n.out,rfl,((hB2.setCell (p:=⟨w.heap.size,0,none⟩) (Zw _) _).setCell (p:=⟨w.heap.size,1,none⟩) (Zw _) _).setCell (p:=⟨w.heap.size,2,none⟩) (Zw _) _⟩⟩
end Go.Proofs
namespace Go.Ex
open Go.Lib Go.Wd Go.Wire Go.Abs
def lS (L:List Dmd) (D:List Dcm):Vw:=if lookE L D=0 then viewD L D else⟨[],0,0⟩
end Go.Ex
namespace Go.Abs
open Go.Proofs Go.RowKit Go.Lib Go.Wd Go.Wire Go.Ex
theorem zwi {W:World} {B:Nat} {l:List Nat} {v:Value} (h:W.ownsRow B 115 1 v l.length (l.map fun(s:Nat)=>Value.int .u64 (s:Int))):PRep W (fun b=>B<=b.2/\b.2<W.heap.size/\sW W b.2) (zB 1 (sets l)) v:=by
 rcases h with⟨_,⟨hv,h0⟩|⟨g,cap,cur,hv,hg,hh,h5,h6,h7,h8⟩⟩
 ·obtain rfl:=Yg h0
  subst hv;exact .nil 0 none (by simp)
 ·subst hv
  by_cases h0:l=[]
  ·subst h0
   exact .list g 0 cap 0 none [] (fun _ _=>undef) (by simp) h5 h6 (fun h=>absurd rfl h) (by simp) (by simp) (by simp)
  ·have e:zB 1 (sets l)=.list 1 none (sets l):=by
    unfold zB;rw[if_neg];cases l with|nil=>exact absurd rfl h0|cons a L=>simp[sets]
   have hat: ∀(i j:Nat) r c,(sets l)[i]?=some r->r[j]?=some c->j=0/\ ∃s:Nat,l[i]?=some s/\c=.int .u64 (s:Int):=fun i j r c hr hc=>by
    rw[sets,Zz] at hr;cases hs:l[i]? with
    |none=>rw[hs] at hr;cases hr
    |some s=>
     rw[hs] at hr;cases hr;cases j with
     |zero=>cases hc;exact⟨rfl,s,rfl,rfl⟩
     |succ j=>simp at hc
   have hcell: ∀j s,l[j]?=some s->W.cell? ⟨g,j,none⟩=some (.int .u64 ((s:Nat):Int)):=by
    intro j s hs;have hj:=(Zu.1 hs).1;have h9:=congrArg (fun x:List Value=>x[j]?) h8;simp only[Yv,List.getElem?_take_of_lt hj,Zz,hs,YA] at h9;rw[Yu] at h9;simp only[World.cell?,hh];simp only[YT,Z1,if_false];exact h9
   rw[e];have key:PRep W (fun b=>B<=b.2/\b.2<W.heap.size/\sW W b.2) (.list 1 none (sets l)) (.slice (some ⟨g,0,none⟩) (sets l).length cap):=by
    refine .list g 0 cap 1 none (sets l) (fun i _=> .int .u64 ((l.getD i 0:Nat):Int)) (by simp) (by rw[rK];exact h5) h6 (fun _=>⟨hg,(Zs.1 hh).1,fun c e f h=>by rw[hh] at h;cases h;rfl⟩) (fun r hr=>by obtain⟨s,_,rfl⟩:=ZH.1 hr;rfl) (fun i j r c hr hcj=>?_) fun i j r c hr hcj=>?_
    ·obtain⟨rfl,s,hs,rfl⟩:=hat i j r c hr hcj
     rw[Yv,Yf,ZY,hcell i s hs];simp[List.getD,hs]
    ·obtain⟨rfl,s,hs,rfl⟩:=hat i j r c hr hcj
     have:l.getD i 0=s:=by simp[List.getD,hs]
     rw[this];exact .int _ _
   rw[rK] at key;exact key
theorem c32 (L:List Dmd) (D:List Dcm) (hL:L.length<=8) (hm: ∀m∈L,DmdS m) (hD:rG D) (hp:(cnts D).2.2=0-> ∀i,i<yF D->tA (rdsD D i)):
  Spec Tryz.prog 82 [lst 8 (L.map zU),lst 2 (D.map zJ)] (fun r=>r=.tup [.agg [zB 1 (sets (lS L D).sets),.int .u64 ((lS L D).never:Int),.int .u64 ((lS L D).doubt:Int)],.int .i64 (lookE L D)]):=by
 refine⟨vN (by kernel_rfl),fun w Z vs hG hz ha=>?_⟩;obtain⟨vl⟩:=vs
 match vl,ha with
 |[],ha=>exact absurd ha.1 (by simp)
 |[_],ha=>exact absurd ha.1 (by simp)
 |_::_::_::_,ha=>exact absurd ha.1 (by simp)
 |[v,v2],ha=>
  have h1:PRep w Z (zB 8 (L.map zU)) v:=(ha.2 0 _ v rfl rfl).2.2;have h2:PRep w Z (zB 2 (D.map zJ)) v2:=(ha.2 1 _ v2 rfl rfl).2.2;refine(zwh L D hL hm hD hp w hG v v2 (oK hz h1) (oK hz h2)).mono ?_;rintro e w' (⟨h0,rfl,hb⟩|⟨h0,vs,rfl,hb,hr⟩)
  ·refine⟨_,_,rfl,rfl,fun _=>rfl,nV hG (xM hb) (fun _=>rfl) fun Z=>⟨_,rfl,rfl,⟨_,rfl,?_⟩,⟨rfl,.int _ _⟩,trivial⟩⟩
   unfold lS;rw[if_neg h0];refine⟨rfl,fun j c v hc hv=>?_⟩
   match j with
   |0=>cases hc;cases hv;exact .nil 0 none (by simp)
   |1=>cases hc;cases hv;exact .int _ _
   |2=>cases hc;cases hv;exact .int _ _
   |j+3=>simp at hc
  ·refine⟨_,_,rfl,rfl,fun _=>rfl,zcR hG (xM hb) (fun _=>rfl) ⟨_,rfl,rfl,⟨_,rfl,?_⟩,⟨rfl,by rw[h0];exact .int _ _⟩,trivial⟩ (fun _=>rfl)⟩
   unfold lS;rw[if_pos h0];refine⟨rfl,fun j c v hc hv=>?_⟩
   match j with
   |0=>cases hc;cases hv;exact zwi hr
   |1=>cases hc;cases hv;exact .int _ _
   |2=>cases hc;cases hv;exact .int _ _
   |j+3=>simp at hc
end Go.Abs
