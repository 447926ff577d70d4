/- A part of the proof; the last text states what is proved. -/
import Derived.Test.YtpmicgjdckeejaaGreatDoorP4
import Derived.Shelf.SlSortCmp.NoneTotal
import Derived.Test.YtpmicgjdckeejaaGreatDoorProg
import Derived.Shelf.SlicesG.Cmp
import Derived.Below
import Derived.WalkKit
import Derived.Deep.LoopGhost
import Derived.Lib.SlicesCompact
import Derived.Shelf.SlicesQ.Reverse
import Derived.Shelf.SlSortFuncK.RowK2
import Derived.Shelf.SlSortCmp.InsertionK
import Derived.Laws.StructEq
import Derived.Shelf.SlicesE.Kit
import Derived.Shelf.RegionOpenPlain
import Derived.Lib.ItoaLen
import Derived.Shelf.Strconv.Itoa3
import Derived.Shelf.LaysM
import Derived.Lib.Walk
import Derived.Lib.ItoaWalk
import Derived.Lib.ItoaMem
import Derived.RegionTactic
import Derived.BigCall
import Derived.BigGuard
import Derived.CellFam
import Derived.Deep.RegionHeld3
import Derived.Deep.RegionHeld
import Derived.Maps.AppendAt
import Derived.Maps.OwnIn
import Derived.DataShut
import Derived.Test.YtpmicgjdckeejaaGreatDoorRows
import Derived.Test.YtpmicgjdckeejaaGreatDoorCards
import Derived.Test.YtpmicgjdckeejaaGreatDoorTie
import Derived.ProofKit
import Derived.LaidMore
import Derived.Lib.LaidTab
import Derived.Lib.LaidU8
import Derived.OpenShut
import Derived.SevenTiedAt
import Derived.Deep.DeepHandedRow
import Derived.Deep.DeepWitnessRowRef
import Derived.Shelf.Vars
set_option linter.unusedVariables false
set_option linter.unusedSimpArgs false
set_option maxRecDepth 100000
set_option maxHeartbeats 8000000
open Array renaming eq_empty_of_size_eq_zero → YT,ext' → X1,getD_eq_getD_getElem? → ZS,getElem?_append_left → Y2,getElem?_eq_getElem → Yg,getElem?_eq_some_iff → Zs,getElem?_modify → Xv,getElem?_toList → YE,length_toList → YO,replicate → YS,replicate_succ → YV,replicate_zero → YU,size_replicate → Xz
open BitVec renaming ofInt → Z2,ofNat → Wm,toNat_ofNat → Xa
open Bool renaming and_assoc → X4,and_eq_false_iff → Xi,and_eq_true → Zp,and_false → Yo,and_true → Y9,eq_false_iff → Yj,eq_iff_iff → Ye,false_and → ZF,false_eq_true → Ya,false_or → Yd,not_eq_true' → YL,not_false → Yu,not_true → YH,or_eq_true → Yi,or_false → YQ,true_and → ZC,true_or → YI
open Eq renaming refl → ZR,trans → Z1
open Exists renaming intro → Yc
open Int renaming natCast_ediv → X2,natCast_mul → Yq,reduceBEq → YN,reduceBNe → Yw,reduceLE → Yy,reduceLT → Xy,reduceNeg → Yp,reduceToNat → X5,toNat_natCast → Ym
open List renaming all_append → Xe,all_cons → Yz,all_eq_false → YK,all_eq_true → Zt,all_nil → Xu,any_eq_true → Yx,append_assoc → Z3,append_nil → Zi,append_toArray → Y1,cons_append → ZT,contains_cons → Wl,drop_eq_getElem_cons → Zx,drop_eq_nil_of_le → ZE,eq_nil_of_length_eq_zero → Yn,ext_getElem → XA,filter_append → Y6,filter_cons → Xn,filter_nil → XK,flatMap_cons → XV,flatten_append → Wj,flatten_cons → YR,foldl_append → XI,getD_eq_getElem?_getD → Zm,getElem?_eq_getElem → Zk,getElem?_eq_some_iff → Zw,getElem?_map → ZD,getElem?_replicate → X9,getElem?_toArray → Xh,getElem_mem → Zv,getElem_of_mem → XP,length_append → Zr,length_cons → Zu,length_filter_le → Yr,length_map → Ze,length_nil → ZK,length_pos_iff → Yl,length_take → Yk,map_append → ZV,map_cons → Zj,map_nil → Zo,mem_append → Yt,mem_cons → ZB,mem_cons_of_mem → ZH,mem_filter → Z8,mem_flatten → XX,mem_map → ZL,mem_of_mem_take → Xl,mem_range → Yb,mem_singleton → Z9,nil_append → Z7,nodup_cons → ZJ,not_mem_nil → Zq,push_toArray → Y7,range_succ → YY,setIfInBounds_toArray → ZP,set_cons_succ → Z6,set_cons_zero → Z5,size_toArray → YJ,take_length → Yh,take_of_length_le → ZU,take_succ_eq_append_getElem → Zz
open List.Pairwise renaming nil → Xx
open List.Perm renaming refl → XF
open Nat renaming add_assoc → YM,add_comm → Y4,add_mul → YB,add_zero → YC,div_le_self → Xk,eq_of_testBit_eq → XE,le_refl → ZA,le_trans → ZX,lt_of_le_of_lt → XW,lt_of_lt_of_le → ZO,lt_or_ge → Y3,min_eq_left → Y8,mod_eq_of_lt → Xq,mod_lt → XH,mul_comm → Wi,mul_le_mul_right → ZY,mul_one → Y5,one_mul → X3,one_shiftLeft → X0,pow_le_pow_right → ZW,pow_lt_pow_right → XD,reduceAdd → Zb,reduceBEq → Za,reduceEqDiff → Zn,reduceLT → ZN,reduceLeDiff → Zd,reduceMul → Yf,reduceSub → Xr,sub_zero → XZ,succ_mul → Xw,zero_add → Z4,zero_le → Zy,zero_testBit → YW
open Option renaming bind_some → Xg,isSome_none → Y0,map_eq_some_iff → Zf,map_some → YF
open Option.some renaming inj → YA
namespace Go.Abs
open Go.Sort Go.Proofs Go.Shelf Go.Lib Go.RowKit
def zP (e:TypeId) (k τ:Nat) (rows:List (List C)):Nat->Option O:=fun s=>if s=τ then some (.arr e k none rows) else none
def zbw (w:World) (Z:Bk->Prop) (r:List C) (v:List Value):Prop:=v.length=r.length/\ ∀(j:Nat) c u,r[j]?=some c->v[j]?=some u->PRep w Z c u
theorem zjO {w:World} {b:Nat} {cur F:Array Value} {e:TypeId} (hb:w.heap[b]?=some (.cells cur e (0,0))) (hF:F.size<=cur.size) (h: ∀j,j<F.size->cur[j]?=some F[j]!):Holds id w b 0 F:=by
 intro j hj;refine⟨?_,by simp[World.frozen?,hb]⟩;simp only[World.cell?,hb,Z4];simp only[Y0,Ya,if_false];exact h j hj
theorem zjP {w:World} {g n:Nat} {os:Array Obj} {cur:Array Value} {e:TypeId} {fr:Nat×Nat} (d:Array Value) (hb:w.heap[g]?=some (.cells cur e fr)):
  (grow (putRow id (Sort.ahead w n) g 0 d) os).heap[g]?=some (.cells (putCells id 0 d cur) e fr):=by
 have hg:g<w.heap.size:=(Zs.1 hb).1;rw[heap_grow_old _ _ (by simpa using hg)];simp[putRow,mapBlock,Sort.ahead,Xv,hb,onCells]
theorem dW {w:World} {g n:Nat} {os:Array Obj} (d:Array Value):w.grownBy (grow (putRow id (Sort.ahead w n) g 0 d) os) (some g):=by
 refine⟨rfl,rfl,rfl,by simp,fun k hk hne=>?_⟩;rw[heap_grow_old _ _ (by simpa using hk)];have:g≠k:=fun e=>hne (by rw[e])
 simp[putRow,mapBlock,Sort.ahead,Xv,this]
theorem zjQ {vs:Array Value} (h:vs.size=2): ∃a b,vs= #[a,b]:=by
 obtain⟨l⟩:=vs
 match l,h with
 |[a,b],_=>exact⟨a,b,rfl⟩
theorem zjR {τ:Nat} {x y r:V} (o:Nat->Option O) (ob:O) (h: ∀s,s≠τ->o s=none):(((⟨fun s=>[x,y].getD s .any,o⟩:St).scrub τ).setO τ ob).put 0 r=⟨fun s=>if s=0 then r else(([x,y].getD s .any).scrub τ),fun s=>if s=τ then some ob else none⟩:=by
 simp only[St.put,St.setO,St.scrub,St.mk.injEq];refine⟨trivial,?_⟩;funext s;by_cases hs:s=τ
 ·simp[hs]
 ·simp[hs,h s hs]
theorem zpI {P:Program} {ρ:Ren} (L:SlLaysF0.n6 P ρ) (hc:rA P (ρ.f 6)) (e:TypeId) (k:Nat) (k0:0<k) (aE: ∀w,(isAgg (ρ.t 24)).run P w=.ok true w) (zE: ∀w,(Go.sizeOf (ρ.t 24)).run P w=.ok k w)
  {β:Type} (encR:β->List C) (hk: ∀x,(encR x).length=k) (cf:β->β->Int) (lt:β->β->Bool) (hlt: ∀x y,decide (cf x y<0)=lt x y) (hO:SWO lt) (g:Nat) (eg: ∀args w,(callFunc g args).run P w=.ok (.enter g args) w)
  (τ:Nat) (ks:List β) (hm:ks.length<4611686018427387904)
  (hcl: ∀x∈ks,∀y∈ks,∀(W:World) (Z:Bk->Prop) (vx vy:List Value),(∀b,Z b->b.2<W.heap.size)->zbw W Z (encR x) vx->zbw W Z (encR y) vy->
   Calls P g #[.agg vx.toArray,.agg vy.toArray] W fun e w'=>e=.returned (.int .i64 (cf x y))/\ ∃q os',w'=grow (W.drewN q) os'):
  wO P (ρ.f 6) [.k (.own τ),.k (.c (.fn g []))] (zP e k τ (ks.map encR)) [τ] (fun r o'=>r=.tup []/\ ∃out:List β,out.Perm ks/\out.Pairwise (fun x y=>lt y x=false)/\o'=zP e k τ (out.map encR)):=by
 refine⟨hc,fun w0 Z0 κ w vs hsz hi=>?_⟩;obtain⟨v,fv,rfl⟩:=zjQ hsz;have ho:(zP e k τ (ks.map encR)) τ=some (.arr e k none (ks.map encR)):=by simp[zP]
 have hno: ∀s,s≠τ->zP e k τ (ks.map encR) s=none:=fun s hs=>by simp[zP,hs]
 have hob:=hi.objs τ _ ho;have htm:zJ w (Zof w0 Z0 κ (zP e k τ (ks.map encR)) w) κ (zP e k τ (ks.map encR)) (.k (.own τ)) v:=by simpa using hi.tmps 0
 have htf:zJ w (Zof w0 Z0 κ (zP e k τ (ks.map encR)) w) κ (zP e k τ (ks.map encR)) (.k (.c (.fn g []))) fv:=by simpa using hi.tmps 1
 have hfv:fv=.func (.func g) #[] #[]:=by
  have:=htf.2;unfold yQ at this;cases this with
  |fn f caps us val h1 h2 h3=>
   have:us= #[]:=YT h1;rw[this]
 subst hfv;have none_case: ∀(p:Option Addr) (cap:Nat),ks=[]->v=.slice p 0 cap->Calls P (ρ.f 6) #[v,.func (.func g) #[] #[]] w fun e_1 w'=> ∃v κ' r o',e_1=.returned v/\(r=.tup []/\ ∃out:List β,out.Perm ks/\out.Pairwise (fun x y=>lt y x=false)/\o'=zP e k τ (out.map encR))/\xA (fun τ_1=>τ_1∈[τ]) (zP e k τ (ks.map encR)) o' κ κ' w w'/\Inv w0 Z0 κ' ⟨fun s=>if s=0 then r else .any,o'⟩ #[v] w':=by
  intro p cap hnil hv;subst hnil hv;refine(AnyF.slices_SortFunc_none L p cap _ w).mono ?_;rintro ex w' ⟨rfl,hw⟩;rw[hw];have hI:=hi.moveG (τ:=τ) (d:=0) (ob:=.arr e k none []) (v:=.tup []) (u:=.tuple #[]) (bo:=κ τ) (w':=w) ho (by simp) rfl rfl rfl (ZA _) (fun _ _ _=>rfl) (fun b hb=> .inr hb)
   (fun Z hZ=>?_) ⟨#[],rfl,rfl,trivial⟩
  ·have hI2:=hI.only (T:=[τ]) (r:=.tup []) (v:=.tuple #[]) ⟨#[],rfl,rfl,trivial⟩ rfl (fun t ht ob hob=>by
    simp only[Z9] at ht
    subst ht
    simp[St.put,St.setO] at hob
    subst hob;rfl)
   have htab:yJ [τ] ((((⟨fun s=>[V.k (.own τ),.k (.c (.fn g []))].getD s .any,zP e k τ (([]:List β).map encR)⟩:St).scrub τ).setO τ (.arr e k none [])).put 0 (.tup [])).o=zP e k τ (([]:List β).map encR):=by
    funext t;unfold yJ zP;by_cases ht:t=τ
    ·subst ht;simp[St.put,St.setO]
    ·simp[ht]
   rw[htab] at hI2;refine⟨.tuple #[],_,.tup [],_,rfl,⟨rfl,[],XF _,Xx,rfl⟩,?_,hI2⟩;intro s hs;simp only[Z9] at hs;subst hs;refine⟨by simp[yG,zP],by simp,fun _ b hb cur e' f hcur=>⟨cur,hcur,rfl⟩⟩
  ·have hZ':=hob
   rcases hZ' with⟨h1,_,_⟩|⟨b,cur,cap',h1,h2,h3,h4,h5,h6,_,h8,_⟩
   ·exact .inl ⟨by simp[h1],rfl,by simp⟩
   ·exact .inr ⟨b,cur,cap',by simp[h1],h2,h3,h4,by simp,h6,by simp,by simp,fun i j r c hr=>by simp at hr⟩
 rcases hob with⟨hκ,hrows,_⟩|⟨b,cur,cap,hκ,hheap,h0,hcs,hlen,hcap,_,hall,hrr⟩
 ·have hl0:ks=[]:=by simpa using hrows
  have hv:v=.slice none 0 0:=by
   rcases htm.2 e k none _ ho with⟨_,hv⟩|⟨b,_,_,hb,_⟩
   ·exact hv
   ·rw[hκ] at hb;cases hb
  exact none_case none 0 hl0 hv
 ·obtain⟨cap',hv,hcap'⟩: ∃cap',v=.slice (some ⟨b,0,none⟩) ks.length cap'/\cur.size=cap'*k:=by
   rcases htm.2 e k none _ ho with⟨hn,_⟩|⟨b',cur',cap',hb,hh,hc2,hv⟩
   ·rw[hκ] at hn;cases hn
   ·rw[hκ] at hb;cases hb
    rw[hheap] at hh;cases hh;exact⟨cap',by simpa using hv,hc2⟩
  by_cases hks:ks=[]
  ·exact none_case _ cap' hks (by rw[hv,hks];rfl)
  have hpos:0<ks.length:=Yl.2 hks;subst hv;have hlt':b<w.heap.size:=wJ hheap;rw[Ze] at hlen;have hcsz:ks.length*k<=cur.size:=by rw[hcs];exact ZY k hlen
  haveI:Inhabited (Fin ks.length):=⟨⟨0,hpos⟩⟩
  let enc:Fin ks.length->List Value:=fun i=>(List.range k).map fun j=>cur.getD (i.1*k+j) (.bool true)
  have enck: ∀x,(enc x).length=k:=fun x=>by simp[enc]
  have hcell: ∀(i:Fin ks.length) (j:Nat) c,(encR ks[i.1])[j]?=some c-> ∃u,cur[i.1*k+j]?=some u/\(enc i)[j]?=some u/\PRep w (Zof w0 Z0 κ (zP e k τ (ks.map encR)) w) c u:=by
   intro i j c hcj;have hj:j<k:=by rw[<-hk ks[i.1]];exact(Zw.1 hcj).1
   obtain⟨u,hu,hp⟩:=hrr i.1 j (encR ks[i.1]) c (by rw[ZD,Zk i.2];rfl) hcj;refine⟨u,hu,?_,hp⟩;simp only[enc,ZD,List.getElem?_range hj,YF];rw[ZS,hu];rfl
  have henc1: ∀x,∀u∈enc x,u.oneCell'=true:=by
   intro x u hu;obtain⟨j,hj,rfl⟩:=XP hu;have hj':j<k:=by rwa [enck] at hj
   obtain⟨u2,_,h2,h3⟩:=hcell x j _ (Zk (by rw[hk];exact hj'));rw[Zk hj] at h2;cases h2;exact h3.oneCell
  let d:Array (Fin ks.length):=Array.ofFn fun i=>i
  have hds:d.size=ks.length:=by simp[d]
  have hdi: ∀i (h:i<ks.length),d[i]! =⟨i,h⟩:=fun i h=>by simp[d,h]
  have hflat: ∀(d':Array (Fin ks.length)),d'.size=ks.length-> ∀t,t<ks.length*k->(flatK enc k d')[t]! =cur.getD (d'[t/k]!.1*k+t % k) (.bool true):=by
   intro d' hd' t ht;rw[get_flatK _ _ _ _ (by rw[hd'];exact ht)];have hm2:t % k<k:=XH _ k0;simp only[enc];rw[getElem!_pos _ _ (by simpa using hm2)];simp
  have hH:HoldsK enc k w b 0 d:=by
   refine zjO hheap (by simp[hds];exact hcsz) fun t ht=>?_
   rw[size_flatK,hds] at ht;rw[hflat d hds t ht];have hq:t/k<ks.length:=(Nat.div_lt_iff_lt_mul k0).2 ht;rw[hdi _ hq];have e1:t/k*k+t % k=t:=Nat.div_add_mod' t k;show cur[t]?=some (cur.getD (t/k*k+t % k) _);rw[e1,ZS,Yg (by omega)];rfl
  let cfF:Fin ks.length->Fin ks.length->Int:=fun i j=>cf ks[i.1] ks[j.1]
  have hltF: ∀x y,ltOf cfF x y=lt ks[x.1] ks[y.1]:=fun x y=>by unfold ltOf;exact hlt _ _
  have hOF:SWO (ltOf cfF):=⟨fun x=>by rw[hltF];exact hO.irrefl _,fun x y z h1 h2=>by rw[hltF] at*;exact hO.trans _ _ _ h1 h2,fun x y z h1 h2=>by rw[hltF] at*;exact hO.ntrans _ _ _ h1 h2⟩;have hcmp:CmpLays P g #[] enc k cfF b 0 d.size w:=by
   intro m os dk hdk x y;have hsame:xG (Zof w0 Z0 κ (zP e k τ (ks.map encR)) w) w (sortWorldK enc k w b 0 m dk os):=by
    intro bk hbk;have hne:bk.2≠b:=fun e2=>hbk.2.2 τ (by rw[ho];simp) (by rw[hκ,e2])
    exact(dW (flatK enc k dk)).block bk.2 hbk.2.1 (fun e2=>hne (by cases e2;rfl))
   have hrow: ∀i:Fin ks.length,zbw (sortWorldK enc k w b 0 m dk os) (Zof w0 Z0 κ (zP e k τ (ks.map encR)) w) (encR ks[i.1]) (enc i):=by
    intro i;refine⟨by rw[enck,hk],fun j c u hcj hu=>?_⟩;obtain⟨u2,_,h2,h3⟩:=hcell i j c hcj;rw[h2] at hu;cases hu;exact h3.mono hsame fun _ h=>h
   have hsz2:w.heap.size<=(sortWorldK enc k w b 0 m dk os).heap.size:=(dW (flatK enc k dk)).size;have:=hcl ks[x.1] (Zv _) ks[y.1] (Zv _) (sortWorldK enc k w b 0 m dk os) (Zof w0 Z0 κ (zP e k τ (ks.map encR)) w) (enc x) (enc y) (fun bk hbk=>ZO hbk.2.1 hsz2) (hrow x) (hrow y);rw[show(#[.agg (enc x).toArray,.agg (enc y).toArray]++ #[]:Array Value)= #[.agg (enc x).toArray,.agg (enc y).toArray] from rfl];exact this
  have hcon:=AnyQ.slices_SortFunc L k aE zE enc enck henc1 cfF hOF g #[] b 0 cap' d w eg hcmp hH hlt' (by rw[hds];exact hm);rw[hds] at hcon;refine hcon.mono ?_;rintro ex w' ⟨rfl,d',n,os,⟨p1,p2,p3⟩,hs,rfl⟩;rw[hds] at p1;have hfull: ∀a:Array (Fin ks.length),a.size=ks.length->a.extract 0 ks.length=a:=fun a ha=>by
   apply Array.ext
   ·simp[ha]
   ·intro i h1 h2;simp
  rw[hfull d' p1,hfull d hds] at p3
  let out:List β:=d'.toList.map fun i=>ks[i.1]
  have hol:out.length=ks.length:=by simp[out,p1]
  have hperm:out.Perm ks:=by
   have h1:(d.toList.map fun i:Fin ks.length=>ks[i.1])=ks:=by
    apply XA
    ·simp[d]
    ·intro i h1 h2;simp[d]
   have h2:(d'.toList.map fun i:Fin ks.length=>ks[i.1]).Perm (d.toList.map fun i:Fin ks.length=>ks[i.1]):=p3.map _;rw[h1] at h2;exact h2
  have hpw:out.Pairwise fun x y=>lt y x=false:=by
   rw[List.pairwise_iff_getElem];intro i j h1 h2 hij;have hi1:i<d'.size:=by rw[p1,<-hol];exact h1
   have hj1:j<d'.size:=by rw[p1,<-hol];exact h2
   have:=hs i j (Zy _) hij (by rw[<-p1];exact hj1);rw[hltF,getElem!_pos d' i hi1,getElem!_pos d' j hj1] at this;simpa [out] using this
  have hh2:=zjP (w:=w) (n:=n) (os:=os) (flatK enc k d') hheap;obtain⟨g1,g2,g3,g4,g5⟩:=dW (w:=w) (g:=b) (n:=n) (os:=os) (flatK enc k d');have hsz2:(putCells id 0 (flatK enc k d') cur).size=cur.size:=by simp[putCells]
  have hzsame:xG (Zof w0 Z0 κ (zP e k τ (ks.map encR)) w) w (sortWorldK enc k w b 0 n d' os):=by
   intro bk hbk;have hne:bk.2≠b:=fun e2=>hbk.2.2 τ (by rw[ho];simp) (by rw[hκ,e2])
   exact g5 bk.2 hbk.2.1 (fun e2=>hne (by cases e2;rfl))
  have hI:=hi.moveG (τ:=τ) (d:=0) (ob:=.arr e k none (out.map encR)) (v:=.tup []) (u:=.tuple #[]) (bo:=some b) (w':=sortWorldK enc k w b 0 n d' os) ho (by simp) g1 g2 g3 g4
   (fun q hq hne=>g5 q hq (by rw[hκ] at hne;exact fun h=>hne (by cases h;rfl))) (fun b' hb=> .inr (by cases hb;exact hκ))
   (fun Z hZ=> .inr ⟨b,_,cap,by simp,hh2,h0,by rw[hsz2];exact hcs,by rw[Ze,hol];exact hlen,hcap,by simp,fun r hr=>by obtain⟨x,_,rfl⟩:=ZL.1 hr;exact hk x,fun i j r c hr hcj=>?_⟩) ⟨#[],rfl,rfl,trivial⟩
  ·rw[zjR _ _ hno] at hI
   have hI2:=hI.only (T:=[τ]) (r:=.tup []) (v:=.tuple #[]) ⟨#[],rfl,rfl,trivial⟩ rfl (fun t ht ob hob=>by
    simp only[Z9] at ht
    subst ht
    simp at hob
    subst hob;rfl)
   have htab:yJ [τ] (fun s=>if s=τ then some (O.arr e k none (out.map encR)) else none)=zP e k τ (out.map encR):=by
    funext t;unfold yJ zP;by_cases ht:t=τ
    ·subst ht;simp
    ·simp[ht]
   rw[htab] at hI2;refine⟨.tuple #[],_,.tup [],_,rfl,⟨rfl,out,hperm,hpw,rfl⟩,?_,hI2⟩;intro s hs;simp only[Z9] at hs;subst hs;refine⟨by simp[zP,yG,hol],by simp[hκ],fun _ b' hb cur0 e0 f0 hc0=>?_⟩;rw[hκ] at hb;cases hb;rw[hheap] at hc0;cases hc0;exact⟨_,hh2,hsz2⟩
  ·
   have hi':i<ks.length:=by have:=(Zw.1 hr).1;rwa [Ze,hol] at this
   have hid:i<d'.size:=by rw[p1];exact hi'
   have hout:out[i]'(by rw[hol];exact hi')=ks[(d'[i]).1]:=by simp[out]
   have hr':r=encR ks[(d'[i]).1]:=by
    rw[ZD,Zk (by rw[hol];exact hi')] at hr;have:=YA hr;rw[<-this,hout]
   subst hr';have hj:j<k:=by rw[<-hk ks[(d'[i]).1]];exact(Zw.1 hcj).1
   obtain⟨u,hu,_,hp⟩:=hcell d'[i] j c hcj;have hlt2:i*k+j<ks.length*k:=by
    have:=ZY k (show i+1<=ks.length from hi');rw[YB,X3] at this;omega
   have e1:(i*k+j)/k=i:=(blk_iff k i _ k0).1 ⟨by omega,by omega⟩;have e2:(i*k+j) % k=j:=by rw[Nat.mod_eq_sub_div_mul,e1];omega
   refine⟨u,?_,hp.mono hzsame hZ⟩;have hf:=hflat d' p1 (i*k+j) hlt2;rw[e1,e2,getElem!_pos d' i hid,ZS,hu] at hf;have hfs:i*k+j<(flatK enc k d').size:=by rw[size_flatK,p1];exact hlt2
   have hcs2:i*k+j<cur.size:=by omega
   simp only[putCells];rw[Array.getElem?_mapIdx,Yg hcs2];simp only[YF,Zy,true_and,Z4,hfs,if_true,XZ,id];rw[hf];rfl
end Go.Abs
namespace Go.Proofs
open Go.Shelf Go.RowKit Go.Lib Go.Sort
def Tryz.laysSortP_ren:Go.Shelf.Ren:=
 {
  f:=fun x=>
   match x with
   |6=>72
   |15=>107
   |14=>109
   |28=>143
   |29=>144
   |20=>146
   |21=>147
   |22=>148
   |23=>149
   |24=>150
   |25=>151
   |26=>152
   |27=>153
   |46=>168
   |47=>164
   |48=>165
   |49=>169
   |50=>170
   |57=>178
   |n=>n,
  t:=fun x=>
   match x with
   |22=>31
   |24=>64
   |25=>125
   |3=>3
   |39=>71
   |0=>0
   |53=>152
   |55=>154
   |4=>4
   |46=>196
   |45=>195
   |50=>200
   |5=>5
   |9=>9
   |66=>215
   |70=>219
   |76=>230
   |77=>231
   |n=>n,
  g:=fun n=>n}
theorem Tryz.laysSortP:SlLaysF0.n6 Tryz.prog Tryz.laysSortP_ren:=
 {mixed:=by kernel_rfl,
  f6:=
   Yc "slices.SortFunc[[]allonge/api.Place,allonge/api.Place]"
    ⟨of_decide_eq_true (id (ZR true)),
     Z1 Tryz.func72
      (congrArg some
       (ZR
        {SlBodyF.n6 Tryz.laysSortP_ren with name:= "slices.SortFunc[[]allonge/api.Place,allonge/api.Place]" }))⟩,
  f14:=
   Yc "slices.pdqsortCmpFunc[allonge/api.Place]"
    ⟨of_decide_eq_true (id (ZR true)),
     Z1 Tryz.func109
      (congrArg some
       (ZR
        {SlBodyF.n14 Tryz.laysSortP_ren with name:= "slices.pdqsortCmpFunc[allonge/api.Place]" }))⟩,
  f15:=Z1 Tryz.func107 (congrArg some (ZR (SlBodyF.n15 Tryz.laysSortP_ren))),
  f20:=
   Yc "slices.insertionSortCmpFunc[allonge/api.Place]"
    ⟨of_decide_eq_true (id (ZR true)),
     Z1 Tryz.func146
      (congrArg some
       (ZR
        {SlBodyF.n20 Tryz.laysSortP_ren with name:= "slices.insertionSortCmpFunc[allonge/api.Place]" }))⟩,
  f21:=
   Yc "slices.heapSortCmpFunc[allonge/api.Place]"
    ⟨of_decide_eq_true (id (ZR true)),
     Z1 Tryz.func147
      (congrArg some
       (ZR
        {SlBodyF.n21 Tryz.laysSortP_ren with name:= "slices.heapSortCmpFunc[allonge/api.Place]" }))⟩,
  f22:=
   Yc "slices.breakPatternsCmpFunc[allonge/api.Place]"
    ⟨of_decide_eq_true (id (ZR true)),
     Z1 Tryz.func148
      (congrArg some
       (ZR
        {SlBodyF.n22 Tryz.laysSortP_ren with name:= "slices.breakPatternsCmpFunc[allonge/api.Place]" }))⟩,
  f23:=
   Yc "slices.choosePivotCmpFunc[allonge/api.Place]"
    ⟨of_decide_eq_true (id (ZR true)),
     Z1 Tryz.func149
      (congrArg some
       (ZR
        {SlBodyF.n23 Tryz.laysSortP_ren with name:= "slices.choosePivotCmpFunc[allonge/api.Place]" }))⟩,
  f24:=
   Yc "slices.reverseRangeCmpFunc[allonge/api.Place]"
    ⟨of_decide_eq_true (id (ZR true)),
     Z1 Tryz.func150
      (congrArg some
       (ZR
        {SlBodyF.n24 Tryz.laysSortP_ren with name:= "slices.reverseRangeCmpFunc[allonge/api.Place]" }))⟩,
  f25:=
   Yc "slices.partialInsertionSortCmpFunc[allonge/api.Place]"
    ⟨of_decide_eq_true (id (ZR true)),
     Z1 Tryz.func151
      (congrArg some
       (ZR
        {SlBodyF.n25 Tryz.laysSortP_ren with name:= "slices.partialInsertionSortCmpFunc[allonge/api.Place]" }))⟩,
  f26:=
   Yc "slices.partitionEqualCmpFunc[allonge/api.Place]"
    ⟨of_decide_eq_true (id (ZR true)),
     Z1 Tryz.func152
      (congrArg some
       (ZR
        {SlBodyF.n26 Tryz.laysSortP_ren with name:= "slices.partitionEqualCmpFunc[allonge/api.Place]" }))⟩,
  f27:=
   Yc "slices.partitionCmpFunc[allonge/api.Place]"
    ⟨of_decide_eq_true (id (ZR true)),
     Z1 Tryz.func153
      (congrArg some
       (ZR
        {SlBodyF.n27 Tryz.laysSortP_ren with name:= "slices.partitionCmpFunc[allonge/api.Place]" }))⟩,
  f28:=Z1 Tryz.func143 (congrArg some (ZR (SlBodyF.n28 Tryz.laysSortP_ren))),
  f29:=Z1 Tryz.func144 (congrArg some (ZR (SlBodyF.n29 Tryz.laysSortP_ren))),
  f46:=
   Yc "slices.siftDownCmpFunc[allonge/api.Place]"
    ⟨of_decide_eq_true (id (ZR true)),
     Z1 Tryz.func168
      (congrArg some
       (ZR
        {SlBodyF.n46 Tryz.laysSortP_ren with name:= "slices.siftDownCmpFunc[allonge/api.Place]" }))⟩,
  f47:=Z1 Tryz.func164 (congrArg some (ZR (SlBodyF.n47 Tryz.laysSortP_ren))),
  f48:=Z1 Tryz.func165 (congrArg some (ZR (SlBodyF.n48 Tryz.laysSortP_ren))),
  f49:=
   Yc "slices.medianAdjacentCmpFunc[allonge/api.Place]"
    ⟨of_decide_eq_true (id (ZR true)),
     Z1 Tryz.func169
      (congrArg some
       (ZR
        {SlBodyF.n49 Tryz.laysSortP_ren with name:= "slices.medianAdjacentCmpFunc[allonge/api.Place]" }))⟩,
  f50:=
   Yc "slices.medianCmpFunc[allonge/api.Place]"
    ⟨of_decide_eq_true (id (ZR true)),
     Z1 Tryz.func170
      (congrArg some
       (ZR
        {SlBodyF.n50 Tryz.laysSortP_ren with name:= "slices.medianCmpFunc[allonge/api.Place]" }))⟩,
  f57:=
   Yc "slices.order2CmpFunc[allonge/api.Place]"
    ⟨of_decide_eq_true (id (ZR true)),
     Z1 Tryz.func178
      (congrArg some
       (ZR
        {SlBodyF.n57 Tryz.laysSortP_ren with name:= "slices.order2CmpFunc[allonge/api.Place]" }))⟩,
  t0:=Tryz.underlying0,a0:=Tryz.isAgg0,z0:=Tryz.sizeOf0,v0:=Tryz.zeroValue0,t3:=Tryz.underlying3,
  a3:=Tryz.isAgg3,z3:=Tryz.sizeOf3,v3:=Tryz.zeroValue3,t4:=Tryz.underlying4,a4:=Tryz.isAgg4,
  z4:=Tryz.sizeOf4,v4:=Tryz.zeroValue4,t5:=Tryz.underlying5,a5:=Tryz.isAgg5,z5:=Tryz.sizeOf5,
  v5:=Tryz.zeroValue5,t9:=Tryz.underlying9,a9:=Tryz.isAgg9,z9:=Tryz.sizeOf9,v9:=Tryz.zeroValue9,
  t22:=Tryz.underlying31,a22:=Tryz.isAgg31,z22:=Tryz.sizeOf31,v22:=Tryz.zeroValue31,
  t25:=Tryz.underlying125,a25:=Tryz.isAgg125,z25:=Tryz.sizeOf125,v25:=Tryz.zeroValue125,
  t39:=Tryz.underlying71,a39:=Tryz.isAgg71,z39:=Tryz.sizeOf71,v39:=Tryz.zeroValue71,
  t45:=Tryz.underlying195,a45:=Tryz.isAgg195,z45:=Tryz.sizeOf195,v45:=Tryz.zeroValue195,
  t46:=Tryz.underlying196,a46:=Tryz.isAgg196,z46:=Tryz.sizeOf196,v46:=Tryz.zeroValue196,
  t50:=Tryz.underlying200,a50:=Tryz.isAgg200,z50:=Tryz.sizeOf200,v50:=Tryz.zeroValue200,
  t53:=Tryz.underlying152,a53:=Tryz.isAgg152,z53:=Tryz.sizeOf152,v53:=Tryz.zeroValue152,
  t55:=Tryz.underlying154,a55:=Tryz.isAgg154,z55:=Tryz.sizeOf154,v55:=Tryz.zeroValue154,
  t66:=Tryz.underlying215,a66:=Tryz.isAgg215,z66:=Tryz.sizeOf215,v66:=Tryz.zeroValue215,
  t70:=Tryz.underlying219,a70:=Tryz.isAgg219,z70:=Tryz.sizeOf219,v70:=Tryz.zeroValue219,
  t76:=Tryz.underlying230,a76:=Tryz.isAgg230,z76:=Tryz.sizeOf230,v76:=Tryz.zeroValue230,
  t77:=Tryz.underlying231,a77:=Tryz.isAgg231,z77:=Tryz.sizeOf231,v77:=Tryz.zeroValue231}
def Tryz.laysSortC_ren:Go.Shelf.Ren:=
 {
  f:=fun x=>
   match x with
   |6=>69
   |15=>107
   |14=>106
   |28=>143
   |29=>144
   |20=>135
   |21=>136
   |22=>137
   |23=>138
   |24=>139
   |25=>140
   |26=>141
   |27=>142
   |46=>163
   |47=>164
   |48=>165
   |49=>166
   |50=>167
   |57=>177
   |n=>n,
  t:=fun x=>
   match x with
   |22=>76
   |24=>30
   |25=>123
   |3=>3
   |39=>71
   |0=>0
   |53=>152
   |55=>154
   |4=>4
   |46=>196
   |45=>195
   |50=>200
   |5=>5
   |9=>9
   |66=>215
   |70=>219
   |76=>230
   |77=>231
   |n=>n,
  g:=fun n=>n}
theorem Tryz.laysSortC:SlLaysF.n6 Tryz.prog Tryz.laysSortC_ren:=
 {mixed:=by kernel_rfl,
  f6:=
   Yc "slices.SortFunc[[][]int,[]int]"
    ⟨of_decide_eq_true (id (ZR true)),
     Z1 Tryz.func69
      (congrArg some
       (ZR
        {SlBodyF.n6 Tryz.laysSortC_ren with name:= "slices.SortFunc[[][]int,[]int]" }))⟩,
  f14:=
   Yc "slices.pdqsortCmpFunc[[]int]"
    ⟨of_decide_eq_true (id (ZR true)),
     Z1 Tryz.func106
      (congrArg some
       (ZR
        {SlBodyF.n14 Tryz.laysSortC_ren with name:= "slices.pdqsortCmpFunc[[]int]" }))⟩,
  f15:=Z1 Tryz.func107 (congrArg some (ZR (SlBodyF.n15 Tryz.laysSortC_ren))),
  f20:=
   Yc "slices.insertionSortCmpFunc[[]int]"
    ⟨of_decide_eq_true (id (ZR true)),
     Z1 Tryz.func135
      (congrArg some
       (ZR
        {SlBodyF.n20 Tryz.laysSortC_ren with name:= "slices.insertionSortCmpFunc[[]int]" }))⟩,
  f21:=
   Yc "slices.heapSortCmpFunc[[]int]"
    ⟨of_decide_eq_true (id (ZR true)),
     Z1 Tryz.func136
      (congrArg some
       (ZR
        {SlBodyF.n21 Tryz.laysSortC_ren with name:= "slices.heapSortCmpFunc[[]int]" }))⟩,
  f22:=
   Yc "slices.breakPatternsCmpFunc[[]int]"
    ⟨of_decide_eq_true (id (ZR true)),
     Z1 Tryz.func137
      (congrArg some
       (ZR
        {SlBodyF.n22 Tryz.laysSortC_ren with name:= "slices.breakPatternsCmpFunc[[]int]" }))⟩,
  f23:=
   Yc "slices.choosePivotCmpFunc[[]int]"
    ⟨of_decide_eq_true (id (ZR true)),
     Z1 Tryz.func138
      (congrArg some
       (ZR
        {SlBodyF.n23 Tryz.laysSortC_ren with name:= "slices.choosePivotCmpFunc[[]int]" }))⟩,
  f24:=
   Yc "slices.reverseRangeCmpFunc[[]int]"
    ⟨of_decide_eq_true (id (ZR true)),
     Z1 Tryz.func139
      (congrArg some
       (ZR
        {SlBodyF.n24 Tryz.laysSortC_ren with name:= "slices.reverseRangeCmpFunc[[]int]" }))⟩,
  f25:=
   Yc "slices.partialInsertionSortCmpFunc[[]int]"
    ⟨of_decide_eq_true (id (ZR true)),
     Z1 Tryz.func140
      (congrArg some
       (ZR
        {SlBodyF.n25 Tryz.laysSortC_ren with name:= "slices.partialInsertionSortCmpFunc[[]int]" }))⟩,
  f26:=
   Yc "slices.partitionEqualCmpFunc[[]int]"
    ⟨of_decide_eq_true (id (ZR true)),
     Z1 Tryz.func141
      (congrArg some
       (ZR
        {SlBodyF.n26 Tryz.laysSortC_ren with name:= "slices.partitionEqualCmpFunc[[]int]" }))⟩,
  f27:=
   Yc "slices.partitionCmpFunc[[]int]"
    ⟨of_decide_eq_true (id (ZR true)),
     Z1 Tryz.func142
      (congrArg some
       (ZR
        {SlBodyF.n27 Tryz.laysSortC_ren with name:= "slices.partitionCmpFunc[[]int]" }))⟩,
  f28:=Z1 Tryz.func143 (congrArg some (ZR (SlBodyF.n28 Tryz.laysSortC_ren))),
  f29:=Z1 Tryz.func144 (congrArg some (ZR (SlBodyF.n29 Tryz.laysSortC_ren))),
  f46:=
   Yc "slices.siftDownCmpFunc[[]int]"
    ⟨of_decide_eq_true (id (ZR true)),
     Z1 Tryz.func163
      (congrArg some
       (ZR
        {SlBodyF.n46 Tryz.laysSortC_ren with name:= "slices.siftDownCmpFunc[[]int]" }))⟩,
  f47:=Z1 Tryz.func164 (congrArg some (ZR (SlBodyF.n47 Tryz.laysSortC_ren))),
  f48:=Z1 Tryz.func165 (congrArg some (ZR (SlBodyF.n48 Tryz.laysSortC_ren))),
  f49:=
   Yc "slices.medianAdjacentCmpFunc[[]int]"
    ⟨of_decide_eq_true (id (ZR true)),
     Z1 Tryz.func166
      (congrArg some
       (ZR
        {SlBodyF.n49 Tryz.laysSortC_ren with name:= "slices.medianAdjacentCmpFunc[[]int]" }))⟩,
  f50:=
   Yc "slices.medianCmpFunc[[]int]"
    ⟨of_decide_eq_true (id (ZR true)),
     Z1 Tryz.func167
      (congrArg some
       (ZR
        {SlBodyF.n50 Tryz.laysSortC_ren with name:= "slices.medianCmpFunc[[]int]" }))⟩,
  f57:=
   Yc "slices.order2CmpFunc[[]int]"
    ⟨of_decide_eq_true (id (ZR true)),
     Z1 Tryz.func177
      (congrArg some
       (ZR
        {SlBodyF.n57 Tryz.laysSortC_ren with name:= "slices.order2CmpFunc[[]int]" }))⟩,
  t0:=Tryz.underlying0,a0:=Tryz.isAgg0,z0:=Tryz.sizeOf0,v0:=Tryz.zeroValue0,t3:=Tryz.underlying3,
  a3:=Tryz.isAgg3,z3:=Tryz.sizeOf3,v3:=Tryz.zeroValue3,t4:=Tryz.underlying4,a4:=Tryz.isAgg4,
  z4:=Tryz.sizeOf4,v4:=Tryz.zeroValue4,t5:=Tryz.underlying5,a5:=Tryz.isAgg5,z5:=Tryz.sizeOf5,
  v5:=Tryz.zeroValue5,t9:=Tryz.underlying9,a9:=Tryz.isAgg9,z9:=Tryz.sizeOf9,v9:=Tryz.zeroValue9,
  t22:=Tryz.underlying76,a22:=Tryz.isAgg76,z22:=Tryz.sizeOf76,v22:=Tryz.zeroValue76,a24:=Tryz.isAgg30,
  z24:=Tryz.sizeOf30,t25:=Tryz.underlying123,a25:=Tryz.isAgg123,z25:=Tryz.sizeOf123,
  v25:=Tryz.zeroValue123,t39:=Tryz.underlying71,a39:=Tryz.isAgg71,z39:=Tryz.sizeOf71,
  v39:=Tryz.zeroValue71,t45:=Tryz.underlying195,a45:=Tryz.isAgg195,z45:=Tryz.sizeOf195,
  v45:=Tryz.zeroValue195,t46:=Tryz.underlying196,a46:=Tryz.isAgg196,z46:=Tryz.sizeOf196,
  v46:=Tryz.zeroValue196,t50:=Tryz.underlying200,a50:=Tryz.isAgg200,z50:=Tryz.sizeOf200,
  v50:=Tryz.zeroValue200,t53:=Tryz.underlying152,a53:=Tryz.isAgg152,z53:=Tryz.sizeOf152,
  v53:=Tryz.zeroValue152,t55:=Tryz.underlying154,a55:=Tryz.isAgg154,z55:=Tryz.sizeOf154,
  v55:=Tryz.zeroValue154,t66:=Tryz.underlying215,a66:=Tryz.isAgg215,z66:=Tryz.sizeOf215,
  v66:=Tryz.zeroValue215,t70:=Tryz.underlying219,a70:=Tryz.isAgg219,z70:=Tryz.sizeOf219,
  v70:=Tryz.zeroValue219,t76:=Tryz.underlying230,a76:=Tryz.isAgg230,z76:=Tryz.sizeOf230,
  v76:=Tryz.zeroValue230,t77:=Tryz.underlying231,a77:=Tryz.isAgg231,z77:=Tryz.sizeOf231,
  v77:=Tryz.zeroValue231}
def Tryz.laysCmp_ren:Go.Shelf.Ren:=
 {
  f:=fun x=>
   match x with
   |5=>108
   |7=>145
   |n=>n,
  t:=fun x=>
   match x with
   |22=>3
   |3=>3
   |4=>4
   |n=>n,
  g:=fun n=>n}
theorem Tryz.laysCmp:SlLaysC2.n5 Tryz.prog Tryz.laysCmp_ren:=
 {mixed:=by kernel_rfl,
  f5:=
   Yc "cmp.Compare[int]"
    ⟨of_decide_eq_true (id (ZR true)),
     Z1 Tryz.func108
      (congrArg some
       (ZR
        {SlBodyC2.n5 Tryz.laysCmp_ren with name:= "cmp.Compare[int]" }))⟩,
  f7:=
   Yc "cmp.isNaN[int]"
    ⟨of_decide_eq_true (id (ZR true)),
     Z1 Tryz.func145
      (congrArg some
       (ZR
        {SlBodyC2.n7 Tryz.laysCmp_ren with name:= "cmp.isNaN[int]" }))⟩,
  t3:=Tryz.underlying3,a3:=Tryz.isAgg3,z3:=Tryz.sizeOf3,v3:=Tryz.zeroValue3,t4:=Tryz.underlying4,
  a4:=Tryz.isAgg4,z4:=Tryz.sizeOf4,v4:=Tryz.zeroValue4,t22:=Tryz.underlying3,a22:=Tryz.isAgg3,
  z22:=Tryz.sizeOf3,v22:=Tryz.zeroValue3}
end Go.Proofs
namespace Go.Abs
open Go.Proofs Go.RowKit Go.Lib Go.Wd Go.Wire Go.Ex
theorem kI (s:Nat):Z2 64 (s:Int)=Wm 64 s:=by
 apply BitVec.eq_of_toNat_eq;rw[BitVec.toNat_ofInt,Xa];omega
theorem mK {n:Nat} (h:n<18446744073709551616):IntKind.u64.wrap (n:Int)=n:=by
 simp only[IntKind.wrap,IntKind.bits,IntKind.signed,ZF,Ya,if_false];omega
theorem iQ {s t:Nat} (hs:s<18446744073709551616) (ht:t<18446744073709551616):IntKind.u64.wrap ((Z2 IntKind.u64.bits (s:Int)&&&Z2 IntKind.u64.bits (t:Int)).toNat:Int)=((s&&&t:Nat):Int):=by
 show IntKind.u64.wrap ((Z2 64 (s:Int)&&&Z2 64 (t:Int)).toNat:Int)=_;rw[kI,kI,BitVec.toNat_and,Xa,Xa,Xq (by omega),Xq (by omega)];exact mK (XW Nat.and_le_left hs)
theorem c68 (s t:Nat) (hs:s<1024) (ht:t<1024):Spec Tryz.prog 68 [.int .u64 (s:Int),.k (.c (.ro [.int .u64 (t:Int)] 0))] (fun v=>v=.bool (s&&&t==0)):=by
 refine Spec.of_awlS hf68 okf68 (by simp) fun S hS=>?_
 simp only[Qs,Zb,Za,Ψ68];rw[iQ (by omega) (by omega)];refine wQ hS ?_;generalize s&&&t=r;simp only[beq_iff_eq];omega
def bW (x:Int):Int:=IntKind.u64.wrap x
def bA (a b:Int):Int:=IntKind.u64.wrap ((Z2 IntKind.u64.bits a&&&Z2 IntKind.u64.bits b).toNat:Int)
def bH (a:Int) (k:Nat):Int:=a.fdiv (2 ^ min k IntKind.u64.bits)
def b1 (x:Int):Int:=bW (bA (bH x 1) 6148914691236517205+bA x 6148914691236517205)
def b2 (x:Int):Int:=bW (bA (bH x 2) 3689348814741910323+bA x 3689348814741910323)
def b3 (x:Int):Int:=bA (bW (bH x 4+x)) 1085102592571150095
def b4 (k:Nat) (x:Int):Int:=bW (x+bH x k)
def bR (x:Int):Int:=IntKind.i64.wrap ((Z2 IntKind.i64.bits (IntKind.i64.wrap x)&&&Z2 IntKind.i64.bits 127).toNat:Int)
def zpJ (x:Int):Int:=bR (b4 32 (b4 16 (b4 8 (b3 (b2 (b1 x))))))
theorem zpK: ∀x:Nat,x<256->zpJ x=((bitsN x).length:Int):=by decide+kernel
theorem zpL (x:Nat) (hx:x<256):Spec Tryz.prog 104 [.int .u64 (x:Int)] (fun v=>v=.int .i64 ((bitsN x).length:Int)):=by
 refine Spec.of_awlS hf104 okf104 (by simp) fun S hS=>?_
 rw[<-zpK x hx] at hS;simp only[Qs,zaE,zaG,Za,Yy,X5,Ψ104];exact hS
theorem c65 (x:Nat) (hx:x<256):Spec Tryz.prog 65 [.int .u64 (x:Int)] (fun v=>v=.int .i64 ((bitsN x).length:Int)):=by
 refine Spec.of_awlS hf65 okf65 (by simp) fun S hS=>?_
 have g:=zpL x hx;simp only[Qs,Za,zfp,Ψ65];refine zD g ?_ (ha:=by rfl);simp only[Qs];exact hS
end Go.Abs
namespace Go.Proofs
open Go.RowKit Go.Abs Go.Wd Go.Wire Go.Ex
def tzN (x:Nat):Nat:=(bitsN x).headD 0
def tzI (x:Nat):Int:=IntKind.u64.wrap (bits BinOp.and IntKind.u64 (x:Int) (IntKind.u64.wrap (-(x:Int)))*285870213051353865)/288230376151711744
theorem zpM: ∀x,x<256->x≠0->0<=tzI x/\tzI x<64/\cO[(tzI x).toNat]?=some (tzN x:Int)/\tzN x<64:=by decide+kernel
theorem zpN (x:Nat) (hx:x<256) (h0:x≠0) (w:World) {T:TypeId} {F:Nat×Nat} (hg:w.heap[1]?=some (.cells (cO.map fun z=>Value.int .u8 z).toArray T F)):Calls Tryz.prog 111 #[.int .u64 (x:Int)] w fun e w'=>e=.returned (.int .i64 (tzN x:Int))/\w'=w:=by
 have hx0: ¬(x:Int)=0:=by omega
 obtain⟨k1,k2,k3,k4⟩:=zpM x hx h0;obtain⟨j,hj⟩: ∃j:Nat,tzI x=j:=⟨(tzI x).toNat,by omega⟩;rw[hj] at k1 k2 k3;have hj':IntKind.u64.wrap (bits BinOp.and IntKind.u64 (x:Int) (IntKind.u64.wrap (-(x:Int)))*285870213051353865)/288230376151711744=(j:Int):=hj;have hc:w.cell? ⟨1,j,none⟩=some (.int .u8 (tzN x:Int)):=by
  simp only[World.cell?,hg];simp only[Ym] at k3;simp[k3]
 have hw:IntKind.i64.wrap (tzN x:Int)=(tzN x:Int):=Go.Abs.wrap_in (by omega) (by omega);generalize tzN x=z at hc hw k3 k4⊢;clear hj k3
 go_enter Tryz.func111,Tryz.ntmps111
 go_wp2
 go_ret
 exact⟨rfl,rfl⟩
end Go.Proofs
namespace Go.Abs
open Go.Proofs Go.RowKit Go.Lib Go.Wd Go.Wire Go.Ex
theorem zpO (x:Nat) (hx:x<256) (h0:x≠0):Spec Tryz.prog 111 [.int .u64 (x:Int)] (fun v=>v=.int .i64 (tzN x:Int)):=by
 refine⟨rN (by kernel_rfl),fun w Z vs hG hz ha=>?_⟩;obtain⟨l⟩:=vs
 match l,ha with
 |[],ha=>exact absurd ha.1 (by simp)
 |_::_::_,ha=>exact absurd ha.1 (by simp)
 |[v1],ha=>
  have e1:=vO (ha.2 0 _ v1 rfl rfl).2.2;subst e1;obtain⟨_,b,hb,hp⟩:=hG.2 1 _ rfl;cases b with
  |cells cs t f=>
   have hp':cs=_:=hp;subst hp';refine(zpN x hx h0 w hb).mono ?_;rintro e w' ⟨rfl,rfl⟩;exact⟨_,_,rfl,rfl,fun _=>rfl,oO hG ⟨rfl,rfl,rfl,ZA _,fun _ _=>rfl⟩ (fun _=>rfl) (fun _=>⟨rfl,.int _ _⟩)⟩
  |_=>exact hp.elim
theorem c75 (x:Nat) (hx:x<256) (h0:x≠0):Spec Tryz.prog 75 [.int .u64 (x:Int)] (fun v=>v=.int .i64 (tzN x:Int)):=by
 refine Spec.of_awlS hf75 okf75 (by simp) fun S hS=>?_
 have g:=zpO x hx h0;simp only[Qs,Za,zfp,Ψ75];refine zD g ?_ (ha:=by rfl);simp only[Qs];exact hS
def natI (l:List Nat):List Int:=l.map fun(k:Nat)=>(k:Int)
theorem zpP: ∀s,s<256->s≠0->bitsN s=tzN s::bitsN (s&&&(s-1))/\s&&&(s-1)<s:=by decide+kernel
theorem kJ: ∀s,s<256->(bitsN s).length<=8:=by decide+kernel
theorem zpQ (l:List Nat) (k:Nat):natI l++[(k:Int)]=natI (l++[k]):=by simp[natI]
theorem sL (l:List Nat):(natI l).length=l.length:=by simp[natI]
theorem c35 (s0:Nat) (hs0:s0<256):Spec Tryz.prog 35 [.int .u64 (s0:Int)] (fun v=>v=lst 1 (zG (natI (bitsN s0)))):=by
 refine Spec.of_awlP hf35 okf35 (by simp) fun S hS=>?_
 have hb0:=kJ s0 hs0;simp only[Qs,bne_iff_ne,ne_eq,Zn,Za,Ψ35];rw[uu f35l11.eq_1];refine zO (fun x:Nat×List Nat×Option Bool=>[(0,.int .u64 (x.1:Int)),(3,.k (.own 3))]) (fun x=>[(3,.arr 3 1 x.2.2 (zG (natI x.2.1)))]) (fun x=>x.1<256/\x.2.1++bitsN x.1=bitsN s0) (fun x=>x.1) (s0,[],some true) rfl rfl ⟨hs0,rfl⟩ ?_;rintro⟨s,L,nl⟩ ⟨hs,hL⟩;simp only[] at hs hL;by_cases h0:s=0
 ·subst h0
  have e:bitsN 0=[]:=rfl;rw[e,Zi] at hL;subst hL;simp only[Int.natCast_zero,Qs,ZJ,Za,Yw,Zq,Ψ35];refine hS _ ?_;simp only[V.fz,V.fzL,V.nrm,V.nrmL,qG (wD _)]
  try rfl
 ·obtain⟨hb,hlt⟩:=zpP s hs h0
  rw[hb] at hL;have hl:L.length+1<=8:=by
   have:=congrArg List.length hL;rw[Zr,Zu] at this;omega
  have n0:((s:Int) !=0)=true:=by
   rw[bne_iff_ne];omega
  have w1:IntKind.u64.wrap ((s:Int)-1)=((s-1:Nat):Int):=by
   rw[show(s:Int)-1=((s-1:Nat):Int) by omega];exact mK (by omega)
  have ha:=iQ (s:=s) (t:=s-1) (by omega) (by omega);have g:=c75 s hs h0;generalize tzN s=z at g hL;simp only[n0,Qs,Za,Ψ35];refine zD g ?_ (ha:=by rfl);simp only[w1,ha,yF,sL,Qs,oL,forall_eq,bne_iff_ne,ne_eq,ZB,Zn,Zd,ZN,Za,Zq];refine⟨by omega,by omega,Next.intro (s&&&(s-1),L++[z],some false) rfl (by simp only[eY,zpQ];rfl) ⟨by simp only;omega,by simp only[Z3,ZT,Z7];exact hL⟩ (by simp only;omega)⟩
def sets (l:List Nat):List (List C):=l.map fun(s:Nat)=>[.int .u64 (s:Int)]
theorem sB (l:List Nat):(sets l).length=l.length:=by simp[sets]
theorem zbx {l:List Nat} {i:Nat} (h:i<l.length):(sets l).getD i []=[.int .u64 (l[i]:Int)]:=by simp[sets,h]
theorem mL (l:List Nat):C.normRows (sets l)=sets l:=by
 induction l with
 |nil=>rfl
 |cons a l ih=>
  have h:sets (a::l)=[.int .u64 (a:Int)]::sets l:=rfl;rw[h,eX,ih];rfl
theorem zjS (l:List Nat) (s:Nat):sets l++[[.int .u64 (s:Int)]]=sets (l++[s]):=by simp[sets]
theorem c76 (l:List Nat) (s:Nat) (hl:l.length<=1000000):Spec Tryz.prog 76 [lst 1 (sets l),.int .u64 (s:Int)] (fun v=>v=.int .i64 (fstN (fun x=>decide (s=x)) l 0)):=by
 refine Spec.of_awlS hf76 okf76 (by simp) fun S hS=>?_
 simp only[sB,Qs,Zb,Za,Ψ76];rw[uu f76l17.eq_1];refine zO (fun i:Nat=>[(0,lst 1 (sets l)),(1,.int .u64 (s:Int)),(7,.int .i64 l.length),(8,.int .i64 i)]) (fun _=>[]) (fun i=>i<=l.length/\fstN (fun x=>decide (s=x)) (l.drop i) i=fstN (fun x=>decide (s=x)) l 0) (fun i=>l.length-i) 0 rfl rfl ⟨Zy _,by simp⟩ ?_;rintro i ⟨hi,hD⟩;by_cases hlt:i<l.length
 ·have c1:(i:Int)<l.length:=by omega
  have c4:IntKind.i64.wrap ((i:Int)+1)=(i:Int)+1:=wrap_in (by omega) (by omega);have hat:=zbx hlt;rw[oQ hlt] at hD;generalize l[i]=y at hD hat;by_cases he:s=y
  ·have e1:((s:Int)==(y:Int))=true:=by rw[beq_iff_eq];omega
   rw[if_pos (decide_eq_true he)] at hD;rw[<-hD] at hS;simp only[c1,e1,sB,hat,Qs,Za,Ψ76];exact hS
  ·have e1:((s:Int)==(y:Int))=false:=by rw[beq_eq_false_iff_ne];omega
   rw[if_neg (by rw[decide_eq_false he];simp)] at hD;simp only[c1,c4,e1,sB,hat,Qs,Za,Ψ76];exact Next.intro (i+1) rfl rfl ⟨by omega,hD⟩ (by omega)
 ·have c1: ¬(i:Int)<l.length:=by omega
  rw[ZE (by omega)] at hD;rw[<-hD] at hS;simp only[c1,Qs,Yp,Za,Ψ76];exact hS
theorem c36 (l:List Nat) (s:Nat) (hl:l.length<=1000000):Spec Tryz.prog 36 [lst 1 (sets l),.int .u64 (s:Int)] (fun v=>v=.bool (decide (s∈l))):=by
 refine Spec.of_awlS hf36 okf36 (by simp) fun S hS=>?_
 have g1:=c76 l s hl;have hp:=oR (p:=fun x=>decide (s=x)) l 0;generalize fstN (fun x=>decide (s=x)) l 0=x at g1 hp;simp only[Qs,Zb,Za,Ψ36];refine zD g1 ?_ (ha:=by simp only[Zj,Zo,zC,V.norm,zI,C.norm,mL]<;>rfl);simp only[Qs];refine wQ hS ?_;rw[decide_eq_true_eq,decide_eq_true_eq,hp,Yx];simp
theorem zpR (t:Nat) (ht:t<1024) (l:List Nat) (hs: ∀s∈l,s<1024) (hl:l.length<=1000000):Spec Tryz.prog 105 [lst 1 (sets l),.k (.c (.fn 68 [.ro [.int .u64 (t:Int)] 0]))] (fun v=>v=.int .i64 (fstN (fun s=>s&&&t==0) l 0)):=by
 refine Spec.of_awlS hf105 okf105 (by simp) fun S hS=>?_
 simp only[sB,Qs,Zb,Za,Ψ105];rw[uu f105l17.eq_1];refine zO (fun i:Nat=>[(0,lst 1 (sets l)),(1,.k (.c (.fn 68 [.ro [.int .u64 (t:Int)] 0]))),(7,.int .i64 l.length),(8,.int .i64 i)]) (fun _=>[]) (fun i=>i<=l.length/\fstN (fun s=>s&&&t==0) (l.drop i) i=fstN (fun s=>s&&&t==0) l 0) (fun i=>l.length-i) 0 rfl rfl ⟨Zy _,by simp⟩ ?_;rintro i ⟨hi,hD⟩;by_cases hlt:i<l.length
 ·have c1:(i:Int)<l.length:=by omega
  have c4:IntKind.i64.wrap ((i:Int)+1)=(i:Int)+1:=wrap_in (by omega) (by omega);have hat:=zbx hlt;have gi:=c68 l[i] t (hs _ (Zv hlt)) ht;rw[oQ hlt] at hD;simp only[c1,sB,hat,Qs,oI,Za,Ψ105];refine rM gi ?_ (ha:=by simp only[Zj,Zo,ZT,Z7,zC,V.norm,C.norm,C.normRow]<;>rfl);cases hp:(l[i]&&&t==0) with
  |true=>
   rw[if_pos hp] at hD;rw[<-hD] at hS;simp only[Qs,Za,Ψ105];exact hS
  |false=>
   rw[if_neg (by rw[hp];simp)] at hD;simp only[c4,Qs,Za,Ψ105];exact Next.intro (i+1) rfl rfl ⟨by omega,hD⟩ (by omega)
 ·have c1: ¬(i:Int)<l.length:=by omega
  rw[ZE (by omega)] at hD;rw[<-hD] at hS;simp only[c1,Qs,Yp,Za,Ψ105];exact hS
theorem c67 (t:Nat) (ht:t<1024) (l:List Nat) (hs: ∀s∈l,s<1024) (hl:l.length<=1000000):Spec Tryz.prog 67 [lst 1 (sets l),.k (.c (.fn 68 [.ro [.int .u64 (t:Int)] 0]))] (fun v=>v=.bool (!hitP l t)):=by
 refine Spec.of_awlS hf67 okf67 (by simp) fun S hS=>?_
 have g1:=zpR t ht l hs hl;have hp:=oR (p:=fun s=>s&&&t==0) l 0;generalize fstN (fun s=>s&&&t==0) l 0=x at g1 hp;simp only[Qs,Zb,Za,Ψ67];refine zD g1 ?_ (ha:=by simp only[Zj,Zo,zC,V.norm,zI,C.norm,C.normRow,mL]<;>rfl);simp only[Qs];refine wQ hS ?_;rw[decide_eq_true_eq,hp];unfold hitP;rw[YL,Yx,YK];simp
theorem c66 (t nv db:Nat) (ht:t<1024) (l:List Nat) (hs: ∀s∈l,s<1024) (hl:l.length<=1000000):Spec Tryz.prog 66 [.int .u64 (t:Int),.k (.c (.ro [zF 1 (sets l),.int .u64 (nv:Int),.int .u64 (db:Int)] 0))] (fun v=>v=.bool (hitP l t)):=by
 refine Spec.of_awlS hf66 okf66 (by simp) fun S hS=>?_
 have g:=c67 t ht l hs hl;generalize hitP l t=b at g hS;simp only[Qs,nP,zgm,Zb,Zd,Za,nU,nV,nW,nX,nY,nZ,mA,Ψ66];refine zD g ?_ (ha:=by simp only[Zj,Zo,zC,V.norm,zI,C.norm,C.normRow,mL]<;>rfl);simp only[Qs,Bool.not_not];cases b<;>exact hS
end Go.Abs
namespace Go.Abs
def sC:List Int->List Int->Int
 |[],[]=>0
 |[],_::_=> -1
 |_::_,[]=>1
 |a::x,b::y=>if Lib.compareInt a b≠0 then Lib.compareInt a b else sC x y
def qJ (a b:List Int):Int:=if (a.length:Int)-b.length≠0 then(a.length:Int)-b.length else sC a b
theorem zpS (a b:Int):(a<b/\Lib.compareInt a b= -1)\/(a=b/\Lib.compareInt a b=0)\/(b<a/\Lib.compareInt a b=1):=by
 unfold Lib.compareInt;rcases Int.lt_trichotomy a b with h|h|h
 ·exact .inl ⟨h,by simp[h]⟩
 ·exact .inr (.inl ⟨h,by subst h;simp⟩)
 ·refine .inr (.inr ⟨h,?_⟩)
  rw[if_neg (by omega),if_pos h]
end Go.Abs
namespace Go.Proofs
open Go.Shelf Go.RowKit Go.Lib Go.Sort Go.Abs
theorem zby {p:Prop} (h:p):Aside p:=h
def kK (w:World) (p:Option Addr) (b o:Nat) (x:List Int):Prop:=(x.length≠0->p=some ⟨b,o,none⟩)/\ ∀j,j<x.length->w.cell? ⟨b,o+j,none⟩=some (.int .i64 (x.getD j 0))
theorem zpT (b1 o1 c1 b2 o2 c2:Nat) (p1 p2:Option Addr) (x y:List Int) (w:World) (hx:x.length<=1000) (hy:y.length<=1000) (I:Aside (kK w p1 b1 o1 x/\kK w p2 b2 o2 y)):
  Calls Tryz.prog 71 #[.slice p1 x.length c1,.slice p2 y.length c2] w fun e w'=>e=.returned (.int .i64 (sC x y))/\w'=w:=by
 have hc108: ∀a b W,Calls Tryz.prog 108 #[.int .i64 a,.int .i64 b] W fun e w'=>e=.returned (.int .i64 (Lib.compareInt a b))/\w'=W:=fun a b W=>AnyG.cmp_Compare_int Tryz.laysCmp a b W
 go_enter Tryz.func71,Tryz.ntmps71
 go_wp2
 go_loopg [11] x.length (fun g i wr=> ∃k,k<=x.length/\g=x.length-k/\i=.int .i64 (k:Nat)/\wr=w/\k<=y.length/\sC (x.drop k) (y.drop k)=sC x y)
 case atStart=>exact⟨0,Zy _,rfl,rfl,rfl,Zy _,rfl⟩
 case round=>
  obtain⟨k,hk,rfl,rfl,rfl,hky,hR⟩:=hrel;by_cases hlt:k<x.length
  ·have hlt':(k:Int)<x.length:=by omega
   obtain rfl:=I.out.1.1 (by omega);have f1:=I.out.1.2 k hlt;by_cases hyt:k<y.length
   ·have hyt':(k:Int)<y.length:=by omega
    obtain rfl:=I.out.2.1 (by omega);have f2:=I.out.2.2 k hyt;have e1:x.getD k 0=x[k]:=by simp[List.getD,hlt]
    have e2:y.getD k 0=y[k]:=by simp[List.getD,hyt]
    rw[Zx hlt,Zx hyt,sC,<-e1,<-e2] at hR;generalize x.getD k 0=a at f1 hR;generalize y.getD k 0=b at f2 hR;have c108:=hc108 a b;generalize Lib.compareInt a b=r at c108 hR;have R:=zby hR;clear hR e1 e2 hc108;by_cases hr:r=0
    ·subst hr
     go_wp2_with (go_at_call 108;refine(c108 _).mono ?_;rintro e w1 ⟨rfl,rfl⟩)
     have wk:IntKind.i64.wrap ((k:Int)+1)=((k+1:Nat):Int):=by rw[Go.Abs.wrap_in (by omega) (by omega)];omega
     go_roundg (x.length-(k+1))
     case rel=>exact⟨k+1,hlt,rfl,by go_num,rfl,hyt,by have:=R.out;rwa [if_neg (by simp)] at this⟩
     case measure=>omega
    ·go_wp2_with (go_at_call 108;refine(c108 _).mono ?_;rintro e w1 ⟨rfl,rfl⟩)
     go_ret
     have:=R.out;rw[if_pos hr] at this;exact⟨by rw[<-this];rfl,rfl⟩
   ·have hyt':(k:Int)>=y.length:=by omega
    have e1:y.drop k=[]:=List.drop_of_length_le (by omega);rw[e1,Zx hlt,sC] at hR;have R:=zby hR;clear hR e1 hc108
    go_wp2
    go_ret
    exact⟨by rw[<-R.out];rfl,rfl⟩
  ·obtain rfl:k=x.length:=by omega
   rw[List.drop_length] at hR;have R:=zby hR;clear hR hc108;by_cases hyt:x.length<y.length
   ·have hyt':(x.length:Int)<y.length:=by omega
    go_wp2
    go_ret
    have:=R.out;rw[Zx hyt,sC] at this;exact⟨by rw[<-this];rfl,rfl⟩
   ·have hyt': ¬(x.length:Int)<y.length:=by omega
    go_wp2
    go_ret
    have:=R.out;rw[List.drop_of_length_le (by omega),sC] at this;exact⟨by rw[<-this];rfl,rfl⟩
theorem zpU (b1 o1 c1 b2 o2 c2:Nat) (p1 p2:Option Addr) (x y:List Int) (w:World) (hx:x.length<=1000) (hy:y.length<=1000) (I:Aside (kK w p1 b1 o1 x/\kK w p2 b2 o2 y)):
  Calls Tryz.prog 70 #[.slice p1 x.length c1,.slice p2 y.length c2] w fun e w'=>e=.returned (.int .i64 (qJ x y))/\w'=w:=by
 have c71:=zpT b1 o1 c1 b2 o2 c2 p1 p2 x y w hx hy I;by_cases hd:(x.length:Int)-y.length=0
 ·have hd':((x.length:Int)-y.length !=0)=false:=by simp[hd]
  have R:Aside (qJ x y=sC x y):=by show qJ x y=_;unfold qJ;rw[if_neg (by simpa using hd)]
  go_enter Tryz.func70,Tryz.ntmps70
  go_wp2_with (go_at_call 71;refine c71.mono ?_;rintro e w1 ⟨rfl,rfl⟩)
  go_ret
  exact⟨by rw[R.out];rfl,rfl⟩
 ·have hd':((x.length:Int)-y.length !=0)=true:=by simp[hd]
  have R:Aside (qJ x y=(x.length:Int)-y.length):=by show qJ x y=_;unfold qJ;rw[if_pos hd]
  clear c71
  go_enter Tryz.func70,Tryz.ntmps70
  go_wp2
  go_ret
  exact⟨by rw[R.out];rfl,rfl⟩
end Go.Proofs
namespace Go.Abs
open Go.Sort Go.Proofs Go.Shelf Go.Lib Go.RowKit
theorem heap_row {α:Type} [Inhabited α] {w:World} {g n:Nat} {os:Array Obj} {cur:Array Value} {e:TypeId} {fr:Nat×Nat} (enc:α->Value) (d:Array α) (hb:w.heap[g]?=some (.cells cur e fr)):
  (grow (putRow enc (Sort.ahead w n) g 0 d) os).heap[g]?=some (.cells (putCells enc 0 d cur) e fr):=by
 have hg:g<w.heap.size:=(Zs.1 hb).1;rw[heap_grow_old _ _ (by simpa using hg)];simp[putRow,mapBlock,Sort.ahead,Xv,hb,onCells]
theorem zbz {α:Type} [Inhabited α] {w:World} {g n:Nat} {os:Array Obj} (enc:α->Value) (d:Array α):w.grownBy (grow (putRow enc (Sort.ahead w n) g 0 d) os) (some g):=by
 refine⟨rfl,rfl,rfl,by simp,fun k hk hne=>?_⟩;rw[heap_grow_old _ _ (by simpa using hk)];have:g≠k:=fun e=>hne (by rw[e])
 simp[putRow,mapBlock,Sort.ahead,Xv,this]
theorem zpV {P:Program} {ρ:Ren} (L:SlLaysF.n6 P ρ) (hc:rA P (ρ.f 6)) (e:TypeId)
  {β:Type} (encC:β->C) (cf:β->β->Int) (lt:β->β->Bool) (hlt: ∀x y,decide (cf x y<0)=lt x y) (hO:SWO lt) (g:Nat) (eg: ∀args w,(callFunc g args).run P w=.ok (.enter g args) w)
  (τ:Nat) (ks:List β) (hm:ks.length<4611686018427387904)
  (hcl: ∀x∈ks,∀y∈ks,∀(W:World) (Z:Bk->Prop) (vx vy:Value),(∀b,Z b->b.2<W.heap.size)->PRep W Z (encC x) vx->PRep W Z (encC y) vy->
   Calls P g #[vx,vy] W fun e w'=>e=.returned (.int .i64 (cf x y))/\ ∃q os',w'=grow (W.drewN q) os'):
  wO P (ρ.f 6) [.k (.own τ),.k (.c (.fn g []))] (zP e 1 τ (ks.map fun x=>[encC x])) [τ] (fun r o'=>r=.tup []/\ ∃out:List β,out.Perm ks/\out.Pairwise (fun x y=>lt y x=false)/\o'=zP e 1 τ (out.map fun x=>[encC x])):=by
 obtain⟨encR,hEn⟩: ∃encR:β->List C,encR=fun x=>[encC x]:=⟨_,rfl⟩
 have hk: ∀x,(encR x).length=1:=fun x=>by rw[hEn];rfl
 have k0:0<1:=by decide
 rw[<-hEn];refine⟨hc,fun w0 Z0 κ w vs hsz hi=>?_⟩;obtain⟨v,fv,rfl⟩:=zjQ hsz;have ho:(zP e 1 τ (ks.map encR)) τ=some (.arr e 1 none (ks.map encR)):=by simp[zP]
 have hno: ∀s,s≠τ->zP e 1 τ (ks.map encR) s=none:=fun s hs=>by simp[zP,hs]
 have hob:=hi.objs τ _ ho;have htm:zJ w (Zof w0 Z0 κ (zP e 1 τ (ks.map encR)) w) κ (zP e 1 τ (ks.map encR)) (.k (.own τ)) v:=by simpa using hi.tmps 0
 have htf:zJ w (Zof w0 Z0 κ (zP e 1 τ (ks.map encR)) w) κ (zP e 1 τ (ks.map encR)) (.k (.c (.fn g []))) fv:=by simpa using hi.tmps 1
 have hfv:fv=.func (.func g) #[] #[]:=by
  have:=htf.2;unfold yQ at this;cases this with
  |fn f caps us val h1 h2 h3=>
   have:us= #[]:=YT h1;rw[this]
 subst hfv;have none_case: ∀(p:Option Addr) (cap:Nat),ks=[]->v=.slice p 0 cap->Calls P (ρ.f 6) #[v,.func (.func g) #[] #[]] w fun e_1 w'=> ∃v κ' r o',e_1=.returned v/\(r=.tup []/\ ∃out:List β,out.Perm ks/\out.Pairwise (fun x y=>lt y x=false)/\o'=zP e 1 τ (out.map encR))/\xA (fun τ_1=>τ_1∈[τ]) (zP e 1 τ (ks.map encR)) o' κ κ' w w'/\Inv w0 Z0 κ' ⟨fun s=>if s=0 then r else .any,o'⟩ #[v] w':=by
  intro p cap hnil hv;subst hnil hv;refine(AnyF.slices_SortFunc_none {L with} p cap _ w).mono ?_;rintro ex w' ⟨rfl,hw⟩;rw[hw];have hI:=hi.moveG (τ:=τ) (d:=0) (ob:=.arr e 1 none []) (v:=.tup []) (u:=.tuple #[]) (bo:=κ τ) (w':=w) ho (by simp) rfl rfl rfl (ZA _) (fun _ _ _=>rfl) (fun b hb=> .inr hb)
   (fun Z hZ=>?_) ⟨#[],rfl,rfl,trivial⟩
  ·have hI2:=hI.only (T:=[τ]) (r:=.tup []) (v:=.tuple #[]) ⟨#[],rfl,rfl,trivial⟩ rfl (fun t ht ob hob=>by
    simp only[Z9] at ht
    subst ht
    simp[St.put,St.setO] at hob
    subst hob;rfl)
   have htab:yJ [τ] ((((⟨fun s=>[V.k (.own τ),.k (.c (.fn g []))].getD s .any,zP e 1 τ (([]:List β).map encR)⟩:St).scrub τ).setO τ (.arr e 1 none [])).put 0 (.tup [])).o=zP e 1 τ (([]:List β).map encR):=by
    funext t;unfold yJ zP;by_cases ht:t=τ
    ·subst ht;simp[St.put,St.setO]
    ·simp[ht]
   rw[htab] at hI2;refine⟨.tuple #[],_,.tup [],_,rfl,⟨rfl,[],XF _,Xx,rfl⟩,?_,hI2⟩;intro s hs;simp only[Z9] at hs;subst hs;refine⟨by simp[yG,zP],by simp,fun _ b hb cur e' f hcur=>⟨cur,hcur,rfl⟩⟩
  ·have hZ':=hob
   rcases hZ' with⟨h1,_,_⟩|⟨b,cur,cap',h1,h2,h3,h4,h5,h6,_,h8,_⟩
   ·exact .inl ⟨by simp[h1],rfl,by simp⟩
   ·exact .inr ⟨b,cur,cap',by simp[h1],h2,h3,h4,by simp,h6,by simp,by simp,fun i j r c hr=>by simp at hr⟩
 rcases hob with⟨hκ,hrows,_⟩|⟨b,cur,cap,hκ,hheap,h0,hcs,hlen,hcap,_,hall,hrr⟩
 ·have hl0:ks=[]:=by simpa using hrows
  have hv:v=.slice none 0 0:=by
   rcases htm.2 e 1 none _ ho with⟨_,hv⟩|⟨b,_,_,hb,_⟩
   ·exact hv
   ·rw[hκ] at hb;cases hb
  exact none_case none 0 hl0 hv
 ·obtain⟨cap',hv,hcap'⟩: ∃cap',v=.slice (some ⟨b,0,none⟩) ks.length cap'/\cur.size=cap'*1:=by
   rcases htm.2 e 1 none _ ho with⟨hn,_⟩|⟨b',cur',cap',hb,hh,hc2,hv⟩
   ·rw[hκ] at hn;cases hn
   ·rw[hκ] at hb;cases hb
    rw[hheap] at hh;cases hh;exact⟨cap',by simpa using hv,hc2⟩
  by_cases hks:ks=[]
  ·exact none_case _ cap' hks (by rw[hv,hks];rfl)
  have hpos:0<ks.length:=Yl.2 hks;subst hv;have hlt':b<w.heap.size:=wJ hheap;rw[Ze] at hlen;have hcsz:ks.length<=cur.size:=by rw[hcs,Y5];exact hlen
  haveI:Inhabited (Fin ks.length):=⟨⟨0,hpos⟩⟩
  let enc:Fin ks.length->Value:=fun i=>cur.getD i.1 (.bool true)
  have hcell: ∀i:Fin ks.length,∃u,cur[i.1]?=some u/\enc i=u/\PRep w (Zof w0 Z0 κ (zP e 1 τ (ks.map encR)) w) (encC ks[i.1]) u:=by
   intro i;obtain⟨u,hu,hp⟩:=hrr i.1 0 [encC ks[i.1]] (encC ks[i.1]) (by rw[ZD,Zk i.2,hEn];rfl) rfl;rw[Y5,YC] at hu;exact⟨u,hu,by simp[enc,ZS,hu],hp⟩
  have henc1:OneCell enc:=fun x=>by obtain⟨u,_,h2,h3⟩:=hcell x;rw[h2];exact h3.oneCell
  let d:Array (Fin ks.length):=Array.ofFn fun i=>i
  have hds:d.size=ks.length:=by simp[d]
  have hdi: ∀i (h:i<ks.length),d[i]! =⟨i,h⟩:=fun i h=>by simp[d,h]
  have hH:Holds enc w b 0 d:=by
   intro j hj;rw[hds] at hj;refine⟨?_,by simp[World.frozen?,hheap]⟩;obtain⟨u,hu,h2,_⟩:=hcell ⟨j,hj⟩;rw[hdi j hj,h2];simp only[World.cell?,hheap,Z4];simpa using hu
  let cfF:Fin ks.length->Fin ks.length->Int:=fun i j=>cf ks[i.1] ks[j.1]
  have hltF: ∀x y,ltOf cfF x y=lt ks[x.1] ks[y.1]:=fun x y=>by unfold ltOf;exact hlt _ _
  have hOF:SWO (ltOf cfF):=⟨fun x=>by rw[hltF];exact hO.irrefl _,fun x y z h1 h2=>by rw[hltF] at*;exact hO.trans _ _ _ h1 h2,fun x y z h1 h2=>by rw[hltF] at*;exact hO.ntrans _ _ _ h1 h2⟩;have hcmp:CmpLays1 P g #[] enc cfF b 0 d.size w:=by
   intro m os dk hdk x y;have hsame:xG (Zof w0 Z0 κ (zP e 1 τ (ks.map encR)) w) w (sortWorld enc w b 0 m dk os):=by
    intro bk hbk;have hne:bk.2≠b:=fun e2=>hbk.2.2 τ (by rw[ho];simp) (by rw[hκ,e2])
    exact(zbz enc dk).block bk.2 hbk.2.1 (fun e2=>hne (by cases e2;rfl))
   have hrow: ∀i:Fin ks.length,PRep (sortWorld enc w b 0 m dk os) (Zof w0 Z0 κ (zP e 1 τ (ks.map encR)) w) (encC ks[i.1]) (enc i):=by
    intro i;obtain⟨u2,_,h2,h3⟩:=hcell i;rw[h2];exact h3.mono hsame fun _ h=>h
   have hsz2:w.heap.size<=(sortWorld enc w b 0 m dk os).heap.size:=(zbz enc dk).size;have:=hcl ks[x.1] (Zv _) ks[y.1] (Zv _) (sortWorld enc w b 0 m dk os) (Zof w0 Z0 κ (zP e 1 τ (ks.map encR)) w) (enc x) (enc y) (fun bk hbk=>ZO hbk.2.1 hsz2) (hrow x) (hrow y);rw[show(#[enc x,enc y]++ #[]:Array Value)= #[enc x,enc y] from rfl];exact this
  have hcon:=Any.slices_SortFunc L enc henc1 cfF hOF g #[] b 0 cap' d w eg hcmp hH hlt' (by rw[hds];exact hm);rw[hds] at hcon;refine hcon.mono ?_;rintro ex w' ⟨rfl,d',n,os,⟨p1,p2,p3⟩,hs,rfl⟩;rw[hds] at p1;have hfull: ∀a:Array (Fin ks.length),a.size=ks.length->a.extract 0 ks.length=a:=fun a ha=>by
   apply Array.ext
   ·simp[ha]
   ·intro i h1 h2;simp
  rw[hfull d' p1,hfull d hds] at p3
  let out:List β:=d'.toList.map fun i=>ks[i.1]
  have hol:out.length=ks.length:=by simp[out,p1]
  have hperm:out.Perm ks:=by
   have h1:(d.toList.map fun i:Fin ks.length=>ks[i.1])=ks:=by
    apply XA
    ·simp[d]
    ·intro i h1 h2;simp[d]
   have h2:(d'.toList.map fun i:Fin ks.length=>ks[i.1]).Perm (d.toList.map fun i:Fin ks.length=>ks[i.1]):=p3.map _;rw[h1] at h2;exact h2
  have hpw:out.Pairwise fun x y=>lt y x=false:=by
   rw[List.pairwise_iff_getElem];intro i j h1 h2 hij;have hi1:i<d'.size:=by rw[p1,<-hol];exact h1
   have hj1:j<d'.size:=by rw[p1,<-hol];exact h2
   have:=hs i j (Zy _) hij (by rw[<-p1];exact hj1);rw[hltF,getElem!_pos d' i hi1,getElem!_pos d' j hj1] at this;simpa [out] using this
  have hh2:=heap_row (w:=w) (n:=n) (os:=os) enc d' hheap;obtain⟨g1,g2,g3,g4,g5⟩:=zbz (w:=w) (g:=b) (n:=n) (os:=os) enc d';have hsz2:(putCells enc 0 d' cur).size=cur.size:=by simp[putCells]
  have hzsame:xG (Zof w0 Z0 κ (zP e 1 τ (ks.map encR)) w) w (sortWorld enc w b 0 n d' os):=by
   intro bk hbk;have hne:bk.2≠b:=fun e2=>hbk.2.2 τ (by rw[ho];simp) (by rw[hκ,e2])
   exact g5 bk.2 hbk.2.1 (fun e2=>hne (by cases e2;rfl))
  have hI:=hi.moveG (τ:=τ) (d:=0) (ob:=.arr e 1 none (out.map encR)) (v:=.tup []) (u:=.tuple #[]) (bo:=some b) (w':=sortWorld enc w b 0 n d' os) ho (by simp) g1 g2 g3 g4
   (fun q hq hne=>g5 q hq (by rw[hκ] at hne;exact fun h=>hne (by cases h;rfl))) (fun b' hb=> .inr (by cases hb;exact hκ))
   (fun Z hZ=> .inr ⟨b,_,cap,by simp,hh2,h0,by rw[hsz2];exact hcs,by rw[Ze,hol];exact hlen,hcap,by simp,fun r hr=>by obtain⟨x,_,rfl⟩:=ZL.1 hr;exact hk x,fun i j r c hr hcj=>?_⟩) ⟨#[],rfl,rfl,trivial⟩
  ·rw[zjR _ _ hno] at hI
   have hI2:=hI.only (T:=[τ]) (r:=.tup []) (v:=.tuple #[]) ⟨#[],rfl,rfl,trivial⟩ rfl (fun t ht ob hob=>by
    simp only[Z9] at ht
    subst ht
    simp at hob
    subst hob;rfl)
   have htab:yJ [τ] (fun s=>if s=τ then some (O.arr e 1 none (out.map encR)) else none)=zP e 1 τ (out.map encR):=by
    funext t;unfold yJ zP;by_cases ht:t=τ
    ·subst ht;simp
    ·simp[ht]
   rw[htab] at hI2;refine⟨.tuple #[],_,.tup [],_,rfl,⟨rfl,out,hperm,hpw,rfl⟩,?_,hI2⟩;intro s hs;simp only[Z9] at hs;subst hs;refine⟨by simp[zP,yG,hol],by simp[hκ],fun _ b' hb cur0 e0 f0 hc0=>?_⟩;rw[hκ] at hb;cases hb;rw[hheap] at hc0;cases hc0;exact⟨_,hh2,hsz2⟩
  ·
   have hi':i<ks.length:=by have:=(Zw.1 hr).1;rwa [Ze,hol] at this
   have hid:i<d'.size:=by rw[p1];exact hi'
   have hout:out[i]'(by rw[hol];exact hi')=ks[(d'[i]).1]:=by simp[out]
   have hr':r=encR ks[(d'[i]).1]:=by
    rw[ZD,Zk (by rw[hol];exact hi')] at hr;have:=YA hr;rw[<-this,hout]
   subst hr';have hj:j<1:=by rw[<-hk ks[(d'[i]).1]];exact(Zw.1 hcj).1
   obtain rfl:j=0:=by omega
   have hc1:c=encC ks[(d'[i]).1]:=by rw[hEn] at hcj;cases hcj;rfl
   subst hc1;obtain⟨u,hu,he,hp⟩:=hcell d'[i];refine⟨u,?_,hp.mono hzsame hZ⟩;have hcs2:i<cur.size:=by omega
   simp only[putCells,Y5,YC];rw[Array.getElem?_mapIdx,Yg hcs2];simp only[YF,Zy,true_and,Z4,hid,if_true,XZ];rw[getElem!_pos d' i hid,he]
end Go.Abs
namespace Go.Abs
open Go.Sort Go.Proofs Go.Shelf Go.Lib Go.RowKit Go.Ex
theorem zjT: ∀x y:List Nat,x.length=y.length->(sC (natI x) (natI y)<0 ↔ vA x y=true)
 |[],[],_=>by simp[sC,vA,natI]
 |[],_::_,h=>by simp at h
 |_::_,[],h=>by simp at h
 |a::x,b::y,h=>by
  have e1:natI (a::x)=(a:Int)::natI x:=rfl;have e2:natI (b::y)=(b:Int)::natI y:=rfl;rw[e1,e2,sC,vA];rcases zpS (a:Int) b with⟨h1,h2⟩|⟨h1,h2⟩|⟨h1,h2⟩
  ·rw[h2,if_pos (by decide),if_neg (by omega)];simp;omega
  ·rw[h2,if_neg (by decide),if_pos (by omega)]
   exact zjT x y (by simpa using h)
  ·rw[h2,if_pos (by decide),if_neg (by omega)];simp;omega
theorem zpW (x y:List Nat):decide (qJ (natI x) (natI y)<0)=ltC x y:=by
 unfold qJ ltC;rw[sL,sL];by_cases h:x.length=y.length
 ·rw[if_neg (by omega),if_pos h,Ye,decide_eq_true_eq,zjT _ _ h]
 ·rw[if_pos (by omega),if_neg h,Ye,decide_eq_true_eq,decide_eq_true_eq];omega
theorem zjU {α:Type} {lt:α->α->Bool} (h:Strict lt):SWO lt where
 irrefl:=h.irr
 trans:=h.tr
 ntrans x y z h1 h2:=by
  cases q:lt x z with
  |false=>rfl
  |true=>
   exfalso;cases q2:lt z y with
   |true=>have:=h.tr _ _ _ q q2;rw[h1] at this;cases this
   |false=>
    have e:=h.tot y z h2 q2;subst e;rw[h1] at q;cases q
theorem zbA {w:World} {Z:Bk->Prop} {x:List Nat} {v:Value} (h:PRep w Z (zF 1 (zG (natI x))) v): ∃p b o cap,v=.slice p (natI x).length cap/\kK w p b o (natI x):=by
 obtain⟨p,cap,rfl,hq,_⟩:=(zon (natI x)).slice h;rw[yF] at hq;by_cases h0:(natI x).length=0
 ·exact⟨p,0,0,cap,by rw[yF],fun hk=>absurd h0 hk,fun j hj=>absurd hj (by omega)⟩
 ·obtain⟨b,o,rfl,hc⟩:=hq (by omega)
  refine⟨_,b,o,cap,by rw[yF],fun _=>rfl,fun j hj=>hc j _ ?_⟩;have:qU (zG (natI x))=(natI x).map fun n=>Value.int .i64 n:=by
   generalize natI x=l
   induction l with
   |nil=>rfl
   |cons a l ih=>simp only[qU,zG,Zj,YR,ZV] at ih⊢;rw[ih];rfl
  rw[this,ZD,Zk hj];simp[List.getD,hj]
def cfs (L:List (List Nat)):List (List C):=L.map fun x=>[zF 1 (zG (natI x))]
theorem c69 (τ:Nat) (L:List (List Nat)) (hm:L.length<=1000000) (hk: ∀x∈L,x.length<=1000):wO Tryz.prog 69 [.k (.own τ),.k (.c (.fn 70 []))] (zP 30 1 τ (cfs L)) [τ] (fun r o'=>r=.tup []/\o'=zP 30 1 τ (cfs (sortO ltC L))):=by
 refine(zpV Tryz.laysSortC (rN (by kernel_rfl)) 30 (fun x=>zF 1 (zG (natI x))) (fun x y=>qJ (natI x) (natI y)) ltC zpW (zjU zbo) 70 (enters_of Tryz.func70 (by kernel_rfl) rfl) τ L (by omega) ?_).mono ?_
 ·intro x hx y hy W Z vx vy hZ hvx hvy
  obtain⟨p1,b1,o1,c1,rfl,q1⟩:=zbA hvx;obtain⟨p2,b2,o2,c2,rfl,q2⟩:=zbA hvy;have hx':=hk x hx;have hy':=hk y hy;refine(zpU b1 o1 c1 b2 o2 c2 p1 p2 (natI x) (natI y) W (by rw[sL];exact hx') (by rw[sL];exact hy') ⟨q1,q2⟩).mono ?_;rintro e w' ⟨rfl,rfl⟩;exact⟨rfl,0,#[],by rw[grow_empty];rfl⟩
 ·rintro r o' ⟨rfl,out,hp,hs,rfl⟩
  rw[zbk zbo hp hs];exact⟨rfl,rfl⟩
end Go.Abs
namespace Go.Proofs
open Go.RowKit Go.Lib Go.Sort Go.Abs Go.Ex
def oT (a b:Plc):Int:=if a.doc≠b.doc then a.doc-b.doc else a.fld-b.fld
theorem zpX (a b:Plc) (ha:0<=a.doc/\a.doc<=1000000/\0<=a.fld/\a.fld<=1000000) (hb:0<=b.doc/\b.doc<=1000000/\0<=b.fld/\b.fld<=1000000) (w:World):
  Calls Tryz.prog 73 #[.agg #[.int .i64 a.doc,.int .i64 a.fld],.agg #[.int .i64 b.doc,.int .i64 b.fld]] w fun e w'=>e=.returned (.int .i64 (oT a b))/\ ∃q os',w'=grow (w.drewN q) os':=by
 obtain⟨a1,a2⟩:=a;obtain⟨b1,b2⟩:=b;simp only[] at ha hb;have w1:IntKind.i64.wrap (a1-b1)=a1-b1:=Go.Abs.wrap_in (by omega) (by omega);have w2:IntKind.i64.wrap (a2-b2)=a2-b2:=Go.Abs.wrap_in (by omega) (by omega);by_cases h:a1=b1
 ·subst h
  have e:oT ⟨a1,a2⟩ ⟨a1,b2⟩=a2-b2:=by unfold oT;rw[if_neg (by simp)]
  rw[e]
  go_enter Tryz.func73,Tryz.ntmps73
  go_wp2
  go_ret
  exact⟨rfl,0,_,by rw[alloc_eq_grow,alloc_eq_grow,grow_grow];rfl⟩
 ·have e:oT ⟨a1,a2⟩ ⟨b1,b2⟩=a1-b1:=by unfold oT;rw[if_pos h]
  have hne:(a1==b1)=false:=by simp[h]
  rw[e]
  go_enter Tryz.func73,Tryz.ntmps73
  go_wp2
  go_ret
  exact⟨rfl,0,_,by rw[alloc_eq_grow,alloc_eq_grow,grow_grow];rfl⟩
end Go.Proofs
namespace Go.Abs
open Go.Sort Go.Proofs Go.Shelf Go.Lib Go.RowKit Go.Ex
theorem zpY (a b:Plc):decide (oT a b<0)=xX a b:=by
 unfold oT xX;by_cases h:a.doc=b.doc
 ·rw[if_neg (by simp[h]),if_pos h,Ye,decide_eq_true_eq,decide_eq_true_eq];omega
 ·rw[if_pos h,if_neg h,Ye,decide_eq_true_eq,decide_eq_true_eq];omega
def dX (a:Plc):Prop:=0<=a.doc/\a.doc<=1000000/\0<=a.fld/\a.fld<=1000000
theorem c72 (τ:Nat) (L:List Plc) (hm:L.length<=100000000000000) (hk: ∀x∈L,dX x):wO Tryz.prog 72 [.k (.own τ),.k (.c (.fn 73 []))] (zP 64 2 τ (pls L)) [τ] (fun r o'=>r=.tup []/\o'=zP 64 2 τ (pls (sortO xX L))):=by
 refine(zpI Tryz.laysSortP (rN (by kernel_rfl)) 64 2 (by decide) Tryz.isAgg64 Tryz.sizeOf64 uD (fun _=>rfl) oT xX zpY (zjU pB) 73 (enters_of Tryz.func73 (by kernel_rfl) rfl) τ L (by omega) ?_).mono ?_
 ·intro x hx y hy W Z vx vy hZ hvx hvy
  have e1:=dE (r:=uD x) (by simp[uD,C.sc]) hvx;have e2:=dE (r:=uD y) (by simp[uD,C.sc]) hvy;subst e1 e2;exact zpX x y (hk x hx) (hk y hy) W
 ·rintro r o' ⟨rfl,out,hp,hs,rfl⟩
  rw[zbk pB hp hs];exact⟨rfl,rfl⟩
end Go.Abs
namespace Go.Ex
open Go.Lib
section
variable {α : Type} [Inhabited α] [DecidableEq α]
def cfG (a:α):List α->List α
 |[]=>[]
 |b::l=>if a=b then cfG b l else b::cfG b l
def dY:List α->List α
 |[]=>[]
 |a::l=>a::cfG a l
omit [Inhabited α] in
theorem zjV (b:α): ∀(l:List α) (a:α),cfG a (l++[b])=cfG a l++(if (a::l).getLast (by simp)=b then[] else[b])
 |[],a=>rfl
 |c::l,a=>by
  rw[ZT,cfG,cfG,zjV b l c];have:(a::c::l).getLast (by simp)=(c::l).getLast (by simp):=by simp
  rw[this];split<;>simp
theorem zjW (a:α) (l:List α): ∀m,m<=l.length->compactUpTo (a::l).toArray (m+1)=a::cfG a (l.take m)
 |0,_=>by
  rw[compactUpTo_succ,keeps_lt_one _ 0 (by decide)];simp[compactUpTo,cfG]
 |m+1,h=>by
  rw[compactUpTo_succ,zjW a l m (by omega)];have hm:m<l.length:=by omega
  have e1:(a::l).toArray[m+1]! =l[m]:=by
   rw[getElem!_pos _ _ (by simp;omega)];simp
  have e2:(a::l).toArray[m]! =(a::l.take m).getLast (by simp):=by
   rw[getElem!_pos _ _ (by simp;omega),List.getLast_eq_getElem];simp only[List.getElem_toArray,Zu,Yk,Y8 (show m<=l.length by omega),Nat.add_sub_cancel];cases m with
   |zero=>simp
   |succ m=>simp
  rw[Zz hm,zjV];have e3:keeps (a::l).toArray (m+1)= !decide ((a::l.take m).getLast (by simp)=l[m]):=by
   unfold keeps;rw[Nat.add_sub_cancel,e1,e2];simp[eq_comm]
  rw[e3,e1];by_cases q:(a::l.take m).getLast (by simp)=l[m]<;>simp[q]
theorem zpZ: ∀l:List α,compact l=dY l
 |[]=>by simp[compact,compactUpTo,dY]
 |a::l=>by
  unfold compact;rw[Zu,zjW a l _ (ZA _),Yh,dY]
end
end Go.Ex
set_option maxRecDepth 1000000
namespace Go.Proofs
open Go.RowKit Go.Lib Go.Sort Go.Ex
instance:Inhabited Plc:=⟨⟨0,0⟩⟩
def plV (x:Plc):List Value:=[.int .i64 x.doc,.int .i64 x.fld]
theorem zjX (x:Plc):(plV x).length=2:=rfl
theorem zjY (x y:Plc):(x.doc==y.doc&&x.fld==y.fld)=decide (x=y):=by
 obtain⟨a,b⟩:=x;obtain⟨c,d⟩:=y;rw[Ye,Zp,beq_iff_eq,beq_iff_eq,decide_eq_true_eq,Plc.mk.injEq]
theorem zp0 (x y:Plc) (w:World):Sem.run Tryz.prog (binOp .eql 64 (.agg #[.int .i64 x.doc,.int .i64 x.fld]) (.agg #[.int .i64 y.doc,.int .i64 y.fld])) w=.ok (.bool (decide (x=y))) w:=by
 rw[run_eql_struct,run_equalIn_agg (P:=Tryz.prog) w 9999 64 _ _ (by kernel_rfl) (by kernel_rfl),<-zjY];simp[go_sem];by_cases h1:x.doc=y.doc<;>by_cases h2:x.fld=y.fld<;>simp[h1,h2]
theorem zp1 (x y:Plc) (w:World):Sem.run Tryz.prog (binOp .neq 64 (.agg #[.int .i64 x.doc,.int .i64 x.fld]) (.agg #[.int .i64 y.doc,.int .i64 y.fld])) w=.ok (.bool (!decide (x=y))) w:=by
 rw[run_neq_struct,run_equalIn_agg (P:=Tryz.prog) w 9999 64 _ _ (by kernel_rfl) (by kernel_rfl),<-zjY];simp[go_sem];by_cases h1:x.doc=y.doc<;>by_cases h2:x.fld=y.fld<;>simp[h1,h2]
theorem zp2 (op:BinOp) (a b:Operand) (x y:Plc) (w:World):Sem.run Tryz.prog (eqGuard op 64 a b (.agg #[.int .i64 x.doc,.int .i64 x.fld]) (.agg #[.int .i64 y.doc,.int .i64 y.fld])) w=.ok () w:=run_eqGuard_agg _ _ _ _ _ _ _ (by kernel_rfl)
theorem zp3 (d:Array Plc) (i:Nat) (x:Plc) (hi:i<d.size):setMany (flatK plV 2 d) (i*2) (plV x)=flatK plV 2 (d.setIfInBounds i x):=by
 refine ext_get! (by simp) fun t ht=>?_
 have ht':t<d.size*2:=by simpa using ht
 rw[get_setMany _ _ _ t (by simpa using ht'),get_flatK _ _ _ t ht',get_flatK _ _ _ t (by simpa using ht'),zjX];by_cases a:t/2=i
 ·rw[if_pos (by omega),show t-i*2=t % 2 by omega,a]
  simp[hi]
 ·rw[if_neg (by omega)]
  congr 2;rw[getElem!_pos d _ (by omega),getElem!_pos (d.setIfInBounds i x) _ (by simp;omega),Array.getElem_setIfInBounds,if_neg (Ne.symm a)]
theorem zp4 {w wr:World} {n blk off:Nat} {dk:Array Plc} {i:Nat} (hi:i<dk.size) (hwr:wr=putRowK plV 2 (Sort.ahead w n) blk off dk) (x:Plc):wr.setCells blk (off+i*2) (plV x)=putRowK plV 2 (Sort.ahead w n) blk off (dk.setIfInBounds i x):=by
 subst hwr;unfold putRowK;rw[setCells_putRow _ _ _ _ _ _ (by rw[zjX,size_flatK];omega),zp3 _ _ _ hi]
theorem iR {W:World} {blk off:Nat} {d:Array Plc} (h:HoldsK plV 2 W blk off d) {i:Nat} (hi:i<d.size):
  W.cell? ⟨blk,off+i*2,none⟩=some (.int .i64 d[i]!.doc)/\W.cell? ⟨blk,off+i*2+1,none⟩=some (.int .i64 d[i]!.fld):=by
 have h0:=(h.cell (c:=0) hi (by decide)).1;have h1:=(h.cell (c:=1) hi (by decide)).1;exact⟨h0,h1⟩
theorem zp5: ∀w,(zeroValue 64).run Tryz.prog w=.ok (.agg #[.int .i64 0,.int .i64 0]) w:=by
 intro w;simp[go_sem]
theorem zp6 (w:World) (ty:TypeId) (b o n c:Nat) (hn:0<n)
  (hc: ∀j,j<n*2->(w.cell? ⟨b,o+j,none⟩).isSome=true) (hf: ∀j,j<n*2->w.frozen? ⟨b,o+j,none⟩=false):
  (Builtin.clear_ #[31] ty #[.slice (some ⟨b,o,none⟩) n c]).run Tryz.prog w=.ok (.tuple #[]) (w.setCells b o (List.replicate (n*2) (.int .i64 0))):=by
 have hzc:(Builtin.zeroCells #[.int .i64 0,.int .i64 0] n).toList=List.replicate (n*2) (.int .i64 0):=by
  simp[Builtin.zeroCells];apply XA
  ·simp[Wi]
  ·intro i h1 h2
   simp;rcases Nat.mod_two_eq_zero_or_one i with h|h<;>simp[h]
 have hst:=run_storeCells_cells (P:=Tryz.prog) b o (List.replicate (n*2) (.int .i64 0)) 0 w (by simpa using hc) (by simpa using hf) (by intro v hv';rw[List.eq_of_mem_replicate hv'];rfl);simp only[YC] at hst;obtain⟨m,rfl⟩: ∃m,n=m+1:=⟨n-1,by omega⟩;simp only[Builtin.clear_];simp[go_sem,run_underlying Tryz.underlying31,zp5,hzc,hst,Value.cells]
theorem zp7 {α:Type} [Inhabited α] (d:Array α):(List.range d.size).map (d[·]!)=d.toList:=by
 apply XA
 ·simp
 ·intro i h1 h2
  simp at h1;simp[h1]
theorem zp8 (blk off cap:Nat) (d:Array Plc) (w:World) (hH:HoldsK plV 2 w blk off d) (hsz:d.size<=100000000000000) (hcap:d.size<=cap):
  Calls Tryz.prog 74 #[.slice (some ⟨blk,off,none⟩) d.size cap] w fun e w'=>e=.returned (.slice (some ⟨blk,off,none⟩) (compactUpTo d d.size).length cap)/\(compactUpTo d d.size).length<=d.size/\ ∃(q:Nat) (F:Array Value),F.size=d.size*2/\(∀j,j<(compactUpTo d d.size).length*2->F[j]! =(flatK plV 2 (compactUpTo d d.size).toArray)[j]!)/\w'=putRow id (Sort.ahead w q) blk off F:=by
 have same: ∀q,(∀j,j<d.size->keeps d j=true)->(compactUpTo d d.size).length=d.size/\w.drewN q=putRow id (Sort.ahead w q) blk off (flatK plV 2 d)/\ ∀j,j<(compactUpTo d d.size).length*2->(flatK plV 2 d)[j]! =(flatK plV 2 (compactUpTo d d.size).toArray)[j]! :=by
  intro q hall;have e:compactUpTo d d.size=d.toList:=by rw[compactUpTo_all d _ hall];exact zp7 d
  rw[e];exact⟨by simp,(putRowK_self plV 2 (Sort.ahead w q) blk off d (holdsK_ahead plV 2 w q blk off d hH)).symm,fun j _=>by simp⟩
 have HS:Aside (∀q,(∀j,j<d.size->keeps d j=true)->(compactUpTo d d.size).length=d.size/\w.drewN q=putRow id (Sort.ahead w q) blk off (flatK plV 2 d)/\ ∀j,j<(compactUpTo d d.size).length*2->(flatK plV 2 d)[j]! =(flatK plV 2 (compactUpTo d d.size).toArray)[j]!):=same;clear same;have heq':=zp0;have hne':=zp1;have hgd':=zp2;have mixed:Tryz.prog.follows Departure.mixedOrders=true:=by kernel_rfl
 have HH:Aside (HoldsK plV 2 w blk off d):=hH;clear hH;by_cases h2:d.size<2
 ·go_enter Tryz.func74,Tryz.ntmps74
  go_wp2
  go_ret
  obtain⟨e1,e2,e3⟩:=HS.out 0 (fun j hj=>keeps_lt_one d j (by omega));exact⟨by rw[e1];rfl,by omega,0,_,by simp,e3,e2⟩
 ·go_enter Tryz.func74,Tryz.ntmps74
  go_wp2
  go_loopg [3] d.size (fun g s3 wr=> ∃k q:Nat,1<=k/\k<=d.size/\d.size-k<=g/\s3=.int .i64 k/\wr=w.drewN q/\ ∀j,j<k->keeps d j=true)
  case atStart=>exact⟨1,0,ZA _,by omega,by omega,rfl,rfl,keeps_lt_one d⟩
  case round=>
   obtain⟨k,q,hk1,hk,hg,rfl,rfl,hall⟩:=hrel;by_cases hlt:k<d.size
   ·obtain⟨c1,f1⟩:=iR HH.out hlt
    obtain⟨c0,f0⟩:=iR HH.out (show k-1<d.size by omega);have A:Aside (∀j,j<k->keeps d j=true):=hall;clear hall;obtain⟨x,hx⟩: ∃x,d[k]! =x:=⟨_,rfl⟩;obtain⟨y,hy⟩: ∃y,d[k-1]! =y:=⟨_,rfl⟩;rw[hx] at c1 f1;rw[hy] at c0 f0;have B:Aside (d[k]! =x/\d[k-1]! =y):=⟨hx,hy⟩;clear hx hy;by_cases hdup:x=y
    ·subst hdup
     go_wp2_with fail
     go_region_o
     go_wp2
     clear c0 c1 f0 f1
     go_loopg [3,5] d.size (fun g s3 s5 wr=> ∃(kk k2 q2:Nat) (dk:Array Plc),s3=.int .i64 kk/\s5=.int .i64 k2/\1<=k2/\k+k2<=d.size/\d.size-(k+k2)<=g/\wr=putRowK plV 2 (Sort.ahead w q2) blk off dk/\CompInv d (k+k2) kk dk)
     case atStart=>exact⟨k,1,q+1,d,rfl,rfl,ZA _,by omega,by omega,(putRowK_self plV 2 (Sort.ahead w (q+1)) blk off d (holdsK_ahead plV 2 w (q+1) blk off d HH.out)).symm,CompInv.start A.out (keeps_neg (by omega) (by rw[B.out.1,B.out.2]))⟩
     case round=>
      obtain⟨kk,k2,q2,dk,rfl,rfl,h1,hle,hg2,hwr,hI⟩:=hrel;have hkk:=hI.lt;have hds:=hI.size;have hHk:HoldsK plV 2 wr blk off dk:=by rw[hwr];exact holdsK_putRowK plV 2 _ blk off d dk (holdsK_ahead plV 2 w q2 blk off d HH.out) hds
      have W2:Aside (wr=putRowK plV 2 (Sort.ahead w q2) blk off dk):=hwr;have I2:Aside (CompInv d (k+k2) kk dk):=hI;clear hwr;by_cases hlt2:k+k2<d.size
      ·obtain⟨cm,cm'⟩:=iR hHk (show k+k2<dk.size by omega)
       obtain⟨cp,cp'⟩:=iR hHk (show k+k2-1<dk.size by omega);rw[hI.high (k+k2) (by omega),show off+(k+k2)*2=off+k*2+k2*2 by omega] at cm cm';rw[hI.high (k+k2-1) (by omega),show off+(k+k2-1)*2=off+k*2+(k2-1)*2 by omega] at cp cp';obtain⟨ck,ck'⟩:=iR hHk (show kk<dk.size by omega);have fk:=(hHk.cell (c:=0) (show kk<dk.size by omega) (by decide)).2;have fk':=(hHk.cell (c:=1) (show kk<dk.size by omega) (by decide)).2;rw[YC] at fk;have ne1:(⟨blk,off+kk*2,none⟩:Addr)≠⟨blk,off+kk*2+1,none⟩:=by intro h;injection h;omega
       have ck2: ∀x,(wr.setCell ⟨blk,off+kk*2,none⟩ x).cell? ⟨blk,off+kk*2+1,none⟩=some (.int .i64 dk[kk]!.fld):=fun x=>(World.cell?_setCell_other _ _ _ _ ne1).trans ck'
       clear hHk hI;obtain⟨u,hu⟩: ∃u,d[k+k2]! =u:=⟨_,rfl⟩;obtain⟨v,hv⟩: ∃v,d[k+k2-1]! =v:=⟨_,rfl⟩;rw[hu] at cm cm';rw[hv] at cp cp';have C:Aside (d[k+k2]! =u/\d[k+k2-1]! =v):=⟨hu,hv⟩;clear hu hv;by_cases huv:u=v
       ·subst huv
        go_wp2_with fail
        go_region_o
        go_wp2
        go_roundg (d.size-(k+(k2+1)))
        case measure=>omega
        case rel=>exact⟨kk,k2+1,q2+1,dk,rfl,by go_num,by omega,by omega,ZA _,by rw[W2.out];rfl,I2.out.skip (keeps_neg (by omega) (by rw[C.out.1,C.out.2]))⟩
       ·go_wp2_with fail
        go_region_o
        go_wp2
        go_roundg (d.size-(k+(k2+1)))
        case measure=>omega
        case rel=>exact⟨kk+1,k2+1,q2+1,dk.setIfInBounds kk u,by go_num,by go_num,by omega,by omega,ZA _,by
         have:=zp4 (i:=kk) (by omega) W2.out u
         simp only[plV,World.setCells] at this
         rw[this];rfl,by have:=I2.out.keep hlt2 (keeps_pos (by rw[C.out.1,C.out.2];exact huv));rwa [C.out.1] at this⟩
      ·have hend:k+k2=d.size:=by omega
       have hcl: ∀ty,(Builtin.clear_ #[31] ty #[.slice (some ⟨blk,off+kk*2,none⟩) (d.size-kk) (cap-kk)]).run Tryz.prog wr=.ok (.tuple #[]) (wr.setCells blk (off+kk*2) (List.replicate ((d.size-kk)*2) (.int .i64 0))):=
        fun ty=>zp6 wr ty blk (off+kk*2) _ _ (by omega) (fun j hj=>by rw[show off+kk*2+j=off+(kk*2+j) by omega,(hHk (kk*2+j) (by simp;omega)).1];rfl) (fun j hj=>by rw[show off+kk*2+j=off+(kk*2+j) by omega];exact(hHk (kk*2+j) (by simp;omega)).2)
       clear hHk hI
       go_wp2
       go_ret
       have hI:=I2.out;rw[hend] at hI;refine⟨by rw[hI.len];rfl,by rw[hI.len];omega,q2,setMany (flatK plV 2 dk) (kk*2) (List.replicate ((d.size-kk)*2) (.int .i64 0)),by simp;omega,fun j hj=>?_,?_⟩
       ·rw[hI.len] at hj
        rw[get_setMany _ _ _ _ (by simp;omega),if_neg (by omega),get_flatK _ _ _ _ (by omega),get_flatK _ _ _ _ (by simp;rw[hI.len];exact hj)];congr 2;have hlo:=hI.low (j/2) (by omega);have hj2:j/2<(compactUpTo d d.size).length:=by rw[hI.len];omega
        rw[Zk hj2] at hlo;rw[getElem!_pos (compactUpTo d d.size).toArray (j/2) (by simpa using hj2)];simpa using(YA hlo).symm
       ·rw[W2.out]
        unfold putRowK;rw[setCells_putRow _ _ _ _ _ _ (by simp;omega)]
    ·go_wp2_with fail
     go_region_o
     go_wp2
     go_roundg (d.size-(k+1))
     case measure=>omega
     case rel=>
      refine⟨k+1,q+1,by omega,by omega,ZA _,by go_num,rfl,fun j hj=>?_⟩;by_cases e:j=k
      ·subst e
       exact keeps_pos (by rw[B.out.1,B.out.2];exact hdup)
      ·exact A.out j (by omega)
   ·have:k=d.size:=by omega
    subst this
    go_wp2
    go_ret
    obtain⟨e1,e2,e3⟩:=HS.out q hall;exact⟨by rw[e1];rfl,by omega,q,_,by simp,e3,e2⟩
theorem zp9 (p:Option Addr) (cap:Nat) (w:World):Calls Tryz.prog 74 #[.slice p 0 cap] w fun e w'=>e=.returned (.slice p 0 cap)/\w'=w:=by
 go_enter Tryz.func74,Tryz.ntmps74
 go_wp2
 go_ret
 exact⟨rfl,rfl⟩
end Go.Proofs
namespace Go.Abs
open Go.Sort Go.Proofs Go.Shelf Go.Lib Go.RowKit Go.Ex
theorem zqa: ∀L:List Plc,vV L=compact L:=by
 intro L;rw[zpZ];have key: ∀(l:List Plc) (a:Plc),vV (a::l)=a::cfG a l:=by
  intro l
  induction l with
  |nil=>intro a;rfl
  |cons b l ih=>
   intro a;rw[vV,cfG];by_cases h:a=b
   ·subst h;rw[if_pos rfl,if_pos rfl,ih]
   ·rw[if_neg h,if_neg h,ih]
 cases L with
 |nil=>rfl
 |cons a l=>rw[key,dY]
theorem c74 (τ:Nat) (L:List Plc) (hm:L.length<=100000000000000):wO Tryz.prog 74 [.k (.own τ)] (zP 64 2 τ (pls L)) [] (fun r o'=>r=.k (.own τ)/\o'=zP 64 2 τ (pls (vV L))):=by
 refine⟨rN (by kernel_rfl),fun w0 Z0 κ w vs hsz hi=>?_⟩;obtain⟨v,rfl⟩:=zn9 hsz;have ho:(zP 64 2 τ (pls L)) τ=some (.arr 64 2 none (pls L)):=by simp[zP]
 have hno: ∀s,s≠τ->zP 64 2 τ (pls L) s=none:=fun s hs=>by simp[zP,hs]
 have hob:=hi.objs τ _ ho;have htm:zJ w (Zof w0 Z0 κ (zP 64 2 τ (pls L)) w) κ (zP 64 2 τ (pls L)) (.k (.own τ)) v:=by simpa using hi.tmps 0
 rcases hob with⟨hκ,hrows,_⟩|⟨b,cur,cap,hκ,hheap,h0,hcs,hlen,hcap,_,hall,hrr⟩
 ·have hl0:L=[]:=by simpa [pls] using hrows
  subst hl0;have hv:v=.slice none 0 0:=by
   rcases htm.2 64 2 none _ ho with⟨_,hv⟩|⟨b,_,_,hb,_⟩
   ·exact hv
   ·rw[hκ] at hb;cases hb
  subst hv;refine(zp9 none 0 w).mono ?_;rintro ex w' ⟨rfl,hw⟩;rw[hw];have hI:=hi.moveG (τ:=τ) (d:=0) (ob:=.arr 64 2 none (pls [])) (v:=.k (.own τ)) (u:=.slice none 0 0) (bo:=none) (w':=w) ho (by simp) rfl rfl rfl (ZA _) (fun _ _ _=>rfl) (fun b hb=>by cases hb)
   (fun Z _=> .inl ⟨by simp,rfl,by simp⟩) ⟨rfl,fun _ _ _ _ _=> .inl ⟨by simp,rfl⟩⟩
  rw[ziI _ _ hno] at hI;exact⟨.slice none 0 0,_,.k (.own τ),_,rfl,⟨rfl,rfl⟩,fun s hs=>by simp at hs,hI⟩
 ·rw[vB] at hlen
  obtain⟨cap',hv,hcap'⟩: ∃cap',v=.slice (some ⟨b,0,none⟩) L.length cap'/\cur.size=cap'*2:=by
   rcases htm.2 64 2 none _ ho with⟨hn,_⟩|⟨b',cur',cap',hb,hh,hc2,hv⟩
   ·rw[hκ] at hn;cases hn
   ·rw[hκ] at hb;cases hb
    rw[hheap] at hh;cases hh;exact⟨cap',by simpa [vB] using hv,hc2⟩
  subst hv;have hlt:b<w.heap.size:=wJ hheap;have hcell: ∀(i:Nat) (h:i<L.length) (j:Nat),j<2->cur[i*2+j]?=some (plV L[i])[j]! :=by
   intro i h j hj;have hr:(pls L)[i]?=some (uD L[i]):=by simp[pls,h]
   match j,hj with
   |0,_=>
    obtain⟨u,hu,hp⟩:=hrr i 0 _ _ hr rfl;rw[vO hp] at hu;exact hu
   |1,_=>
    obtain⟨u,hu,hp⟩:=hrr i 1 _ _ hr rfl;rw[vO hp] at hu;exact hu
  have hH:HoldsK plV 2 w b 0 L.toArray:=by
   refine zjO hheap (by simp;omega) fun t ht=>?_
   have ht':t<L.length*2:=by simpa using ht
   rw[get_flatK _ _ _ _ (by simpa using ht')];have:=hcell (t/2) (by omega) (t % 2) (by omega);rw[show t/2*2+t % 2=t by omega] at this;rw[this,getElem!_pos L.toArray _ (by simp;omega)];simp
  have hcon:=zp8 b 0 cap' L.toArray w hH (by simpa using hm) (by simp;omega);have e1:compactUpTo L.toArray L.toArray.size=vV L:=by rw[zqa];rfl
  rw[e1] at hcon;rw[show L.toArray.size=L.length from rfl] at hcon;refine hcon.mono ?_;rintro ex w' ⟨rfl,hle,q,F,hF,hFc,rfl⟩;have hh2:=zjP (w:=w) (n:=q) (os:= #[]) F hheap;have hg:=dW (w:=w) (g:=b) (n:=q) (os:= #[]) F;rw[grow_empty] at hh2 hg;have hsz2:(putCells id 0 F cur).size=cur.size:=by simp[putCells]
  obtain⟨g1,g2,g3,g4,g5⟩:=hg;have hI:=hi.moveG (τ:=τ) (d:=0) (ob:=.arr 64 2 none (pls (vV L))) (v:=.k (.own τ)) (u:=.slice (some ⟨b,0,none⟩) (vV L).length cap') (bo:=some b) (w':=putRow id (Sort.ahead w q) b 0 F) ho (by simp) g1 g2 g3 g4
   (fun k hk hne=>g5 k hk (by rw[hκ] at hne;exact fun h=>hne (by cases h;rfl))) (fun b' hb=> .inr (by cases hb;exact hκ))
   (fun Z _=> .inr ⟨b,_,cap,by simp,hh2,by omega,by rw[hsz2];exact hcs,by rw[vB];omega,hcap,by simp,fun r hr=>by obtain⟨x,_,rfl⟩:=ZL.1 hr;rfl,fun i j r c hr hcj=>?_⟩) (by
    refine⟨rfl,fun e2 sz2 nl2 rows2 h2=>?_⟩
    simp[St.put,St.setO] at h2
    obtain⟨rfl,rfl,rfl,rfl⟩:=h2
    exact .inr ⟨b,_,cap',by simp,hh2,by rw[hsz2];exact hcap',by simp[vB]⟩)
  ·rw[ziI _ _ hno] at hI
   exact⟨_,_,.k (.own τ),_,rfl,⟨rfl,rfl⟩,fun s hs=>by simp at hs,hI⟩
  ·have hi':i<(vV L).length:=by have:=(Zw.1 hr).1;rwa [vB] at this
   have hr':r=uD (vV L)[i]:=by simp[pls,hi'] at hr;exact hr.symm
   subst hr';have hj:j<2:=(Zw.1 hcj).1;have hfc:=hFc (i*2+j) (by omega);rw[get_flatK _ _ _ _ (by simp;omega),show(i*2+j)/2=i by omega,show(i*2+j) % 2=j by omega,getElem!_pos (vV L).toArray i (by simpa using hi')] at hfc;have hcs2:i*2+j<cur.size:=by omega
   have hfs:i*2+j<F.size:=by omega
   refine⟨F[i*2+j]!,?_,?_⟩
   ·simp only[putCells]
    rw[Array.getElem?_mapIdx,Yg hcs2];simp only[YF,Zy,true_and,Z4,hfs,if_true,XZ,id]
   ·rw[hfc]
    match j,hj with
    |0,_=>cases hcj;exact .int _ _
    |1,_=>cases hcj;exact .int _ _
theorem zqb {P:Program} {f d τ e k:Nat} {xs:List AX} {K:KK} {ts:TS} {os:OS} {nl:Option Bool} {X:Prop} {rows rows':List (List C)} (rows0:List (List C))
  (hs:wO P f [.k (.own τ)] (zP e k τ rows) [] (fun r o'=>r=.k (.own τ)/\o'=zP e k τ rows')) (ho:lookO τ os=some (.arr e k nl rows0)) (hn:C.normRows rows0=rows)
  (hk:K (insT d (.k (.own τ)) (mapT (V.scrub τ) ts)) (insO τ (.arr e k none rows') (mapO (O.scrub τ) os))):X\/jO P f [.k (.own τ)] xs K (some d) ts os:=by
 refine .inr (.inl ?_);refine⟨[τ],[],[τ],fun r o'=>r=.k (.own τ)/\o'=zP e k τ rows',by simp[V.within,Abs.K.within],rfl,?_,fun s hs=> .inr hs,?_,?_⟩
 ·intro s hs ob hob
  simp only[Z9] at hs;subst hs;rw[ho] at hob;cases hob;rfl
 ·have e1:(yJ [τ] fun s=>(lookO s os).map O.nrm)=zP e k τ rows:=by
   funext s;by_cases h:s=τ
   ·subst h
    simp[yJ,ho,zP,O.nrm,hn]
   ·simp[yJ,zP,h]
  rw[e1];exact hs
 ·rintro r o' ⟨rfl,rfl⟩
  refine⟨fun s hs=>by simp at hs;simp[zP,hs],by simp[V.within,Abs.K.within],fun s ob h=>?_,?_⟩
  ·unfold zP at h
   split at h
   ·cases h;rfl
   ·cases h
  ·have e2:(mkS ts os).back [τ] [τ] (zP e k τ rows')=mkS (mapT (V.scrub τ) ts) (insO τ (.arr e k none rows') (mapO (O.scrub τ) os)):=by
    simp only[St.back,mkS,St.mk.injEq];refine⟨by funext s;rw[lM _ rfl];rfl,?_⟩;funext s;rw[jK];by_cases h:s=τ
    ·subst h;simp[zP]
    ·simp only[Wl,List.contains_nil,YQ,beq_iff_eq,h,if_false,jM]
     cases lookO s os<;>rfl
   show onS K (((mkS ts os).back [τ] [τ] (zP e k τ rows')).put d (.k (.own τ)));rw[e2,sH];exact xH hk
end Go.Abs
namespace Go.Abs
open Go.Sort Go.Proofs Go.Shelf Go.Lib Go.RowKit Go.Wd Go.Wire Go.Ex
theorem zjZ {P:Program} {f d τ g e k:Nat} {xs:List AX} {K:KK} {ts:TS} {os:OS} {nl:Option Bool} {X:Prop} {β:Type} {encR:β->List C} {Q:List β->Prop} (rows0:List (List C)) (ks:List β)
  (hs:wO P f [.k (.own τ),.k (.c (.fn g []))] (zP e k τ (ks.map encR)) [τ] (fun r o'=>r=.tup []/\ ∃out,Q out/\o'=zP e k τ (out.map encR))) (ho:lookO τ os=some (.arr e k nl rows0)) (hn:C.normRows rows0=ks.map encR)
  (hk: ∀out,Q out->K (insT d (.tup []) ts) (insO τ (.arr e k none (out.map encR)) os)):X\/jO P f [.k (.own τ),.k (.c (.fn g []))] xs K (some d) ts os:=by
 refine .inr (.inl ?_);refine⟨[τ],[τ],[],fun r o'=>r=.tup []/\ ∃out,Q out/\o'=zP e k τ (out.map encR),by simp[V.within,Abs.K.within],rfl,?_,fun s hs=> .inl hs,?_,?_⟩
 ·intro s hs ob hob
  simp only[Z9] at hs;subst hs;rw[ho] at hob;cases hob;rfl
 ·have e1:(yJ [τ] fun s=>(lookO s os).map O.nrm)=zP e k τ (ks.map encR):=by
   funext s;by_cases h:s=τ
   ·subst h
    simp[yJ,ho,zP,O.nrm,hn]
   ·simp[yJ,zP,h]
  rw[e1];exact hs
 ·rintro r o' ⟨rfl,out,hQ,rfl⟩
  refine⟨fun s hs=>by simp at hs;simp[zP,hs],rfl,fun s ob h=>?_,?_⟩
  ·unfold zP at h
   split at h
   ·cases h;rfl
   ·cases h
  ·have e2:(mkS ts os).back [τ] [] (zP e k τ (out.map encR))=mkS ts (insO τ (.arr e k none (out.map encR)) os):=by
    simp only[St.back,mkS,St.mk.injEq];refine⟨by funext s;rfl,?_⟩;funext s;rw[jK];by_cases h:s=τ
    ·subst h;simp[zP]
    ·simp only[Wl,List.contains_nil,YQ,beq_iff_eq,h,if_false]
     cases lookO s os<;>rfl
   show onS K (((mkS ts os).back [τ] [] (zP e k τ (out.map encR))).put d (.tup []));rw[e2,sH];exact xH (hk out hQ)
theorem zj0 (m:Dmd): ∀(l:List Pln) (i:Nat),(∀p∈l,PlnS p)->(looksL m l i).length<=l.length*1000000
 |[],_,_=>by simp[looksL]
 |p::l,i,h=>by
  rw[looksL,Zr,Zu,Xw];have h1:=zj0 m l (i+1) fun q hq=>h q (ZH _ hq)
  have h2:=(h p (by simp)).ns;have h3:(qH m p i).length<=p.names.length:=by
   unfold qH;rw[Ze];exact ZX (Yr _ _) (by simp)
  omega
theorem zbB (m:Dmd) (l:List Pln) (hl:wU l):(looksP m l).length<=1000000000000:=by
 unfold looksP;split
 ·simp
 ·have:=zj0 m l 0 hl.2
  have h:=hl.1;omega
theorem zj1 (m:Dmd): ∀(l:List Pln) (i:Nat),(∀p∈l,PlnS p)-> ∀x∈looksL m l i,(i:Int)<=x.doc/\x.doc<i+l.length/\0<=x.fld/\x.fld<1000000
 |[],_,_,x,hx=>by simp[looksL] at hx
 |p::l,i,h,x,hx=>by
  rw[looksL,Yt] at hx;rcases hx with hx|hx
  ·unfold qH at hx
   obtain⟨k,hk,rfl⟩:=ZL.1 hx;have hk:=Yb.1 (Z8.1 hk).1;have h2:=(h p (by simp)).ns;simp only[Zu];omega
  ·have:=zj1 m l (i+1) (fun q hq=>h q (ZH _ hq)) x hx
   simp only[Zu];omega
theorem zqc (m:Dmd) (l:List Pln) (hl:wU l): ∀x∈looksP m l,dX x:=by
 intro x hx;unfold looksP at hx;split at hx
 ·cases hx
 ·have:=zj1 m l 0 hl.2 x hx
  have h:=hl.1;unfold dX;omega
def rawP (L:List Dmd) (which:List Nat) (l:List Pln) (i:Nat):List Plc:=((which.take i).map fun k=>looksP (L.getD k yI) l).flatten
theorem zj2 (L:List Dmd) (which:List Nat) (l:List Pln) {i:Nat} (h:i<which.length):rawP L which l (i+1)=rawP L which l i++looksP (L.getD which[i] yI) l:=by
 unfold rawP;rw[Zz h,ZV,Wj,List.map_singleton,YR,List.flatten_nil,Zi]
theorem zbC (L:List Dmd) (which:List Nat) (l:List Pln) (hl:wU l): ∀i,(rawP L which l i).length<=i*1000000000000
 |0=>by simp[rawP]
 |i+1=>by
  have ih:=zbC L which l hl i;by_cases h:i<which.length
  ·rw[zj2 _ _ _ h,Zr,Xw]
   exact Nat.add_le_add ih (zbB (L.getD which[i] yI) l hl)
  ·have:rawP L which l (i+1)=rawP L which l i:=by unfold rawP;rw[ZU (by omega),ZU (by omega)]
   rw[this,Xw];exact ZX ih (Nat.le_add_right _ _)
theorem c34 (L:List Dmd) (which:List Nat) (p:List Pln) (hL:L.length<=1000000) (hw:which.length<=8) (hk: ∀k∈which,k<L.length) (hp:wU p):Spec Tryz.prog 34 [lst 8 (L.map zM),lst 1 (zG (natI which)),lst 3 (p.map zX)] (fun v=>v=lst 2 (pls (placesP L which p))):=by
 refine Spec.of_awlP hf34 okf34 (by simp) fun S hS=>?_
 have hwl:(natI which).length=which.length:=sL which;simp only[yF,hwl,Qs,bne_iff_ne,ne_eq,Zb,Zn,Za,Ψ34];rw[uu f34l15.eq_1];refine zO (fun x:Nat×Option Bool=>[(0,lst 8 (L.map zM)),(2,lst 3 (p.map zX)),(7,.k (.own 7)),(10,lst 1 (zG (natI which))),(11,.int .i64 which.length),(12,.int .i64 x.1)]) (fun x=>[(7,.arr 64 2 x.2 (pls (rawP L which p x.1)))]) (fun x=>x.1<=which.length) (fun x=>which.length-x.1) (0,some true) rfl rfl (Zy _) ?_;rintro⟨i,nl⟩ hi;simp only[] at hi;have hrl:=zbC L which p hp i;by_cases hlt:i<which.length
 ·have d1:(i:Int)<which.length:=by omega
  have c4:IntKind.i64.wrap ((i:Int)+1)=(i:Int)+1:=wrap_in (by omega) (by omega);have hat:(zG (natI which)).getD i []=[.int .i64 (which[i]:Int)]:=by simp[zG,natI,hlt]
  have hki:=hk _ (Zv hlt);have hs:=zj2 L which p hlt;have hd:=kH hki;generalize which[i]=k at hat hki hs hd;have d2:(0:Int)<=(k:Int)/\(k:Int)<L.length:=⟨by omega,by omega⟩;have g1:=c16 (L.getD k yI) p hp;have hl1:=zbB (L.getD k yI) p hp;generalize L.getD k yI=m at hs hd g1 hl1;unfold zM at g1;simp only[d1,d2,hat,hd,hwl,yF,zB,Ym,Qs,Za,Ze,Ψ34];refine yP g1 ?_ (ha:=by simp only[Zj,Zo,zC,V.norm,C.norm,zS sJ,C.normRow]<;>rfl);simp only[c4,vB,Qs,Za,ziW];have hb:(rawP L which p i).length+(looksP m p).length<=8000000000000:=by
   rw[<-Zr,<-hs];exact ZX (zbC L which p hp (i+1)) (ZY 1000000000000 (ZX hlt hw))
  have hpp:pls (rawP L which p i)++pls (looksP m p)=pls (rawP L which p (i+1)):=by rw[hs];simp[pls]
  rw[hpp];generalize (rawP L which p i).length+(looksP m p).length=q at hb;exact⟨ZX hb (by decide),ZX (ZY 16 hb) (by decide),Next.intro (i+1,nlApp nl (pls (looksP m p))) rfl rfl (by simp only;omega) (by simp only;omega)⟩
 ·have d1: ¬(i:Int)<which.length:=by omega
  obtain rfl:i=which.length:=by omega
  simp only[d1,Qs,Za,Ψ34];have hall: ∀x∈rawP L which p which.length,dX x:=by
   intro x hx;unfold rawP at hx;obtain⟨l,hl,hx⟩:=XX.1 hx;obtain⟨k,_,rfl⟩:=ZL.1 hl;exact zqc _ p hp x hx
  have hle:(rawP L which p which.length).length<=8000000000000:=ZX hrl (ZY 1000000000000 hw);have e:placesP L which p=vV (sortO xX (rawP L which p which.length)):=by unfold placesP rawP;rw[Yh]
  rw[e] at hS;generalize rawP L which p which.length=R at hall hle hS;have g1:=c72 7 R (by omega) hall;have hsl:(sortO xX R).length=R.length:=(kF xX R).length_eq;have g2:=c74 7 (sortO xX R) (by omega);refine zjZ (Q:=fun out=>out=sortO xX R) (pls R) R (g1.mono fun r o ⟨h1,h2⟩=>⟨h1,_,rfl,h2⟩) rfl (tH _) ?_;rintro out rfl;simp only[Qs,Za,Ψ34];refine zqb (pls (sortO xX R)) g2 rfl (tH _) ?_;simp only[Qs,zg0,oM,ZJ,Zq];refine hS _ ?_;simp only[V.fz,V.fzL,V.nrm,V.nrmL,tH,qG (tH _)]
def pF (nv n:Nat):List Nat:=((List.range n).filter fun k=>nv.testBit k).map (fun k=>1<<<k)
theorem zqd (nv n:Nat):pF nv (n+1)=pF nv n++if nv.testBit n=true then[1<<<n] else[]:=by
 unfold pF;rw[YY,Y6,ZV];congr 1;by_cases h:nv.testBit n=true<;>simp[h]
theorem zj3 (nv n:Nat):(pF nv n).length<=n:=by
 unfold pF;rw[Ze];exact ZX (Yr _ _) (by simp)
theorem zbD (D:Nat): ∀n p,(tY D n p).length<=n
 |0,_=>ZA _
 |n+1,p=>by
  rw[tY];split
  ·simp
  ·rw[Zu];have:=zbD D n ((p-1)&&&D);omega
def pG (F:List Nat) (s j:Nat):Bool:=hitP F s&&((bitsN s).take j).all fun k=> !hitP F (andN s (1<<<k))
theorem zqe (F:List Nat) (s:Nat):pG F s (bitsN s).length=wZ F s:=by unfold pG wZ;rw[Yh]
theorem zqf (F:List Nat) (s:Nat) {j:Nat} (h:j<(bitsN s).length):pG F s (j+1)=(pG F s j&& !hitP F (andN s (1<<<(bitsN s)[j]))):=by
 unfold pG;rw[Zz h,Xe];simp[X4]
theorem zqg (s k:Nat) (hk:k<64):(s:Int).fdiv (2 ^ min k IntKind.u64.bits)=((s/2 ^ k:Nat):Int):=by
 have e:min k IntKind.u64.bits=k:=Y8 (show k<=64 by omega);rw[e,show((2:Int) ^ k)=((2 ^ k:Nat):Int) by simp];rw[Int.fdiv_eq_ediv_of_nonneg _ (Int.natCast_nonneg _)];exact(X2 s (2 ^ k)).symm
theorem zqh (s k:Nat) (hs:s<18446744073709551616) (hk:k<64):IntKind.u64.wrap ((Z2 IntKind.u64.bits ((s:Int).fdiv (2 ^ min k IntKind.u64.bits))&&&Z2 IntKind.u64.bits 1).toNat:Int)=if s.testBit k=true then 1 else 0:=by
 rw[zqg s k hk];have h:=iQ (s:=s/2 ^ k) (t:=1) (XW (Xk _ _) hs) (by decide);rw[show((1:Nat):Int)=1 from rfl] at h;rw[h,Nat.and_one_is_mod,Nat.testBit_eq_decide_div_mod_eq];have:s/2 ^ k % 2=0\/s/2 ^ k % 2=1:=by omega
 rcases this with h|h<;>rw[h]<;>simp
theorem zbE (k:Nat) (hk:k<64):IntKind.u64.wrap (1*2 ^ min k IntKind.u64.bits)=((1<<<k:Nat):Int):=by
 have e:min k IntKind.u64.bits=k:=Y8 (show k<=64 by omega);rw[e,Int.one_mul,show((2:Int) ^ k)=((2 ^ k:Nat):Int) by simp,X0];exact mK (ZO (XD (by decide) hk) (by decide))
theorem zj4 {s t m:Nat} (h:s<2 ^ m):andN s t<2 ^ m:=xM.2 fun k hk=>by
 rw[mD,Zp] at hk;exact xM.1 h k hk.1
theorem zj5 {s t:Nat} (hs:s<2 ^ 64):IntKind.u64.wrap ((Z2 IntKind.u64.bits (s:Int)&&& ~~~Z2 IntKind.u64.bits (t:Int)).toNat:Int)=((andN s t:Nat):Int):=by
 show IntKind.u64.wrap ((Z2 64 (s:Int)&&& ~~~Z2 64 (t:Int)).toNat:Int)=_;rw[kI,kI];have e:(Wm 64 s&&& ~~~Wm 64 t).toNat=andN s t:=by
  apply XE;intro i;rw[mD,BitVec.testBit_toNat,BitVec.getLsbD_and,BitVec.getLsbD_not,BitVec.getLsbD_ofNat,BitVec.getLsbD_ofNat];by_cases hi:i<64
  ·simp[hi]
  ·have:s.testBit i=false:=by
    cases q:s.testBit i with
    |false=>rfl
    |true=>exact absurd (xM.1 hs i q) hi
   simp[hi,this]
 rw[e];exact mK (zj4 hs)
theorem zj6 (L:List (List Nat)):C.normRows (cfs L)=cfs L:=yK (fun x=>by simp only[C.normRow,zI,wD]) L
theorem c33 (v:Vw) (hn:v.never<256) (hd:v.doubt<256) (hs: ∀s∈v.sets,s<256) (hl:v.sets.length<=1000000):Spec Tryz.prog 33 [.agg [zF 1 (sets v.sets),.int .u64 (v.never:Int),.int .u64 (v.doubt:Int)]] (fun r=>r=lst 1 (cfs (sortO ltC ((conflP v).map bitsN)))):=by
 obtain⟨F,nv,db⟩:=v;simp only[] at hn hd hs hl;refine Spec.of_awlP hf33 okf33 (by simp) fun S hS=>?_
 simp only[Qs,bne_iff_ne,ne_eq,Zn,Za,Ψ33];rw[uu f33l70.eq_1];refine zO (fun x:Nat×Option Bool=>[(1,.k (.c (.ro [zF 1 (sets F),.int .u64 (nv:Int),.int .u64 (db:Int)] 0))),(3,.k (.own 3)),(13,.int .i64 x.1)]) (fun x=>[(3,.arr 71 1 x.2 (sets (pF nv x.1)))]) (fun x=>x.1<=64) (fun x=>64-x.1) (0,some true) rfl rfl (by decide) ?_;rintro⟨k,nl⟩ hk;simp only[] at hk;have hnl:=zj3 nv k;by_cases hlt:k<64
 ·have d1:(k:Int)<64:=by omega
  have d0:(0:Int)<=k:=by omega
  have c4:IntKind.i64.wrap ((k:Int)+1)=(k:Int)+1:=wrap_in (by omega) (by omega);have hx:=zqd nv k;have c5:=zqh nv k (by omega) hlt;have c6:=zbE k hlt;by_cases hb:nv.testBit k=true
  ·rw[if_pos hb] at c5 hx
   simp only[d1,d0,c4,c5,c6,sB,zjS,Ym,Qs,oK,forall_eq,bne_iff_ne,ne_eq,BEq.rfl,ZB,Zb,Zn,Zd,ZN,Za,Zq,Ψ33];refine⟨by omega,by omega,Next.intro (k+1,some false) rfl (by rw[hx];rfl) (by simp only;omega) (by simp only;omega)⟩
  ·rw[if_neg hb] at c5 hx
   rw[Zi] at hx;simp only[d1,d0,c4,c5,Ym,Qs,Zb,Zd,Za,YN,Ψ33];exact Next.intro (k+1,nl) rfl (by rw[hx];rfl) (by simp only;omega) (by simp only;omega)
 ·obtain rfl:k=64:=by omega
  simp only[show¬(((64:Nat):Int)<64) by omega,Qs,nP,Zb,Za,Xy,nU,nV,nW,nX,nY,nZ,mA,Ψ33];rw[uu f33l50.eq_1];have hT:(conflP ⟨F,nv,db⟩)=pF nv 64++(tY db 256 db).filter (wZ F):=rfl;have hTl:(conflP ⟨F,nv,db⟩).length<=320:=by
   rw[hT,Zr];have h1:=zbD db 256 db;have h2:=Yr (wZ F) (tY db 256 db);omega
  have hTb: ∀s∈conflP ⟨F,nv,db⟩,s<256:=by
   intro s hs2;rw[hT,Yt] at hs2;rcases hs2 with hs2|hs2
   ·obtain⟨k,hk,rfl⟩:=ZL.1 hs2
    have hk:=(Z8.1 hk).2;have:k<8:=xM.1 (show nv<2 ^ 8 from hn) k hk;rw[X0];exact(XD (by decide) this:2 ^ k<2 ^ 8)
   ·have h:=(Z8.1 hs2).1
    rw[zbc db hd,zbd hd] at h;have:=Nat.and_le_right (n:=s) (m:=db);omega
  generalize conflP ⟨F,nv,db⟩=T at hS hT hTl hTb;refine zO (fun x:Nat×Nat×List Nat×Option Bool=>[(1,.k (.c (.ro [zF 1 (sets F),.int .u64 (nv:Int),.int .u64 (db:Int)] 0))),(3,.k (.own 3)),(5,.k (.c (.fn 66 [.ro [zF 1 (sets F),.int .u64 (nv:Int),.int .u64 (db:Int)] 0]))),(6,.int .u64 x.1)]) (fun x=>[(3,.arr 71 1 x.2.2.2 (sets x.2.2.1))]) (fun x=>x.1<=x.2.1/\x.1<256/\T=x.2.2.1++(tY db x.2.1 x.1).filter (wZ F)) (fun x=>x.1) (db,256,pF nv 64,nl) rfl rfl ⟨by simp only;omega,hd,hT⟩ ?_;rintro⟨p,n,Out,nl2⟩ ⟨hpn,hp,hO⟩;simp only[] at hpn hp hO;have hOl:Out.length<=320:=by
   have:=congrArg List.length hO;rw[Zr] at this;omega
  by_cases h0:p=0
  ·subst h0
   have e0:tY db n 0=[]:=by cases n<;>simp[tY]
   rw[e0,XK,Zi] at hO;subst hO;simp only[show(((0:Nat):Int) !=0)=false from rfl,sB,Qs,znQ,znR,bne_iff_ne,ne_eq,Zn,Za,Yw,Ψ33];rw[uu f33l15.eq_1];refine zO (fun x:Nat×Option Bool=>[(10,.k (.own 10)),(64,.k (.own 3)),(65,.int .i64 T.length),(66,.int .i64 x.1)]) (fun x=>[(3,.arr 71 1 nl2 (sets T)),(10,.arr 30 1 x.2 (cfs ((T.take x.1).map bitsN)))]) (fun x=>x.1<=T.length) (fun x=>T.length-x.1) (0,some true) rfl rfl (Zy _) ?_;rintro⟨i,nl3⟩ hi;simp only[] at hi;by_cases hil:i<T.length
   ·have d1:(i:Int)<T.length:=by omega
    have c4:IntKind.i64.wrap ((i:Int)+1)=(i:Int)+1:=wrap_in (by omega) (by omega);have hat:=zbx hil;have htk:(T.take (i+1)).map bitsN=(T.take i).map bitsN++[bitsN T[i]]:=by rw[Zz hil,ZV];rfl
    have hT8:=hTb _ (Zv hil);have hll:((T.take i).map bitsN).length=i:=by simp;omega
    generalize T[i]=p at hat htk hT8;generalize (T.take i).map bitsN=A at htk hll;have g2:=c35 p hT8;simp only[d1,hat,sB,Qs,znS,znT,znU,zf3,zf4,Za,Ψ33];refine yP g2 ?_ (ha:=by rfl);have hq:cfs A++[[zF 1 (zG (natI (bitsN p)))]]=cfs (A++[bitsN p]):=by simp[cfs]
    have hAl:(cfs A).length=i:=by simp[cfs,hll]
    simp only[c4,hq,hAl,Qs,zn1,zn2,forall_eq,bne_iff_ne,ne_eq,ZB,Zn,Zd,ZN,Za,Zq];exact⟨by omega,by omega,Next.intro (i+1,some false) rfl (by rw[htk];rfl) (by simp only;omega) (by simp only;omega)⟩
   ·obtain rfl:i=T.length:=by omega
    have d1: ¬((T.length:Int)<T.length):=by omega
    rw[Yh];simp only[d1,Qs,Za,Ψ33];have hL8: ∀x∈T.map bitsN,x.length<=1000:=by
     intro x hx;obtain⟨s,hs,rfl⟩:=ZL.1 hx;have:=kJ s (hTb s hs);omega
    have hLl:(T.map bitsN).length<=320:=by simp;exact hTl
    generalize T.map bitsN=R at hS hL8 hLl;have g1:=c69 10 R (by omega) hL8;refine zjZ (Q:=fun out=>out=sortO ltC R) (encR:=fun x=>[zF 1 (zG (natI x))]) (cfs R) R (g1.mono fun r o ⟨h1,h2⟩=>⟨h1,_,rfl,h2⟩) rfl (zj6 _) ?_;rintro out rfl;simp only[Qs,ZJ,Za,Zq,Ψ33];refine hS _ ?_;have e1:=zj6 (sortO ltC R);unfold cfs at e1;simp only[V.fz,V.fzL,V.nrm,V.nrmL,e1,qG e1];rfl
  ·obtain⟨m,rfl⟩: ∃m,n=m+1:=⟨n-1,by omega⟩
   rw[tY,if_neg h0] at hO;have n0:((p:Int) !=0)=true:=by rw[bne_iff_ne];omega
   have g1:=c66 p nv db (by omega) F (fun s h=>by have:=hs s h;omega) hl;have g2:=c35 p hp;have hbl:=kJ p hp;simp only[n0,Qs,oI,Za,Ψ33];refine rM g1 ?_ (ha:=by simp only[Zj,Zo,zC,V.norm,zI,C.norm,C.normRow,mL]<;>rfl);simp only[Qs,Za,Ψ33];refine yP g2 ?_ (ha:=by rfl);simp only[yF,sL,Qs,Ψ33];have hz:pG F p 0=hitP F p:=by unfold pG;simp
   rw[uu f33l37.eq_1];refine zO (fun j:Nat=>[(1,.k (.c (.ro [zF 1 (sets F),.int .u64 (nv:Int),.int .u64 (db:Int)] 0))),(3,.k (.own 3)),(5,.k (.c (.fn 66 [.ro [zF 1 (sets F),.int .u64 (nv:Int),.int .u64 (db:Int)] 0]))),(6,.int .u64 p),(7,.bool (pG F p j)),(42,lst 1 (zG (natI (bitsN p)))),(43,.int .i64 (bitsN p).length),(44,.int .i64 j)]) (fun _=>[(3,.arr 71 1 nl2 (sets Out))]) (fun j=>j<=(bitsN p).length) (fun j=>(bitsN p).length-j) 0 (by rw[hz];rfl) rfl (Zy _) ?_;rintro j hj;by_cases hjl:j<(bitsN p).length
   ·have d1:(j:Int)<(bitsN p).length:=by omega
    have c4:IntKind.i64.wrap ((j:Int)+1)=(j:Int)+1:=wrap_in (by omega) (by omega);have hat:(zG (natI (bitsN p))).getD j []=[.int .i64 ((bitsN p)[j]:Int)]:=by simp[zG,natI,hjl]
    have hls:=zqf F p hjl;have hb64:(bitsN p)[j]<64:=by
     have:=Zv hjl;unfold bitsN at this;have:=Yb.1 (Z8.1 this).1;show(bitsN p)[j]<64;unfold bitsN;omega
    generalize (bitsN p)[j]=k at hat hls hb64;have c6:=zbE k hb64;have k0:(0:Int)<=k:=by omega
    cases hL:pG F p j with
    |false=>
     rw[hL,ZF] at hls;simp only[d1,hat,c4,c6,k0,hL,yF,sL,Ym,Qs,fZ,Za,Ψ33];exact Next.intro (j+1) (by rw[hls];rfl) rfl (by omega) (by omega)
    |true=>
     rw[hL,ZC] at hls;have ht:andN p (1<<<k)<256:=zj4 (m:=8) hp;have c7:=zj5 (s:=p) (t:=1<<<k) (by omega);have g3:=c66 (andN p (1<<<k)) nv db (by omega) F (fun s h=>by have:=hs s h;omega) hl;generalize andN p (1<<<k)=t at hls c7 g3;simp only[d1,hat,c4,c6,c7,k0,hL,yF,sL,Ym,Qs,fZ,oI,oK,znP,Za,Ψ33];refine rM g3 ?_ (ha:=by simp only[Zj,Zo,zC,V.norm,zI,C.norm,C.normRow,mL]<;>rfl);simp only[c4,Qs,Za];exact Next.intro (j+1) (by rw[hls];rfl) rfl (by omega) (by omega)
   ·obtain rfl:j=(bitsN p).length:=by omega
    rw[zqe];have d1: ¬(((bitsN p).length:Int)<(bitsN p).length):=by omega
    have hn1:(p-1)&&&db<=p-1:=Nat.and_le_left;have w1:IntKind.u64.wrap ((p:Int)-1)=((p-1:Nat):Int):=by
     rw[show(p:Int)-1=((p-1:Nat):Int) by omega];exact mK (by omega)
    have ha:=iQ (s:=p-1) (t:=db) (by omega) (by omega);generalize (p-1)&&&db=p2 at hO hn1 ha;cases hc:wZ F p with
    |false=>
     rw[List.filter_cons_of_neg (by rw[hc];simp)] at hO;simp only[d1,w1,ha,Qs,oL,Zb,Zn,Za,Ψ33];exact Next.intro (p2,m,Out,nl2) rfl rfl ⟨by simp only;omega,by simp only;omega,hO⟩ (by simp only;omega)
    |true=>
     rw[List.filter_cons_of_pos hc,<-List.singleton_append,<-Z3] at hO;simp only[d1,w1,ha,sB,zjS,Qs,oL,forall_eq,bne_iff_ne,ne_eq,ZB,Zb,Zn,Zd,ZN,Za,Zq,Ψ33];exact⟨by omega,by omega,Next.intro (p2,m,Out++[p],some false) rfl rfl ⟨by simp only;omega,by simp only;omega,hO⟩ (by simp only;omega)⟩
end Go.Abs
namespace Go.Proofs
open Go.Shelf Go.RowKit Go.Lib
theorem zqi (B b:Nat) (bs:List Value) (c:Int) (w:World) (h:Lib.IsBuilderF 188 5 B b bs w) (hlen:bs.length+1<=140737488355328) (hBw:B<=w.heap.size):
  Calls Tryz.prog 220 #[.pointer (some ⟨b,0,none⟩),.int .u8 c] w fun e w'=>e=.returned .nilIface/\Lib.IsBuilderF 188 5 B b (bs++[.int .u8 c]) w'/\Below B w w':=by
 obtain⟨i0,hi,hz0,hz1,hz2⟩:=info_parts Tryz.bx169.infoByte
 go_enter Tryz.func220,Tryz.ntmps220
 go_wp2_with (go_at_call 161;refine(zjk B b bs _ h).mono ?_)
 rintro e w1 ⟨rfl,h1,hb1⟩;obtain⟨hB,v,hbk,hown,hne⟩:=h1;have c0:w1.cell? ⟨b,0,none⟩=some (.pointer (some ⟨b,0,none⟩)):=by rw[Lib.cell_of_heap hbk];rfl
 have c1:w1.cell? ⟨b,1,none⟩=some v:=by rw[Lib.cell_of_heap hbk];rfl
 go_wp2_with (at_builtin;refine wpList_append_ownF _ rfl _ _ 186 rfl B 5 i0 (.int .u8 0) 1 1 Tryz.underlying186 hi hz0 hz1 hz2 rfl (by decide) _ _ _ rfl (hown.alloc _) ⟨w1.heap.size,0,none⟩ 1 1 [.int .u8 c] rfl rfl ?c1 ?c2 ?c3 ?c4 ?c5 ?_)
 case c1=>
  intro j u hj
  match j,hj with
  |0,hj=>simp at hj;subst hj;simp[Addr.add]
 case c2=>intro u hu;simp at hu;subst hu;rfl
 case c3=>unfold maxLen;omega
 case c4=>omega
 case c5=>have:=hb1.size;simp;omega
 intro v' w2 hown' hgrow _;have hlt:b<w1.heap.size:=by
  rcases Y3 b w1.heap.size with h'|h'
  ·exact h'
  ·simp[Array.getElem?_eq_none h'] at hbk
 have hb2:w2.heap[b]?=some (.cells #[.pointer (some ⟨b,0,none⟩),v] 188 (0,0)):=by
  rw[hgrow.block b (by simp;omega) (fun e=>hne e.symm),Lib.alloc_old w1 _ b hlt];exact hbk
 have d0:w2.cell? ⟨b,0,none⟩=some (.pointer (some ⟨b,0,none⟩)):=by rw[Lib.cell_of_heap hb2];rfl
 have d1:w2.cell? ⟨b,1,none⟩=some v:=by rw[Lib.cell_of_heap hb2];rfl
 have f1:w2.frozen? ⟨b,1,none⟩=false:=Lib.frozen_of_heap hb2 1;obtain⟨g,cap,rfl⟩: ∃g cap,v'=.slice (some ⟨g,0,none⟩) (bs.length+1) cap:=by
  rcases hown'.2 with⟨_,h0⟩|⟨g,cap,cur,fz,hv,_⟩
  ·omega
  ·exact⟨g,cap,hv⟩
 go_wp2
 go_ret
 refine⟨rfl,.inr ?_,?_⟩
 ·exact Lib.BuilderAtF.put (T:=188) (e:=5) hB hb2 (bs':=bs++[.int .u8 c]) (by simpa using hown') (by decide)
 ·exact((hb1.alloc (by have:=hb1.size;omega) _).grown hgrow (by have:=hb1.size;simp;omega) (fun k hk=>(hown.lt k hk).1)).setCell (p:=⟨b,1,none⟩) hB _
end Go.Proofs
namespace Go.Abs
open Go.Proofs Go.RowKit Go.Lib Go.Wd Go.Wire Go.Ex
def zbF:Txt:=[110,101,101,100,32]
def wW:Txt:=[32,59]
def uK:Txt:=[102,105,101,108,100,32]
def dZ:Txt:=[32,115,97,109,101,32]
theorem zqj (s:Txt) (hs:s.length<=1000000):Spec Tryz.prog 206 [.agg [.str s]] (fun v=>v=.str (zbF++s++wW)):=by
 refine Spec.of_awlS hf206 okf206 (by simp) fun S hS=>?_
 simp only[Qs,Zb,Zd,Za,Ψ206];exact⟨by (first|omega|(simp only[Zr,Zu,ZK] at*;omega)),by (first|omega|(simp only[Zr,Zu,ZK] at*;omega)),hS⟩
theorem zqk (d f e g:Txt) (hd:d.length<=1000000) (hf:f.length<=1000000) (he:e.length<=1000000) (hg:g.length<=1000000):Spec Tryz.prog 224 [.agg [.str d,.str f,.str e,.str g]] (fun v=>v=.str (uK++(d++wV++f)++dZ++(e++wV++g)++wW)):=by
 refine Spec.of_awlS hf224 okf224 (by simp) fun S hS=>?_
 have g1:=dI d f hd hf;have g2:=dI e g he hg;have l1:(d++wV++f).length<=3000000:=by simp only[wV,Zr,Zu,ZK];omega
 have l2:(e++wV++g).length<=3000000:=by simp only[wV,Zr,Zu,ZK];omega
 generalize (d++wV++f)=x at g1 hS l1;generalize (e++wV++g)=y at g2 hS l2;simp only[Qs,Zb,Zd,Za,Ψ224];refine xI g1 ?_ (ha:=by rfl);simp only[Qs,Zb,Zd,Za];refine⟨by omega,by omega,?_⟩;refine xI g2 ?_ (ha:=by rfl);simp only[Qs,Zb,Zd,Za];refine⟨?_,?_,?_⟩
 ·(first|omega|(simp only[Zr,Zu,ZK] at*;omega))
 ·(first|omega|(simp only[Zr,Zu,ZK] at*;omega))
 ·simpa [uK,dZ,wW] using hS
def oU:Txt:=[115,117,109,32]
def sM:Txt:=[32,102,114,111,109,32]
def sO:Txt:=[32,116,111,32]
end Go.Abs
namespace Go.Ex
def qK (c:UInt8):List UInt8:=if c=34\/c=92 then[92,c] else[c]
def escT (l:List UInt8):List UInt8:=l.flatMap qK
theorem zj7 (l:List UInt8) (c:UInt8):escT (l++[c])=escT l++qK c:=by simp[escT]
theorem pH (l:List UInt8):(escT l).length<=2*l.length:=by
 induction l with
 |nil=>simp[escT]
 |cons c l ih=>
  have:(qK c).length<=2:=by unfold qK;split<;>simp
  simp only[escT,XV,Zr,Zu] at ih⊢;omega
end Go.Ex
namespace Go.Proofs
open Go.Shelf Go.RowKit Go.Lib Go.Ex
theorem mM (B b:Nat) (l:List UInt8) (c:UInt8) (z:Int) (hz:z=(c.toNat:Int)) (w:World) (h:Lib.IsBuilderF 188 5 B b (Lib.byteCells l) w) (hlen:l.length+1<=140737488355328) (hBw:B<=w.heap.size):
  Calls Tryz.prog 220 #[.pointer (some ⟨b,0,none⟩),.int .u8 z] w fun e w'=>e=.returned .nilIface/\Lib.IsBuilderF 188 5 B b (Lib.byteCells (l++[c])) w'/\Below B w w':=by
 subst hz;refine(zqi B b (Lib.byteCells l) c.toNat w h (by simpa [Lib.byteCells] using hlen) hBw).mono ?_;rintro e w' ⟨h1,h2,h3⟩;exact⟨h1,by simpa [Lib.byteCells] using h2,h3⟩
theorem zj8 {c:UInt8} (h:(c.toNat:Int)=34):c=34:=by
 have h2:c.toNat=34:=by omega
 have h3:UInt8.ofNat c.toNat=UInt8.ofNat 34:=by rw[h2]
 rw[UInt8.ofNat_toNat] at h3;exact h3
theorem zj9 {c:UInt8} (h:(c.toNat:Int)=92):c=92:=by
 have h2:c.toNat=92:=by omega
 have h3:UInt8.ofNat c.toNat=UInt8.ofNat 92:=by rw[h2]
 rw[UInt8.ofNat_toNat] at h3;exact h3
theorem zka {c:UInt8} (q1: ¬(c.toNat:Int)=34) (q2: ¬(c.toNat:Int)=92):([c]:List UInt8)=qK c:=by
 unfold qK;rw[if_neg];rintro(h|h)
 ·subst h;exact q1 rfl
 ·subst h;exact q2 rfl
theorem cA {c:UInt8} (h:c=34\/c=92):([92]++[c]:List UInt8)=qK c:=by
 unfold qK;rw[if_pos h];rfl
theorem zql (l:List UInt8) (hl:l.length<=1000000) (w:World):
  Calls Tryz.prog 219 #[.string ⟨l.toArray⟩] w fun e w'=>e=.returned (.string ⟨([34]++escT l++[34]).toArray⟩)/\Below w.heap.size w w':=by
 obtain⟨n,hN⟩: ∃n,l.length=n:=⟨_,rfl⟩;have hN':Aside (l.length=n):=hN;have hsz:(⟨l.toArray⟩:ByteArray).size=n:=by show l.toArray.size=_;simpa using hN
 have hg1:(w.alloc (.cells #[.pointer none,.slice none 0 0] 188)).heap[w.heap.size]?=some (.cells #[.pointer none,.slice none 0 0] 188 (0,0)):=Go.Abs.alloc_get w _;have hb2:Below w.heap.size w (w.alloc (.cells #[.pointer none,.slice none 0 0] 188)):=(Below.refl _ w).alloc (ZA _) _;have hI1:Lib.IsBuilderF 188 5 w.heap.size w.heap.size (Lib.byteCells []) (w.alloc (.cells #[.pointer none,.slice none 0 0] 188)):=by
  exact .inl ⟨ZA _,.slice none 0 0,hg1,World.ownsRowF_of (World.ownsRow_nil _ _ _ _),by simp[Value.ownBlock]⟩
 go_enter Tryz.func219,Tryz.ntmps219
 go_wp2_with (go_at_call 220;refine(mM w.heap.size w.heap.size [] 34 34 rfl _ hI1 (by decide) hb2.size).mono ?_;rintro e w3 ⟨rfl,hI3,hb3⟩)
 rw[Z7] at hI3;have hb4:=hb2.trans hb3
 go_loopg [4,8] n (fun g t i wr=>Below w.heap.size w wr/\ ∃k:Nat,k<=n/\g=n-k/\i=.int .i64 k/\Lib.IsBuilderF 188 5 w.heap.size w.heap.size (Lib.byteCells ([34]++escT (l.take k))) wr)
 case atStart=>exact⟨hb4,0,Zy _,rfl,rfl,hI3⟩
 case round=>
  obtain⟨hbx,k,hk,rfl,rfl,hIx⟩:=hrel;by_cases hlt:k<n
  ·have hkn:(k:Int)<n:=by omega
   have hkl:k<l.length:=by omega
   obtain⟨c,hc⟩: ∃c,(⟨l.toArray⟩:ByteArray)[k]'(by rw[hsz];exact hlt)=c:=⟨_,rfl⟩;have hcl:l[k]=c:=hc;have hE:Aside ([34]++escT (l.take (k+1))=[34]++escT (l.take k)++qK c):=show _=_ by rw[Zz hkl,hcl,zj7,Z3]
   have hA:=pH (l.take k);rw[Yk] at hA;have hA2:([34]++escT (l.take k)).length<=2000001:=by simp only[Zr,Zu,ZK];omega
   generalize [34]++escT (l.take k)=A at hIx hE hA2;have hwr:IntKind.i64.wrap ((k:Int)+1)=((k+1:Nat):Int):=by rw[Go.Abs.wrap_in (by omega) (by omega)];omega
   clear hcl hA;by_cases q1:(c.toNat:Int)=34
   ·have o1:c=34:=zj8 q1
    go_wp2_with (first|(go_at_call 220;refine(mM w.heap.size w.heap.size (A++[92]) c 34 q1.symm _ hI5 (by rw[Zr];simp only[Zu,ZK];omega) (hbx.trans hb7).size).mono ?_;rintro e w6 ⟨rfl,hI6,hb8⟩)|(go_at_call 220;refine(mM w.heap.size w.heap.size A 92 92 rfl _ hIx (by omega) hbx.size).mono ?_;rintro e w5 ⟨rfl,hI5,hb7⟩))
    rw[Z3,cA (.inl o1),<-hE.out] at hI6
    go_roundg (n-(k+1))
    case measure=>omega
    case rel=>exact⟨(hbx.trans hb7).trans hb8,k+1,by omega,rfl,by go_num,hI6⟩
   ·by_cases q2:(c.toNat:Int)=92
    ·have o1:c=92:=zj9 q2
     go_wp2_with (first|(go_at_call 220;refine(mM w.heap.size w.heap.size (A++[92]) c 92 q2.symm _ hI5 (by rw[Zr];simp only[Zu,ZK];omega) (hbx.trans hb7).size).mono ?_;rintro e w6 ⟨rfl,hI6,hb8⟩)|(go_at_call 220;refine(mM w.heap.size w.heap.size A 92 92 rfl _ hIx (by omega) hbx.size).mono ?_;rintro e w5 ⟨rfl,hI5,hb7⟩))
     rw[Z3,cA (.inr o1),<-hE.out] at hI6
     go_roundg (n-(k+1))
     case measure=>omega
     case rel=>exact⟨(hbx.trans hb7).trans hb8,k+1,by omega,rfl,by go_num,hI6⟩
    ·have e1:((c.toNat:Int)==34)=false:=by simp only[beq_eq_false_iff_ne,ne_eq];exact q1
     have e2:((c.toNat:Int)==92)=false:=by simp only[beq_eq_false_iff_ne,ne_eq];exact q2
     have hEE:=zka q1 q2;clear q1 q2
     go_wp2_with (go_at_call 220;refine(mM w.heap.size w.heap.size A c (c.toNat:Int) rfl _ hIx (by omega) hbx.size).mono ?_;rintro e w6 ⟨rfl,hI6,hb8⟩)
     rw[hEE,<-hE.out] at hI6
     go_roundg (n-(k+1))
     case measure=>omega
     case rel=>exact⟨hbx.trans hb8,k+1,by omega,rfl,by go_num,hI6⟩
  ·obtain rfl:k=n:=by omega
   have hE:Aside (l.take k=l):=show _=_ by rw[ZU (by omega)]
   have hA:=pH l;rw[hE.out] at hIx;have hA2:([34]++escT l).length<=2000001:=by simp only[Zr,Zu,ZK];omega
   obtain⟨A,hAe⟩: ∃A,[34]++escT l=A:=⟨_,rfl⟩;rw[hAe] at hIx hA2;clear hA
   go_wp2_with (first|(go_at_call 134;refine(zjl w.heap.size w.heap.size (A++[34]) _ hI5 (hbx.trans hb7).size).mono ?_;rintro e w6 ⟨rfl,hI6,hb8⟩)|(go_at_call 220;refine(mM w.heap.size w.heap.size A 34 34 rfl _ hIx (by omega) hbx.size).mono ?_;rintro e w5 ⟨rfl,hI5,hb7⟩))
   go_ret
   exact⟨by rw[<-hAe];rfl,(hbx.trans hb7).trans hb8⟩
end Go.Proofs
namespace Go.Abs
open Go.Proofs Go.RowKit Go.Lib Go.Wd Go.Wire Go.Ex
theorem zqm (s:Txt) (hl:s.length<=1000000):Spec Tryz.prog 219 [.str s] (fun r=>r=.str ([34]++escT s++[34])):=by
 refine⟨rN (by kernel_rfl),fun w Z vs hG hz ha=>?_⟩;obtain⟨l⟩:=vs
 match l,ha with
 |[],ha=>exact absurd ha.1 (by simp)
 |_::_::_,ha=>exact absurd ha.1 (by simp)
 |[v1],ha=>
  have e1:=tM (ha.2 0 _ v1 rfl rfl).2.2;subst e1;refine(zql s hl w).mono ?_;rintro e w' ⟨rfl,hb⟩;exact⟨_,_,rfl,rfl,fun _=>rfl,oO hG (wB hb) (fun _=>rfl) (fun _=>⟨rfl,.str _⟩)⟩
theorem zqn (s:Txt) (hl:s.length<=1000000):Spec Tryz.prog 217 [.str s] (fun r=>r=.tup (if s.length>400\/spanN uR s≠s.length then[.str [],.bool false] else[.str ([34]++escT s++[34]),.bool true])):=by
 refine Spec.of_awlS hf217 okf217 (by simp) fun S hS=>?_
 have g1:=zaU zoW s (big hl);have g2:=zqm s hl;generalize [34]++escT s++[34]=x at g2 hS;generalize spanN uR s=y at g1 hS;by_cases q1:(s.length:Int)>400
 ·rw[if_pos (.inl (by omega))] at hS
  simp only[q1,Qs,Zi,Za,Ψ217];exact hS
 ·simp only[q1,Qs,Za,Ψ217]
  refine zD g1 ?_ (ha:=by rfl);by_cases q2:(y:Int)=s.length
  ·rw[if_neg (by omega)] at hS
   simp only[q2,Qs,forall_const,Zi,Za,Ψ217];refine zD g2 ?_ (ha:=by rfl);simp only[Qs,Zi,Za];exact hS
  ·rw[if_pos (.inr (by omega))] at hS
   simp only[q2,Qs,forall_const,Zi,Za,Ψ217];exact hS
def quoB (s:Txt):Bool:=decide (¬(s.length>400\/spanN uR s≠s.length))
def quoT (s:Txt):Txt:=if quoB s then[34]++escT s++[34] else[]
def cB:Txt:=[32,105,115,32]
theorem zkb (s:Txt) (hl:s.length<=1000000):Spec Tryz.prog 217 [.str s] (fun r=>r=.tup [.str (quoT s),.bool (quoB s)]):=by
 refine(zqn s hl).mono ?_;rintro r rfl;unfold quoT quoB;by_cases h:s.length>400\/spanN uR s≠s.length
 ·rw[if_pos h];simp[h]
 ·rw[if_neg h];simp[h]
theorem zqo (s:Txt) (h:s.length<=1000000):(quoT s).length<=2000002:=by
 have:=pH s;unfold quoT;split
 ·simp only[Zr,Zu,ZK];omega
 ·simp
theorem zqp (d f t:Txt) (hd:d.length<=1000000) (hf:f.length<=1000000) (ht:t.length<=1000000):Spec Tryz.prog 213 [.agg [.str d,.str f,.str t]] (fun v=>v=.bool (quoB t&&(nameP d&&nameP f))):=by
 refine Spec.of_awlS hf213 okf213 (by simp) fun S hS=>?_
 have g1:=zkb t ht;have g2:=dH d f hd hf;generalize (nameP d&&nameP f)=x at g2 hS;generalize quoB t=y at g1 hS;simp only[Qs,Zb,Za,Ψ213];refine zD g1 ?_ (ha:=by rfl);cases y with
 |false=>
  simp only[Qs,Za,Ψ213];exact hS
 |true=>
  simp only[Qs,Zb,Zd,Za,Ψ213];refine zD g2 ?_ (ha:=by rfl);simp only[Qs,Za];exact hS
theorem zqq (d f t:Txt) (hd:d.length<=1000000) (hf:f.length<=1000000) (ht:t.length<=1000000):Spec Tryz.prog 214 [.agg [.str d,.str f,.str t]] (fun v=>v=.str (uK++(d++wV++f)++cB++quoT t++wW)):=by
 refine Spec.of_awlS hf214 okf214 (by simp) fun S hS=>?_
 have g1:=zkb t ht;have g2:=dI d f hd hf;have l1:(d++wV++f).length<=3000000:=by simp only[wV,Zr,Zu,ZK];omega
 have l2:=zqo t ht;generalize (d++wV++f)=x at g2 hS l1;generalize quoT t=y at g1 hS l2;simp only[Qs,Zb,Za,Ψ214];refine zD g1 ?_ (ha:=by rfl);simp only[Qs,Zb,Zd,Za,Ψ214];refine zD g2 ?_ (ha:=by rfl);simp only[Qs,Zb,Zd,Za];refine⟨?_,?_,?_⟩
 ·(first|omega|(simp only[Zr,Zu,ZK] at*;omega))
 ·(first|omega|(simp only[Zr,Zu,ZK] at*;omega))
 ·refine⟨by (first|omega|(simp only[Zr,Zu,ZK] at*;omega)),by (first|omega|(simp only[Zr,Zu,ZK] at*;omega)),?_⟩
  simpa [uK,cB,wW] using hS
end Go.Abs
namespace Go.Ex
open Go.Lib Go.Wd Go.Wire Go.Abs Go.Proofs
def okD (op:Int):Bool:=decide (op=0)||(decide (op=1)||(decide (op=3)||(decide (op=2)||decide (op=4))))
def kL (m:Dmd):Dmd:=
 if m.op=0 then⟨0,m.doc,[],[],[],[],0,0⟩ else if m.op=1 then⟨1,m.doc,m.fld,[],[],m.txt,0,0⟩
 else if m.op=3 then⟨3,m.doc,m.fld,m.oth,m.sec,[],0,0⟩ else if m.op=2 then⟨2,m.doc,m.fld,[],[],[],m.lo,m.hi⟩ else⟨4,m.doc,m.fld,[],[],[],m.lo,m.hi⟩
def mN (m:Dmd):Bool:=
 if m.op=0 then nameP m.doc else if m.op=1 then quoB m.txt&&(nameP m.doc&&nameP m.fld)
 else if m.op=3 then(nameP m.doc&&nameP m.fld)&&(nameP m.oth&&nameP m.sec)
 else(nameP m.doc&&nameP m.fld)&&(decide (m.lo>=0)&&(decide (m.lo<=m.hi)&&decide (m.hi<=1099511627776)))
def iS (m:Dmd):Txt:=
 if m.op=0 then zbF++m.doc++wW else if m.op=1 then uK++(m.doc++wV++m.fld)++cB++quoT m.txt++wW
 else if m.op=3 then uK++(m.doc++wV++m.fld)++dZ++(m.oth++wV++m.sec)++wW
 else(if m.op=4 then oU else uK)++(m.doc++wV++m.fld)++sM++itoa m.lo++sO++itoa m.hi++wW
def xK (m:Dmd):Bool:=okD m.op&&(decide (m=kL m)&&mN m)
def vX (L:List Dmd):Bool:=decide (L=[])||(decide (L.length<=20)&&L.all xK)
structure DmdS (m:Dmd):Prop where
 d:m.doc.length<=1000000
 f:m.fld.length<=1000000
 o:m.oth.length<=1000000
 s:m.sec.length<=1000000
 t:m.txt.length<=1000000
 l1: -9223372036854775808<=m.lo
 l2:m.lo<=9223372036854775807
 h1: -9223372036854775808<=m.hi
 h2:m.hi<=9223372036854775807
theorem rQ {s:Txt} (h:nameP s=true):s.length<=20:=by
 unfold nameP at h;simp only[Zp,decide_eq_true_eq] at h;exact h.2.2.1
theorem zqr (t:Txt):(escT t).length<=2*t.length:=pH t
theorem zbG {m:Dmd} (hm:DmdS m) (h:xK m=true):(iS m).length<=1000:=by
 unfold xK at h;simp only[Zp] at h;obtain⟨_,_,h⟩:=h;have e1:=itoa_length_le m.lo hm.l1 hm.l2;have e2:=itoa_length_le m.hi hm.h1 hm.h2;unfold mN at h;unfold iS;split at h
 ·rename_i h0
  have:=rQ h;rw[if_pos h0];simp only[zbF,wW,Zr,Zu,ZK];omega
 split at h
 ·rename_i h0 h1
  simp only[Zp] at h;have n1:=rQ h.2.1;have n2:=rQ h.2.2;have n3:(quoT m.txt).length<=802:=by
   have hq:=h.1;unfold quoT;rw[if_pos hq];unfold quoB at hq;have hq:=of_decide_eq_true hq;have:=zqr m.txt;simp only[Zr,Zu,ZK];omega
  rw[if_neg h0,if_pos h1];simp only[uK,cB,wV,wW,Zr,Zu,ZK];omega
 split at h
 ·rename_i h0 h1 h2
  simp only[Zp] at h;have n1:=rQ h.1.1;have n2:=rQ h.1.2;have n3:=rQ h.2.1;have n4:=rQ h.2.2;rw[if_neg h0,if_neg h1,if_pos h2];simp only[uK,dZ,wV,wW,Zr,Zu,ZK];omega
 ·rename_i h0 h1 h2
  simp only[Zp] at h;have n1:=rQ h.1.1;have n2:=rQ h.1.2;rw[if_neg h0,if_neg h1,if_neg h2];have n3:(if m.op=4 then oU else uK).length<=10:=by split<;>simp[oU,uK]
  simp only[sM,sO,wV,wW,Zr,Zu,ZK];omega
end Go.Ex
namespace Go.Proofs
open Go.Shelf Go.RowKit
def Tryz.laysItoa_ren:Go.Shelf.Ren:=
 {
  f:=fun x=>
   match x with
   |171=>231
   |243=>232
   |246=>233
   |283=>234
   |284=>235
   |285=>236
   |286=>237
   |129=>144
   |317=>238
   |318=>239
   |319=>240
   |320=>75
   |337=>110
   |338=>111
   |n=>n,
  t:=fun x=>
   match x with
   |3=>3
   |9=>9
   |2=>2
   |4=>4
   |171=>262
   |0=>0
   |53=>154
   |37=>186
   |5=>5
   |173=>264
   |212=>267
   |51=>152
   |20=>20
   |213=>268
   |46=>71
   |232=>208
   |233=>209
   |n=>n,
  g:=fun x=>
   match x with
   |17=>5
   |18=>0
   |19=>1
   |n=>n}
theorem Tryz.laysItoa:LaysM.n171 Tryz.prog Tryz.laysItoa_ren:=
 {mixed:=by kernel_rfl,f129:=Z1 Tryz.func144 (congrArg some (ZR (Body.n129 Tryz.laysItoa_ren))),
  f171:=Z1 Tryz.func231 (congrArg some (ZR (Body.n171 Tryz.laysItoa_ren))),
  f243:=Z1 Tryz.func232 (congrArg some (ZR (Body.n243 Tryz.laysItoa_ren))),
  f246:=Z1 Tryz.func233 (congrArg some (ZR (Body.n246 Tryz.laysItoa_ren))),
  f283:=Z1 Tryz.func234 (congrArg some (ZR (Body.n283 Tryz.laysItoa_ren))),
  f284:=Z1 Tryz.func235 (congrArg some (ZR (Body.n284 Tryz.laysItoa_ren))),
  f285:=Z1 Tryz.func236 (congrArg some (ZR (Body.n285 Tryz.laysItoa_ren))),
  f286:=Z1 Tryz.func237 (congrArg some (ZR (Body.n286 Tryz.laysItoa_ren))),
  f317:=Z1 Tryz.func238 (congrArg some (ZR (Body.n317 Tryz.laysItoa_ren))),
  f318:=Z1 Tryz.func239 (congrArg some (ZR (Body.n318 Tryz.laysItoa_ren))),
  f319:=Z1 Tryz.func240 (congrArg some (ZR (Body.n319 Tryz.laysItoa_ren))),
  f320:=Z1 Tryz.func75 (congrArg some (ZR (Body.n320 Tryz.laysItoa_ren))),
  f337:=Z1 Tryz.func110 (congrArg some (ZR (Body.n337 Tryz.laysItoa_ren))),
  f338:=Z1 Tryz.func111 (congrArg some (ZR (Body.n338 Tryz.laysItoa_ren))),t0:=Tryz.underlying0,
  a0:=Tryz.isAgg0,z0:=Tryz.sizeOf0,v0:=Tryz.zeroValue0,t2:=Tryz.underlying2,a2:=Tryz.isAgg2,
  z2:=Tryz.sizeOf2,v2:=Tryz.zeroValue2,t3:=Tryz.underlying3,a3:=Tryz.isAgg3,z3:=Tryz.sizeOf3,
  v3:=Tryz.zeroValue3,t4:=Tryz.underlying4,a4:=Tryz.isAgg4,z4:=Tryz.sizeOf4,v4:=Tryz.zeroValue4,
  t5:=Tryz.underlying5,a5:=Tryz.isAgg5,z5:=Tryz.sizeOf5,v5:=Tryz.zeroValue5,t9:=Tryz.underlying9,
  a9:=Tryz.isAgg9,z9:=Tryz.sizeOf9,v9:=Tryz.zeroValue9,t20:=Tryz.underlying20,a20:=Tryz.isAgg20,
  z20:=Tryz.sizeOf20,v20:=Tryz.zeroValue20,t37:=Tryz.underlying186,a37:=Tryz.isAgg186,z37:=Tryz.sizeOf186,
  v37:=Tryz.zeroValue186,t46:=Tryz.underlying71,a46:=Tryz.isAgg71,z46:=Tryz.sizeOf71,
  v46:=Tryz.zeroValue71,t51:=Tryz.underlying152,a51:=Tryz.isAgg152,z51:=Tryz.sizeOf152,
  v51:=Tryz.zeroValue152,t53:=Tryz.underlying154,a53:=Tryz.isAgg154,z53:=Tryz.sizeOf154,
  v53:=Tryz.zeroValue154,t171:=Tryz.underlying262,a171:=Tryz.isAgg262,z171:=Tryz.sizeOf262,
  v171:=Tryz.zeroValue262,t173:=Tryz.underlying264,a173:=Tryz.isAgg264,z173:=Tryz.sizeOf264,
  v173:=Tryz.zeroValue264,t212:=Tryz.underlying267,a212:=Tryz.isAgg267,z212:=Tryz.sizeOf267,
  v212:=Tryz.zeroValue267,t213:=Tryz.underlying268,a213:=Tryz.isAgg268,z213:=Tryz.sizeOf268,
  t232:=Tryz.underlying208,a232:=Tryz.isAgg208,z232:=Tryz.sizeOf208,v232:=Tryz.zeroValue208,
  t233:=Tryz.underlying209,a233:=Tryz.isAgg209,z233:=Tryz.sizeOf209,v233:=Tryz.zeroValue209,
  g17:=by kernel_rfl,g18:=by kernel_rfl,
  g19:=by kernel_rfl,i0:=by kernel_rfl,
  i2:=by kernel_rfl,
  i3:=by kernel_rfl,i4:=by kernel_rfl,
  i5:=by kernel_rfl,
  i9:=by kernel_rfl,i20:=by kernel_rfl,
  i37:=by kernel_rfl,
  i46:=by kernel_rfl,
  i51:=by kernel_rfl,
  i53:=by kernel_rfl,
  i171:=
   ZR
    (some
     (some
       (Value.agg
        #[Value.int IntKind.u8 0,Value.int IntKind.u8 0,Value.int IntKind.u8 0,Value.int IntKind.u8 0,
          Value.int IntKind.u8 0,Value.int IntKind.u8 0,Value.int IntKind.u8 0,Value.int IntKind.u8 0,
          Value.int IntKind.u8 0,Value.int IntKind.u8 0,Value.int IntKind.u8 0,Value.int IntKind.u8 0,
          Value.int IntKind.u8 0,Value.int IntKind.u8 0,Value.int IntKind.u8 0,Value.int IntKind.u8 0,
          Value.int IntKind.u8 0,Value.int IntKind.u8 0,Value.int IntKind.u8 0,Value.int IntKind.u8 0,
          Value.int IntKind.u8 0,Value.int IntKind.u8 0,Value.int IntKind.u8 0,Value.int IntKind.u8 0]),
      24,24)),
  i173:=by kernel_rfl,
  i212:=
   ZR
    (some
     (some
       (Value.agg
        #[Value.int IntKind.u64 0,Value.int IntKind.u64 0,Value.int IntKind.u64 0,Value.int IntKind.u64 0,
          Value.int IntKind.u64 0,Value.int IntKind.u64 0,Value.int IntKind.u64 0,Value.int IntKind.u64 0,
          Value.int IntKind.u64 0,Value.int IntKind.u64 0,Value.int IntKind.u64 0,Value.int IntKind.u64 0,
          Value.int IntKind.u64 0,Value.int IntKind.u64 0,Value.int IntKind.u64 0,Value.int IntKind.u64 0,
          Value.int IntKind.u64 0,Value.int IntKind.u64 0,Value.int IntKind.u64 0,Value.int IntKind.u64 0]),
      20,160)),
  i232:=
   ZR
    (some
     (some
       (Value.agg
        #[Value.int IntKind.u8 0,Value.int IntKind.u8 0,Value.int IntKind.u8 0,Value.int IntKind.u8 0,
          Value.int IntKind.u8 0,Value.int IntKind.u8 0,Value.int IntKind.u8 0,Value.int IntKind.u8 0,
          Value.int IntKind.u8 0,Value.int IntKind.u8 0,Value.int IntKind.u8 0,Value.int IntKind.u8 0,
          Value.int IntKind.u8 0,Value.int IntKind.u8 0,Value.int IntKind.u8 0,Value.int IntKind.u8 0,
          Value.int IntKind.u8 0,Value.int IntKind.u8 0,Value.int IntKind.u8 0,Value.int IntKind.u8 0,
          Value.int IntKind.u8 0,Value.int IntKind.u8 0,Value.int IntKind.u8 0,Value.int IntKind.u8 0,
          Value.int IntKind.u8 0,Value.int IntKind.u8 0,Value.int IntKind.u8 0,Value.int IntKind.u8 0,
          Value.int IntKind.u8 0,Value.int IntKind.u8 0,Value.int IntKind.u8 0,Value.int IntKind.u8 0]),
      32,32)),
  i233:=
   ZR
    (some
     (some
       (Value.agg
        (let y:=
          let y:=
           let y:=
            let y:=
             [Value.int IntKind.u8 0,Value.int IntKind.u8 0,Value.int IntKind.u8 0,
              Value.int IntKind.u8 0];
            Value.int IntKind.u8 0::
             Value.int IntKind.u8 0::Value.int IntKind.u8 0::Value.int IntKind.u8 0::y;
           let y:=
            Value.int IntKind.u8 0::
             Value.int IntKind.u8 0::Value.int IntKind.u8 0::Value.int IntKind.u8 0::y;
           Value.int IntKind.u8 0::
            Value.int IntKind.u8 0::Value.int IntKind.u8 0::Value.int IntKind.u8 0::y;
          let y:=
           let y:=
            Value.int IntKind.u8 0::
             Value.int IntKind.u8 0::Value.int IntKind.u8 0::Value.int IntKind.u8 0::y;
           Value.int IntKind.u8 0::
            Value.int IntKind.u8 0::Value.int IntKind.u8 0::Value.int IntKind.u8 0::y;
          let y:=
           Value.int IntKind.u8 0::
            Value.int IntKind.u8 0::Value.int IntKind.u8 0::Value.int IntKind.u8 0::y;
          Value.int IntKind.u8 0::
           Value.int IntKind.u8 0::Value.int IntKind.u8 0::Value.int IntKind.u8 0::y;
         let y:=
          let y:=
           let y:=
            Value.int IntKind.u8 0::
             Value.int IntKind.u8 0::Value.int IntKind.u8 0::Value.int IntKind.u8 0::y;
           Value.int IntKind.u8 0::
            Value.int IntKind.u8 0::Value.int IntKind.u8 0::Value.int IntKind.u8 0::y;
          let y:=
           Value.int IntKind.u8 0::
            Value.int IntKind.u8 0::Value.int IntKind.u8 0::Value.int IntKind.u8 0::y;
          Value.int IntKind.u8 0::
           Value.int IntKind.u8 0::Value.int IntKind.u8 0::Value.int IntKind.u8 0::y;
         let y:=
          let y:=
           Value.int IntKind.u8 0::
            Value.int IntKind.u8 0::Value.int IntKind.u8 0::Value.int IntKind.u8 0::y;
          Value.int IntKind.u8 0::
           Value.int IntKind.u8 0::Value.int IntKind.u8 0::Value.int IntKind.u8 0::y;
         let y:=
          Value.int IntKind.u8 0::
           Value.int IntKind.u8 0::Value.int IntKind.u8 0::Value.int IntKind.u8 0::y;
         Value.int IntKind.u8 0::
          Value.int IntKind.u8 0::Value.int IntKind.u8 0::Value.int IntKind.u8 0::y).toArray),
      64,64)),
  m17:=by kernel_rfl,m18:=by kernel_rfl,
  m19:=by kernel_rfl}
end Go.Proofs
set_option maxHeartbeats 12800000
namespace Go.Proofs
open Go.Shelf Go.RowKit Go.Sort Go.Lib
theorem zkc (blk off cap u:Nat) (d:Array UInt8) (w:World) (hH:Holds (fun(b:UInt8)=>Value.int .u8 (b.toNat:Int)) w blk off d) (hu:u<18446744073709551616) (hsz:d.size<=23):
  Calls Tryz.prog 236 #[.slice (some ⟨blk,off,none⟩) d.size cap,.int .u64 u] w fun e w'=>
   e=.returned (.tuple #[])/\ ∃(n:Nat) (dk:Array UInt8),dk.size=d.size/\w'=(putRow (fun(b:UInt8)=>Value.int .u8 (b.toNat:Int)) w blk off dk).drewN n:=by
 have mixed:Tryz.prog.follows Departure.mixedOrders=true:=by kernel_rfl
 go_enter Tryz.func236,Tryz.ntmps236
 go_name_bytes SM hSM
 have eSM:SM=Lib.smalls:=by rw[<-hSM];decide+kernel
 subst eSM;clear hSM
 go_wp2
 go_loopw [1,4] (fun vu vn wr=> ∃(nd v n:Nat) (dk:Array UInt8),vu=.int .u64 v/\vn=.int .i64 nd/\nd<=d.size/\v<18446744073709551616/\dk.size=d.size/\Hid (wr=(putRow (fun(b:UInt8)=>Value.int .u8 (b.toNat:Int)) w blk off dk).drewN n)) (fun _ vn _=>(RowKit.intOf vn).toNat)
 case atStart=>exact⟨d.size,u,0,d,rfl,rfl,ZA _,hu,rfl,Lib.hid (putRow_self _ _ _ _ _ hH).symm⟩
 case round=>
  obtain⟨nd,v,n,dk0,rfl,rfl,hle,hv64,hs0,AW0⟩:=hrel
  rename World=>W0
  have AH:=Lib.hid hH;clear hH;have hH0:Holds (fun(b:UInt8)=>Value.int .u8 (b.toNat:Int)) W0 blk off dk0:=by rw[AW0.out];exact holds_putRow _ w blk off d dk0 AH.out hs0
  obtain⟨G0,hG0⟩: ∃G:Nat->Int,∀t,G t=(dk0[t]!.toNat:Int):=⟨_,fun _=>rfl⟩;have hc0: ∀t,t<d.size->W0.cell? ⟨blk,off+t,none⟩=some (.int .u8 (G0 t)):=fun t ht=>by rw[hG0];exact(hH0 t (by omega)).1
  have hf0: ∀t,t<d.size->W0.frozen? ⟨blk,off+t,none⟩=false:=fun t ht=>(hH0 t (by omega)).2
  clear hG0 hH0;by_cases h8:8<=nd
  ·obtain⟨m,rfl⟩: ∃m,nd=m+8:=⟨nd-8,by omega⟩
   go_wp2
   go_name_slot 9 x0 hx0
   have hlo0:0<=x0:=by omega
   have hhi0:x0<=198:=by omega
   obtain⟨y0,hy0⟩: ∃y:Nat,x0=y:=⟨x0.toNat,by omega⟩;clear hx0;have hXa0: ∀w,(Instr.index 9 (.string Lib.smalls) (.int .u32 (x0+1))).run Tryz.prog w=.ok (.int .u8 ((sm (y0+1)).toNat:Int)) w:=idx_smalls 9 Tryz.underlying9 .u32 _ _ (by omega) (by omega);have hXb0: ∀w,(Instr.index 9 (.string Lib.smalls) (.int .u32 x0)).run Tryz.prog w=.ok (.int .u8 ((sm y0).toNat:Int)) w:=idx_smalls 9 Tryz.underlying9 .u32 _ _ (by omega) (by omega);clear hy0
   go_region_o
   go_wp2
   go_name_world W1 hW1
   have hw1:W1=(putRow (fun(b:UInt8)=>Value.int .u8 (b.toNat:Int)) w blk off ((dk0.setIfInBounds (m+6+1) (sm (y0+1))).setIfInBounds (m+6) (sm y0))).drewN (n+0+1):=by rw[<-hW1];exact(by rw[AW0.out];exact store2_world w blk off dk0 (n+0) (m+6+1) (m+6) _ _ (by omega) (by omega))
   have hs1:((dk0.setIfInBounds (m+6+1) (sm (y0+1))).setIfInBounds (m+6) (sm y0)).size=d.size:=by simp[hs0]
   generalize ((dk0.setIfInBounds (m+6+1) (sm (y0+1))).setIfInBounds (m+6) (sm y0))=dk1 at hw1 hs1;have AW1:=Lib.hid hw1;clear hW1 hw1 hc0 hf0 AW0 hXa0 hXb0 hs0;have hH1:Holds (fun(b:UInt8)=>Value.int .u8 (b.toNat:Int)) W1 blk off dk1:=by rw[AW1.out];exact holds_putRow _ w blk off d dk1 AH.out hs1
   obtain⟨G1,hG1⟩: ∃G:Nat->Int,∀t,G t=(dk1[t]!.toNat:Int):=⟨_,fun _=>rfl⟩;have hc1: ∀t,t<d.size->W1.cell? ⟨blk,off+t,none⟩=some (.int .u8 (G1 t)):=fun t ht=>by rw[hG1];exact(hH1 t (by omega)).1
   have hf1: ∀t,t<d.size->W1.frozen? ⟨blk,off+t,none⟩=false:=fun t ht=>(hH1 t (by omega)).2
   clear hG1 hH1
   go_name_slot 8 x1 hx1
   have hlo1:0<=x1:=by omega
   have hhi1:x1<=198:=by omega
   obtain⟨y1,hy1⟩: ∃y:Nat,x1=y:=⟨x1.toNat,by omega⟩;clear hx1;have hXa1: ∀w,(Instr.index 9 (.string Lib.smalls) (.int .u32 (x1+1))).run Tryz.prog w=.ok (.int .u8 ((sm (y1+1)).toNat:Int)) w:=idx_smalls 9 Tryz.underlying9 .u32 _ _ (by omega) (by omega);have hXb1: ∀w,(Instr.index 9 (.string Lib.smalls) (.int .u32 x1)).run Tryz.prog w=.ok (.int .u8 ((sm y1).toNat:Int)) w:=idx_smalls 9 Tryz.underlying9 .u32 _ _ (by omega) (by omega);clear hy1
   go_region_o
   go_wp2
   go_name_world W2 hW2
   have hw2:W2=(putRow (fun(b:UInt8)=>Value.int .u8 (b.toNat:Int)) w blk off ((dk1.setIfInBounds (m+4+1) (sm (y1+1))).setIfInBounds (m+4) (sm y1))).drewN (n+1+1):=by rw[<-hW2];exact(by rw[AW1.out];exact store2_world w blk off dk1 (n+1) (m+4+1) (m+4) _ _ (by omega) (by omega))
   have hs2:((dk1.setIfInBounds (m+4+1) (sm (y1+1))).setIfInBounds (m+4) (sm y1)).size=d.size:=by simp[hs1]
   generalize ((dk1.setIfInBounds (m+4+1) (sm (y1+1))).setIfInBounds (m+4) (sm y1))=dk2 at hw2 hs2;have AW2:=Lib.hid hw2;clear hW2 hw2 hc1 hf1 AW1 hXa1 hXb1 hs1;have hH2:Holds (fun(b:UInt8)=>Value.int .u8 (b.toNat:Int)) W2 blk off dk2:=by rw[AW2.out];exact holds_putRow _ w blk off d dk2 AH.out hs2
   obtain⟨G2,hG2⟩: ∃G:Nat->Int,∀t,G t=(dk2[t]!.toNat:Int):=⟨_,fun _=>rfl⟩;have hc2: ∀t,t<d.size->W2.cell? ⟨blk,off+t,none⟩=some (.int .u8 (G2 t)):=fun t ht=>by rw[hG2];exact(hH2 t (by omega)).1
   have hf2: ∀t,t<d.size->W2.frozen? ⟨blk,off+t,none⟩=false:=fun t ht=>(hH2 t (by omega)).2
   clear hG2 hH2
   go_name_slot 11 x2 hx2
   have hlo2:0<=x2:=by omega
   have hhi2:x2<=198:=by omega
   obtain⟨y2,hy2⟩: ∃y:Nat,x2=y:=⟨x2.toNat,by omega⟩;clear hx2;have hXa2: ∀w,(Instr.index 9 (.string Lib.smalls) (.int .u32 (x2+1))).run Tryz.prog w=.ok (.int .u8 ((sm (y2+1)).toNat:Int)) w:=idx_smalls 9 Tryz.underlying9 .u32 _ _ (by omega) (by omega);have hXb2: ∀w,(Instr.index 9 (.string Lib.smalls) (.int .u32 x2)).run Tryz.prog w=.ok (.int .u8 ((sm y2).toNat:Int)) w:=idx_smalls 9 Tryz.underlying9 .u32 _ _ (by omega) (by omega);clear hy2
   go_region_o
   go_wp2
   go_name_world W3 hW3
   have hw3:W3=(putRow (fun(b:UInt8)=>Value.int .u8 (b.toNat:Int)) w blk off ((dk2.setIfInBounds (m+2+1) (sm (y2+1))).setIfInBounds (m+2) (sm y2))).drewN (n+2+1):=by rw[<-hW3];exact(by rw[AW2.out];exact store2_world w blk off dk2 (n+2) (m+2+1) (m+2) _ _ (by omega) (by omega))
   have hs3:((dk2.setIfInBounds (m+2+1) (sm (y2+1))).setIfInBounds (m+2) (sm y2)).size=d.size:=by simp[hs2]
   generalize ((dk2.setIfInBounds (m+2+1) (sm (y2+1))).setIfInBounds (m+2) (sm y2))=dk3 at hw3 hs3;have AW3:=Lib.hid hw3;clear hW3 hw3 hc2 hf2 AW2 hXa2 hXb2 hs2;have hH3:Holds (fun(b:UInt8)=>Value.int .u8 (b.toNat:Int)) W3 blk off dk3:=by rw[AW3.out];exact holds_putRow _ w blk off d dk3 AH.out hs3
   obtain⟨G3,hG3⟩: ∃G:Nat->Int,∀t,G t=(dk3[t]!.toNat:Int):=⟨_,fun _=>rfl⟩;have hc3: ∀t,t<d.size->W3.cell? ⟨blk,off+t,none⟩=some (.int .u8 (G3 t)):=fun t ht=>by rw[hG3];exact(hH3 t (by omega)).1
   have hf3: ∀t,t<d.size->W3.frozen? ⟨blk,off+t,none⟩=false:=fun t ht=>(hH3 t (by omega)).2
   clear hG3 hH3
   go_name_slot 10 x3 hx3
   have hlo3:0<=x3:=by omega
   have hhi3:x3<=198:=by omega
   obtain⟨y3,hy3⟩: ∃y:Nat,x3=y:=⟨x3.toNat,by omega⟩;clear hx3;have hXa3: ∀w,(Instr.index 9 (.string Lib.smalls) (.int .u32 (x3+1))).run Tryz.prog w=.ok (.int .u8 ((sm (y3+1)).toNat:Int)) w:=idx_smalls 9 Tryz.underlying9 .u32 _ _ (by omega) (by omega);have hXb3: ∀w,(Instr.index 9 (.string Lib.smalls) (.int .u32 x3)).run Tryz.prog w=.ok (.int .u8 ((sm y3).toNat:Int)) w:=idx_smalls 9 Tryz.underlying9 .u32 _ _ (by omega) (by omega);clear hy3
   go_region_o
   go_wp2
   go_roundw
   case rel=>
    exact⟨m,v/100000000,n+3+1,((dk3.setIfInBounds (m+1) (sm (y3+1))).setIfInBounds (m) (sm y3)),by first|go_num|(congr 1;omega),by first|go_num|(congr 1;omega),by omega,by omega,by simp[hs3],Lib.hid (by rw[AW3.out];exact store2_world w blk off dk3 (n+3) (m+1) (m) _ _ (by omega) (by omega))⟩
   case measure=>simp[RowKit.intOf];omega
  ·have hc8:nd=0\/nd=1\/nd=2\/nd=3\/nd=4\/nd=5\/nd=6\/nd=7:=by omega
   rcases hc8 with rfl|rfl|rfl|rfl|rfl|rfl|rfl|rfl
   ·go_wp2
    go_end0
    exact⟨rfl,n,dk0,hs0,AW0.out⟩
   ·go_wp2
    go_end0
    exact⟨rfl,n,dk0.setIfInBounds 0 (UInt8.ofNat (48+v % 4294967296)),by simp[hs0],by rw[AW0.out];exact store1_world0 w blk off dk0 n _ (v % 4294967296) (by omega) (by omega)⟩
   ·go_wp2
    go_name_slot 16 x0 hx0
    have hlo0:0<=x0:=by omega
    have hhi0:x0<=198:=by omega
    obtain⟨y0,hy0⟩: ∃y:Nat,x0=y:=⟨x0.toNat,by omega⟩;clear hx0;have hXa0: ∀w,(Instr.index 9 (.string Lib.smalls) (.int .u32 (x0+1))).run Tryz.prog w=.ok (.int .u8 ((sm (y0+1)).toNat:Int)) w:=idx_smalls 9 Tryz.underlying9 .u32 _ _ (by omega) (by omega);have hXb0: ∀w,(Instr.index 9 (.string Lib.smalls) (.int .u32 x0)).run Tryz.prog w=.ok (.int .u8 ((sm y0).toNat:Int)) w:=idx_smalls 9 Tryz.underlying9 .u32 _ _ (by omega) (by omega);clear hy0
    go_region_o
    go_wp2
    go_end0
    exact⟨rfl,n+0+1,(dk0.setIfInBounds (0+1) (sm (y0+1))).setIfInBounds (0) (sm y0),by simp[hs0],by rw[AW0.out];exact store2_world w blk off dk0 (n+0) (0+1) (0) _ _ (by omega) (by omega)⟩
   ·go_wp2
    go_name_slot 16 x0 hx0
    have hlo0:0<=x0:=by omega
    have hhi0:x0<=198:=by omega
    obtain⟨y0,hy0⟩: ∃y:Nat,x0=y:=⟨x0.toNat,by omega⟩;clear hx0;have hXa0: ∀w,(Instr.index 9 (.string Lib.smalls) (.int .u32 (x0+1))).run Tryz.prog w=.ok (.int .u8 ((sm (y0+1)).toNat:Int)) w:=idx_smalls 9 Tryz.underlying9 .u32 _ _ (by omega) (by omega);have hXb0: ∀w,(Instr.index 9 (.string Lib.smalls) (.int .u32 x0)).run Tryz.prog w=.ok (.int .u8 ((sm y0).toNat:Int)) w:=idx_smalls 9 Tryz.underlying9 .u32 _ _ (by omega) (by omega);clear hy0
    go_region_o
    go_wp2
    go_end0
    exact⟨rfl,n+0+1,((dk0.setIfInBounds (1+1) (sm (y0+1))).setIfInBounds (1) (sm y0)).setIfInBounds 0 (UInt8.ofNat (48+v % 4294967296/100)),by simp[hs0],by rw[AW0.out];exact store21_world w blk off dk0 (n+0) (1+1) (1) _ _ _ (v % 4294967296/100) (by first|omega|(have e1:((v % 4294967296/10000:Nat):Int)=(v:Int) % 4294967296/10000:=(by omega);have e2:((v % 4294967296/10000/100:Nat):Int)=(v:Int) % 4294967296/10000/100:=(by rw[<-e1];omega);rw[<-e2];generalize v % 4294967296/10000/100=c9;omega)) (by omega) (by omega)⟩
   ·go_wp2
    go_name_slot 15 x0 hx0
    have hlo0:0<=x0:=by omega
    have hhi0:x0<=198:=by omega
    obtain⟨y0,hy0⟩: ∃y:Nat,x0=y:=⟨x0.toNat,by omega⟩;clear hx0;have hXa0: ∀w,(Instr.index 9 (.string Lib.smalls) (.int .u32 (x0+1))).run Tryz.prog w=.ok (.int .u8 ((sm (y0+1)).toNat:Int)) w:=idx_smalls 9 Tryz.underlying9 .u32 _ _ (by omega) (by omega);have hXb0: ∀w,(Instr.index 9 (.string Lib.smalls) (.int .u32 x0)).run Tryz.prog w=.ok (.int .u8 ((sm y0).toNat:Int)) w:=idx_smalls 9 Tryz.underlying9 .u32 _ _ (by omega) (by omega);clear hy0
    go_region_o
    go_wp2
    go_name_world W1 hW1
    have hw1:W1=(putRow (fun(b:UInt8)=>Value.int .u8 (b.toNat:Int)) w blk off ((dk0.setIfInBounds (2+1) (sm (y0+1))).setIfInBounds (2) (sm y0))).drewN (n+0+1):=by rw[<-hW1];exact(by rw[AW0.out];exact store2_world w blk off dk0 (n+0) (2+1) (2) _ _ (by omega) (by omega))
    have hs1:((dk0.setIfInBounds (2+1) (sm (y0+1))).setIfInBounds (2) (sm y0)).size=d.size:=by simp[hs0]
    generalize ((dk0.setIfInBounds (2+1) (sm (y0+1))).setIfInBounds (2) (sm y0))=dk1 at hw1 hs1;have AW1:=Lib.hid hw1;clear hW1 hw1 hc0 hf0 AW0 hXa0 hXb0 hs0;have hH1:Holds (fun(b:UInt8)=>Value.int .u8 (b.toNat:Int)) W1 blk off dk1:=by rw[AW1.out];exact holds_putRow _ w blk off d dk1 AH.out hs1
    obtain⟨G1,hG1⟩: ∃G:Nat->Int,∀t,G t=(dk1[t]!.toNat:Int):=⟨_,fun _=>rfl⟩;have hc1: ∀t,t<d.size->W1.cell? ⟨blk,off+t,none⟩=some (.int .u8 (G1 t)):=fun t ht=>by rw[hG1];exact(hH1 t (by omega)).1
    have hf1: ∀t,t<d.size->W1.frozen? ⟨blk,off+t,none⟩=false:=fun t ht=>(hH1 t (by omega)).2
    clear hG1 hH1
    go_name_slot 14 x1 hx1
    have hlo1:0<=x1:=by omega
    have hhi1:x1<=198:=by omega
    obtain⟨y1,hy1⟩: ∃y:Nat,x1=y:=⟨x1.toNat,by omega⟩;clear hx1;have hXa1: ∀w,(Instr.index 9 (.string Lib.smalls) (.int .u32 (x1+1))).run Tryz.prog w=.ok (.int .u8 ((sm (y1+1)).toNat:Int)) w:=idx_smalls 9 Tryz.underlying9 .u32 _ _ (by omega) (by omega);have hXb1: ∀w,(Instr.index 9 (.string Lib.smalls) (.int .u32 x1)).run Tryz.prog w=.ok (.int .u8 ((sm y1).toNat:Int)) w:=idx_smalls 9 Tryz.underlying9 .u32 _ _ (by omega) (by omega);clear hy1
    go_region_o
    go_wp2
    go_end0
    exact⟨rfl,n+1+1,(dk1.setIfInBounds (0+1) (sm (y1+1))).setIfInBounds (0) (sm y1),by simp[hs1],by rw[AW1.out];exact store2_world w blk off dk1 (n+1) (0+1) (0) _ _ (by omega) (by omega)⟩
   ·go_wp2
    go_name_slot 15 x0 hx0
    have hlo0:0<=x0:=by omega
    have hhi0:x0<=198:=by omega
    obtain⟨y0,hy0⟩: ∃y:Nat,x0=y:=⟨x0.toNat,by omega⟩;clear hx0;have hXa0: ∀w,(Instr.index 9 (.string Lib.smalls) (.int .u32 (x0+1))).run Tryz.prog w=.ok (.int .u8 ((sm (y0+1)).toNat:Int)) w:=idx_smalls 9 Tryz.underlying9 .u32 _ _ (by omega) (by omega);have hXb0: ∀w,(Instr.index 9 (.string Lib.smalls) (.int .u32 x0)).run Tryz.prog w=.ok (.int .u8 ((sm y0).toNat:Int)) w:=idx_smalls 9 Tryz.underlying9 .u32 _ _ (by omega) (by omega);clear hy0
    go_region_o
    go_wp2
    go_name_world W1 hW1
    have hw1:W1=(putRow (fun(b:UInt8)=>Value.int .u8 (b.toNat:Int)) w blk off ((dk0.setIfInBounds (3+1) (sm (y0+1))).setIfInBounds (3) (sm y0))).drewN (n+0+1):=by rw[<-hW1];exact(by rw[AW0.out];exact store2_world w blk off dk0 (n+0) (3+1) (3) _ _ (by omega) (by omega))
    have hs1:((dk0.setIfInBounds (3+1) (sm (y0+1))).setIfInBounds (3) (sm y0)).size=d.size:=by simp[hs0]
    generalize ((dk0.setIfInBounds (3+1) (sm (y0+1))).setIfInBounds (3) (sm y0))=dk1 at hw1 hs1;have AW1:=Lib.hid hw1;clear hW1 hw1 hc0 hf0 AW0 hXa0 hXb0 hs0;have hH1:Holds (fun(b:UInt8)=>Value.int .u8 (b.toNat:Int)) W1 blk off dk1:=by rw[AW1.out];exact holds_putRow _ w blk off d dk1 AH.out hs1
    obtain⟨G1,hG1⟩: ∃G:Nat->Int,∀t,G t=(dk1[t]!.toNat:Int):=⟨_,fun _=>rfl⟩;have hc1: ∀t,t<d.size->W1.cell? ⟨blk,off+t,none⟩=some (.int .u8 (G1 t)):=fun t ht=>by rw[hG1];exact(hH1 t (by omega)).1
    have hf1: ∀t,t<d.size->W1.frozen? ⟨blk,off+t,none⟩=false:=fun t ht=>(hH1 t (by omega)).2
    clear hG1 hH1
    go_name_slot 14 x1 hx1
    have hlo1:0<=x1:=by omega
    have hhi1:x1<=198:=by omega
    obtain⟨y1,hy1⟩: ∃y:Nat,x1=y:=⟨x1.toNat,by omega⟩;clear hx1;have hXa1: ∀w,(Instr.index 9 (.string Lib.smalls) (.int .u32 (x1+1))).run Tryz.prog w=.ok (.int .u8 ((sm (y1+1)).toNat:Int)) w:=idx_smalls 9 Tryz.underlying9 .u32 _ _ (by omega) (by omega);have hXb1: ∀w,(Instr.index 9 (.string Lib.smalls) (.int .u32 x1)).run Tryz.prog w=.ok (.int .u8 ((sm y1).toNat:Int)) w:=idx_smalls 9 Tryz.underlying9 .u32 _ _ (by omega) (by omega);clear hy1
    go_region_o
    go_wp2
    go_end0
    exact⟨rfl,n+1+1,((dk1.setIfInBounds (1+1) (sm (y1+1))).setIfInBounds (1) (sm y1)).setIfInBounds 0 (UInt8.ofNat (48+v % 4294967296/10000)),by simp[hs1],by rw[AW1.out];exact store21_world w blk off dk1 (n+1) (1+1) (1) _ _ _ (v % 4294967296/10000) (by first|omega|(have e1:((v % 4294967296/10000:Nat):Int)=(v:Int) % 4294967296/10000:=(by omega);have e2:((v % 4294967296/10000/100:Nat):Int)=(v:Int) % 4294967296/10000/100:=(by rw[<-e1];omega);rw[<-e2];generalize v % 4294967296/10000/100=c9;omega)) (by omega) (by omega)⟩
   ·go_wp2
    go_name_slot 15 x0 hx0
    have hlo0:0<=x0:=by omega
    have hhi0:x0<=198:=by omega
    obtain⟨y0,hy0⟩: ∃y:Nat,x0=y:=⟨x0.toNat,by omega⟩;clear hx0;have hXa0: ∀w,(Instr.index 9 (.string Lib.smalls) (.int .u32 (x0+1))).run Tryz.prog w=.ok (.int .u8 ((sm (y0+1)).toNat:Int)) w:=idx_smalls 9 Tryz.underlying9 .u32 _ _ (by omega) (by omega);have hXb0: ∀w,(Instr.index 9 (.string Lib.smalls) (.int .u32 x0)).run Tryz.prog w=.ok (.int .u8 ((sm y0).toNat:Int)) w:=idx_smalls 9 Tryz.underlying9 .u32 _ _ (by omega) (by omega);clear hy0
    go_region_o
    go_wp2
    go_name_world W1 hW1
    have hw1:W1=(putRow (fun(b:UInt8)=>Value.int .u8 (b.toNat:Int)) w blk off ((dk0.setIfInBounds (4+1) (sm (y0+1))).setIfInBounds (4) (sm y0))).drewN (n+0+1):=by rw[<-hW1];exact(by rw[AW0.out];exact store2_world w blk off dk0 (n+0) (4+1) (4) _ _ (by omega) (by omega))
    have hs1:((dk0.setIfInBounds (4+1) (sm (y0+1))).setIfInBounds (4) (sm y0)).size=d.size:=by simp[hs0]
    generalize ((dk0.setIfInBounds (4+1) (sm (y0+1))).setIfInBounds (4) (sm y0))=dk1 at hw1 hs1;have AW1:=Lib.hid hw1;clear hW1 hw1 hc0 hf0 AW0 hXa0 hXb0 hs0;have hH1:Holds (fun(b:UInt8)=>Value.int .u8 (b.toNat:Int)) W1 blk off dk1:=by rw[AW1.out];exact holds_putRow _ w blk off d dk1 AH.out hs1
    obtain⟨G1,hG1⟩: ∃G:Nat->Int,∀t,G t=(dk1[t]!.toNat:Int):=⟨_,fun _=>rfl⟩;have hc1: ∀t,t<d.size->W1.cell? ⟨blk,off+t,none⟩=some (.int .u8 (G1 t)):=fun t ht=>by rw[hG1];exact(hH1 t (by omega)).1
    have hf1: ∀t,t<d.size->W1.frozen? ⟨blk,off+t,none⟩=false:=fun t ht=>(hH1 t (by omega)).2
    clear hG1 hH1
    go_name_slot 14 x1 hx1
    have hlo1:0<=x1:=by omega
    have hhi1:x1<=198:=by omega
    obtain⟨y1,hy1⟩: ∃y:Nat,x1=y:=⟨x1.toNat,by omega⟩;clear hx1;have hXa1: ∀w,(Instr.index 9 (.string Lib.smalls) (.int .u32 (x1+1))).run Tryz.prog w=.ok (.int .u8 ((sm (y1+1)).toNat:Int)) w:=idx_smalls 9 Tryz.underlying9 .u32 _ _ (by omega) (by omega);have hXb1: ∀w,(Instr.index 9 (.string Lib.smalls) (.int .u32 x1)).run Tryz.prog w=.ok (.int .u8 ((sm y1).toNat:Int)) w:=idx_smalls 9 Tryz.underlying9 .u32 _ _ (by omega) (by omega);clear hy1
    go_region_o
    go_wp2
    go_name_world W2 hW2
    have hw2:W2=(putRow (fun(b:UInt8)=>Value.int .u8 (b.toNat:Int)) w blk off ((dk1.setIfInBounds (2+1) (sm (y1+1))).setIfInBounds (2) (sm y1))).drewN (n+1+1):=by rw[<-hW2];exact(by rw[AW1.out];exact store2_world w blk off dk1 (n+1) (2+1) (2) _ _ (by omega) (by omega))
    have hs2:((dk1.setIfInBounds (2+1) (sm (y1+1))).setIfInBounds (2) (sm y1)).size=d.size:=by simp[hs1]
    generalize ((dk1.setIfInBounds (2+1) (sm (y1+1))).setIfInBounds (2) (sm y1))=dk2 at hw2 hs2;have AW2:=Lib.hid hw2;clear hW2 hw2 hc1 hf1 AW1 hXa1 hXb1 hs1;have hH2:Holds (fun(b:UInt8)=>Value.int .u8 (b.toNat:Int)) W2 blk off dk2:=by rw[AW2.out];exact holds_putRow _ w blk off d dk2 AH.out hs2
    obtain⟨G2,hG2⟩: ∃G:Nat->Int,∀t,G t=(dk2[t]!.toNat:Int):=⟨_,fun _=>rfl⟩;have hc2: ∀t,t<d.size->W2.cell? ⟨blk,off+t,none⟩=some (.int .u8 (G2 t)):=fun t ht=>by rw[hG2];exact(hH2 t (by omega)).1
    have hf2: ∀t,t<d.size->W2.frozen? ⟨blk,off+t,none⟩=false:=fun t ht=>(hH2 t (by omega)).2
    clear hG2 hH2
    go_name_slot 16 x2 hx2
    have hlo2:0<=x2:=by omega
    have hhi2:x2<=198:=by omega
    obtain⟨y2,hy2⟩: ∃y:Nat,x2=y:=⟨x2.toNat,by omega⟩;clear hx2;have hXa2: ∀w,(Instr.index 9 (.string Lib.smalls) (.int .u32 (x2+1))).run Tryz.prog w=.ok (.int .u8 ((sm (y2+1)).toNat:Int)) w:=idx_smalls 9 Tryz.underlying9 .u32 _ _ (by omega) (by omega);have hXb2: ∀w,(Instr.index 9 (.string Lib.smalls) (.int .u32 x2)).run Tryz.prog w=.ok (.int .u8 ((sm y2).toNat:Int)) w:=idx_smalls 9 Tryz.underlying9 .u32 _ _ (by omega) (by omega);clear hy2
    go_region_o
    go_wp2
    go_end0
    exact⟨rfl,n+2+1,(dk2.setIfInBounds (0+1) (sm (y2+1))).setIfInBounds (0) (sm y2),by simp[hs2],by rw[AW2.out];exact store2_world w blk off dk2 (n+2) (0+1) (0) _ _ (by omega) (by omega)⟩
   ·go_wp2
    go_name_slot 15 x0 hx0
    have hlo0:0<=x0:=by omega
    have hhi0:x0<=198:=by omega
    obtain⟨y0,hy0⟩: ∃y:Nat,x0=y:=⟨x0.toNat,by omega⟩;clear hx0;have hXa0: ∀w,(Instr.index 9 (.string Lib.smalls) (.int .u32 (x0+1))).run Tryz.prog w=.ok (.int .u8 ((sm (y0+1)).toNat:Int)) w:=idx_smalls 9 Tryz.underlying9 .u32 _ _ (by omega) (by omega);have hXb0: ∀w,(Instr.index 9 (.string Lib.smalls) (.int .u32 x0)).run Tryz.prog w=.ok (.int .u8 ((sm y0).toNat:Int)) w:=idx_smalls 9 Tryz.underlying9 .u32 _ _ (by omega) (by omega);clear hy0
    go_region_o
    go_wp2
    go_name_world W1 hW1
    have hw1:W1=(putRow (fun(b:UInt8)=>Value.int .u8 (b.toNat:Int)) w blk off ((dk0.setIfInBounds (5+1) (sm (y0+1))).setIfInBounds (5) (sm y0))).drewN (n+0+1):=by rw[<-hW1];exact(by rw[AW0.out];exact store2_world w blk off dk0 (n+0) (5+1) (5) _ _ (by omega) (by omega))
    have hs1:((dk0.setIfInBounds (5+1) (sm (y0+1))).setIfInBounds (5) (sm y0)).size=d.size:=by simp[hs0]
    generalize ((dk0.setIfInBounds (5+1) (sm (y0+1))).setIfInBounds (5) (sm y0))=dk1 at hw1 hs1;have AW1:=Lib.hid hw1;clear hW1 hw1 hc0 hf0 AW0 hXa0 hXb0 hs0;have hH1:Holds (fun(b:UInt8)=>Value.int .u8 (b.toNat:Int)) W1 blk off dk1:=by rw[AW1.out];exact holds_putRow _ w blk off d dk1 AH.out hs1
    obtain⟨G1,hG1⟩: ∃G:Nat->Int,∀t,G t=(dk1[t]!.toNat:Int):=⟨_,fun _=>rfl⟩;have hc1: ∀t,t<d.size->W1.cell? ⟨blk,off+t,none⟩=some (.int .u8 (G1 t)):=fun t ht=>by rw[hG1];exact(hH1 t (by omega)).1
    have hf1: ∀t,t<d.size->W1.frozen? ⟨blk,off+t,none⟩=false:=fun t ht=>(hH1 t (by omega)).2
    clear hG1 hH1
    go_name_slot 14 x1 hx1
    have hlo1:0<=x1:=by omega
    have hhi1:x1<=198:=by omega
    obtain⟨y1,hy1⟩: ∃y:Nat,x1=y:=⟨x1.toNat,by omega⟩;clear hx1;have hXa1: ∀w,(Instr.index 9 (.string Lib.smalls) (.int .u32 (x1+1))).run Tryz.prog w=.ok (.int .u8 ((sm (y1+1)).toNat:Int)) w:=idx_smalls 9 Tryz.underlying9 .u32 _ _ (by omega) (by omega);have hXb1: ∀w,(Instr.index 9 (.string Lib.smalls) (.int .u32 x1)).run Tryz.prog w=.ok (.int .u8 ((sm y1).toNat:Int)) w:=idx_smalls 9 Tryz.underlying9 .u32 _ _ (by omega) (by omega);clear hy1
    go_region_o
    go_wp2
    go_name_world W2 hW2
    have hw2:W2=(putRow (fun(b:UInt8)=>Value.int .u8 (b.toNat:Int)) w blk off ((dk1.setIfInBounds (3+1) (sm (y1+1))).setIfInBounds (3) (sm y1))).drewN (n+1+1):=by rw[<-hW2];exact(by rw[AW1.out];exact store2_world w blk off dk1 (n+1) (3+1) (3) _ _ (by omega) (by omega))
    have hs2:((dk1.setIfInBounds (3+1) (sm (y1+1))).setIfInBounds (3) (sm y1)).size=d.size:=by simp[hs1]
    generalize ((dk1.setIfInBounds (3+1) (sm (y1+1))).setIfInBounds (3) (sm y1))=dk2 at hw2 hs2;have AW2:=Lib.hid hw2;clear hW2 hw2 hc1 hf1 AW1 hXa1 hXb1 hs1;have hH2:Holds (fun(b:UInt8)=>Value.int .u8 (b.toNat:Int)) W2 blk off dk2:=by rw[AW2.out];exact holds_putRow _ w blk off d dk2 AH.out hs2
    obtain⟨G2,hG2⟩: ∃G:Nat->Int,∀t,G t=(dk2[t]!.toNat:Int):=⟨_,fun _=>rfl⟩;have hc2: ∀t,t<d.size->W2.cell? ⟨blk,off+t,none⟩=some (.int .u8 (G2 t)):=fun t ht=>by rw[hG2];exact(hH2 t (by omega)).1
    have hf2: ∀t,t<d.size->W2.frozen? ⟨blk,off+t,none⟩=false:=fun t ht=>(hH2 t (by omega)).2
    clear hG2 hH2
    go_name_slot 16 x2 hx2
    have hlo2:0<=x2:=by omega
    have hhi2:x2<=198:=by omega
    obtain⟨y2,hy2⟩: ∃y:Nat,x2=y:=⟨x2.toNat,by omega⟩;clear hx2;have hXa2: ∀w,(Instr.index 9 (.string Lib.smalls) (.int .u32 (x2+1))).run Tryz.prog w=.ok (.int .u8 ((sm (y2+1)).toNat:Int)) w:=idx_smalls 9 Tryz.underlying9 .u32 _ _ (by omega) (by omega);have hXb2: ∀w,(Instr.index 9 (.string Lib.smalls) (.int .u32 x2)).run Tryz.prog w=.ok (.int .u8 ((sm y2).toNat:Int)) w:=idx_smalls 9 Tryz.underlying9 .u32 _ _ (by omega) (by omega);clear hy2
    go_region_o
    go_wp2
    go_end0
    exact⟨rfl,n+2+1,((dk2.setIfInBounds (1+1) (sm (y2+1))).setIfInBounds (1) (sm y2)).setIfInBounds 0 (UInt8.ofNat (48+v % 4294967296/10000/100)),by simp[hs2],by rw[AW2.out];exact store21_world w blk off dk2 (n+2) (1+1) (1) _ _ _ (v % 4294967296/10000/100) (by first|omega|(have e1:((v % 4294967296/10000:Nat):Int)=(v:Int) % 4294967296/10000:=(by omega);have e2:((v % 4294967296/10000/100:Nat):Int)=(v:Int) % 4294967296/10000/100:=(by rw[<-e1];omega);rw[<-e2];generalize v % 4294967296/10000/100=c9;omega)) (by omega) (by omega)⟩
def mO (w:World):Prop:= ∀i,i<20-> ∃z:Int,w.cell? ⟨5,i,none⟩=some (.int .u64 z)
theorem mO.later {w w':World} (h:mO w) (hb:Below w.heap.size w w'):mO w':=fun i hi=>by
 obtain⟨z,hz⟩:=h i hi;have hlt:5<w.heap.size:=World.block_lt_of_cell? _ _ hz;exact⟨z,(hb.cell (p:=⟨5,i,none⟩) hlt).trans hz⟩
theorem zkd (u q:Nat) (h2:u<18446744073709551616) (hq:Lib.l10 (Lib.bitLen u)=q) (h20:q<20) (z:Int) (w:World) (hcell:w.cell? ⟨5,q,none⟩=some (.int .u64 z)):
  Calls Tryz.prog 235 #[.int .u64 u] w fun e w'=>e=.returned (.int .i64 ((q+(if z<=(u:Int) then 1 else 0):Nat):Int))/\w'=w:=by
 have L:=Tryz.laysItoa;have hL:Lib.bitLen u<=64:=Lib.bitLen_le u 64 (ZA _) h2;have hto:((u:Int)).toNat=u:=by omega
 have e144: ∀args w,(callFunc 144 args).run Tryz.prog w=.ok (.enter 144 args) w:=enters_of Tryz.func144 (by kernel_rfl) rfl;have e238: ∀args w,(callFunc 238 args).run Tryz.prog w=.ok (.enter 238 args) w:=enters_of Tryz.func238 (by kernel_rfl) rfl;have e239: ∀args w,(callFunc 239 args).run Tryz.prog w=.ok (.enter 239 args) w:=enters_of Tryz.func239 (by kernel_rfl) rfl;have k144: ∀W,Calls Tryz.prog 144 #[.int .u64 u] W fun e w'=>e=.returned (.int .i64 (Lib.bitLen u))/\w'=W:=fun W=>by
  have h:=Any.bits_Len64 (P:=Tryz.prog) (ρ:=Tryz.laysItoa_ren) {L with} (u:Int) W (by omega) (by omega);rw[hto] at h;exact h
 have k238: ∀W,Calls Tryz.prog 238 #[.int .i64 (Lib.bitLen u)] W fun e w'=>e=.returned (.int .i64 q)/\w'=W:=fun W=>by
  have h:=Any.internal_strconv_log10Pow2 (P:=Tryz.prog) (ρ:=Tryz.laysItoa_ren) {L with} (Lib.bitLen u) hL W;rw[hq] at h;exact h
 have k239: ∀b W,Calls Tryz.prog 239 #[.bool b] W fun e w'=>e=.returned (.int .i64 (if b then 1 else 0))/\w'=W:=fun b W=>
  Any.internal_strconv_bool2_int (P:=Tryz.prog) (ρ:=Tryz.laysItoa_ren) {L with} b W
 clear hL hto hq;generalize Lib.bitLen u=bl at k144 k238;by_cases hz:z<=(u:Int)
 ·rw[if_pos hz]
  go_enter Tryz.func235,Tryz.ntmps235
  go_wp2_with (first|(go_at_fn 144;refine(k144 _).mono ?_;rintro e w' ⟨rfl,rfl⟩)|(go_at_fn 238;refine(k238 _).mono ?_;rintro e w' ⟨rfl,rfl⟩)|(go_at_fn 239;refine(k239 _ _).mono ?_;rintro e w' ⟨rfl,rfl⟩))
  all_goals go_ret
  all_goals exact⟨by first|rfl|(congr 2;omega),rfl⟩
 ·rw[if_neg hz]
  go_enter Tryz.func235,Tryz.ntmps235
  go_wp2_with (first|(go_at_fn 144;refine(k144 _).mono ?_;rintro e w' ⟨rfl,rfl⟩)|(go_at_fn 238;refine(k238 _).mono ?_;rintro e w' ⟨rfl,rfl⟩)|(go_at_fn 239;refine(k239 _ _).mono ?_;rintro e w' ⟨rfl,rfl⟩))
  all_goals go_ret
  all_goals exact⟨by first|rfl|(congr 2;omega),rfl⟩
theorem zke (w:World) (k:Nat) (os:Array Obj):Below w.heap.size w (grow (w.drewN k) os):=by
 have h1:Below w.heap.size w (w.drewN k):=by
  have: ∀k,Below w.heap.size w (w.drewN k):=fun k=>⟨by simp[World.drewN],by simp[World.drewN],by simp[World.drewN],by simp[World.drewN],fun _ _=>by simp[World.drewN]⟩
  exact this k
 refine h1.trans ⟨rfl,rfl,rfl,by simp[grow],fun i hi=>?_⟩;show((w.drewN k).heap++os)[i]?=_;exact Y2 (by have:=h1.size;omega)
abbrev byF:UInt8->Value:=fun b=>Value.int .u8 (b.toNat:Int)
theorem zkf (dk:Array UInt8) (i:Nat) (h:i<dk.toList.length):dk.toList[i]=dk[i]! :=by
 have h2:i<dk.size:=by simpa using h
 rw[getElem!_pos dk i h2,Array.getElem_toList]
theorem zqs (n:Int) (h0: -9223372036854775808<=n) (h1:n<=9223372036854775807) (w:World) (ht:mO w):
  Calls Tryz.prog 233 #[.int .i64 n,.int .i64 10] w fun e w'=> ∃s:List UInt8,s.length<=21/\e=.returned (.string ⟨s.toArray⟩)/\Below w.heap.size w w':=by
 have L:=Tryz.laysItoa;have e235: ∀args w,(callFunc 235 args).run Tryz.prog w=.ok (.enter 235 args) w:=enters_of Tryz.func235 (by kernel_rfl) rfl;have e236: ∀args w,(callFunc 236 args).run Tryz.prog w=.ok (.enter 236 args) w:=enters_of Tryz.func236 (by kernel_rfl) rfl;by_cases hs:0<=n/\n<100
 ·obtain⟨i,rfl⟩: ∃i:Nat,n=i:=⟨n.toNat,by omega⟩
  refine(Any.internal_strconv_FormatInt_10_small (P:=Tryz.prog) (ρ:=Tryz.laysItoa_ren) {L with} i (by omega) w).mono ?_;rintro e w' ⟨rfl,rfl⟩;have hl:=itoa_length_le (i:Int) (by omega) (by omega);rw[Lib.itoa_nonneg] at hl;exact⟨Lib.decDigits i,by omega,rfl,Below.refl _ _⟩
 ·have hal:Tryz.prog.arrayLen 262=24:=by simp[Program.arrayLen,Tryz.underlying262]
  have hbA:=(Below.refl w.heap.size w).alloc (ZA _) (.cells Lib.zeros24 262);by_cases hneg:n<0
  ·obtain⟨u,rfl⟩: ∃u:Nat,n= -(u:Int):=⟨n.natAbs,by omega⟩
   have hu1:1<=u:=by omega
   have hu64:u<18446744073709551616:=by omega
   obtain⟨q,hq⟩: ∃q,Lib.l10 (Lib.bitLen u)=q:=⟨_,rfl⟩;have h19:q<=19:=by have:=(Lib.numDigits_eq u hu1 hu64).2;omega
   obtain⟨z,hz⟩:=(ht.later hbA) q (by omega);have knd:=zkd u q hu64 hq (by omega) z _ hz;obtain⟨nd,hnd⟩: ∃nd,q+(if z<=(u:Int) then 1 else 0)=nd:=⟨_,rfl⟩;have hnd20:nd<=20:=by rw[<-hnd];split<;>omega
   rw[hnd] at knd;clear hnd hz hq;have hwr:IntKind.u64.wrap (-IntKind.u64.wrap (-(u:Int)))=(u:Int):=by rw[IntKind.wrap_u64,IntKind.wrap_u64];omega
   have hsl1: ∀W,(Instr.sliceAt 262 (.pointer (some ⟨w.heap.size,0,none⟩)) (some (.int .i64 1)) (some (.int .i64 (1+(nd:Int)))) none).run Tryz.prog W=.ok (.slice (some ⟨w.heap.size,1,none⟩) nd 23) W:=fun W=>by
    rw[run_sliceAt_array_lh W 262 ⟨w.heap.size,0,none⟩ (by simp[Program.arrayLen,Program.elem,Tryz.underlying262]) .i64 .i64 1 (1+(nd:Int)) (by omega) (by omega) (by rw[hal];omega)]
    go_simp
    omega
   have hsl2: ∀W,(Instr.sliceAt 262 (.pointer (some ⟨w.heap.size,0,none⟩)) none (some (.int .i64 (1+(nd:Int)))) none).run Tryz.prog W=.ok (.slice (some ⟨w.heap.size,0,none⟩) (1+nd) 24) W:=fun W=>by
    rw[run_sliceAt_array_h W 262 ⟨w.heap.size,0,none⟩ (by simp[Program.arrayLen,Program.elem,Tryz.underlying262]) .i64 (1+(nd:Int)) (by omega) (by rw[hal];omega)]
    go_simp
    omega
   have hH0:=Lib.holds_zero w 262 nd (by omega);have hfmt:=zkc w.heap.size 1 23 u (YS nd 0) (w.alloc (.cells Lib.zeros24 262)) hH0 hu64 (by rw[Xz];omega);rw[Xz] at hfmt;have HH0:=Lib.hid hH0;have HB:=Lib.hid hbA;have HT:=Lib.hid ht;clear hH0 hal hbA ht
   go_enter Tryz.func233,Tryz.ntmps233
   go_wp2_with (first|(go_at_fn 235;refine knd.mono ?_;rintro e w' ⟨rfl,rfl⟩))
   go_at_fn 236
   refine hfmt.mono ?_;rintro e w' ⟨rfl,k,dk,hdk,rfl⟩;have hc0:((putRow byF (w.alloc (.cells Lib.zeros24 262)) w.heap.size 1 dk).drewN k).cell? ⟨w.heap.size,0,none⟩=some (.int .u8 0):=by
    rw[World.cell?_drewN,cell?_putRow_other _ _ _ _ _ _ (Or.inr (Or.inl (Nat.zero_lt_one))),World.cell?_alloc_new];exact Lib.zeros24_at 0 (by omega)
   have hf0:((putRow byF (w.alloc (.cells Lib.zeros24 262)) w.heap.size 1 dk).drewN k).frozen? ⟨w.heap.size,0,none⟩=false:=by
    rw[World.frozen?_drewN,frozen?_putRow];exact World.frozen?_alloc_new _ _ _ _
   have hcv:(convert 186 9 (.slice (some ⟨w.heap.size,0,none⟩) (1+nd) 24)).run Tryz.prog (((putRow byF (w.alloc (.cells Lib.zeros24 262)) w.heap.size 1 dk).drewN k).setCell ⟨w.heap.size,0,none⟩ (.int .u8 45))=.ok (.string ⟨(45::dk.toList).toArray⟩) (((putRow byF (w.alloc (.cells Lib.zeros24 262)) w.heap.size 1 dk).drewN k).setCell ⟨w.heap.size,0,none⟩ (.int .u8 45)):=by
    have h:=run_convert_bytes_back (P:=Tryz.prog) (((putRow byF (w.alloc (.cells Lib.zeros24 262)) w.heap.size 1 dk).drewN k).setCell ⟨w.heap.size,0,none⟩ (.int .u8 45)) 186 9 5 ⟨w.heap.size,0,none⟩ 24 (45::dk.toList) Tryz.underlying186 Tryz.underlying5 Tryz.underlying9 (fun j hj=>by
     rw[Lib.add_plain]
     cases j with
     |zero=>exact World.cell?_setCell_same _ _ _ hc0
     |succ i=>
      have hi:i<dk.toList.length:=by simpa using hj
      rw[World.cell?_setCell_other _ _ _ _ (by simp),List.getElem_cons_succ,zkf dk i hi,World.cell?_drewN,show 0+(i+1)=1+i by omega]
      exact cell?_putRow byF _ w.heap.size 1 _ dk HH0.out (by rw[hdk,Xz]) i (by simpa using hi))
    rw[Zu,YO,hdk,Y4] at h;exact h
   go_wp2
   go_ret
   obtain⟨os,eo⟩:=Lib.fin_neg w (.cells Lib.zeros24 262) dk k (.int .u8 45);exact⟨45::dk.toList,by rw[Zu,YO,hdk];omega,rfl,by rw[eo];exact zke w k os⟩
  ·obtain⟨u,rfl⟩: ∃u:Nat,n=u:=⟨n.toNat,by omega⟩
   have hu1:1<=u:=by omega
   have hu64:u<18446744073709551616:=by omega
   obtain⟨q,hq⟩: ∃q,Lib.l10 (Lib.bitLen u)=q:=⟨_,rfl⟩;have h19:q<=19:=by have:=(Lib.numDigits_eq u hu1 hu64).2;omega
   obtain⟨z,hz⟩:=(ht.later hbA) q (by omega);have knd:=zkd u q hu64 hq (by omega) z _ hz;obtain⟨nd,hnd⟩: ∃nd,q+(if z<=(u:Int) then 1 else 0)=nd:=⟨_,rfl⟩;have hnd20:nd<=20:=by rw[<-hnd];split<;>omega
   rw[hnd] at knd;clear hnd hz hq;have hsl1: ∀W,(Instr.sliceAt 262 (.pointer (some ⟨w.heap.size,0,none⟩)) (some (.int .i64 1)) (some (.int .i64 (1+(nd:Int)))) none).run Tryz.prog W=.ok (.slice (some ⟨w.heap.size,1,none⟩) nd 23) W:=fun W=>by
    rw[run_sliceAt_array_lh W 262 ⟨w.heap.size,0,none⟩ (by simp[Program.arrayLen,Program.elem,Tryz.underlying262]) .i64 .i64 1 (1+(nd:Int)) (by omega) (by omega) (by rw[hal];omega)]
    go_simp
    omega
   have hH0:=Lib.holds_zero w 262 nd (by omega);have hfmt:=zkc w.heap.size 1 23 u (YS nd 0) (w.alloc (.cells Lib.zeros24 262)) hH0 hu64 (by rw[Xz];omega);rw[Xz] at hfmt;have HH0:=Lib.hid hH0;have HB:=Lib.hid hbA;have HT:=Lib.hid ht;clear hH0 hal hbA ht
   go_enter Tryz.func233,Tryz.ntmps233
   go_wp2_with (first|(go_at_fn 235;refine knd.mono ?_;rintro e w' ⟨rfl,rfl⟩))
   go_at_fn 236
   refine hfmt.mono ?_;rintro e w' ⟨rfl,k,dk,hdk,rfl⟩;have hcv:(convert 186 9 (.slice (some ⟨w.heap.size,1,none⟩) nd 23)).run Tryz.prog ((putRow byF (w.alloc (.cells Lib.zeros24 262)) w.heap.size 1 dk).drewN k)=.ok (.string ⟨dk.toList.toArray⟩) ((putRow byF (w.alloc (.cells Lib.zeros24 262)) w.heap.size 1 dk).drewN k):=by
    have h:=run_convert_bytes_back (P:=Tryz.prog) ((putRow byF (w.alloc (.cells Lib.zeros24 262)) w.heap.size 1 dk).drewN k) 186 9 5 ⟨w.heap.size,1,none⟩ 23 dk.toList Tryz.underlying186 Tryz.underlying5 Tryz.underlying9 (fun j hj=>by
     rw[zkf dk j hj,Lib.add_plain,World.cell?_drewN]
     exact cell?_putRow byF _ w.heap.size 1 _ dk HH0.out (by rw[hdk,Xz]) j (by simpa using hj))
    rw[YO,hdk] at h;exact h
   go_wp2
   go_ret
   obtain⟨os,eo⟩:=Lib.fin_pos w (.cells Lib.zeros24 262) dk k;exact⟨dk.toList,by rw[YO,hdk];omega,rfl,by rw[eo];exact zke w k os⟩
theorem zkg (n:Int) (h0: -9223372036854775808<=n) (h1:n<=9223372036854775807) (w:World) (ht:mO w):
  Calls Tryz.prog 231 #[.int .i64 n] w fun e w'=> ∃s:List UInt8,s.length<=21/\e=.returned (.string ⟨s.toArray⟩)/\Below w.heap.size w w':=by
 have e232: ∀args w,(callFunc 232 args).run Tryz.prog w=.ok (.enter 232 args) w:=enters_of Tryz.func232 (by kernel_rfl) rfl;have e233: ∀args w,(callFunc 233 args).run Tryz.prog w=.ok (.enter 233 args) w:=enters_of Tryz.func233 (by kernel_rfl) rfl;have k232: ∀W,mO W->Calls Tryz.prog 232 #[.int .i64 n] W fun e w'=> ∃s:List UInt8,s.length<=21/\e=.returned (.string ⟨s.toArray⟩)/\Below W.heap.size W w':=fun W hT=>by
  have HT:=Lib.hid (zqs n h0 h1 W hT);clear hT ht
  go_enter Tryz.func232,Tryz.ntmps232
  go_wp2_with (go_at_fn 233;refine HT.out.mono ?_;rintro e w' ⟨s,hs,rfl,hb⟩)
  go_ret
  exact⟨s,hs,rfl,hb⟩
 have HT:=Lib.hid (k232 w ht);clear k232 ht
 go_enter Tryz.func231,Tryz.ntmps231
 go_wp2_with (go_at_fn 232;refine HT.out.mono ?_;rintro e w' ⟨s,hs,rfl,hb⟩)
 go_ret
 exact⟨s,hs,rfl,hb⟩
end Go.Proofs
namespace Go.Proofs
open Go.RowKit Go.Abs Go.Wd Go.Wire Go.Ex
theorem zkh {w:World} (hG:yU (base w)):mO w:=fun i hi=>by
 obtain⟨_,b,hb,hp⟩:=hG.2 5 _ rfl;have hb':w.heap[5]?=some b:=hb;cases b with
 |cells cs t f=>
  obtain⟨z,hz⟩:=hp i hi;exact⟨z,by simp only[World.cell?,hb'];exact hz⟩
 |_=>exact hp.elim
abbrev vI (w:World) (Bx:Nat) (d f:Txt) (lo hi:Int) (sum:Bool) (W:World):Prop:=
 W.cell? ⟨Bx,0,none⟩=some (tV d)/\W.cell? ⟨Bx,1,none⟩=some (tV f)/\W.cell? ⟨Bx,2,none⟩=some (.int .i64 lo)/\W.cell? ⟨Bx,3,none⟩=some (.int .i64 hi)/\W.cell? ⟨Bx,4,none⟩=some (.bool sum)/\Below w.heap.size w W
theorem vI.later {w W W':World} {Bx:Nat} {d f:Txt} {lo hi:Int} {sum:Bool} (h:vI w Bx d f lo hi sum W) (hb:Below W.heap.size W W'):vI w Bx d f lo hi sum W':=by
 obtain⟨h0,h1,h2,h3,h4,h8⟩:=h;have hlt:Bx<W.heap.size:=World.block_lt_of_cell? _ _ h0;have k: ∀j,W'.cell? ⟨Bx,j,none⟩=W.cell? ⟨Bx,j,none⟩:=fun j=>hb.cell (p:=⟨Bx,j,none⟩) hlt
 exact⟨(k 0).trans h0,(k 1).trans h1,(k 2).trans h2,(k 3).trans h3,(k 4).trans h4,h8.trans (hb.mono h8.size)⟩
theorem zki {w W:World} {Bx:Nat} {d f:Txt} {lo hi:Int} {sum:Bool} (h:W.heap[Bx]?=some (.cells #[tV d,tV f,.int .i64 lo,.int .i64 hi,.bool sum] 171 (0,0))) (hb:Below w.heap.size w W):vI w Bx d f lo hi sum W:=by
 refine⟨?_,?_,?_,?_,?_,hb⟩<;>simp[World.cell?,h]
theorem zkj (d f:Txt) (lo hi:Int) (sum:Bool) (hd:d.length<=1000000) (hf:f.length<=1000000) (h1: -9223372036854775808<=lo) (h2:lo<=9223372036854775807) (h3: -9223372036854775808<=hi) (h4:hi<=9223372036854775807) (w:World) (hG:yU (base w)):
  Calls Tryz.prog 229 #[.agg #[tV d,tV f,.int .i64 lo,.int .i64 hi,.bool sum]] w fun e w'=> ∃s:Txt,s.length<=d.length+f.length+100/\e=.returned (.string ⟨s.toArray⟩)/\Below w.heap.size w w':=by
 have hg: ∀{W},Below w.heap.size w W->yU (base W):=fun hb=>hG.later (wB hb)
 have k202: ∀W,Below w.heap.size w W->Calls Tryz.prog 202 #[.agg #[tV d,tV f]] W fun e W'=>e=.returned (.string ⟨(d++wV++f).toArray⟩)/\Below W.heap.size W W':=fun W hb=>(dI d f hd hf).strC (hg hb) (Z:=yB W) (fun _ h=>h) (uH (r:=[.str d,.str f]) (by simp[C.sc]) (wI _ _))
 have kI1: ∀W,Below w.heap.size w W->Calls Tryz.prog 231 #[.int .i64 lo] W fun e W'=> ∃s:List UInt8,s.length<=21/\e=.returned (.string ⟨s.toArray⟩)/\Below W.heap.size W W':=fun W hb=>zkg lo h1 h2 W (zkh (hg hb))
 have kI2: ∀W,Below w.heap.size w W->Calls Tryz.prog 231 #[.int .i64 hi] W fun e W'=> ∃s:List UInt8,s.length<=21/\e=.returned (.string ⟨s.toArray⟩)/\Below W.heap.size W W':=fun W hb=>zkg hi h3 h4 W (zkh (hg hb))
 obtain⟨x,hx⟩: ∃x,d++wV++f=x:=⟨_,rfl⟩;have hxl:Aside (x.length<=d.length+f.length+3):=show x.length<=d.length+f.length+3 from by
  have e:wV.length=3:=by decide
  rw[<-hx,Zr,Zr,e];omega
 have hx2:x.length<=2000003:=by have:=hxl.out;omega
 rw[hx] at k202;clear hx hg hG h1 h2 h3 h4;have hdA:Aside (d.length<=1000000/\f.length<=1000000):=⟨hd,hf⟩;clear hd hf;have mixed:Tryz.prog.follows Departure.mixedOrders=true:=by kernel_rfl
 cases sum with
 |false=>
  go_enter Tryz.func229,Tryz.ntmps229
  go_wp2
  have hS1:vI w w.heap.size d f lo hi false (w.alloc (.cells #[tV d,tV f,.int .i64 lo,.int .i64 hi,.bool false] 171)).drew:=by
   exact zki (World.alloc_heap_new w _) (((Below.refl _ w).alloc (ZA _) _).trans ((vP _).mono (by simp)))
  go_region_held (fun W=>vI w w.heap.size d f lo hi false W) (first|exact hS1|exact vI.later hq3 hbO|exact vI.later hq2 hbN|exact vI.later hS1 hbM) (first|(go_at_call 202;refine(k202 _ (by simp[*])).mono ?_;rintro ex w2 ⟨rfl,hbM⟩;have hq2:=vI.later hS1 hbM)|(go_at_call 231;first|(refine(kI1 _ (by simp[*])).mono ?_;rintro ex w3 ⟨s1,hs1,rfl,hbN⟩;have hq3:=vI.later hq2 hbN)|(refine(kI2 _ (by simp[*])).mono ?_;rintro ex w4 ⟨s2,hs2,rfl,hbO⟩)))
  all_goals go_wp2
  all_goals go_ret
  all_goals refine⟨uK++x++sM++s1++sO++s2++wW,?_,?_,(vI.later hq3 hbO).2.2.2.2.2⟩
  all_goals first
   |rfl
   |(congr 1;done)
   |(have:=hxl.out;simp only[uK,sM,sO,wW,Zr,Zu,ZK];omega)
   |(congr 2;apply ByteArray.ext;simp[uK,sM,sO,wW];done)
   |(simp[uK,sM,sO,wW];done)
   |(congr 1;congr 1;apply ByteArray.ext;simp[uK,sM,sO,wW])
 |true=>
  go_enter Tryz.func229,Tryz.ntmps229
  go_wp2
  have hS1:vI w w.heap.size d f lo hi true (w.alloc (.cells #[tV d,tV f,.int .i64 lo,.int .i64 hi,.bool true] 171)).drew:=by
   exact zki (World.alloc_heap_new w _) (((Below.refl _ w).alloc (ZA _) _).trans ((vP _).mono (by simp)))
  go_region_held (fun W=>vI w w.heap.size d f lo hi true W) (first|exact hS1|exact vI.later hq3 hbO|exact vI.later hq2 hbN|exact vI.later hS1 hbM) (first|(go_at_call 202;refine(k202 _ (by simp[*])).mono ?_;rintro ex w2 ⟨rfl,hbM⟩;have hq2:=vI.later hS1 hbM)|(go_at_call 231;first|(refine(kI1 _ (by simp[*])).mono ?_;rintro ex w3 ⟨s1,hs1,rfl,hbN⟩;have hq3:=vI.later hq2 hbN)|(refine(kI2 _ (by simp[*])).mono ?_;rintro ex w4 ⟨s2,hs2,rfl,hbO⟩)))
  all_goals go_wp2
  all_goals go_ret
  all_goals refine⟨oU++x++sM++s1++sO++s2++wW,?_,?_,(vI.later hq3 hbO).2.2.2.2.2⟩
  all_goals first
   |rfl
   |(congr 1;done)
   |(have:=hxl.out;simp only[oU,sM,sO,wW,Zr,Zu,ZK];omega)
   |(congr 2;apply ByteArray.ext;simp[oU,sM,sO,wW];done)
   |(simp[oU,sM,sO,wW];done)
   |(congr 1;congr 1;apply ByteArray.ext;simp[oU,sM,sO,wW])
def dmV (m:Dmd):Array Value:=((zM m).map wR).toArray
structure ClsAt (w:World) (m:Dmd) (T:TypeId) (us:Array Value) (fd fn fw:FuncId):Prop where
 ed: ∀args W,(callFunc fd args).run Tryz.prog W=.ok (.enter fd args) W
 en: ∀args W,(callFunc fn args).run Tryz.prog W=.ok (.enter fn args) W
 ew: ∀args W,(callFunc fw args).run Tryz.prog W=.ok (.enter fw args) W
 md: ∀W,(method 369 T (.agg us) "allonge/require.demand").run Tryz.prog W=.ok (fd,.agg us) W
 mn: ∀W,(method 369 T (.agg us) "allonge/require.named").run Tryz.prog W=.ok (fn,.agg us) W
 mw: ∀W,(method 369 T (.agg us) "allonge/require.words").run Tryz.prog W=.ok (fw,.agg us) W
 kd: ∀W,Below w.heap.size w W->Calls Tryz.prog fd #[.agg us] W fun e W'=>e=.returned (.agg (dmV (kL m)))/\Below W.heap.size W W'
 kn: ∀W,Below w.heap.size w W->Calls Tryz.prog fn #[.agg us] W fun e W'=>e=.returned (.bool (mN m))/\Below W.heap.size W W'
 kw: ∀W,Below w.heap.size w W->Calls Tryz.prog fw #[.agg us] W fun e W'=> ∃s:Txt,(xK m=true->s.length<=1000)/\e=.returned (.string ⟨s.toArray⟩)/\Below W.heap.size W W'
theorem zkk {m:Dmd} (h:xK m=true) (ho:m.op=2\/m.op=4):m.doc.length<=20/\m.fld.length<=20:=by
 unfold xK at h;simp only[Zp] at h;have h2:=h.2.2;unfold mN at h2;rw[if_neg (by omega),if_neg (by omega),if_neg (by omega)] at h2;simp only[Zp] at h2;exact⟨rQ h2.1.1,rQ h2.1.2⟩
theorem zqt (m:Dmd) (hm:DmdS m) (ho:okD m.op=true) (w:World) (hG:yU (base w)): ∃T us fd fn fw,clV m.op m.doc m.fld m.oth m.sec m.txt m.lo m.hi=.iface T (.agg us)/\ClsAt w m T us fd fn fw:=by
 have hg: ∀{W},Below w.heap.size w W->yU (base W):=fun hb=>hG.later (wB hb)
 obtain⟨op,d,f,o,s,t,lo,hi⟩:=m;have hms:=hm;obtain⟨hd,hf,hoo,hss,ht,l1,l2,h1,h2⟩:=hm;simp only[] at hd hf hoo hss ht l1 l2 h1 h2 ho⊢;by_cases q0:op=0
 ·subst q0
  refine⟨165,#[tV d],203,205,206,rfl,enters_of Tryz.func203 (by kernel_rfl) rfl,enters_of Tryz.func205 (by kernel_rfl) rfl,enters_of Tryz.func206 (by kernel_rfl) rfl,Tryz.m165demand _,Tryz.m165named _,Tryz.m165words _,fun W hb=>?_,fun W hb=>?_,fun W hb=>?_⟩
  ·exact(zoS d).aggC (by simp[zM,C.sc]) (hg hb) (Z:=yB W) (fun _ h=>h) (uH (r:=[.str d]) (by simp[C.sc]) (wI _ _))
  ·exact(zoR d hd).boolC (hg hb) (Z:=yB W) (fun _ h=>h) (uH (r:=[.str d]) (by simp[C.sc]) (wI _ _))
  ·refine Calls.mono ((zqj d hd).strC (hg hb) (Z:=yB W) (fun _ h=>h) (uH (r:=[.str d]) (by simp[C.sc]) (wI _ _))) ?_
   rintro e W' ⟨he,hb2⟩;exact⟨iS _,fun h=>zbG hms h,he,hb2⟩
 by_cases q1:op=1
 ·subst q1
  refine⟨167,#[tV d,tV f,tV t],211,213,214,rfl,enters_of Tryz.func211 (by kernel_rfl) rfl,enters_of Tryz.func213 (by kernel_rfl) rfl,enters_of Tryz.func214 (by kernel_rfl) rfl,Tryz.m167demand _,Tryz.m167named _,Tryz.m167words _,fun W hb=>?_,fun W hb=>?_,fun W hb=>?_⟩
  ·exact(zoT d f t).aggC (by simp[zM,C.sc]) (hg hb) (Z:=yB W) (fun _ h=>h) (uH (r:=[.str d,.str f,.str t]) (by simp[C.sc]) (wI _ _))
  ·exact(zqp d f t hd hf ht).boolC (hg hb) (Z:=yB W) (fun _ h=>h) (uH (r:=[.str d,.str f,.str t]) (by simp[C.sc]) (wI _ _))
  ·refine Calls.mono ((zqq d f t hd hf ht).strC (hg hb) (Z:=yB W) (fun _ h=>h) (uH (r:=[.str d,.str f,.str t]) (by simp[C.sc]) (wI _ _))) ?_
   rintro e W' ⟨he,hb2⟩;exact⟨iS _,fun h=>zbG hms h,he,hb2⟩
 by_cases q3:op=3
 ·subst q3
  refine⟨169,#[tV d,tV f,tV o,tV s],221,223,224,rfl,enters_of Tryz.func221 (by kernel_rfl) rfl,enters_of Tryz.func223 (by kernel_rfl) rfl,enters_of Tryz.func224 (by kernel_rfl) rfl,Tryz.m169demand _,Tryz.m169named _,Tryz.m169words _,fun W hb=>?_,fun W hb=>?_,fun W hb=>?_⟩
  ·exact(zoU d f o s).aggC (by simp[zM,C.sc]) (hg hb) (Z:=yB W) (fun _ h=>h) (uH (r:=[.str d,.str f,.str o,.str s]) (by simp[C.sc]) (wI _ _))
  ·exact(zoV d f o s hd hf hoo hss).boolC (hg hb) (Z:=yB W) (fun _ h=>h) (uH (r:=[.str d,.str f,.str o,.str s]) (by simp[C.sc]) (wI _ _))
  ·refine Calls.mono ((zqk d f o s hd hf hoo hss).strC (hg hb) (Z:=yB W) (fun _ h=>h) (uH (r:=[.str d,.str f,.str o,.str s]) (by simp[C.sc]) (wI _ _))) ?_
   rintro e W' ⟨he,hb2⟩;exact⟨iS _,fun h=>zbG hms h,he,hb2⟩
 have ar: ∀(W:World) (b:Bool),wX W (yB W) [.agg [.str d,.str f,.int .i64 lo,.int .i64 hi,.bool b]] (#[.agg #[tV d,tV f,.int .i64 lo,.int .i64 hi,.bool b]]:Array Value).toList:=fun W b=>uH (r:=[.str d,.str f,.int .i64 lo,.int .i64 hi,.bool b]) (by simp[C.sc]) (wI _ _)
 by_cases q2:op=2
 ·subst q2
  refine⟨171,#[tV d,tV f,.int .i64 lo,.int .i64 hi,.bool false],226,228,229,rfl,enters_of Tryz.func226 (by kernel_rfl) rfl,enters_of Tryz.func228 (by kernel_rfl) rfl,enters_of Tryz.func229 (by kernel_rfl) rfl,Tryz.m171demand _,Tryz.m171named _,Tryz.m171words _,fun W hb=>?_,fun W hb=>?_,fun W hb=>?_⟩
  ·exact(zjh d f lo hi false).aggC (by simp[zM,C.sc]) (hg hb) (Z:=yB W) (fun _ h=>h) (ar W false)
  ·exact(zji d f lo hi false hd hf).boolC (hg hb) (Z:=yB W) (fun _ h=>h) (ar W false)
  ·refine(zkj d f lo hi false hd hf l1 l2 h1 h2 W (hg hb)).mono ?_
   rintro e W' ⟨s1,hs1,he,hb2⟩;refine⟨s1,fun h=>?_,he,hb2⟩;have:=zkk h (by simp);simp only[] at this;omega
 by_cases q4:op=4
 ·subst q4
  refine⟨171,#[tV d,tV f,.int .i64 lo,.int .i64 hi,.bool true],226,228,229,rfl,enters_of Tryz.func226 (by kernel_rfl) rfl,enters_of Tryz.func228 (by kernel_rfl) rfl,enters_of Tryz.func229 (by kernel_rfl) rfl,Tryz.m171demand _,Tryz.m171named _,Tryz.m171words _,fun W hb=>?_,fun W hb=>?_,fun W hb=>?_⟩
  ·exact(zjh d f lo hi true).aggC (by simp[zM,C.sc]) (hg hb) (Z:=yB W) (fun _ h=>h) (ar W true)
  ·exact(zji d f lo hi true hd hf).boolC (hg hb) (Z:=yB W) (fun _ h=>h) (ar W true)
  ·refine(zkj d f lo hi true hd hf l1 l2 h1 h2 W (hg hb)).mono ?_
   rintro e W' ⟨s1,hs1,he,hb2⟩;refine⟨s1,fun h=>?_,he,hb2⟩;have:=zkk h (by simp);simp only[] at this;omega
 ·exfalso
  simp[okD,q0,q1,q2,q3,q4] at ho
def iT (w:World) (L:List Dmd) (p:Option Addr) (b o:Nat):Prop:=(0<L.length->p=some ⟨b,o,none⟩/\b<w.heap.size)/\ ∀k,k<L.length-> ∀j u,(dmV (L.getD k yI))[j]?=some u->w.cell? ⟨b,o+k*8+j,none⟩=some u
theorem iT.at {w:World} {L:List Dmd} {p:Option Addr} {b o:Nat} (h:iT w L p b o) {k:Nat} (hk:k<L.length) {W:World} (hb:Below w.heap.size w W) (m:Dmd) (e:L.getD k yI=m):
  W.cell? ⟨b,o+k*8,none⟩=some (.int .i64 m.op)/\W.cell? ⟨b,o+k*8+1,none⟩=some (.string ⟨m.doc.toArray⟩)/\W.cell? ⟨b,o+k*8+2,none⟩=some (.string ⟨m.fld.toArray⟩)/\W.cell? ⟨b,o+k*8+3,none⟩=some (.string ⟨m.oth.toArray⟩)/\
  W.cell? ⟨b,o+k*8+4,none⟩=some (.string ⟨m.sec.toArray⟩)/\W.cell? ⟨b,o+k*8+5,none⟩=some (.string ⟨m.txt.toArray⟩)/\W.cell? ⟨b,o+k*8+6,none⟩=some (.int .i64 m.lo)/\W.cell? ⟨b,o+k*8+7,none⟩=some (.int .i64 m.hi):=by
 subst e;have hlt:=(h.1 (by omega)).2;have key: ∀j u,(dmV (L.getD k yI))[j]?=some u->W.cell? ⟨b,o+k*8+j,none⟩=some u:=fun j u hu=>(hb.cell (p:=⟨b,o+k*8+j,none⟩) hlt).trans (h.2 k hk j u hu)
 exact⟨key 0 _ rfl,key 1 _ rfl,key 2 _ rfl,key 3 _ rfl,key 4 _ rfl,key 5 _ rfl,key 6 _ rfl,key 7 _ rfl⟩
theorem zqu (a b:Txt):((⟨a.toArray⟩:ByteArray).toList==(⟨b.toArray⟩:ByteArray).toList)=decide (a=b):=by
 rw[ByteArray.toList_eq,ByteArray.toList_eq,Ye,beq_iff_eq,decide_eq_true_eq]
theorem zqv (m m2:Dmd) (w:World):Sem.run Tryz.prog (binOp .neq 46 (.agg (dmV m)) (.agg (dmV m2))) w=.ok (.bool (!decide (m=m2))) w:=by
 rw[run_neq_struct,run_equalIn_agg (P:=Tryz.prog) w 9999 46 _ _ (by kernel_rfl) (by kernel_rfl)];obtain⟨op,d,f,ot,s,t,lo,hi⟩:=m;obtain⟨op2,d2,f2,ot2,s2,t2,lo2,hi2⟩:=m2;simp only[Dmd.mk.injEq];simp[go_sem,dmV,zM,wR,zqu];by_cases h1:op=op2<;>simp[h1]
 by_cases h2:d=d2<;>simp[h2]
 by_cases h3:f=f2<;>simp[h3]
 by_cases h4:ot=ot2<;>simp[h4]
 by_cases h5:s=s2<;>simp[h5]
 by_cases h6:t=t2<;>simp[h6]
 by_cases h7:lo=lo2<;>simp[h7]
 by_cases h8:hi=hi2<;>simp[h8]
theorem zqw (o:BinOp) (a b:Operand) (m m2:Dmd) (w:World):Sem.run Tryz.prog (eqGuard o 46 a b (.agg (dmV m)) (.agg (dmV m2))) w=.ok () w:=run_eqGuard_agg _ _ _ _ _ _ _ (by kernel_rfl)
theorem zbH {L:List Dmd} {m:Dmd} (hm:m∈L) (h: ¬L.length<=20\/xK m=false):vX L=false:=by
  unfold vX;rw[Bool.or_eq_false_iff];refine⟨decide_eq_false (by rintro rfl;cases hm),?_⟩;rw[Xi];rcases h with h|h
  ·exact .inl (decide_eq_false h)
  ·right
   rw[YK];exact⟨m,hm,by rw[h];simp⟩
abbrev wN (w:World) (Bx:Nat) (op:Int) (d f ot s t:Txt) (lo hi:Int) (W:World):Prop:=
 W.cell? ⟨Bx,0,none⟩=some (.int .i64 op)/\W.cell? ⟨Bx,1,none⟩=some (.string ⟨d.toArray⟩)/\W.cell? ⟨Bx,2,none⟩=some (.string ⟨f.toArray⟩)/\W.cell? ⟨Bx,3,none⟩=some (.string ⟨ot.toArray⟩)/\
 W.cell? ⟨Bx,4,none⟩=some (.string ⟨s.toArray⟩)/\W.cell? ⟨Bx,5,none⟩=some (.string ⟨t.toArray⟩)/\W.cell? ⟨Bx,6,none⟩=some (.int .i64 lo)/\W.cell? ⟨Bx,7,none⟩=some (.int .i64 hi)/\Below w.heap.size w W
theorem zbI {w W:World} {Bx:Nat} {op:Int} {d f ot s t:Txt} {lo hi:Int} (h:W.heap[Bx]?=some (.cells #[.int .i64 op,.string ⟨d.toArray⟩,.string ⟨f.toArray⟩,.string ⟨ot.toArray⟩,.string ⟨s.toArray⟩,.string ⟨t.toArray⟩,.int .i64 lo,.int .i64 hi] 46 (0,0))) (hb:Below w.heap.size w W):wN w Bx op d f ot s t lo hi W:=by
 refine⟨?_,?_,?_,?_,?_,?_,?_,?_,hb⟩<;>simp[World.cell?,h]
theorem wN.later {w W W':World} {Bx:Nat} {op:Int} {d f ot s t:Txt} {lo hi:Int} (h:wN w Bx op d f ot s t lo hi W) (hb:Below W.heap.size W W'):wN w Bx op d f ot s t lo hi W':=by
 obtain⟨h0,h1,h2,h3,h4,h5,h6,h7,h8⟩:=h;have hlt:Bx<W.heap.size:=World.block_lt_of_cell? _ _ h0;have k: ∀j,W'.cell? ⟨Bx,j,none⟩=W.cell? ⟨Bx,j,none⟩:=fun j=>hb.cell (p:=⟨Bx,j,none⟩) hlt
 exact⟨(k 0).trans h0,(k 1).trans h1,(k 2).trans h2,(k 3).trans h3,(k 4).trans h4,(k 5).trans h5,(k 6).trans h6,(k 7).trans h7,h8.trans (hb.mono h8.size)⟩
theorem zbJ {W W':World} {base e k:Nat} {v:Value} {xs:List Value} (h:W.ownsRow base e 1 v k xs) {B:World} (_:Below B.heap.size B W) (hb:Below W.heap.size W W'):W'.ownsRow base e 1 v k xs:=
 h.kept (kA hb) (by cases v.ownBlock<;>simp)
theorem zkl: ∀(l:List Txt),(∀s∈l,s.length<=1000)->xJ l<=l.length*1000
 |[],_=>by simp[xJ]
 |m::l,h=>by
  have:=zkl l fun x hx=>h x (ZH _ hx)
  have h2:=h m (by simp);simp only[xJ,Zu];omega
theorem zqx (base:Nat) (v:Value) (l:List Txt) (W:World) (h:W.ownsRow base 9 1 v l.length (l.map tV)) (hn:l.length<=1000) (hs:xJ l<=1000000):
  Calls Tryz.prog 101 #[v,.string ⟨#[32]⟩] W fun e w'=>e=.returned (.string ⟨(joinS [32] l).toArray⟩)/\Below W.heap.size W w':=by
 rcases h with⟨_,⟨hv,h0⟩|⟨g,cap,cur,hv,hg,hh,h5,h6,h7,h8⟩⟩
 ·obtain rfl:=Yn h0
  subst hv;exact za8 0 none _ W
 ·subst hv
  have hc: ∀j,j<l.length->W.cell? ⟨g,j,none⟩=some (.string ⟨(l.getD j []).toArray⟩):=by
   intro j hj;have h9:=congrArg (fun x:List Value=>x[j]?) h8;simp only[Y5,List.getElem?_take_of_lt hj,ZD,Zk hj,YF] at h9;rw[YE] at h9;simp only[World.cell?,hh];simp only[Y0,Ya,if_false];rw[h9,Zm,Zk hj];rfl
  rcases Y3 l.length 2 with h2|h2
  ·rcases Y3 l.length 1 with h1|h1
   ·obtain rfl:=Yn (by omega:l.length=0)
    exact za8 cap _ _ W
   ·obtain⟨t,rfl⟩:=List.length_eq_one_iff.1 (by omega:l.length=1)
    exact zjp cap g 0 _ _ W (hc 0 (by simp)) h5
  ·exact zjo l [32] cap g 0 W (Zs.1 hh).1 (fun k hk=>by rw[Z4];exact hc k hk) h2 hn h5 (by decide) (by decide) hs
theorem zqy (L:List Dmd) (hL:L.length<=8) (hm: ∀m∈L,DmdS m) (w:World) (hG:yU (base w)) (p:Option Addr) (cap b o:Nat) (hD:iT w L p b o):
  Calls Tryz.prog 63 #[.slice p L.length cap] w fun e w'=> ∃X:Txt,e=.returned (.tuple #[.string ⟨X.toArray⟩,.bool (vX L)])/\Below w.heap.size w w':=by
 obtain⟨n,hN⟩: ∃n,L.length=n:=⟨_,rfl⟩;have hN':Aside (L.length=n):=hN;rw[hN] at hL⊢;have hp:0<n->p=some ⟨b,o,none⟩:=fun h=>(hD.1 (by omega)).1
 have HD:Aside (iT w L p b o):=hD;clear hN hD;obtain⟨i0,hif,hz0,hz1,hz2⟩:=info_parts (show(Tryz.prog.info? 9).map (fun i=>(i.zero,i.size,i.bytes))=some (some (.string ⟨#[]⟩),1,16) by kernel_rfl);have mixed:Tryz.prog.follows Departure.mixedOrders=true:=by kernel_rfl
 go_enter Tryz.func63,Tryz.ntmps63
 go_wp2
 go_loopg [4,12] n (fun g v i wr=> ∃k:Nat,k<=n/\n-k=g/\i=.int .i64 k/\(k=0\/n<=20)/\(L.take k).all xK=true/\(∃Ws:List Txt,Ws.length=k/\(∀s∈Ws,s.length<=1000)/\wr.ownsRow w.heap.size 9 1 v k (Ws.map tV))/\Below w.heap.size w wr)
 case atStart=>exact⟨0,Zy _,rfl,rfl,.inl rfl,rfl,⟨[],rfl,by simp,World.ownsRow_nil _ _ _ _⟩,Below.refl _ _⟩
 case round=>
  obtain⟨k,hkn,rfl,rfl,hk0,hall,⟨Ws,hWl0,hWb0,hown⟩,hb⟩:=hrel;have hWl:Aside (Ws.length=k):=hWl0;have hWb:Aside (∀s∈Ws,s.length<=1000):=hWb0;clear hWl0 hWb0;by_cases hlt:k<n
  ·have hkl:(k:Int)<n:=by omega
   obtain⟨m,hmk⟩: ∃m,L.getD k yI=m:=⟨_,rfl⟩;have hmem:m∈L:=by
    rw[<-hmk,Zm,Zk (by rw[hN'.out];exact hlt)];exact Zv _
   obtain⟨c0,c1,c2,c3,c4,c5,c6,c7⟩:=HD.out.at (by rw[hN'.out];exact hlt) hb m hmk;have hs:=hm m hmem;obtain rfl:=hp (by omega);obtain⟨op,d,f,ot,s,t,lo,hi⟩:=m;simp only[] at c0 c1 c2 c3 c4 c5 c6 c7;have hB2: ∀o1,Below w.heap.size w (wr.alloc o1):=fun o1=>hb.alloc hb.size _
   have k79:=zja op d f ot s t lo hi;simp only[tV] at k79;rw[show okO op=okD op from rfl] at k79;cases hok:okD op with
   |false=>
    have hpr:Aside (vX L=false):=zbH hmem (.inr (by unfold xK;simp only[];rw[hok];rfl));rw[hok] at k79
    go_wp2_with (go_at_call 79;refine(k79 _).mono ?_;rintro ex w1 ⟨rfl,hb1⟩)
    go_ret2
    rw[hpr.out];exact⟨[],rfl,(hB2 _).trans (hb1.mono (hB2 _).size)⟩
   |true=>
    rw[hok] at k79;by_cases h20:n<=20
    ·have h20': ¬(n:Int)>20:=by omega
     obtain⟨T,us,fd,fn,fw,hcl,hC⟩:=zqt ⟨op,d,f,ot,s,t,lo,hi⟩ hs hok w hG;simp only[tV] at hcl;rw[hcl] at k79;clear hcl;have ed:=hC.ed;have en:=hC.en;have md:=hC.md;have mn:=hC.mn;have kd:=hC.kd;have kn:=hC.kn;obtain⟨dm,hdm⟩: ∃dm,kL ⟨op,d,f,ot,s,t,lo,hi⟩=dm:=⟨_,rfl⟩;rw[hdm] at kd;have HDM:Aside (kL ⟨op,d,f,ot,s,t,lo,hi⟩=dm):=hdm;clear hdm;have hne:=zqv ⟨op,d,f,ot,s,t,lo,hi⟩ dm;have hgd:=fun o a b=>zqw o a b ⟨op,d,f,ot,s,t,lo,hi⟩ dm
     obtain⟨op2,d2,f2,ot2,s2,t2,lo2,hi2⟩:=dm;have ev: ∀op d f ot s t lo hi,dmV ⟨op,d,f,ot,s,t,lo,hi⟩= #[.int .i64 op,.string ⟨d.toArray⟩,.string ⟨f.toArray⟩,.string ⟨ot.toArray⟩,.string ⟨s.toArray⟩,.string ⟨t.toArray⟩,.int .i64 lo,.int .i64 hi]:=fun _ _ _ _ _ _ _ _=>rfl
     rw[ev] at kd;rw[ev,ev] at hne;rw[ev,ev] at hgd;clear ev;have hQ1: ∀o1 w1,(Below (wr.alloc o1).heap.size (wr.alloc o1) w1)->w1.heap[wr.heap.size]?=some o1/\Below w.heap.size w w1:=fun o1 w1 hb1=>⟨(hb1.block _ (by simp)).trans (World.alloc_heap_new _ _),(hB2 _).trans (hb1.mono (hB2 _).size)⟩
     have hQ1b: ∀o1 w1,(Below (wr.alloc o1).heap.size (wr.alloc o1) w1)->Below wr.heap.size wr w1:=fun o1 w1 hb1=>((Below.refl _ wr).alloc (ZA _) o1).trans (hb1.mono (by simp))
     by_cases heq:(⟨op,d,f,ot,s,t,lo,hi⟩:Dmd)=⟨op2,d2,f2,ot2,s2,t2,lo2,hi2⟩
     ·have hdec:decide ((⟨op,d,f,ot,s,t,lo,hi⟩:Dmd)=⟨op2,d2,f2,ot2,s2,t2,lo2,hi2⟩)=true:=decide_eq_true heq
      rw[hdec,YH] at hne;have HEQ:Aside ((⟨op,d,f,ot,s,t,lo,hi⟩:Dmd)=⟨op2,d2,f2,ot2,s2,t2,lo2,hi2⟩):=heq;clear hdec heq;cases hnm:mN ⟨op,d,f,ot,s,t,lo,hi⟩ with
      |false=>
       have hpr:Aside (vX L=false):=zbH hmem (.inr (by unfold xK;rw[hnm,Yo,Yo]));rw[hnm] at kn
       go_wp2_with (go_at_call 79;refine(k79 _).mono ?_;rintro ex w1 ⟨rfl,hb1⟩)
       obtain⟨hq1,hb2⟩:=hQ1 _ _ hb1;have hfin:Aside (∀w',Below w1.drew.heap.size w1.drew w'->Below w.heap.size w w'):=fun w' h=>hb2.trans (((vP w1).trans h).mono hb2.size)
       have hS1:wN w wr.heap.size op d f ot s t lo hi w1.drew:=(zbI hq1 hb2).later (vP w1)
       go_region_held3 (fun W=>wN w wr.heap.size op d f ot s t lo hi W) (first|exact hS1|exact wN.later (by assumption) hbN|exact wN.later (by assumption) hbM) (first|(go_at_fn fd;refine(kd _ (by simp[*])).mono ?_;rintro ex w2 ⟨rfl,hbM⟩)|(go_at_fn fn;refine(kn _ (by simp[*])).mono ?_;rintro ex w3 ⟨rfl,hbN⟩))
       go_wp2
       go_ret2
       rw[hpr.out];exact⟨[],rfl,hfin.out _ (hbM.trans (hbN.mono hbM.size))⟩
      |true=>
       have hfine:xK ⟨op,d,f,ot,s,t,lo,hi⟩=true:=by
        unfold xK;rw[HDM.out,hnm,hok,ZC,Y9];exact decide_eq_true HEQ.out
       have htk:L.take (k+1)=L.take k++[⟨op,d,f,ot,s,t,lo,hi⟩]:=by
        have hkL:k<L.length:=by rw[hN'.out];exact hlt
        rw[Zz hkL];rw[Zm,Zk hkL] at hmk;rw[<-hmk];rfl
       have HFN:Aside (xK ⟨op,d,f,ot,s,t,lo,hi⟩=true):=hfine;have HA:Aside ((L.take (k+1)).all xK=true):=show _=_ by rw[htk,Xe,hall];simp[hfine]
       clear htk hfine;rw[hnm] at kn;have kw:=hC.kw;have ew:=hC.ew;have mw:=hC.mw
       go_wp2_with (go_at_call 79;refine(k79 _).mono ?_;rintro ex w1 ⟨rfl,hb1⟩)
       obtain⟨hq1,hb2⟩:=hQ1 _ _ hb1;have hfin:Aside (∀w',Below w1.drew.heap.size w1.drew w'->Below w.heap.size w w'):=fun w' h=>hb2.trans (((vP w1).trans h).mono hb2.size)
       have hS1:wN w wr.heap.size op d f ot s t lo hi w1.drew:=(zbI hq1 hb2).later (vP w1)
       go_region_held3 (fun W=>wN w wr.heap.size op d f ot s t lo hi W) (first|exact hS1|exact wN.later (by assumption) hbN|exact wN.later (by assumption) hbM) (first|(go_at_fn fd;refine(kd _ (by simp[*])).mono ?_;rintro ex w2 ⟨rfl,hbM⟩)|(go_at_fn fn;refine(kn _ (by simp[*])).mono ?_;rintro ex w3 ⟨rfl,hbN⟩))
       have hB3:=hfin.out _ (hbM.trans (hbN.mono hbM.size));have hown3:=(zbJ (zbJ hown hb (hQ1b _ _ hb1)) hb2 ((vP w1).trans (hbM.trans (hbN.mono hbM.size))))
       go_wp2_with (first|(go_at_fn fw;refine(kw _ hB3).mono ?_;rintro ex w4 ⟨sw,hsw0,rfl,hb4⟩;have hsw:Aside (sw.length<=1000):=hsw0 HFN.out;clear hsw0;have hown4:=zbJ hown3 hB3 hb4)|(at_builtin;refine wpList_append_own_at _ rfl _ _ 51 rfl w.heap.size 9 i0 (.string ⟨#[]⟩) 1 16 Tryz.underlying51 hif hz0 hz1 hz2 rfl (by decide) _ _ _ rfl (hown4.alloc _) ⟨w4.heap.size,0,none⟩ 1 1 [tV sw] rfl rfl (cell_one_new _ _ _) (by intro u hu;rw[Z9.1 hu];rfl) (by unfold maxLen;omega) (by omega) (ZX (hB3.trans (hb4.mono hB3.size)).size (by simp)) ?_;intro v6 w6 hr6 hg6 hnil6 hat6;clear hnil6))
       have hB4:=hB3.trans (hb4.mono hB3.size);have hB5:=hB4.alloc hB4.size (.cells #[tV sw] 9);have hB6:Below w.heap.size w w6:=hB5.grown hg6 hB5.size (fun j hj=>(hown4.lt j hj).1)
       go_roundg (n-(k+1))
       case measure=>omega
       case rel=>exact⟨k+1,by omega,rfl,by go_num,.inr h20,HA.out,⟨Ws++[sw],by rw[Zr,hWl.out];rfl,fun s hs=>(Yt.1 hs).elim (hWb.out s) (fun q=>by rw[Z9.1 q];exact hsw.out),by rw[ZV];exact hr6⟩,hB6⟩
     ·have hdec:decide ((⟨op,d,f,ot,s,t,lo,hi⟩:Dmd)=⟨op2,d2,f2,ot2,s2,t2,lo2,hi2⟩)=false:=decide_eq_false heq
      have hpr:Aside (vX L=false):=zbH hmem (.inr (by unfold xK;rw[HDM.out,hdec,ZF,Yo]));rw[hdec,Yu] at hne;clear hdec heq
      go_wp2_with (go_at_call 79;refine(k79 _).mono ?_;rintro ex w1 ⟨rfl,hb1⟩)
      obtain⟨hq1,hb2⟩:=hQ1 _ _ hb1;have hfin:Aside (∀w',Below w1.drew.heap.size w1.drew w'->Below w.heap.size w w'):=fun w' h=>hb2.trans (((vP w1).trans h).mono hb2.size)
      have hS1:wN w wr.heap.size op d f ot s t lo hi w1.drew:=(zbI hq1 hb2).later (vP w1);refine wp_region_held (S:=fun W=>wN w wr.heap.size op d f ot s t lo hi W) mixed ?_;show wpAnyH _ _ _ _ _ 9 _ _ _;refine wpAnyH_take (S:=fun W=>wN w wr.heap.size op d f ot s t lo hi W) (i:=0) (v:=.agg #[.int .i64 op,.string ⟨d.toArray⟩,.string ⟨f.toArray⟩,.string ⟨ot.toArray⟩,.string ⟨s.toArray⟩,.string ⟨t.toArray⟩,.int .i64 lo,.int .i64 hi]) rfl (by kernel_rfl) (by kernel_rfl) (by kernel_rfl) (fun c a w h=>h) (.inl ⟨rfl,fun W hS=>?_⟩) hS1 ?_
      ·obtain⟨z0,z1,z2,z3,z4,z5,z6,z7,_⟩:=hS
       go_simp
      simp only[Act.put,ZP,Z5,Z6];refine wpAnyH_take (S:=fun W=>wN w wr.heap.size op d f ot s t lo hi W) (i:=1) (v:=.iface T (.agg us)) rfl (by kernel_rfl) (by kernel_rfl) (by kernel_rfl) (fun c a w h=>h) (.inl ⟨rfl,fun W hS=>?_⟩) hS1 ?_
      ·obtain⟨z0,z1,z2,z3,z4,z5,z6,z7,_⟩:=hS
       go_simp
      simp only[Act.put,ZP,Z5,Z6];refine wpAnyH_all (rs:=[2]) (by kernel_rfl) (by simp) fun i hiq=>?_
      obtain rfl:=Z9.1 hiq;refine Or.inl (?_:Oper.wp Tryz.prog _ _ _ _ _)
      go_wp2_with (go_at_fn fd;refine(kd _ hS1.2.2.2.2.2.2.2.2).mono ?_;rintro ex w2 ⟨rfl,hbM⟩)
      have hS2:wN w wr.heap.size op d f ot s t lo hi w2:=hS1.later hbM;refine⟨hS2,?_⟩;refine wpAnyH_take (S:=fun W=>wN w wr.heap.size op d f ot s t lo hi W) (i:=3) (v:=.bool true) rfl (by kernel_rfl) (by kernel_rfl) (by kernel_rfl) (fun c a w h=>h) (.inl ⟨rfl,fun W hS=>?_⟩) hS2 ?_
      ·obtain⟨z0,z1,z2,z3,z4,z5,z6,z7,_⟩:=hS
       go_simp
      simp only[Act.put,ZP,Z5,Z6];refine wpAnyH_take (S:=fun W=>wN w wr.heap.size op d f ot s t lo hi W) (i:=4) (v:=.bool true) rfl (by kernel_rfl) (by kernel_rfl) (by kernel_rfl) (fun c a w h=>h) (.inl ⟨rfl,fun W hS=>?_⟩) hS2 ?_
      ·obtain⟨z0,z1,z2,z3,z4,z5,z6,z7,_⟩:=hS
       go_simp
      simp only[Act.put,ZP,Z5,Z6];refine wpAnyH_take (S:=fun W=>wN w wr.heap.size op d f ot s t lo hi W) (i:=5) (v:=undef) rfl (by kernel_rfl) (by kernel_rfl) (by kernel_rfl) (fun c a w h=>h) (.inr ⟨rfl,rfl⟩) hS2 ?_;simp only[Act.put,ZP,Z5,Z6];refine wpAnyH_take (S:=fun W=>wN w wr.heap.size op d f ot s t lo hi W) (i:=6) (v:=undef) rfl (by kernel_rfl) (by kernel_rfl) (by kernel_rfl) (fun c a w h=>h) (.inr ⟨rfl,rfl⟩) hS2 ?_;simp only[Act.put,ZP,Z5,Z6];refine wpAnyH_take (S:=fun W=>wN w wr.heap.size op d f ot s t lo hi W) (i:=7) (v:=undef) rfl (by kernel_rfl) (by kernel_rfl) (by kernel_rfl) (fun c a w h=>h) (.inr ⟨rfl,rfl⟩) hS2 ?_;simp only[Act.put,ZP,Z5,Z6];refine wpAnyH_take (S:=fun W=>wN w wr.heap.size op d f ot s t lo hi W) (i:=8) (v:=.bool true) rfl (by kernel_rfl) (by kernel_rfl) (by kernel_rfl) (fun c a w h=>h) (.inl ⟨rfl,fun W hS=>?_⟩) hS2 ?_
      ·obtain⟨z0,z1,z2,z3,z4,z5,z6,z7,_⟩:=hS
       go_simp
      simp only[Act.put,ZP,Z5,Z6];refine wpAnyH_done (S:=fun W=>wN w wr.heap.size op d f ot s t lo hi W) (by kernel_rfl) ?_ _
      go_wp2
      go_ret2
      rw[hpr.out];exact⟨[],rfl,hfin.out _ hbM⟩
    ·exact absurd (show n<=20 by omega) h20
  ·obtain rfl:k=n:=by omega
   have hkl: ¬(k:Int)<k:=by omega
   have htk:L.take k=L:=ZU (by rw[hN'.out];exact ZA _);rw[htk] at hall;have hfl:vX L=true:=by
    unfold vX;rw[Yi,Zp,decide_eq_true_eq,decide_eq_true_eq];rcases hk0 with h|h
    ·exact .inl (Yn (by rw[hN'.out];exact h))
    ·exact .inr ⟨by rw[hN'.out];exact h,hall⟩
   have hsum:xJ Ws<=Ws.length*1000:=zkl Ws hWb.out;have hk20:k<=8:=hL;have hWk:=hWl.out;have hJ:Aside (Calls Tryz.prog 101 #[u4,.string ⟨#[32]⟩] wr fun e w'=>e=.returned (.string ⟨(joinS [32] Ws).toArray⟩)/\Below wr.heap.size wr w'):=by
    show Calls _ _ _ _ _;refine zqx w.heap.size u4 Ws wr (by rw[hWk];exact hown) (by omega) (by omega)
   have hXl:=dJ [32] Ws;simp only[Zu,ZK] at hXl;obtain⟨X,hX⟩: ∃X,joinS [32] Ws=X:=⟨_,rfl⟩;rw[hX] at hJ hXl;have hle:X.length<=20000:=by omega
   have hsz:(⟨X.toArray⟩:ByteArray).size=X.length:=by show X.toArray.size=_;simp
   have HFL:Aside (vX L=true):=hfl;clear hown hall htk hfl hsum hX hm hk0 hkn hk20 hp HD hN' hif hz0 hz1 hz2 hG hXl hWk hWl hWb;have hle': ¬(X.length:Int)>20000:=by omega
   go_wp2_with (go_at_call 101;refine Calls.mono hJ.out ?_;rintro e w' ⟨rfl,hb2⟩)
   go_ret2
   rw[HFL.out];exact⟨X,rfl,hb.trans (hb2.mono hb.size)⟩
end Go.Proofs
namespace Go.Proofs
open Go.RowKit Go.Shelf Go.Abs Go.Wd Go.Wire Go.Ex
attribute [local go_sem] Oper.semAt_some
abbrev U8:Type:={x:Nat//x<256}
def zbK (x:U8):Array Value:= #[.int .u64 (x.1:Int)]
structure FailAt (L:List Dmd) (D:List Dcm) (b1 b2 b3 b4:Nat) (vl vd vc:Value) (W:World):Prop where
 c1:W.cell? ⟨b1,0,none⟩=some (.int .i64 (yY D:Nat))
 c2:W.cell? ⟨b2,0,none⟩=some vl
 c3:W.cell? ⟨b3,0,none⟩=some vd
 c4:W.cell? ⟨b4,0,none⟩=some vc
 pl:PRep W (yB W) (zF 8 (L.map zM)) vl
 pd:PRep W (yB W) (zF 2 (D.map zV)) vd
 pc:PRep W (yB W) (zF 1 (zG (cnts D).1)) vc
 gl:yU (base W)
theorem FailAt.later {L:List Dmd} {D:List Dcm} {b1 b2 b3 b4:Nat} {vl vd vc:Value} {W W':World} (h:FailAt L D b1 b2 b3 b4 vl vd vc W) (hb:Below W.heap.size W W'):FailAt L D b1 b2 b3 b4 vl vd vc W':=by
 have k: ∀(b:Nat) v,W.cell? ⟨b,0,none⟩=some v->W'.cell? ⟨b,0,none⟩=some v:=fun b v h0=>(hb.cell (p:=⟨b,0,none⟩) (World.block_lt_of_cell? _ _ h0)).trans h0
 exact⟨k _ _ h.c1,k _ _ h.c2,k _ _ h.c3,k _ _ h.c4,uU h.pl hb,uU h.pd hb,uU h.pc hb,h.gl.later (wB hb)⟩
theorem zqz {l:List Nat} {j:Nat} (h:j<l.length):setN (l.take (j+1))=setN (l.take j)|||(1<<<l[j]):=by
 unfold setN;rw[Zz h,XI];rfl
theorem zkm {s t:Nat} (hs:s<256) (ht:t<256):IntKind.u64.wrap ((Z2 IntKind.u64.bits (s:Int)|||Z2 IntKind.u64.bits (t:Int)).toNat:Int)=((s|||t:Nat):Int):=by
 show IntKind.u64.wrap ((Z2 64 (s:Int)|||Z2 64 (t:Int)).toNat:Int)=_;rw[kI,kI,BitVec.toNat_or,Xa,Xa,Xq (by omega),Xq (by omega)];exact mK (ZO (Nat.or_lt_two_pow (n:=8) hs ht) (by decide))
theorem orK (s x:Nat) (hs:s<2 ^ 8) (hx:x<8):Value.int IntKind.u64 (bits BinOp.or IntKind.u64 (s:Int) (IntKind.u64.wrap (2 ^ x)))=Value.int IntKind.u64 ((s|||1<<<x:Nat):Int):=by
 have h1:=zbE x (by omega);have e:min x IntKind.u64.bits=x:=Y8 (show x<=64 by omega);rw[e,Int.one_mul] at h1;rw[h1];have h2:1<<<x<256:=by rw[X0];exact(XD (by decide) hx:2 ^ x<2 ^ 8)
 rw[<-zkm hs h2];rfl
abbrev SF (L:List Dmd) (D:List Dcm) (b1 b2 b3 b4:Nat) (vl vd vc:Value) (w wr:World) (Kp:World->World->Prop) (W:World):Prop:=
 W.cell? ⟨b2,0,none⟩=some vl/\W.cell? ⟨b3,0,none⟩=some vd/\W.cell? ⟨b4,0,none⟩=some vc/\FailAt L D b1 b2 b3 b4 vl vd vc W/\Kp w W/\Below wr.heap.size wr W
theorem zqA (n:Nat) (hn:3<=n) (L:List Dmd) (D:List Dcm) (hL:L.length<=8) (hD:uT D) (hok:CntOk D) (hp: ∀i,i<yY D->wU (rdsD D i)) (b1 b2 b3 b4:Nat) (vl vd vc:Value) (w:World)
  (Kp:World->World->Prop) (hKr:Kp w w) (hKt: ∀A B C,Kp A B->Kp B C->Kp A C) (hKb: ∀A B,Kp w A->Below A.heap.size A B->Kp w B) (hW: ∀W,Kp w W->FailAt L D b1 b2 b3 b4 vl vd vc W):
  za2 Fence.wide n Tryz.prog 102 #[.pointer (some ⟨b1,0,none⟩),.pointer (some ⟨b2,0,none⟩),.pointer (some ⟨b3,0,none⟩),.pointer (some ⟨b4,0,none⟩)] zbK Kp (fun xs=>xs.map (fun x=>x.1)=failsD L D) (yY D) w:=by
 intro l J W hKW hJ hY h0;have h1n:1<=n:=by omega
 have mixed:Tryz.prog.follows Departure.mixedOrders=true:=by kernel_rfl
 have hle:=hok.le;have hlen:(failsD L D).length=yY D:=by simp[failsD]
 obtain⟨N,hN⟩: ∃N,yY D=N:=⟨_,rfl⟩;have hF0:=hW W hKW;have c1:=hF0.c1;rw[hN] at c1 hle hlen hp hY;have k38: ∀(k:Nat) W',k<N->FailAt L D b1 b2 b3 b4 vl vd vc W'->Calls Tryz.prog 38 #[vd,vc,.int .i64 k] W' fun e W''=> ∃v,e=.returned v/\Below W'.heap.size W' W''/\PRep W'' (yB W'') (zF 3 (xR (rdsD D k))) v:=fun k W' hk h=>
  (c38 D hD hok k (by omega)).listC h.gl (Z:=yB W') (fun _ h=>h) (uA h.pd (uA h.pc (uA (.int .i64 (k:Int)) (wI _ _))))
 have k15: ∀(k:Nat) W' v,k<N->FailAt L D b1 b2 b3 b4 vl vd vc W'->PRep W' (yB W') (zF 3 (xR (rdsD D k))) v->Calls Tryz.prog 15 #[vl,v] W' fun e W''=> ∃p b o cap,e=.returned (.slice p (failP L (rdsD D k)).length cap)/\Below W'.heap.size W' W''/\kK W'' p b o (natI (failP L (rdsD D k))):=fun k W' v hk h hv=>by
  refine((c15 L (rdsD D k) (by omega) (hp k hk)).listC h.gl (Z:=yB W') (fun _ h=>h) (uA h.pl (uA hv (wI _ _)))).mono ?_;rintro e W'' ⟨v2,rfl,hb,hp2⟩;obtain⟨p,b,o,cap,rfl,hi⟩:=zbA hp2;rw[sL] at*
  exact⟨p,b,o,cap,rfl,hb,hi⟩
 refine callsIn_of_wp Tryz.func102 rfl trivial ?_ rfl;simp only[Tryz.ntmps102,YJ,Zu,ZK,Zb,Xr,YV,YU,Y7,Y1,Z7,ZT]
 gi_wp2
 gi_loopw [11] (fun q wr=> ∃(k:Nat) (pre:List U8),k<=N/\q=.int .i64 k/\pre.map (fun x=>x.1)=(failsD L D).take k/\pre.length=k/\J pre wr/\Kp w wr)
  (fun q wr=>match q with| .int _ z=>N-z.toNat|_=>0)
 case atStart=>exact⟨0,[],Zy _,rfl,rfl,rfl,h0,hKW⟩
 case round=>
  obtain⟨k,pre,hk,rfl,hpre,hpl,hJw,hKp⟩:=hrel;by_cases hlt:k<N
  ·have hlti:(k:Int)<N:=by omega
   have hF:=hW wr hKp;have hS0:SF L D b1 b2 b3 b4 vl vd vc w wr Kp wr.drew:=⟨hF.c2,hF.c3,hF.c4,hF.later (vP wr),hKb _ _ hKp (vP wr),vP wr⟩;have hSl: ∀A B,SF L D b1 b2 b3 b4 vl vd vc w wr Kp A->Below A.heap.size A B->SF L D b1 b2 b3 b4 vl vd vc w wr Kp B:=fun A B hA hb=>⟨(hA.2.2.2.1.later hb).c2,(hA.2.2.2.1.later hb).c3,(hA.2.2.2.1.later hb).c4,hA.2.2.2.1.later hb,hKb _ _ hA.2.2.2.2.1 hb,hA.2.2.2.2.2.trans (hb.mono hA.2.2.2.2.2.size)⟩
   clear hF;have A0:Aside _:=hF0;have A1:Aside _:=hY;have A2:Aside _:=hJ;have A3:Aside _:=hJw;clear hF0 hY hJ hJw h0 hW
   gi_wp2
   refine wpIn_wide.2 ?_
   go_region_held3 (fun W=>SF L D b1 b2 b3 b4 vl vd vc w wr Kp W) (first|exact hS0|exact hSl _ _ (by assumption) hb3|exact hSl _ _ (by assumption) hb2) (first|(go_at_call 15;refine(k15 k _ v18 hlt (by simp[*]) hp2).mono ?_;rintro e w3 ⟨p,b,o,cap,rfl,hb3,hi3⟩)|(go_at_call 38;refine(k38 k _ hlt (by simp[*])).mono ?_;rintro e w2 ⟨v18,rfl,hb2,hp2⟩))
   have hS3:SF L D b1 b2 b3 b4 vl vd vc w wr Kp w3:=by assumption
   have hx8: ∀x∈failP L (rdsD D k),x<8:=fun x hx=>ZO (dP.1 hx).1 hL
   have hm8:(failP L (rdsD D k)).length<=8:=ZX (Yr _ _) (by simpa using hL);have HX:Aside ((failsD L D).take (k+1)=(failsD L D).take k++[setN (failP L (rdsD D k))]):=show _=_ by
    rw[Zz (by rw[hlen];exact hlt)];simp[failsD]
   obtain⟨hi4,hi5⟩:=hi3;rw[sL] at hi4 hi5;have B3:Aside _:=hS3.2.2.2.2.1;have B4:Aside _:=hS3.2.2.2.2.2;obtain⟨F,hFe⟩: ∃F,failP L (rdsD D k)=F:=⟨_,rfl⟩;rw[hFe] at hx8 hm8 HX hi4 hi5;rw[hFe];have HI:Aside (∀j,j<F.length->w3.cell? ⟨b,o+j,none⟩=some (.int .i64 ((natI F).getD j 0))):=hi5;obtain⟨m,hm⟩: ∃m,F.length=m:=⟨_,rfl⟩;have HM:Aside (F.length=m):=hm;rw[hm] at hm8 hi4⊢;clear hi5 hS3 hp2 hFe hm k15 k38 hS0 hSl
   gi_wp2
   gi_loopw [7,21] (fun s q w5=> ∃j:Nat,j<=m/\q=.int .i64 j/\s=.int .u64 (setN (F.take j):Nat)/\w5=w3)
    (fun s q w5=>match q with| .int _ z=>m-z.toNat|_=>0)
   case atStart=>exact⟨0,Zy _,rfl,rfl,rfl⟩
   case round=>
    obtain⟨j,hj,rfl,rfl,rfl⟩:=hrel;by_cases hjm:j<m
    ·have hjF:j<F.length:=by rw[HM.out];exact hjm
     have hcj:=HI.out j hjF;have hgd:(natI F).getD j 0=(F[j]:Int):=by simp[natI,List.getD,hjF]
     rw[hgd] at hcj;obtain rfl:=hi4 (by omega);have hjmi:(j:Int)<m:=by omega
     have HT:Aside (setN (F.take (j+1))=setN (F.take j)|||(1<<<F[j])):=zqz hjF;have hxj:=hx8 _ (Zv hjF);have hs8:setN (F.take j)<2 ^ 8:=zbp fun q hq=>hx8 q (Xl hq)
     obtain⟨x,hx⟩: ∃x,F[j]=x:=⟨_,rfl⟩;obtain⟨s,hs⟩: ∃s,setN (F.take j)=s:=⟨_,rfl⟩;rw[hx] at hcj HT hxj;rw[hs] at HT hs8⊢;clear hx hs hgd hjF hx8
     gi_wp2
     refine⟨⟨j+1,hjm,by rw[Int.natCast_add];rfl,?_,trivial⟩,by simp only[];omega⟩;rw[HT.out,orK s x hs8 hxj]
    ·obtain rfl:j=m:=by omega
     have htk:F.take j=F:=ZU (by rw[HM.out];exact ZA _);rw[htk];have hjj: ¬(j:Int)<j:=by omega
     have hF8:setN F<256:=zbp (m:=8) fun q hq=>hx8 q hq
     obtain⟨fn,tmps,assign,body,hy,hR⟩:=A1.out pre ⟨setN F,hF8⟩ wr (A2.out _ _ _ A3.out B4.out) (by rw[hpl];exact hlt);simp only[zbK] at hy;clear hx8
     gi_wp2
     refine hR.mono ?_;rintro e W3 ⟨rfl,hJ3,hk3⟩
     gi_wp2
     refine⟨⟨k+1,pre++[⟨setN F,hF8⟩],hlt,by rw[Int.natCast_add];rfl,by rw[HX.out,ZV,hpre];rfl,by rw[Zr,hpl];rfl,hJ3,hKt _ _ _ B3.out hk3⟩,by simp only[];omega⟩
  ·obtain rfl:k=N:=by omega
   have hkk: ¬(k:Int)<k:=by omega
   have hall:pre.map (fun x=>x.1)=failsD L D:=by rw[hpre,ZU (by omega)]
   clear k38 k15 hW hY hJ
   gi_wp2
   go_end0
   exact⟨⟨_,rfl⟩,pre,hall,hJw⟩
end Go.Proofs
namespace Go.Ex
theorem zkn (x:Nat): ∀(F acc:List Nat),yW (F++[x]) acc=if x∈yW F acc then yW F acc else yW F acc++[x]
 |[],acc=>rfl
 |f::F,acc=>by rw[ZT,yW,yW,zkn x F]
theorem zbL (F acc:List Nat):(yW F acc).length<=F.length+acc.length:=by
 induction F generalizing acc with
 |nil=>simp[yW]
 |cons f F ih=>
  rw[yW];refine ZX (ih _) ?_;split<;>simp<;>omega
end Go.Ex
namespace Go.Proofs
open Go.RowKit Go.Shelf Go.Abs Go.Wd Go.Wire Go.Ex Go.Maps Go.ChangeMaps
def vJ (W:World) (mb:Nat) (S:List Nat) (m:Nat):Prop:= ∃D:DataW Unit,W.ownsMap Tryz.prog 71 (plainElem Tryz.prog 4) mb m D/\IsMap D/\ ∀x:Nat,x<256->D.atKey (.int .u64 (x:Int)) (.lit (.bool false))=.lit (.bool (decide (x∈S)))
theorem zko:Keyed Tryz.prog 71:=int_keyed Tryz.underlying71
theorem wfU (x:Nat) (h:x<256):(Lit.int .u64 (x:Int)).wf=true:=by
 have:IntKind.u64.wrap (x:Int)=x:=mK (by omega);have e1:IntKind.u64.min=0:=by decide
 have e2:IntKind.u64.max=18446744073709551615:=by decide
 simp[Lit.wf,this];rw[e1,e2];omega
theorem zkp (x:Nat) (h:x<256):keyOf Tryz.prog 71 (.int .u64 (x:Int))=some (.int .u64 (x:Int)):=keyOf_int_mk Tryz.underlying71 (wfU x h)
theorem vJ.made (w:World):vJ (w.alloc (.map #[] 0)) w.heap.size [] 0:=⟨.map [],World.ownsMap_made _ _ _ _,⟨[],rfl⟩,fun x _=>by simp;rfl⟩
theorem vJ.kept {W W':World} {mb m:Nat} {S:List Nat} {row:Option Nat} (h:vJ W mb S m) (hg:W.grownBy W' row) (hne:some mb≠row):vJ W' mb S m:=by
 obtain⟨D,h1,h2,h3⟩:=h;exact⟨D,h1.kept hg hne,h2,h3⟩
theorem vJ.setCell {W:World} {mb m:Nat} {S:List Nat} (h:vJ W mb S m) {a:Addr} (ha:mb≠a.block) (u:Value):vJ (W.setCell a u) mb S m:=by
 obtain⟨D,h1,h2,h3⟩:=h;exact⟨D,h1.setCell ha u,h2,h3⟩
theorem vJ.lt {W:World} {mb m:Nat} {S:List Nat} (h:vJ W mb S m):mb<W.heap.size:=by
 obtain⟨D,h1,_⟩:=h;exact h1.lt
theorem vJ.look {W:World} {mb m:Nat} {S:List Nat} (h:vJ W mb S m) {x:Nat} (hx:x<256):(Instr.lookup 115 (.map (some mb)) (.int .u64 (x:Int)) false).run Tryz.prog W=.ok (.bool (decide (x∈S))) W:=by
 obtain⟨D,h1,h2,h3⟩:=h;have hz:(zeroValue 4).run Tryz.prog W=.ok (.bool false) W:=by kernel_rfl
 obtain⟨v,ps,hr,hv⟩:=h1.lookup zko Tryz.underlying115 hz (plainElem_bool Tryz.underlying4 false) (zkp x hx);rw[h3 x hx] at hv;unfold plainElem at hv;rw[Tryz.underlying4] at hv;cases v<;>simp at hv
 rw[hr,hv.1]
theorem vJ.put {W:World} {mb m:Nat} {S:List Nat} (h:vJ W mb S m) (hm:m<maxLen) {x:Nat} (hx:x<256): ∃W',(Instr.mapUpdate 115 (.map (some mb)) (.int .u64 (x:Int)) (.bool true)).run Tryz.prog W=.ok () W'/\vJ W' mb (S++[x]) (m+1)/\W.grownBy W' (some mb):=by
 obtain⟨D,h1,h2,h3⟩:=h;obtain⟨W',hr,ho,hg⟩:=h1.update zko Tryz.underlying115 hm (zkp x hx) (plainElem_bool Tryz.underlying4 true);refine⟨W',hr,⟨_,ho,h2.put _ _,fun y hy=>?_⟩,hg⟩;by_cases e:y=x
 ·subst e
  rw[atKey_put_same h2 (show WideAt.IsKeyLit (.int .u64 (y:Int)) from trivial)];simp
 ·rw[atKey_put_other (fun q=>e (by injection q with _ q;omega)),h3 y hy]
  simp[e]
structure LkI (n0:Nat) (w W0:World) (N bv bs bm mb:Nat) (pre:List U8) (W:World):Prop where
 v: ∃vs:Value,W.heap[bv]?=some (.cells #[vs,.int .u64 ((pre.map fun x=>x.1).foldl (· &&& ·) n0:Nat),.int .u64 0] 73 (0,0))/\W.ownsRow N 71 1 vs (yW (pre.map fun x=>x.1) []).length ((yW (pre.map fun x=>x.1) []).map fun(s:Nat)=>Value.int .u64 (s:Int))
 s:W.heap[bs]?=some (.cells #[.int .u64 ((pre.map fun x=>x.1).foldl (· ||| ·) 0:Nat)] 71 (0,0))
 m:W.heap[bm]?=some (.cells #[.map (some mb)] 115 (0,0))
 mp:vJ W mb (yW (pre.map fun x=>x.1) []) pre.length
 kp:KpR N bv bs mb W0 W
 bl:Below w.heap.size w W
theorem zkq {W:World} {base e k:Nat} {v:Value} {xs:List Value} (h:W.ownsRow base e 1 v k xs) {g:Nat} (hg:v.ownBlock=some g): ∃cur,W.heap[g]?=some (.cells cur e (0,0))/\base<=g:=by
 rcases h with⟨_,⟨hv,_⟩|⟨g2,cap,cur,hv,hb,hh,_⟩⟩
 ·subst hv;simp[Value.ownBlock] at hg
 ·subst hv
  simp[Value.ownBlock] at hg;subst hg;exact⟨cur,hh,hb⟩
theorem LkI.own {n0:Nat} {w W0:World} {N bv bs bm mb:Nat} (hv:bv<N) (hs:bs<N) (hm:bm<N) (hmb:mb<N) (hw:w.heap.size<=N) (hW:N<=W0.heap.size):OwnFrom N (LkI n0 w W0 N bv bs bm mb):=by
 rintro pre A B row ⟨⟨vs,k1,k2⟩,k3,k4,k5,k6,k7⟩ hg hr;have hsz:N<=A.heap.size:=ZX hW k6.1;have hb: ∀j,j<N->B.heap[j]?=A.heap[j]?:=fun j hj=>hg.block j (by omega) (fun e=>by have:=(hr j e.symm).1;omega)
 refine⟨⟨vs,(hb _ hv).trans k1,k2.kept hg ?_⟩,(hb _ hs).trans k3,(hb _ hm).trans k4,k5.kept hg (fun e=>by have:=(hr mb e.symm).1;omega),k6.trans (KpR.grown hsz hg fun r e=>(hr r e).1),k7.grown hg (ZX hw hsz) fun r e=>by have:=(hr r e).1;omega⟩;cases q:vs.ownBlock with
 |none=>exact .inl rfl
 |some g=>
  right;intro e;obtain⟨cur,hc,_⟩:=zkq k2 q;obtain⟨_,o,ho,hno⟩:=hr g e.symm;rw[hc] at ho;cases ho;cases hno
theorem zkr {n0:Nat} {w W0:World} {N bv bs bm mb:Nat} {pre:List U8} {W W3:World} {vs:Value} {x:U8} (h:LkI n0 w W0 N bv bs bm mb pre W) (nv:bv<N) (ns:bs<N) (nm:mb<N) (nb:bm<N) (d1:bv≠bs) (d2:bv≠mb) (d3:bs≠mb) (d4:bm≠bv) (d5:bm≠bs) (gv:w.heap.size<=bv) (gs:w.heap.size<=bs) (hN:N<=W.heap.size)
  (hv:W3.heap[bv]?=some (.cells #[vs,.int .u64 ((pre.map fun x=>x.1).foldl (· &&& ·) n0:Nat),.int .u64 0] 73 (0,0))) (hs:W3.heap[bs]?=W.heap[bs]?) (hm:W3.heap[bm]?=W.heap[bm]?)
  (hr:W3.ownsRow N 71 1 vs (yW ((pre++[x]).map fun x=>x.1) []).length ((yW ((pre++[x]).map fun x=>x.1) []).map fun(s:Nat)=>Value.int .u64 (s:Int))) (hp:vJ W3 mb (yW ((pre++[x]).map fun x=>x.1) []) (pre.length+1))
  (kp:KpR N bv bs mb W W3) (bl:Below w.heap.size w W3) (kf:KeepsFrom N W W3) (a b:Nat) (ha:a=((pre++[x]).map fun x=>x.1).foldl (· &&& ·) n0) (hb:b=((pre++[x]).map fun x=>x.1).foldl (· ||| ·) 0):
  KeepsFrom N W ((W3.setCell ⟨bv,1,none⟩ (.int .u64 (a:Int))).setCell ⟨bs,0,none⟩ (.int .u64 (b:Int)))/\KpR N bv bs mb W ((W3.setCell ⟨bv,1,none⟩ (.int .u64 (a:Int))).setCell ⟨bs,0,none⟩ (.int .u64 (b:Int)))/\LkI n0 w W0 N bv bs bm mb (pre++[x]) ((W3.setCell ⟨bv,1,none⟩ (.int .u64 (a:Int))).setCell ⟨bs,0,none⟩ (.int .u64 (b:Int))):=by
 subst ha hb;have e1:=uI W3 bv 1 _ 73 (0,0) (.int .u64 (((pre++[x]).map fun x=>x.1).foldl (· &&& ·) n0:Nat)) hv;obtain⟨X,hX⟩: ∃X,W3.setCell ⟨bv,1,none⟩ (.int .u64 (((pre++[x]).map fun x=>x.1).foldl (· &&& ·) n0:Nat))=X:=⟨_,rfl⟩;have oX: ∀j,j≠bv->X.heap[j]?=W3.heap[j]?:=fun j hj=>by rw[<-hX];exact uV _ _ _ _ hj
 have szX:X.heap.size=W3.heap.size:=by rw[<-hX];simp
 have rX:X.ownsRow N 71 1 vs (yW ((pre++[x]).map fun x=>x.1) []).length ((yW ((pre++[x]).map fun x=>x.1) []).map fun(s:Nat)=>Value.int .u64 (s:Int)):=by rw[<-hX];exact ownsRow_setCell_below hr nv _
 have pX:vJ X mb (yW ((pre++[x]).map fun x=>x.1) []) (pre.length+1):=by rw[<-hX];exact hp.setCell (fun e=>d2 e.symm) _
 have bX:Below w.heap.size w X:=by rw[<-hX];exact bl.setCell (p:=⟨bv,1,none⟩) gv _
 rw[hX] at e1⊢;have hsX:X.heap[bs]?=some (.cells #[.int .u64 ((pre.map fun x=>x.1).foldl (· ||| ·) 0:Nat)] 71 (0,0)):=(oX bs (Ne.symm d1)).trans (hs.trans h.s);have e2:=uI X bs 0 _ 71 (0,0) (.int .u64 (((pre++[x]).map fun x=>x.1).foldl (· ||| ·) 0:Nat)) hsX;have oY: ∀j,j≠bs->(X.setCell ⟨bs,0,none⟩ (.int .u64 (((pre++[x]).map fun x=>x.1).foldl (· ||| ·) 0:Nat))).heap[j]?=X.heap[j]?:=fun j hj=>uV _ _ _ _ hj
 have rY:=ownsRow_setCell_below rX (a:=⟨bs,0,none⟩) ns (.int .u64 (((pre++[x]).map fun x=>x.1).foldl (· ||| ·) 0:Nat));have pY:=pX.setCell (a:=⟨bs,0,none⟩) (fun e=>d3 e.symm) (.int .u64 (((pre++[x]).map fun x=>x.1).foldl (· ||| ·) 0:Nat));have bY:=bX.setCell (p:=⟨bs,0,none⟩) gs (.int .u64 (((pre++[x]).map fun x=>x.1).foldl (· ||| ·) 0:Nat));have szY:(X.setCell ⟨bs,0,none⟩ (.int .u64 (((pre++[x]).map fun x=>x.1).foldl (· ||| ·) 0:Nat))).heap.size=W3.heap.size:=by simp[szX]
 generalize X.setCell ⟨bs,0,none⟩ (.int .u64 (((pre++[x]).map fun x=>x.1).foldl (· ||| ·) 0:Nat))=Y at e2 oY rY pY bY szY⊢;have oW: ∀j,j≠bv->j≠bs->Y.heap[j]?=W3.heap[j]?:=fun j h1 h2=>(oY j h2).trans (oX j h1)
 have kY:KpR N bv bs mb W Y:=⟨by have:=kp.1;omega,fun j hj h1 h2 h3=>(oW j h1 h2).trans (kp.2 j hj h1 h2 h3)⟩;refine⟨⟨by have:=kf.size;omega,fun j o hj ho hc=>(oW j (by omega) (by omega)).trans (kf.same j o hj ho hc)⟩,kY,⟨⟨vs,(oY bv d1).trans e1,rY⟩,e2,((oW bm d4 d5).trans hm).trans h.m,by rw[Zr];exact pY,h.kp.trans kY,bY⟩⟩
end Go.Proofs
namespace Go.Abs
open Go.Proofs Go.RowKit Go.Lib Go.Wd Go.Wire Go.Ex
theorem Spec.list2C {P:Program} {f:FuncId} {xs:List V} {c:C} {k k':IntKind} {n m:Int} (h:Spec P f xs (fun r'=>r'=.tup [.k (.c c),.int k n,.int k' m])) {W:World} (hG:yU (base W)) {Z:Bk->Prop} (hz: ∀b,Z b->b.2<W.heap.size) {vs:Array Value} (ha:wX W Z xs vs.toList):
  Calls P f vs W fun e W'=> ∃v,e=.returned (.tuple #[v,.int k n,.int k' m])/\Below W.heap.size W W'/\PRep W' (yB W') c v:=by
 refine(h.2 W Z vs hG hz ha).mono ?_;rintro e w' ⟨v,r',rfl,rfl,_,hrep⟩;obtain⟨κ,hi⟩:=hrep 0;have h0:=hi.tmps 0;obtain⟨us,hu,hl,hv⟩:=h0;have hu':v=.tuple us:=hu;subst hu';obtain⟨l⟩:=us
 match l,hl,hv with
 |[x,y,z],_,hv=>
  have h1:=vO hv.2.1.2;have h2:=vO hv.2.2.1.2;subst h1 h2;exact⟨x,rfl,dB hi.kept,(show PRep w' _ c x from hv.1.2).mono (fun _ _=>rfl) fun b hb=>hb.2.1⟩
theorem zks (L:List Dmd):Plain 8 (L.map zM):=by
 refine⟨by decide,fun r hr=>?_,fun r hr c hc=>?_⟩
 ·obtain⟨m,_,rfl⟩:=ZL.1 hr;rfl
 ·obtain⟨m,_,rfl⟩:=ZL.1 hr
  exact zjG m c hc
end Go.Abs
namespace Go.Proofs
open Go.RowKit Go.Shelf Go.Abs Go.Wd Go.Wire Go.Ex Go.Maps Go.ChangeMaps
theorem zkt {w:World} {Z:Bk->Prop} {L:List Dmd} {v:Value} (h:PRep w Z (zF 8 (L.map zM)) v): ∃p b o cap,v=.slice p L.length cap/\iT w L p b o:=by
 obtain⟨p,cap,rfl,hq,_⟩:=(zks L).slice h;rw[Ze] at hq;by_cases h0:L.length=0
 ·refine⟨p,0,0,cap,by rw[Ze],fun hk=>absurd h0 (by omega),fun k hk=>absurd hk (by omega)⟩
 ·obtain⟨b,o,rfl,hc⟩:=hq (by omega)
  have hcell: ∀k,k<L.length-> ∀j u,(dmV (L.getD k yI))[j]?=some u->w.cell? ⟨b,o+k*8+j,none⟩=some u:=by
   intro k hk j u hu;have hr:(L.map zM)[k]?=some (zM L[k]):=by simp[hk]
   have hg:L.getD k yI=L[k]:=by rw[Zm,Zk hk];rfl
   rw[hg] at hu;unfold dmV at hu;rw[Xh,ZD] at hu;obtain⟨c,hc1,rfl⟩:=Zf.1 hu;have:=((zks L).at hr hc1).1;have:=hc _ _ this
   rwa [<-YM] at this
  refine⟨_,b,o,cap,by rw[Ze],fun _=>⟨rfl,?_⟩,hcell⟩;exact World.block_lt_of_cell? _ _ (hcell 0 (by omega) 0 _ rfl)
theorem zqB (L:List Dmd) (hL:L.length<=8) (hm: ∀m∈L,DmdS m) (w:World) (hG:yU (base w)) (v:Value) {Z:Bk->Prop} (h:PRep w Z (zF 8 (L.map zM)) v):
  Calls Tryz.prog 63 #[v] w fun e w'=> ∃X:Txt,e=.returned (.tuple #[.string ⟨X.toArray⟩,.bool (vX L)])/\Below w.heap.size w w':=by
 obtain⟨p,b,o,cap,rfl,hD⟩:=zkt h;exact zqy L hL hm w hG p cap b o hD
theorem zqC (vl vd vc:Value) (n:Int) (w:World) (h1:vl.oneCell'=true) (h2:vd.oneCell'=true) (h3:vc.oneCell'=true):Calls Tryz.prog 64 #[vl,vd,vc,.int .i64 n] w fun e w'=>e=.returned (.func (.func 102) #[] #[.pointer (some ⟨w.heap.size+1+1+1,0,none⟩),.pointer (some ⟨w.heap.size,0,none⟩),.pointer (some ⟨w.heap.size+1,0,none⟩),.pointer (some ⟨w.heap.size+1+1,0,none⟩)])/\
   w'=(((w.alloc (.cells #[vl] 22)).alloc (.cells #[vd] 23)).alloc (.cells #[vc] 30)).alloc (.cells #[.int .i64 n] 3):=by
 go_enter Tryz.func64,Tryz.ntmps64
 go_wp2
 go_ret
 exact⟨rfl,rfl⟩
theorem zqD {s t:Nat} (hs:s<256) (ht:t<256):bits BinOp.and IntKind.u64 (s:Int) (t:Int)=((s&&&t:Nat):Int):=iQ (s:=s) (t:=t) (by omega) (by omega)
theorem zqE {s t:Nat} (hs:s<256) (ht:t<256):bits BinOp.or IntKind.u64 (s:Int) (t:Int)=((s|||t:Nat):Int):=zkm hs ht
theorem zqF {s t:Nat} (hs:s<256):bits BinOp.andNot IntKind.u64 (s:Int) (t:Int)=((andN s t:Nat):Int):=zj5 (s:=s) (t:=t) (by omega)
end Go.Proofs
namespace Go.Ex
open Go.Lib Go.Wd Go.Wire Go.Abs
def lookE (L:List Dmd) (D:List Dcm):Int:=if vX L=true then(cnts D).2.2 else 2
end Go.Ex
namespace Go.Proofs
open Go.RowKit Go.Shelf Go.Abs Go.Wd Go.Wire Go.Ex Go.Maps Go.ChangeMaps
attribute [local go_sem] Oper.semAt_some
theorem zbM {W:World} {b t:Nat} {x y z:Value} (h:W.heap[b]?=some (.cells #[x,y,z] t (0,0))) (a c d:Value):(((W.setCell ⟨b,0,none⟩ a).setCell ⟨b,1,none⟩ c).setCell ⟨b,2,none⟩ d).heap[b]?=some (.cells #[a,c,d] t (0,0)):=
 uI _ b 2 _ t (0,0) d (uI _ b 1 _ t (0,0) c (uI W b 0 _ t (0,0) a h))
theorem zqG {n:Nat} (hn:n<=8):IntKind.u64.wrap (IntKind.u64.wrap (2 ^ n)-1)=((2 ^ n-1:Nat):Int):=by
 have key: ∀n:Fin 9,IntKind.u64.wrap (IntKind.u64.wrap (2 ^ n.1)-1)=((2 ^ n.1-1:Nat):Int):=by decide
 exact key ⟨n,by omega⟩
theorem zku {W:World} {j:Nat} {o:Obj} (h:W.heap[j]?=some o):j<W.heap.size:=(Zs.1 h).1
theorem zqH (w:World) (o0 o1 o2 o3 o4 o5 o6 o7:Obj):((((((((w.alloc o0).alloc o1).alloc o2).alloc o3).alloc o4).alloc o5).alloc o6).alloc o7).heap.size=w.heap.size+8/\Below w.heap.size w ((((((((w.alloc o0).alloc o1).alloc o2).alloc o3).alloc o4).alloc o5).alloc o6).alloc o7)/\
  ((((((((w.alloc o0).alloc o1).alloc o2).alloc o3).alloc o4).alloc o5).alloc o6).alloc o7).heap[w.heap.size]?=some o0/\((((((((w.alloc o0).alloc o1).alloc o2).alloc o3).alloc o4).alloc o5).alloc o6).alloc o7).heap[w.heap.size+1]?=some o1/\((((((((w.alloc o0).alloc o1).alloc o2).alloc o3).alloc o4).alloc o5).alloc o6).alloc o7).heap[w.heap.size+1+1]?=some o2/\((((((((w.alloc o0).alloc o1).alloc o2).alloc o3).alloc o4).alloc o5).alloc o6).alloc o7).heap[w.heap.size+1+1+1]?=some o3/\
  ((((((((w.alloc o0).alloc o1).alloc o2).alloc o3).alloc o4).alloc o5).alloc o6).alloc o7).heap[w.heap.size+1+1+1+1]?=some o4/\((((((((w.alloc o0).alloc o1).alloc o2).alloc o3).alloc o4).alloc o5).alloc o6).alloc o7).heap[w.heap.size+1+1+1+1+1]?=some o5/\((((((((w.alloc o0).alloc o1).alloc o2).alloc o3).alloc o4).alloc o5).alloc o6).alloc o7).heap[w.heap.size+1+1+1+1+1+1]?=some o6/\((((((((w.alloc o0).alloc o1).alloc o2).alloc o3).alloc o4).alloc o5).alloc o6).alloc o7).heap[w.heap.size+1+1+1+1+1+1+1]?=some o7:=by
 have h:((((((((w.alloc o0).alloc o1).alloc o2).alloc o3).alloc o4).alloc o5).alloc o6).alloc o7).heap=(((((((w.heap.push o0).push o1).push o2).push o3).push o4).push o5).push o6).push o7:=rfl;have hs:(((((((w.heap.push o0).push o1).push o2).push o3).push o4).push o5).push o6).push o7=w.heap++ #[o0,o1,o2,o3,o4,o5,o6,o7]:=by
  apply X1;simp only[Array.toList_push,Array.toList_append,Z3,ZT,Z7]
 rw[h,hs];refine⟨by simp,⟨rfl,rfl,rfl,by rw[h,hs,Array.size_append];exact Nat.le_add_right _ _,fun k hk=>by rw[h,hs,Y2 hk]⟩,?_,?_,?_,?_,?_,?_,?_,?_⟩
 all_goals (rw[Array.getElem?_append_right (by omega)];simp[YM])
theorem zqI {w W:World} (h:yU (base w)) (h1:w.heap.size<=W.heap.size) (h2: ∀j,j<w.heap.size->W.heap[j]?=w.heap[j]?):yU (base W):=by
 refine⟨fun g l hg=>?_,fun g p hg=>?_⟩
 ·obtain⟨h3,h4⟩:=h.1 g l hg
  refine⟨ZO h3 h1,fun j hj=>?_⟩;show W.cell? _=_;rw[World.cell?_of_block (w:=w) (a:=⟨g,j,none⟩) (h2 g h3)];exact h4 j hj
 ·obtain⟨h3,b,h4,h5⟩:=h.2 g p hg
  exact⟨ZO h3 h1,b,(h2 g h3).trans h4,h5⟩
theorem zqJ (L:List Dmd) (D:List Dcm) (hL:L.length<=8) (hm: ∀m∈L,DmdS m) (hD:uT D) (hp:(cnts D).2.2=0-> ∀i,i<yY D->wU (rdsD D i)) (w:World) (hG:yU (base w)) (vl vd:Value) (hl:PRep w (yB w) (zF 8 (L.map zM)) vl) (hd:PRep w (yB w) (zF 2 (D.map zV)) vd):
  Calls Tryz.prog 32 #[vl,vd] w fun e w'=>(lookE L D≠0/\e=.returned (.tuple #[.agg #[.slice none 0 0,.int .u64 0,.int .u64 0],.int .i64 (lookE L D)])/\Below w.heap.size w w')\/
   (lookE L D=0/\ ∃vs,e=.returned (.tuple #[.agg #[vs,.int .u64 ((viewD L D).never:Nat),.int .u64 ((viewD L D).doubt:Nat)],.int .i64 0])/\Below w.heap.size w w'/\w'.ownsRow w.heap.size 71 1 vs (viewD L D).sets.length ((viewD L D).sets.map fun(s:Nat)=>Value.int .u64 (s:Int))):=by
 refine(callsIn_wide (n:=8)).1 ?_;have hn1:1<=8:=by decide
 have ol:=hl.oneCell;have od:=hd.oneCell;obtain⟨p,_,_,cap,rfl,_⟩:=zkt hl;obtain⟨n,hN⟩: ∃n,L.length=n:=⟨_,rfl⟩;have hN':Aside (L.length=n):=hN;rw[hN] at hL hl ol⊢;have k63: ∀W,Below w.heap.size w W->Calls Tryz.prog 63 #[.slice p n cap] W fun e W'=> ∃X:Txt,e=.returned (.tuple #[.string ⟨X.toArray⟩,.bool (vX L)])/\Below W.heap.size W W':=fun W hb=>zqB L (by rw[hN];omega) hm W (hG.later (wB hb)) _ (uU hl hb)
 have k37: ∀W,Below w.heap.size w W->Calls Tryz.prog 37 #[vd] W fun e W'=> ∃v,e=.returned (.tuple #[v,.int .i64 (cnts D).2.1,.int .i64 (cnts D).2.2])/\Below W.heap.size W W'/\PRep W' (yB W') (zF 1 (zG (cnts D).1)) v:=fun W hb=>(c37 D hD).list2C (hG.later (wB hb)) (Z:=yB W) (fun _ h=>h) (uA (uU hd hb) (wI _ _))
 have hB0: ∀a,Below w.heap.size w (w.alloc a):=fun a=>(Below.refl _ w).alloc (ZA _) _
 have hE:lookE L D=if vX L=true then(cnts D).2.2 else 2:=rfl
 obtain⟨x2,hX⟩: ∃X,vX L=X:=⟨_,rfl⟩;clear hN;have A1:Aside _:=hl;have A2:Aside _:=hd;have A3:Aside _:=hp;have A4:Aside (yU (base w)):=hG;clear hl hd hp hG hm;rw[hX] at k63 hE;cases x2 with
 |false=>
  rw[if_neg (by simp)] at hE;rw[hE];refine callsIn_of_wp_marks Tryz.func32 rfl trivial ?_;simp only[Tryz.ntmps32,YJ,Zu,ZK,Zb,Xr,YV,YU,Y7,Y1,Z7,ZT]
  gi_wp2_with (refine⟨trivial,?_⟩;gi_at_call 63;refine(callsIn_wide.2 (k63 _ (hB0 _))).mono ?_;rintro e w1 ⟨x1,rfl,hb1⟩;have q4:=(hb1.block w.heap.size (by simp only[World.size_alloc];omega)).trans (World.alloc_heap_new w _);obtain⟨c40,c41,c42⟩:=uW q4;have e7: ∀j,w1.frozen? ⟨w.heap.size,j,none⟩=false:=(fun j=>by simp[World.frozen?,q4]);have e8:=e7 0;have e9:=e7 1;have e10:=e7 2;have hB1:=(hB0 (.cells #[.slice none 0 0,.int .u64 0,.int .u64 0] 73)).trans (hb1.mono (hB0 _).size))
  refine⟨_,mJ rfl _ _ rfl (zbM q4 _ _ _) Tryz.underlying73 (by kernel_rfl),.inl ⟨by decide,rfl,((hB1.setCell (p:=⟨w.heap.size,0,none⟩) (ZA _) _).setCell (p:=⟨w.heap.size,1,none⟩) (ZA _) _).setCell (p:=⟨w.heap.size,2,none⟩) (ZA _) _⟩⟩
 |true=>
  rw[if_pos rfl] at hE;by_cases h0:(cnts D).2.2=0
  ·rw[h0] at hE k37
   rw[hE];have hok:=vQ h0;have hmm:=@run_makeMap Tryz.prog;have hnn:=hok.n;obtain⟨n0,hn0,hn0e⟩: ∃n0:Nat,IntKind.u64.wrap (IntKind.u64.wrap (2 ^ n)-1)=(n0:Int)/\Aside (n0=2 ^ n-1):=⟨2 ^ n-1,zqG hL,rfl⟩;obtain⟨M,hM⟩: ∃M,yY D=M:=⟨_,rfl⟩;have hM':Aside (yY D=M):=hM;rw[hM] at hnn;rw[hnn] at k37;have k64:=fun vc W h=>zqC (.slice p n cap) vd vc (M:Int) W ol od h
   clear hnn hM;refine callsIn_of_wp_marks Tryz.func32 rfl trivial ?_;simp only[Tryz.ntmps32,YJ,Zu,ZK,Zb,Xr,YV,YU,Y7,Y1,Z7,ZT]
   gi_wp2_with (first|(refine⟨trivial,?_⟩;gi_at_call 64;refine(callsIn_wide.2 (k64 vc _ hpc.oneCell)).mono ?_;rintro e w3 ⟨rfl,hw3⟩)|(refine⟨trivial,?_⟩;gi_at_call 63;refine(callsIn_wide.2 (k63 _ (hB0 _))).mono ?_;rintro e w1 ⟨x1,rfl,hb1⟩;have hB1:=(hB0 (.cells #[.slice none 0 0,.int .u64 0,.int .u64 0] 73)).trans (hb1.mono (hB0 _).size);have q4:=(hb1.block w.heap.size (by simp only[World.size_alloc];omega)).trans (World.alloc_heap_new w _))|(refine⟨trivial,?_⟩;gi_at_call 37;refine(callsIn_wide.2 (k37 _ hB1)).mono ?_;rintro e w2 ⟨vc,rfl,hb2,hpc⟩;have q5:=(hb2.block w.heap.size (wJ q4)).trans q4;obtain⟨c40,c41,c42⟩:=uW q5;have e7: ∀j,w2.frozen? ⟨w.heap.size,j,none⟩=false:=(fun j=>by simp[World.frozen?,q5]);have e8:=e7 0;have e9:=e7 1;have e10:=e7 2;have hB2:=hB1.trans (hb2.mono hB1.size)))
   have hal:=zqH w2 (.cells #[.slice none 0 0,.int .u64 (n0:Int),.int .u64 0] 73) (.map #[] 0) (.cells #[.map (some (w2.heap.size+1))] 115) (.cells #[.int .u64 0] 71) (.cells #[.slice p n cap] 22) (.cells #[vd] 23) (.cells #[vc] 30) (.cells #[.int .i64 (M:Int)] 3);rw[<-hw3] at hal⊢;obtain⟨hsz,hb23,a0,a1,a2,a3,a4,a5,a6,a7⟩:=hal;have hmp:vJ w3 (w2.heap.size+1) [] 0:=by
    rw[hw3];have hmd:=vJ.made (w2.alloc (.cells #[.slice none 0 0,.int .u64 (n0:Int),.int .u64 0] 73));rw[World.size_alloc] at hmd;exact(((((hmd.kept (World.grownBy_alloc _ _ none) (by simp)).kept (World.grownBy_alloc _ _ none) (by simp)).kept (World.grownBy_alloc _ _ none) (by simp)).kept (World.grownBy_alloc _ _ none) (by simp)).kept (World.grownBy_alloc _ _ none) (by simp)).kept (World.grownBy_alloc _ _ none) (by simp)
   have hww:=hB2.size;have hB3:Below w.heap.size w w3:=hB2.trans (hb23.mono hB2.size);clear hw3;have hpl:PRep w2 (yB w2) (zF 8 (L.map zM)) (.slice p n cap):=uU A1.out hB2;have hpd:PRep w2 (yB w2) (zF 2 (D.map zV)) vd:=uU A2.out hB2;have hFA: ∀W,KpR w3.heap.size w2.heap.size (w2.heap.size+1+1+1) (w2.heap.size+1) w3 W->FailAt L D (w2.heap.size+1+1+1+1+1+1+1) (w2.heap.size+1+1+1+1) (w2.heap.size+1+1+1+1+1) (w2.heap.size+1+1+1+1+1+1) (.slice p n cap) vd vc W:=by
    intro W hK;have hlow: ∀j,j<w2.heap.size->W.heap[j]?=w2.heap[j]?:=fun j hj=>(hK.2 j (by omega) (by omega) (by omega) (by omega)).trans (hb23.block j hj)
    have hwz:w2.heap.size<=W.heap.size:=by have:=hK.1;omega
    have rep: ∀c v,PRep w2 (yB w2) c v->PRep W (yB W) c v:=fun c v h=>h.mono (fun b hb=>hlow b.2 hb) fun b hb=>ZO hb hwz
    have box: ∀j v t,w2.heap.size+1+1+1<j->w3.heap[j]?=some (.cells #[v] t (0,0))->W.cell? ⟨j,0,none⟩=some v:=fun j v t h1 h2=>rO ((hK.2 j (Zs.1 h2).1 (by omega) (by omega) (by omega)).trans h2)
    refine⟨?_,box _ _ _ (by omega) a4,box _ _ _ (by omega) a5,box _ _ _ (by omega) a6,rep _ _ hpl,rep _ _ hpd,rep _ _ hpc,zqI (A4.out.later (wB hB2)) hwz hlow⟩;rw[hM'.out];exact box _ _ _ (by omega) a7
   obtain⟨Q0,hQ0⟩: ∃Q0:Prop,Q0:=⟨True,trivial⟩;refine zi8 (α:=U8) rfl (by decide) (gf:=102) (lb:= #[.pointer (some ⟨w2.heap.size+1+1+1+1+1+1+1,0,none⟩),.pointer (some ⟨w2.heap.size+1+1+1+1,0,none⟩),.pointer (some ⟨w2.heap.size+1+1+1+1+1,0,none⟩),.pointer (some ⟨w2.heap.size+1+1+1+1+1+1,0,none⟩)]) rfl trivial (enters_of Tryz.func102 (by kernel_rfl) rfl)
    (zqA 7 (by decide) L D (by rw[hN'.out];exact hL) hD hok (A3.out h0) _ _ _ _ (.slice p n cap) vd vc w3 (KpR w3.heap.size w2.heap.size (w2.heap.size+1+1+1) (w2.heap.size+1)) ⟨ZA _,fun _ _ _ _ _=>rfl⟩ (fun _ _ _=>KpR.trans) (fun A B hA hb=>hA.trans (KpR.grown hA.1 (kA hb) (fun r e=>by cases e))) hFA)
    (fun _ _ _=>KpR.trans) (fun A B row hs hg hr=>KpR.grown hs hg hr) (fun _=>rfl) (LkI n0 w w3 w3.heap.size w2.heap.size (w2.heap.size+1+1+1) (w2.heap.size+1+1) (w2.heap.size+1)) (LkI.own (by omega) (by omega) (by omega) (by omega) hB3.size (ZA _)) ?h0
    (fun x a' W'=>a'={tmps:= #[.slice p n cap,vd,undef,undef,.pointer (some ⟨w.heap.size,0,none⟩),.int .i64 0,.string ⟨x1.toArray⟩,.bool true,vc,.int .i64 (M:Int),.int .i64 0,.pointer (some ⟨w2.heap.size,0,none⟩),.pointer (some ⟨w2.heap.size+1+1,0,none⟩),.pointer (some ⟨w2.heap.size+1+1+1,0,none⟩),.int .u64 (x.1:Int),.tuple #[.string ⟨x1.toArray⟩,.bool true],.slice p n cap,.tuple #[.string ⟨x1.toArray⟩,.bool true],.string ⟨x1.toArray⟩,.bool true,.bool true,.bool false,undef,.tuple #[vc,.int .i64 (M:Int),.int .i64 0],vd,.tuple #[vc,.int .i64 (M:Int),.int .i64 0],vc,.int .i64 (M:Int),.int .i64 0,.int .i64 0,.bool false,undef,undef,.slice p n cap,.int .i64 (n:Int),.int .u64 (IntKind.u64.wrap (2 ^ n)),.int .u64 (n0:Int),.agg #[.slice none 0 0,.int .u64 (n0:Int),.int .u64 0],.map (some (w2.heap.size+1)),.slice p n cap,vd,vc,.int .i64 (M:Int),.func (.func 102) #[] #[.pointer (some ⟨w2.heap.size+1+1+1+1+1+1+1,0,none⟩),.pointer (some ⟨w2.heap.size+1+1+1+1,0,none⟩),.pointer (some ⟨w2.heap.size+1+1+1+1+1,0,none⟩),.pointer (some ⟨w2.heap.size+1+1+1+1+1+1,0,none⟩)],.int .u64 (x.1:Int),undef,undef,undef,undef,undef,undef,undef,undef,undef,undef,undef,undef,undef,undef,undef,undef,undef,undef,undef,undef,undef,undef,undef,undef,undef,undef,undef,undef,undef,undef,undef],defers:=[]}) (fun x a' W' l ob ob' h _ _ _=>h) ?assign ?body ?done
   case h0=>
    exact⟨⟨.slice none 0 0,a0,World.ownsRow_nil _ _ _ _⟩,a3,a2,hmp,⟨ZA _,fun _ _ _ _ _=>rfl⟩,hB3⟩
   case assign=>
    intro l pre x W' K hI hsz' hK;simp only[zbK]
    gi_wp2
    exact hK _ _ rfl hI (KeepsFrom.refl _ _) ⟨ZA _,fun _ _ _ _ _=>rfl⟩ hsz'
   case body=>
    rintro l pre x a' W rfl hI hlen hsz2;have I0:Aside (LkI n0 w w3 w3.heap.size w2.heap.size (w2.heap.size+1+1+1) (w2.heap.size+1+1) (w2.heap.size+1) pre W):=hI;obtain⟨⟨vs,hv,hr⟩,hs,hbm,hmS,hkp,hbl⟩:=hI;obtain⟨F,hF⟩: ∃F,pre.map (fun x:U8=>x.1)=F:=⟨_,rfl⟩;have hF8: ∀f∈F,f<2 ^ 8:=by
     intro f hf;rw[<-hF] at hf;obtain⟨y,_,rfl⟩:=ZL.1 hf;exact y.2
    have hx8:=x.2;have hFx:Aside ((pre++[x]).map (fun x:U8=>x.1)=F++[x.1]):=show _=_ by rw[ZV,hF];rfl
    rw[hF] at hv hr hs hmS;have hA8:F.foldl (· &&& ·) n0<2 ^ 8:=xM.2 fun k hk=>by
     rw[dM,Zp] at hk;exact xM.1 (ZO (show n0<2 ^ n by rw[hn0e.out];have:=Nat.two_pow_pos n;omega) (ZW (by decide) hL)) k hk.1
    have hO8:F.foldl (· ||| ·) 0<2 ^ 8:=xM.2 fun k hk=>by
     rw[iM,YW,Yd,Yx] at hk;obtain⟨f,hf,hk⟩:=hk;exact xM.1 (hF8 f hf) k hk
    have hAe:Aside (F.foldl (· &&& ·) n0&&&x.1=((pre++[x]).map fun x:U8=>x.1).foldl (· &&& ·) n0):=show _=_ by rw[hFx.out,XI];rfl
    have hOe:Aside (F.foldl (· ||| ·) 0|||x.1=((pre++[x]).map fun x:U8=>x.1).foldl (· ||| ·) 0):=show _=_ by rw[hFx.out,XI];rfl
    have hon:=zkn x.1 F [];rw[<-hFx.out] at hon;have hol:=zbL F [];have hpl2:F.length=pre.length:=by rw[<-hF,Ze]
    obtain⟨AA,hAA⟩: ∃A,F.foldl (· &&& ·) n0=A:=⟨_,rfl⟩;obtain⟨OO,hOO⟩: ∃O,F.foldl (· ||| ·) 0=O:=⟨_,rfl⟩;obtain⟨SS,hSS⟩: ∃S,yW F []=S:=⟨_,rfl⟩;rw[hAA] at hv hA8 hAe;rw[hOO] at hs hO8 hOe;rw[hSS] at hr hmS hon hol;have hlk:=hmS.look hx8;have hand:bits BinOp.and IntKind.u64 (AA:Int) (x.1:Int)=((AA&&&x.1:Nat):Int):=zqD hA8 hx8;have hor:bits BinOp.or IntKind.u64 (OO:Int) (x.1:Int)=((OO|||x.1:Nat):Int):=zqE hO8 hx8;obtain⟨e0,e1,e2⟩:=uW hv;have e3:=rO hs;have e4:=rO hbm;have f0:W.frozen? ⟨w2.heap.size,0,none⟩=false:=by simp[World.frozen?,hv]
    have f1:W.frozen? ⟨w2.heap.size,1,none⟩=false:=by simp[World.frozen?,hv]
    have f3:W.frozen? ⟨w2.heap.size+1+1+1,0,none⟩=false:=by simp[World.frozen?,hs]
    by_cases hmem:x.1∈SS
    ·rw[decide_eq_true hmem] at hlk
     rw[if_pos hmem] at hon;have hin:Aside (KeepsFrom w3.heap.size W ((W.setCell ⟨w2.heap.size,1,none⟩ (.int .u64 ((AA&&&x.1:Nat):Int))).setCell ⟨w2.heap.size+1+1+1,0,none⟩ (.int .u64 ((OO|||x.1:Nat):Int)))/\KpR w3.heap.size w2.heap.size (w2.heap.size+1+1+1) (w2.heap.size+1) W ((W.setCell ⟨w2.heap.size,1,none⟩ (.int .u64 ((AA&&&x.1:Nat):Int))).setCell ⟨w2.heap.size+1+1+1,0,none⟩ (.int .u64 ((OO|||x.1:Nat):Int)))/\LkI n0 w w3 w3.heap.size w2.heap.size (w2.heap.size+1+1+1) (w2.heap.size+1+1) (w2.heap.size+1) (pre++[x]) ((W.setCell ⟨w2.heap.size,1,none⟩ (.int .u64 ((AA&&&x.1:Nat):Int))).setCell ⟨w2.heap.size+1+1+1,0,none⟩ (.int .u64 ((OO|||x.1:Nat):Int)))):=by
      refine zkr (vs:=vs) I0.out (by omega) (by omega) (by omega) (by omega) (by omega) (by omega) (by omega) (by omega) (by omega) (by omega) (by omega) (by omega) ?_ rfl rfl ?_ ?_ ⟨ZA _,fun _ _ _ _ _=>rfl⟩ hbl (KeepsFrom.refl _ _) _ _ hAe.out hOe.out
      ·rw[hF,hAA];exact hv
      ·rw[hon];exact hr
      ·rw[hon]
       obtain⟨D1,m1,m2,m3⟩:=hmS;exact⟨D1,m1.mono (Nat.le_succ _),m2,m3⟩
     clear hv hr hs hbm hmS hkp hF hF8 hAA hOO hSS hon hol hpl2 a0 a1 a2 a3 a4 a5 a6 a7 hFA q4 q5 hmp k63 k37 k64 hmm hpl hpd hpc
     gi_wp2
     exact hin.out
    ·rw[decide_eq_false hmem] at hlk
     rw[if_neg hmem] at hon;have hlenM:pre.length<M:=by rw[<-hM'.out];exact hlen
     have hM4:M<=4096:=by rw[<-hM'.out];exact hok.le
     obtain⟨W1,hput,hm1,hg1⟩:=hmS.put (by unfold maxLen;omega) hx8;have hmbW:=hmS.lt;have hown: ∀g,vs.ownBlock=some g->w3.heap.size<=g/\ ∃cur,W.heap[g]?=some (.cells cur 71 (0,0)):=fun g hg=>by
      obtain⟨cur,hc,hb⟩:=zkq hr hg;exact⟨hb,cur,hc⟩
     have hr1:=hr.kept hg1 (by
      cases q:vs.ownBlock with
      |none=>exact .inl rfl
      |some g=>exact .inr fun e=>by cases e;have:=(hown _ q).1;omega)
     have old1: ∀j,j<W.heap.size->j≠w2.heap.size+1->W1.heap[j]?=W.heap[j]?:=fun j h1 h2=>hg1.block j h1 (fun e=>h2 (by cases e;rfl))
     have hsz1:=hg1.size;have hv1:=(old1 _ (wJ hv) (by omega)).trans hv;have hs1:=(old1 _ (wJ hs) (by omega)).trans hs;obtain⟨e0',e1',e2'⟩:=uW hv1;have e3':=rO hs1;have f0':W1.frozen? ⟨w2.heap.size,0,none⟩=false:=by simp[World.frozen?,hv1]
     have f1':W1.frozen? ⟨w2.heap.size,1,none⟩=false:=by simp[World.frozen?,hv1]
     have f3':W1.frozen? ⟨w2.heap.size+1+1+1,0,none⟩=false:=by simp[World.frozen?,hs1]
     have hrow2: ∀(W2:World),(W1.alloc (.cells #[.int .u64 (x.1:Int)] 71)).grownBy W2 vs.ownBlock->(∀j,j<W.heap.size->j≠w2.heap.size+1->vs.ownBlock≠some j->W2.heap[j]?=W.heap[j]?)/\W.heap.size<=W2.heap.size:=fun W2 hg2=>by
      have hsz2:=hg2.size;rw[World.size_alloc] at hsz2;refine⟨fun j h1 h2 h3=>?_,by omega⟩;rw[hg2.block j (by rw[World.size_alloc];omega) (fun e=>h3 e.symm)];rw[Below.heap_alloc _ _ _ (by omega)];exact old1 j h1 h2
     have hNW:w3.heap.size<=W.heap.size:=hsz2;have hfin:Aside (∀(W2:World) (v':Value),W2.ownsRow w3.heap.size 71 1 v' (SS.length+1) ((SS.map fun(s:Nat)=>Value.int .u64 (s:Int))++[.int .u64 (x.1:Int)])->(W1.alloc (.cells #[.int .u64 (x.1:Int)] 71)).grownBy W2 vs.ownBlock->(∀X,X=((W2.setCell ⟨w2.heap.size,0,none⟩ v').setCell ⟨w2.heap.size,1,none⟩ (.int .u64 ((AA&&&x.1:Nat):Int))).setCell ⟨w2.heap.size+1+1+1,0,none⟩ (.int .u64 ((OO|||x.1:Nat):Int))->KeepsFrom w3.heap.size W X/\KpR w3.heap.size w2.heap.size (w2.heap.size+1+1+1) (w2.heap.size+1) W X/\LkI n0 w w3 w3.heap.size w2.heap.size (w2.heap.size+1+1+1) (w2.heap.size+1+1) (w2.heap.size+1) (pre++[x]) X)):=by
      rintro W2 v' ho' hg2 X rfl;obtain⟨hold,hsz⟩:=hrow2 W2 hg2;have nlow: ∀j,j<w3.heap.size->vs.ownBlock≠some j:=fun j hj e=>by have:=(hown j e).1;omega
      have hv2:=(hold _ (wJ hv) (by omega) (nlow _ (by omega))).trans hv;have oX: ∀j,j≠w2.heap.size->(W2.setCell ⟨w2.heap.size,0,none⟩ v').heap[j]?=W2.heap[j]?:=fun j hj=>uV _ _ _ _ hj
      have szX:(W2.setCell ⟨w2.heap.size,0,none⟩ v').heap.size=W2.heap.size:=by simp
      have keep: ∀j,j<W.heap.size->j≠w2.heap.size->j≠w2.heap.size+1->vs.ownBlock≠some j->(W2.setCell ⟨w2.heap.size,0,none⟩ v').heap[j]?=W.heap[j]?:=fun j h1 h2 h3 h4=>(oX j h2).trans (hold j h1 h3 h4)
      have hbl2:Below w.heap.size w W2:=((hbl.grown hg1 (by omega) (fun k e=>by cases e;omega)).alloc (by omega) _).grown hg2 (by rw[World.size_alloc];omega) (fun k e=>by have:=(hown k e).1;omega);refine zkr (vs:=v') I0.out (by omega) (by omega) (by omega) (by omega) (by omega) (by omega) (by omega) (by omega) (by omega) (by omega) (by omega) (by omega) ?_ (keep _ (wJ hs) (by omega) (by omega) (nlow _ (by omega))) (keep _ (wJ hbm) (by omega) (by omega) (nlow _ (by omega))) ?_ ?_ ⟨by omega,fun j h1 h2 h3 h4=>keep j (by omega) h2 h4 (nlow j h1)⟩ (hbl2.setCell (p:=⟨w2.heap.size,0,none⟩) (by omega) _) ⟨by omega,fun j o h1 h2 h3=>(keep j (zku h2) (by omega) (by omega) (fun e=>by obtain⟨_,cur,hc⟩:=hown j e;rw[hc] at h2;cases h2;cases h3)).trans h2⟩ _ _ hAe.out hOe.out
      ·rw[hF,hAA];exact uI W2 _ 0 _ 73 (0,0) v' hv2
      ·rw[hon,Zr,ZV]
       exact ownsRow_setCell_below ho' (by show w2.heap.size<_;omega) _
      ·rw[hon]
       exact((hm1.kept (World.grownBy_alloc _ _ none) (by simp)).kept hg2 (fun e=>nlow _ (by omega) e.symm)).setCell (by show w2.heap.size+1≠w2.heap.size;omega) _
     have hfac:Aside (∀(W2:World),(W1.alloc (.cells #[.int .u64 (x.1:Int)] 71)).grownBy W2 vs.ownBlock->W2.heap[w2.heap.size]?=some (.cells #[vs,.int .u64 (AA:Int),.int .u64 0] 73 (0,0))/\W2.heap[w2.heap.size+1+1+1]?=some (.cells #[.int .u64 (OO:Int)] 71 (0,0))):=by
      intro W2 hg2;obtain⟨hold,hsz⟩:=hrow2 W2 hg2;have nlow: ∀j,j<w3.heap.size->vs.ownBlock≠some j:=fun j hj e=>by have:=(hown j e).1;omega
      exact⟨(hold _ (wJ hv) (by omega) (nlow _ (by omega))).trans hv,(hold _ (wJ hs) (by omega) (nlow _ (by omega))).trans hs⟩
     obtain⟨i0,hif,hz0,hz1,hz2⟩:=info_parts (show(Tryz.prog.info? 71).map (fun i=>(i.zero,i.size,i.bytes))=some (some (.int .u64 0),1,8) by kernel_rfl);have hSl:SS.length<=4096:=by rw[hpl2] at hol;simp at hol;omega
     have hW1s:w3.heap.size<=W1.heap.size:=by omega
     clear hv hr hs hbm hmS hkp hF hF8 hAA hOO hSS hon hol hpl2 a0 a1 a2 a3 a4 a5 a6 a7 hFA q4 q5 hmp k63 k37 k64 hmm hpl hpd hpc hrow2 hown old1 hv1 hs1 hm1 hg1 hmem
     gi_wp2_with (gi_at_builtin;refine wpListIn_append_own _ rfl _ _ 70 rfl w3.heap.size 71 i0 (.int .u64 0) 1 8 Tryz.underlying70 hif hz0 hz1 hz2 rfl (by decide) _ _ _ rfl (hr1.alloc _) ⟨W1.heap.size,0,none⟩ 1 1 [.int .u64 (x.1:Int)] rfl rfl (cell_one_new _ _ _) (by simp[Value.oneCell']) (by unfold maxLen;omega) (by omega) (by simp;omega) ?_;intro v' W2 hown' hgrow _;obtain⟨g',cap',rfl⟩:=ownsRow_succ hown';obtain⟨t1,t2⟩:=hfac.out W2 hgrow;obtain⟨u0,u1,u2⟩:=uW t1;have u3:=rO t2;have v0:W2.frozen? ⟨w2.heap.size,0,none⟩=false:=(by simp[World.frozen?,t1]);have v1:W2.frozen? ⟨w2.heap.size,1,none⟩=false:=(by simp[World.frozen?,t1]);have v3:W2.frozen? ⟨w2.heap.size+1+1+1,0,none⟩=false:=(by simp[World.frozen?,t2]))
     exact hfin.out _ _ hown' hgrow _ rfl
   case done=>
    rintro D2 xs W3 hD2 hxs hI hK;obtain⟨⟨vs,hv,hr⟩,hs,hbm,hmS,hkp,hbl⟩:=hI;obtain⟨sa,sk,sc,rfl⟩: ∃a k c,vs=.slice a k c:=by
     rcases hr with⟨_,⟨hv,_⟩|⟨g2,cap,cur,hv,_⟩⟩
     ·exact⟨_,_,_,hv⟩
     ·exact⟨_,_,_,hv⟩
    have hxs':xs.map (fun x:U8=>x.1)=failsD L D:=hxs;rw[hxs'] at hv hr hs;have hnv:(failsD L D).foldl (· &&& ·) n0=(viewD L D).never:=by rw[hn0e.out,<-hN'.out];rfl
    rw[hnv] at hv;have hdb:andN ((failsD L D).foldl (· ||| ·) 0) (viewD L D).never=(viewD L D).doubt:=rfl;have hst:yW (failsD L D) []=(viewD L D).sets:=rfl;rw[hst] at hr;have hd8:(viewD L D).doubt<256:=ZO (iN (iP L D)) (by rw[hN'.out];exact(ZW (by decide) hL:2 ^ n<=2 ^ 8));have hO8:(failsD L D).foldl (· ||| ·) 0<2 ^ 8:=xM.2 fun k hk=>by
     rw[iM,YW,Yd,Yx] at hk;obtain⟨f,hf,hk⟩:=hk;have h1:=iP L D f hf;rw[hN'.out] at h1;exact xM.1 (ZO h1 (ZW (by decide) hL)) k hk
    have hbn:=kJ _ hd8;have hin:bits BinOp.andNot IntKind.u64 ((((failsD L D).foldl (· ||| ·) 0:Nat)):Int) ((viewD L D).never:Int)=((viewD L D).doubt:Int):=by rw[zqF hO8,hdb]
    have q6:W3.heap[w.heap.size]?=some (.cells #[.slice none 0 0,.int .u64 0,.int .u64 0] 73 (0,0)):=(hkp.2 _ (by have:=wJ q5;omega) (by have:=wJ q5;omega) (by have:=wJ q5;omega) (by have:=wJ q5;omega)).trans ((hb23.block _ (wJ q5)).trans q5);have hq5:=wJ q5;have c65: ∀W,Below w.heap.size w W->Calls Tryz.prog 65 #[.int .u64 ((viewD L D).doubt:Int)] W fun e W'=>e=.returned (.int .i64 ((bitsN (viewD L D).doubt).length:Int))/\Below W.heap.size W W':=fun W hb=>(Go.Abs.c65 (viewD L D).doubt hd8).intC (A4.out.later (wB hb)) (Z:=yB W) (fun _ h=>h) (uA (.int .u64 _) (wI _ _))
    obtain⟨OO,hOO⟩: ∃O,(failsD L D).foldl (· ||| ·) 0=O:=⟨_,rfl⟩;rw[hOO] at hs hin;obtain⟨S,hS⟩: ∃S,(viewD L D).sets=S:=⟨_,rfl⟩;obtain⟨NV,hNV⟩: ∃NV,(viewD L D).never=NV:=⟨_,rfl⟩;obtain⟨DB,hDB⟩: ∃DB,(viewD L D).doubt=DB:=⟨_,rfl⟩;have HQ:Aside ((viewD L D).sets=S/\(viewD L D).never=NV/\(viewD L D).doubt=DB):=⟨hS,hNV,hDB⟩;rw[hS] at hr;rw[hNV] at hv hin;rw[hDB] at hin c65 hbn;obtain⟨bl,hbl2⟩: ∃bl,(bitsN DB).length=bl:=⟨_,rfl⟩;rw[hbl2] at c65 hbn;have hb10: ¬(bl:Int)>10:=by omega
    obtain⟨e0,e1,e2⟩:=uW hv;have e3:=rO hs;have f2:W3.frozen? ⟨w2.heap.size,2,none⟩=false:=by simp[World.frozen?,hv]
    have hbs:Below w.heap.size w (W3.setCell ⟨w2.heap.size,2,none⟩ (.int .u64 (DB:Int))):=hbl.setCell (p:=⟨w2.heap.size,2,none⟩) (by omega) _;have hvX:=uI W3 w2.heap.size 2 _ 73 (0,0) (.int .u64 (DB:Int)) hv;have oX: ∀j,j≠w2.heap.size->(W3.setCell ⟨w2.heap.size,2,none⟩ (.int .u64 (DB:Int))).heap[j]?=W3.heap[j]?:=fun j hj=>uV _ _ _ _ hj
    have rX:=ownsRow_setCell_below hr (a:=⟨w2.heap.size,2,none⟩) (by show w2.heap.size<_;omega) (.int .u64 (DB:Int));have qX:=(oX w.heap.size (by omega)).trans q6;have kX:=(oX D2 (by omega)).trans hK;have hfacs:Aside (∀W4,Below (W3.setCell ⟨w2.heap.size,2,none⟩ (.int .u64 (DB:Int))).heap.size (W3.setCell ⟨w2.heap.size,2,none⟩ (.int .u64 (DB:Int))) W4->W4.heap[w2.heap.size]?=some (.cells #[.slice sa sk sc,.int .u64 (NV:Int),.int .u64 (DB:Int)] 73 (0,0))/\W4.heap[w.heap.size]?=some (.cells #[.slice none 0 0,.int .u64 0,.int .u64 0] 73 (0,0))/\W4.heap[D2]?=some (.deferred (some []))/\W4.ownsRow w3.heap.size 71 1 (.slice sa sk sc) S.length (S.map fun(s:Nat)=>Value.int .u64 (s:Int))/\Below w.heap.size w W4):=
     fun W4 h4=>⟨(h4.block _ (wJ hvX)).trans hvX,(h4.block _ (wJ qX)).trans qX,(h4.block _ (zku kX)).trans kX,rX.kept (kA h4) (by cases (Value.slice sa sk sc).ownBlock<;>simp),hbs.trans (h4.mono hbs.size)⟩
    refine(‹∀(a:Act) (w:World),Code.wpIn Fence.wide 8 Tryz.prog _ _ a w->_›) _ _ ?_;clear hv hr hs hbm hmS hkp a0 a1 a2 a3 a4 a5 a6 a7 hFA q4 q5 hmp k63 k37 k64 hmm hpl hpd hpc hbl oX rX qX kX hvX hnv hdb hst hd8 hO8 hxs hxs' hK
    gi_wp2_with (refine⟨trivial,?_⟩;gi_at_call 65;refine(callsIn_wide.2 (c65 _ hbs)).mono ?_;rintro e W4 ⟨rfl,hb4⟩;obtain⟨t1,t2,t3,t4,t5⟩:=hfacs.out W4 hb4;obtain⟨u0,u1,u2⟩:=uW t1;obtain⟨u3,u4,u5⟩:=uW t2;have v0:W4.frozen? ⟨w.heap.size,0,none⟩=false:=(by simp[World.frozen?,t2]);have v1:W4.frozen? ⟨w.heap.size,1,none⟩=false:=(by simp[World.frozen?,t2]);have v2:W4.frozen? ⟨w.heap.size,2,none⟩=false:=(by simp[World.frozen?,t2]))
    have hY:=zbM t2 (.slice sa sk sc) (.int .u64 (NV:Int)) (.int .u64 (DB:Int));have oY: ∀j,j≠w.heap.size->(((W4.setCell ⟨w.heap.size,0,none⟩ (.slice sa sk sc)).setCell ⟨w.heap.size,1,none⟩ (.int .u64 (NV:Int))).setCell ⟨w.heap.size,2,none⟩ (.int .u64 (DB:Int))).heap[j]?=W4.heap[j]?:=fun j hj=>((uV _ _ _ _ hj).trans (uV _ _ _ _ hj)).trans (uV _ _ _ _ hj)
    have hBY:Below w.heap.size w (((W4.setCell ⟨w.heap.size,0,none⟩ (.slice sa sk sc)).setCell ⟨w.heap.size,1,none⟩ (.int .u64 (NV:Int))).setCell ⟨w.heap.size,2,none⟩ (.int .u64 (DB:Int))):=((t5.setCell (p:=⟨w.heap.size,0,none⟩) (ZA _) _).setCell (p:=⟨w.heap.size,1,none⟩) (ZA _) _).setCell (p:=⟨w.heap.size,2,none⟩) (ZA _) _;have hrY:=ownsRow_setCell_below (ownsRow_setCell_below (ownsRow_setCell_below t4 (a:=⟨w.heap.size,0,none⟩) (by show w.heap.size<_;omega) (.slice sa sk sc)) (a:=⟨w.heap.size,1,none⟩) (by show w.heap.size<_;omega) (.int .u64 (NV:Int))) (a:=⟨w.heap.size,2,none⟩) (by show w.heap.size<_;omega) (.int .u64 (DB:Int));have hKY:=(oY D2 (by omega)).trans t3;generalize (((W4.setCell ⟨w.heap.size,0,none⟩ (.slice sa sk sc)).setCell ⟨w.heap.size,1,none⟩ (.int .u64 (NV:Int))).setCell ⟨w.heap.size,2,none⟩ (.int .u64 (DB:Int)))=Y at hY oY hBY hrY hKY⊢;refine⟨by simp,.inl ⟨_,_,rfl,run_takeDeferred hKY,?_⟩⟩;obtain⟨e5,e6,e7⟩:=HQ.out;rw[e5,e6,e7];refine⟨_,mJ rfl _ _ rfl ((World.putObj_heap_other (by omega)).trans hY) Tryz.underlying73 (by kernel_rfl),.inr ⟨trivial,_,rfl,hBY.grown (grownBy_putObj' _ D2 _) hBY.size (fun k e=>by cases e;omega),(ownsRow_putObj hrY _ hKY rfl).mono (by omega)⟩⟩
  ·obtain⟨er,her⟩: ∃er,(cnts D).2.2=er:=⟨_,rfl⟩
   rw[her] at hE k37 h0;rw[hE];have h0':(er==0)=false:=by simp[h0]
   have h0n:Aside (er≠0):=h0;clear h0 her;refine callsIn_of_wp_marks Tryz.func32 rfl trivial ?_;simp only[Tryz.ntmps32,YJ,Zu,ZK,Zb,Xr,YV,YU,Y7,Y1,Z7,ZT]
   gi_wp2_with (first|(refine⟨trivial,?_⟩;gi_at_call 63;refine(callsIn_wide.2 (k63 _ (hB0 _))).mono ?_;rintro e w1 ⟨x1,rfl,hb1⟩;have hB1:=(hB0 (.cells #[.slice none 0 0,.int .u64 0,.int .u64 0] 73)).trans (hb1.mono (hB0 _).size);have q4:=(hb1.block w.heap.size (by simp only[World.size_alloc];omega)).trans (World.alloc_heap_new w _))|(refine⟨trivial,?_⟩;gi_at_call 37;refine(callsIn_wide.2 (k37 _ hB1)).mono ?_;rintro e w2 ⟨vc,rfl,hb2,hpc⟩;have q5:=(hb2.block w.heap.size (wJ q4)).trans q4;obtain⟨c40,c41,c42⟩:=uW q5;have e7: ∀j,w2.frozen? ⟨w.heap.size,j,none⟩=false:=(fun j=>by simp[World.frozen?,q5]);have e8:=e7 0;have e9:=e7 1;have e10:=e7 2;have hB2:=hB1.trans (hb2.mono hB1.size)))
   refine⟨_,mJ rfl _ _ rfl (zbM q5 _ _ _) Tryz.underlying73 (by kernel_rfl),.inl ⟨h0n.out,rfl,((hB2.setCell (p:=⟨w.heap.size,0,none⟩) (ZA _) _).setCell (p:=⟨w.heap.size,1,none⟩) (ZA _) _).setCell (p:=⟨w.heap.size,2,none⟩) (ZA _) _⟩⟩
end Go.Proofs
namespace Go.Ex
open Go.Lib Go.Wd Go.Wire Go.Abs
def mP (L:List Dmd) (D:List Dcm):Vw:=if lookE L D=0 then viewD L D else⟨[],0,0⟩
end Go.Ex
namespace Go.Abs
open Go.Proofs Go.RowKit Go.Lib Go.Wd Go.Wire Go.Ex
theorem zqK {W:World} {B:Nat} {l:List Nat} {v:Value} (h:W.ownsRow B 71 1 v l.length (l.map fun(s:Nat)=>Value.int .u64 (s:Int))):PRep W (fun b=>B<=b.2/\b.2<W.heap.size/\sZ W b.2) (zF 1 (sets l)) v:=by
 rcases h with⟨_,⟨hv,h0⟩|⟨g,cap,cur,hv,hg,hh,h5,h6,h7,h8⟩⟩
 ·obtain rfl:=Yn h0
  subst hv;exact .nil 0 none (by simp)
 ·subst hv
  by_cases h0:l=[]
  ·subst h0
   exact .list g 0 cap 0 none [] (fun _ _=>undef) (by simp) h5 h6 (fun h=>absurd rfl h) (by simp) (by simp) (by simp)
  ·have e:zF 1 (sets l)=.list 1 none (sets l):=by
    unfold zF;rw[if_neg];cases l with|nil=>exact absurd rfl h0|cons a L=>simp[sets]
   have hat: ∀(i j:Nat) r c,(sets l)[i]?=some r->r[j]?=some c->j=0/\ ∃s:Nat,l[i]?=some s/\c=.int .u64 (s:Int):=fun i j r c hr hc=>by
    rw[sets,ZD] at hr;cases hs:l[i]? with
    |none=>rw[hs] at hr;cases hr
    |some s=>
     rw[hs] at hr;cases hr;cases j with
     |zero=>cases hc;exact⟨rfl,s,rfl,rfl⟩
     |succ j=>simp at hc
   have hcell: ∀j s,l[j]?=some s->W.cell? ⟨g,j,none⟩=some (.int .u64 ((s:Nat):Int)):=by
    intro j s hs;have hj:=(Zw.1 hs).1;have h9:=congrArg (fun x:List Value=>x[j]?) h8;simp only[Y5,List.getElem?_take_of_lt hj,ZD,hs,YF] at h9;rw[YE] at h9;simp only[World.cell?,hh];simp only[Y0,Ya,if_false];exact h9
   rw[e];have key:PRep W (fun b=>B<=b.2/\b.2<W.heap.size/\sZ W b.2) (.list 1 none (sets l)) (.slice (some ⟨g,0,none⟩) (sets l).length cap):=by
    refine .list g 0 cap 1 none (sets l) (fun i _=> .int .u64 ((l.getD i 0:Nat):Int)) (by simp) (by rw[sB];exact h5) h6 (fun _=>⟨hg,(Zs.1 hh).1,fun c e f h=>by rw[hh] at h;cases h;rfl⟩) (fun r hr=>by obtain⟨s,_,rfl⟩:=ZL.1 hr;rfl) (fun i j r c hr hcj=>?_) fun i j r c hr hcj=>?_
    ·obtain⟨rfl,s,hs,rfl⟩:=hat i j r c hr hcj
     rw[Y5,YC,Z4,hcell i s hs];simp[List.getD,hs]
    ·obtain⟨rfl,s,hs,rfl⟩:=hat i j r c hr hcj
     have:l.getD i 0=s:=by simp[List.getD,hs]
     rw[this];exact .int _ _
   rw[sB] at key;exact key
theorem c32 (L:List Dmd) (D:List Dcm) (hL:L.length<=8) (hm: ∀m∈L,DmdS m) (hD:uT D) (hp:(cnts D).2.2=0-> ∀i,i<yY D->wU (rdsD D i)):
  Spec Tryz.prog 32 [lst 8 (L.map zM),lst 2 (D.map zV)] (fun r=>r=.tup [.agg [zF 1 (sets (mP L D).sets),.int .u64 ((mP L D).never:Int),.int .u64 ((mP L D).doubt:Int)],.int .i64 (lookE L D)]):=by
 refine⟨rN (by kernel_rfl),fun w Z vs hG hz ha=>?_⟩;obtain⟨vl⟩:=vs
 match vl,ha with
 |[],ha=>exact absurd ha.1 (by simp)
 |[_],ha=>exact absurd ha.1 (by simp)
 |_::_::_::_,ha=>exact absurd ha.1 (by simp)
 |[v,v2],ha=>
  have h1:PRep w Z (zF 8 (L.map zM)) v:=(ha.2 0 _ v rfl rfl).2.2;have h2:PRep w Z (zF 2 (D.map zV)) v2:=(ha.2 1 _ v2 rfl rfl).2.2;refine(zqJ L D hL hm hD hp w hG v v2 (kB hz h1) (kB hz h2)).mono ?_;rintro e w' (⟨h0,rfl,hb⟩|⟨h0,vs,rfl,hb,hr⟩)
  ·refine⟨_,_,rfl,rfl,fun _=>rfl,oO hG (wB hb) (fun _=>rfl) fun Z=>⟨_,rfl,rfl,⟨_,rfl,?_⟩,⟨rfl,.int _ _⟩,trivial⟩⟩
   unfold mP;rw[if_neg h0];refine⟨rfl,fun j c v hc hv=>?_⟩
   match j with
   |0=>cases hc;cases hv;exact .nil 0 none (by simp)
   |1=>cases hc;cases hv;exact .int _ _
   |2=>cases hc;cases hv;exact .int _ _
   |j+3=>simp at hc
  ·refine⟨_,_,rfl,rfl,fun _=>rfl,zjD hG (wB hb) (fun _=>rfl) ⟨_,rfl,rfl,⟨_,rfl,?_⟩,⟨rfl,by rw[h0];exact .int _ _⟩,trivial⟩ (fun _=>rfl)⟩
   unfold mP;rw[if_pos h0];refine⟨rfl,fun j c v hc hv=>?_⟩
   match j with
   |0=>cases hc;cases hv;exact zqK hr
   |1=>cases hc;cases hv;exact .int _ _
   |2=>cases hc;cases hv;exact .int _ _
   |j+3=>simp at hc
end Go.Abs
namespace Go.Ex
open Go.Lib Go.Wd Go.Wire Go.Abs
structure AskS (L:List Dmd) (D:List Dcm):Prop where
 l8:L.length<=8
 dm: ∀m∈L,DmdS m
 dc:uT D
 rd:(cnts D).2.2=0-> ∀i,i<yY D->wU (rdsD D i)
theorem zbN {D:List Dcm} (hD:uT D) (h:(cnts D).2.2=0):0<yY D:=by
 have hok:=vQ h;rw[hok.p];have key: ∀(l:List Dcm) (n:Nat),0<n->(∀d∈l,0<(cntD d).1.toNat)->0<l.foldl (fun a d=>a*(cntD d).1.toNat) n:=by
  intro l
  induction l with
  |nil=>intro n h _;exact h
  |cons d l ih=>intro n hn hd;exact ih _ (Nat.mul_pos hn (hd d (by simp))) fun x hx=>hd x (ZH _ hx)
 exact key D 1 (by decide) fun d hd=>by
  have:=zjK (hD.2 d hd) (hok.e d hd);omega
def flawsE (L:List Dmd) (D:List Dcm):List Flw:=if lookE L D=0 then dR L D else[]
def stateE (L:List Dmd) (D:List Dcm):Int:=if lookE L D=0 then dS (viewD L D) else 0
end Go.Ex
namespace Go.Abs
open Go.Proofs Go.RowKit Go.Lib Go.Wd Go.Wire Go.Ex
theorem uL (m:Dmd):C.normRow (zM m)=zM m:=by simp only[zM,C.normRow,C.norm]
theorem c20 (L:List Dmd) (D:List Dcm) (h:AskS L D):Spec Tryz.prog 20 [lst 8 (L.map zM),lst 2 (D.map zV)] (fun r=>r=.int .i64 (lookE L D)):=by
 refine Spec.of_awlS hf20 okf20 (by simp) fun S hS=>?_
 have g:=c32 L D h.l8 h.dm h.dc h.rd;simp only[Qs,Zb,Za,Ψ20];refine yP g ?_ (ha:=by simp only[Zj,Zo,zC,V.norm,zI,yK yN,yK uL,C.norm]<;>rfl);simp only[Qs,oM,Zi,Zb,Yf,Za,nS,Ψ20];exact hS
theorem c12 (L:List Dmd) (D:List Dcm) (h:AskS L D):Spec Tryz.prog 12 [lst 8 (L.map zM),lst 2 (D.map zV)] (fun r=>r=.tup [.int .i64 (stateE L D),.int .i64 (lookE L D)]):=by
 refine Spec.of_awlS hf12 okf12 (by simp) fun S hS=>?_
 have g:=c32 L D h.l8 h.dm h.dc h.rd;unfold mP at g;unfold stateE at hS;have hle:=h.l8;by_cases h0:lookE L D=0
 ·rw[if_pos h0,h0] at hS
  rw[if_pos h0,h0] at g;have hcn:(cnts D).2.2=0:=by
   unfold lookE at h0;split at h0
   ·exact h0
   ·cases h0
  have hok:=vQ hcn;have hsl:(viewD L D).sets.length<=4096:=by
   have:=zbL (failsD L D) [];have h2:(failsD L D).length=yY D:=by simp[failsD]
   have h3:=hok.le;show(yW (failsD L D) []).length<=4096;simp at this;omega
  have g2:=c36 (viewD L D).sets 0 (by omega);generalize viewD L D=v at g g2 hS hsl;obtain⟨S1,nv,db⟩:=v;simp only[] at g g2 hsl;simp only[Qs,Zb,Za,Ψ12];refine yP g ?_ (ha:=by simp only[Zj,Zo,zC,V.norm,zI,yK yN,yK uL,C.norm]<;>rfl);simp only[show((0:Int) !=0)=false from rfl,Qs,Zi,Zb,Yf,Zd,Za,nS,Ψ12];refine zD g2 ?_ (ha:=by simp only[Zj,Zo,zC,V.norm,zI,C.norm,mL]<;>rfl);unfold dS at hS;simp only[] at hS;by_cases hm:0∈S1
  ·rw[if_pos hm] at hS
   rw[decide_eq_true hm];by_cases h1:S1.length=1
   ·rw[if_pos h1] at hS
    have e1:((S1.length:Int)==1)=true:=by rw[h1];rfl
    simp only[e1,sB,Qs,oM,Zi,Zb,Zd,Za,Ψ12];exact hS
   ·rw[if_neg h1] at hS
    have e1:((S1.length:Int)==1)=false:=by rw[beq_eq_false_iff_ne];omega
    simp only[e1,sB,Qs,oM,Zi,Zb,Zd,Za,Ψ12];exact hS
  ·rw[if_neg hm] at hS
   rw[decide_eq_false hm];simp only[Qs,oM,Zi,Za,Ψ12];exact hS
 ·rw[if_neg h0] at hS
  rw[if_neg h0] at g;generalize lookE L D=er at hS g h0;have e1:(er !=0)=true:=by rw[bne_iff_ne];exact h0
  simp only[Qs,Zb,Za,Ψ12];refine yP g ?_ (ha:=by simp only[Zj,Zo,zC,V.norm,zI,yK yN,yK uL,C.norm]<;>rfl);simp only[e1,Qs,oM,Zi,Zb,Yf,Za,nS,Ψ12];exact hS
def pI (x:Flw):List C:=[zF 1 (zG x.dem),zF 2 (pls x.pls),.bool x.sure]
def yS (l:List Flw):List (List C):=l.map pI
theorem sD (l:List Flw):(yS l).length=l.length:=by simp[yS]
theorem zqL (x:Flw):C.normRow (pI x)=pI x:=by simp only[pI,C.normRow,zI,wD,tH,C.norm]
theorem iU (l:List Flw):C.normRows (yS l)=yS l:=yK zqL l
def uE (L:List Dmd) (p:List Pln) (k:Nat):List C:=[.list 1 (some false) (zG [(k:Int)]),zF 2 (pls (placesP L [k] p)),.bool false]
theorem zqM (L:List Dmd) (p:List Pln) (k:Nat):C.normRow (uE L p k)=pI ⟨[(k:Int)],placesP L [k] p,false⟩:=by
 simp only[uE,pI,C.normRow,zI,tG,wD,tH,C.norm];rfl
theorem zkv (a b:List (List C)):C.normRows (a++b)=C.normRows a++C.normRows b:=by
 induction a with
 |nil=>rfl
 |cons r a ih=>rw[ZT,eX,eX,ih];rfl
theorem zbO (L:List Dmd) (p:List Pln): ∀l:List Nat,C.normRows (l.map (uE L p))=yS (l.map fun k:Nat=>⟨[(k:Int)],placesP L [k] p,false⟩)
 |[]=>rfl
 |k::l=>by
  rw[Zj,eX,zqM,zbO L p l];rfl
theorem c10 (L:List Dmd) (D:List Dcm) (h:AskS L D):Spec Tryz.prog 10 [lst 8 (L.map zM),lst 2 (D.map zV)] (fun r=>r=.tup [lst 3 (yS (flawsE L D)),.int .i64 (lookE L D)]):=by
 refine Spec.of_awlP hf10 okf10 (by simp) fun S hS=>?_
 have g:=c32 L D h.l8 h.dm h.dc h.rd;unfold mP at g;unfold flawsE at hS;have hle:=h.l8;by_cases h0:lookE L D=0
 ·rw[if_pos h0,h0] at hS
  rw[if_pos h0,h0] at g;have hcn:(cnts D).2.2=0:=by
   unfold lookE at h0;split at h0
   ·exact h0
   ·cases h0
  have hok:=vQ hcn;have hpos:=zbN h.dc hcn;have g14:=c14 D h.dc 0;have e14:readE D 0=0:=by
   unfold readE;rw[if_neg (by simp[hcn]),if_neg (by rw[hok.n];omega)]
  have e14':readP' D 0=rdsD D 0:=by unfold readP';rw[if_pos e14];rfl
  rw[e14,e14'] at g14;have hpl:=h.rd hcn 0 hpos;have hfl:dR L D=dQ L (viewD L D) (rdsD D 0):=rfl;rw[hfl] at hS;have hF:=iP L D;have h256:2 ^ L.length<=256:=(ZW (by decide) hle:2 ^ L.length<=2 ^ 8);have hnv:(viewD L D).never<256:=ZO zpd h256;have hdb:(viewD L D).doubt<256:=ZO (iN hF) h256;have hsl:(viewD L D).sets.length<=4096:=by
   have:=zbL (failsD L D) [];have h2:(failsD L D).length=yY D:=by simp[failsD]
   have h3:=hok.le;show(yW (failsD L D) []).length<=4096;simp at this;omega
  have hss: ∀s∈(viewD L D).sets,s<256:=fun s hs=>by
   rcases(iL _ _ s).1 hs with h|h
   ·exact ZO (hF s h) h256
   ·cases h
  have g33:=c33 (viewD L D) hnv hdb hss (by omega);have hF0:failsD L D≠[]:=by
   intro e;have:=congrArg List.length e;simp[failsD] at this;omega
  have hcl: ∀c∈sortO ltC ((conflP (viewD L D)).map bitsN),c.length<=8/\ ∀k∈c,k<L.length:=by
   intro c hc;obtain⟨s,hs,rfl⟩:=ZL.1 ((kF ltC _).mem_iff.1 hc);have hs2:=((zju hle hF0 hF s).1 hs).1;exact⟨kJ s (by omega),fun k hk=>xM.1 hs2 k ((qZ (by omega)).1 hk)⟩
  have hcn:(sortO ltC ((conflP (viewD L D)).map bitsN)).length<=320:=by
   rw[(kF ltC _).length_eq,Ze];have hT:conflP (viewD L D)=pF (viewD L D).never 64++(tY (viewD L D).doubt 256 (viewD L D).doubt).filter (wZ (viewD L D).sets):=rfl;rw[hT,Zr];have h1:=zbD (viewD L D).doubt 256 (viewD L D).doubt;have h2:=Yr (wZ (viewD L D).sets) (tY (viewD L D).doubt 256 (viewD L D).doubt);have h3:=zj3 (viewD L D).never 64;omega
  have hdk: ∀k∈bitsN (viewD L D).doubt,k<L.length:=fun k hk=>xM.1 (iN hF) k ((qZ (Nat.lt_trans hdb (by decide))).1 hk)
  have hbl:=kJ _ hdb;have g35:=c35 (viewD L D).doubt hdb;have hfe:dQ L (viewD L D) (rdsD D 0)=((sortO ltC ((conflP (viewD L D)).map bitsN)).map fun c=>⟨c.map fun(k:Nat)=>(k:Int),placesP L c (rdsD D 0),true⟩)++(bitsN (viewD L D).doubt).map fun k=>⟨[(k:Int)],placesP L [k] (rdsD D 0),false⟩:=rfl
  rw[hfe] at hS;generalize sortO ltC ((conflP (viewD L D)).map bitsN)=CS at hS g33 hcl hcn;generalize rdsD D 0=p at hS g14 hpl;generalize bitsN (viewD L D).doubt=DS at hS hdk hbl g35;generalize viewD L D=v at g g33 g35;obtain⟨S1,nv,db⟩:=v;simp only[] at g g33 g35;simp only[Qs,Zb,Za,Ψ10];refine yP g ?_ (ha:=by simp only[Zj,Zo,zC,V.norm,zI,yK yN,yK uL,C.norm]<;>rfl);simp only[show((0:Int) !=0)=false from rfl,Qs,bne_iff_ne,ne_eq,Zi,Zb,Yf,Zn,Za,nS,Ψ10];refine yP g14 ?_ (ha:=by simp only[Zj,Zo,zC,V.norm,zI,yK yN,yK uL,C.norm]<;>rfl);simp only[Qs,eR,bne_iff_ne,ne_eq,Zi,Zb,Yf,Zn,Za,Ψ10];refine yP g33 ?_ (ha:=by simp only[Zj,Zo,zC,V.norm,zI,C.normRow,mL,C.norm]<;>rfl);have hcfl:(cfs CS).length=CS.length:=by simp[cfs]
  simp only[hcfl,Qs,Ψ10];rw[uu f10l30.eq_1];refine zO (fun x:Nat×Option Bool=>[(0,lst 8 (L.map zM)),(6,.k (.c (.ro [zF 1 (sets S1),.int .u64 (nv:Int),.int .u64 (db:Int)] 0))),(8,lst 3 (xR p)),(10,.k (.own 10)),(31,lst 1 (cfs CS)),(32,.int .i64 CS.length),(33,.int .i64 x.1)])
   (fun x=>[(10,.arr 33 3 x.2 (yS ((CS.take x.1).map fun c=>⟨natI c,placesP L c p,true⟩)))]) (fun x=>x.1<=CS.length) (fun x=>CS.length-x.1) (0,some true) rfl rfl (Zy _) ?_
  rintro⟨i,nl⟩ hi;simp only[] at hi;by_cases hlt:i<CS.length
  ·have d1:(i:Int)<CS.length:=by omega
   have c4:IntKind.i64.wrap ((i:Int)+1)=(i:Int)+1:=wrap_in (by omega) (by omega);have hat:(cfs CS).getD i []=[zF 1 (zG (natI CS[i]))]:=by simp[cfs,hlt]
   have htk:((CS.take (i+1)).map fun c=>(⟨natI c,placesP L c p,true⟩:Flw))=((CS.take i).map fun c=>⟨natI c,placesP L c p,true⟩)++[⟨natI CS[i],placesP L CS[i] p,true⟩]:=by rw[Zz hlt,ZV];rfl
   have hll:((CS.take i).map fun c=>(⟨natI c,placesP L c p,true⟩:Flw)).length=i:=by simp;omega
   obtain⟨hc8,hck⟩:=hcl _ (Zv hlt);generalize CS[i]=c at hat htk hc8 hck;generalize ((CS.take i).map fun c=>(⟨natI c,placesP L c p,true⟩:Flw))=A at htk hll;have g34:=c34 L c p (by omega) hc8 hck hpl;simp only[d1,hat,hcfl,Qs,Za,Ψ10];refine yP g34 ?_ (ha:=by simp only[Zj,Zo,zC,V.norm,zI,yK uL,pE,wD,C.norm]<;>rfl);have hq:yS A++[[zF 1 (zG (natI c)),zF 2 (pls (placesP L c p)),.bool true]]=yS (A++[⟨natI c,placesP L c p,true⟩]):=by simp[yS,pI]
   simp only[c4,hq,sD,hll,Qs,forall_eq,bne_iff_ne,ne_eq,Zi,ZB,Zb,Zn,Zd,ZN,Za,Zq];exact⟨by omega,by omega,Next.intro (i+1,some false) rfl (by rw[htk];rfl) (by simp only;omega) (by simp only;omega)⟩
  ·obtain rfl:i=CS.length:=by omega
   have d1: ¬((CS.length:Int)<CS.length):=by omega
   rw[Yh];simp only[d1,Qs,Zb,Za,Ψ10];refine yP g35 ?_ (ha:=by rfl);have hDl:(zG (natI DS)).length=DS.length:=by rw[yF,sL]
   simp only[hDl,Qs,Ψ10];rw[uu f10l15.eq_1];have hFL:(yS (List.map (fun c=>(⟨natI c,placesP L c p,true⟩:Flw)) CS)).length<=320:=by rw[sD,Ze];exact hcn
   have hSS:((CS.map fun c=>(⟨natI c,placesP L c p,true⟩:Flw)))=CS.map fun c=>⟨c.map fun(k:Nat)=>(k:Int),placesP L c p,true⟩:=rfl
   rw[<-hSS] at hS;generalize (List.map (fun c=>(⟨natI c,placesP L c p,true⟩:Flw)) CS)=FL at hS hFL;refine zO (fun x:Nat×Option Bool=>[(0,lst 8 (L.map zM)),(8,lst 3 (xR p)),(10,.k (.own 10)),(49,lst 1 (zG (natI DS))),(50,.int .i64 DS.length),(51,.int .i64 x.1)])
    (fun x=>[(10,.arr 33 3 x.2 (yS FL++(DS.take x.1).map (uE L p)))]) (fun x=>x.1<=DS.length) (fun x=>DS.length-x.1) (0,nl) rfl (by simp;rfl) (Zy _) ?_
   rintro⟨i,nl2⟩ hi2;simp only[] at hi2;by_cases hil:i<DS.length
   ·have d2:(i:Int)<DS.length:=by omega
    have c4:IntKind.i64.wrap ((i:Int)+1)=(i:Int)+1:=wrap_in (by omega) (by omega);have hat:(zG (natI DS)).getD i []=[.int .i64 (DS[i]:Int)]:=by simp[zG,natI,hil]
    have htk:(DS.take (i+1)).map (uE L p)=(DS.take i).map (uE L p)++[uE L p DS[i]]:=by rw[Zz hil,ZV];rfl
    have hll:((DS.take i).map (uE L p)).length=i:=by simp;omega
    have hkL:=hdk _ (Zv hil);generalize DS[i]=k at hat htk hkL;generalize (DS.take i).map (uE L p)=R at htk hll;have g34:=c34 L [k] p (by omega) (by simp) (fun j hj=>by simp at hj;omega) hpl;simp only[d2,hat,hDl,Qs,forall_eq,bne_iff_ne,ne_eq,ZB,Zn,ZN,Za,Zq,Ψ10];refine znJ 56 rfl g34 (by simp[zC,uQ,lookO,V.isPure,lst]) (by simp only[Zj,Zo,zC,uQ,lookO,V.norm,zI,tG,yK uL,pE,C.norm]<;>rfl) (by rfl) (by simp[oF,lookO]) rfl ?_;have hq:yS FL++R++[[.list 1 (some false) [[.int .i64 (k:Int)]],zF 2 (pls (placesP L [k] p)),.bool false]]=yS FL++(R++[uE L p k]):=by rw[Z3];rfl
    have hlR:(yS FL++R).length<=328:=by rw[Zr];omega
    simp only[tF,tP,lookO,c4,hq,Qs,forall_eq,bne_iff_ne,ne_eq,ZB,Zb,Zn,Zd,ZN,Za,Zq,oN];exact⟨by omega,by omega,Next.intro (i+1,some false) rfl (by rw[htk];rfl) (by simp only;omega) (by simp only;omega)⟩
   ·obtain rfl:i=DS.length:=by omega
    have d2: ¬((DS.length:Int)<DS.length):=by omega
    rw[Yh];simp only[d2,Qs,Zi,ZJ,Za,Zq,Ψ10];refine hS _ ?_;simp only[V.fz,V.fzL,V.nrm,V.nrmL,zkv,iU,zbO];have e:yS FL++yS (DS.map fun k:Nat=>⟨[(k:Int)],placesP L [k] p,false⟩)=yS (FL++DS.map fun k:Nat=>⟨[(k:Int)],placesP L [k] p,false⟩):=by simp[yS]
    rw[e,qG (iU _)];rfl
 ·rw[if_neg h0] at hS
  rw[if_neg h0] at g;generalize lookE L D=er at hS g h0;have e1:(er !=0)=true:=by rw[bne_iff_ne];exact h0
  simp only[Qs,Zb,Za,Ψ10];refine yP g ?_ (ha:=by simp only[Zj,Zo,zC,V.norm,zI,yK yN,yK uL,C.norm]<;>rfl);simp only[e1,Qs,eR,oM,bne_iff_ne,ne_eq,BEq.rfl,Zi,ZJ,Zb,Yf,Zn,Za,Zq,nS,Ψ10];exact hS _ rfl
end Go.Abs
namespace Go.Ex
open Go.Lib Go.Wd Go.Wire
def pJ (w:List Txt):Bool:=decide (w.length<=6)&&w.all fun s=>decide (s.length<=100)
def pK (f:Fld):Bool:=(decide (f.words.length<=10)&&decide (f.name.length<=100))&&f.words.all pJ
def uX (d:Dcm):Bool:=(decide (d.flds.length<=14)&&decide (d.kind.length<=100))&&d.flds.all pK
def qL (m:Dmd):Bool:=(((decide (m.txt.length<=500)&&decide (m.doc.length<=60))&&decide (m.fld.length<=60))&&decide (m.oth.length<=60))&&decide (m.sec.length<=60)
end Go.Ex
namespace Go.Abs
open Go.Proofs Go.RowKit Go.Lib Go.Wd Go.Wire Go.Ex
theorem c18 (l:List Dcm) (hl:uT l):Spec Tryz.prog 18 [lst 2 (l.map zV)] (fun v=>v=.tup [.int .i64 (cnts l).2.1,.int .i64 (cnts l).2.2]):=by
 refine Spec.of_awlP hf18 okf18 (by simp) fun S hS=>?_
 have hlen:=hl.1;unfold cnts at hS;by_cases h8:l.length>8
 ·rw[if_pos h8] at hS
  have c1:(l.length:Int)>8:=by omega
  simp only[zB,c1,Qs,Zi,Za,Ze,Ψ18];exact hS _ rfl
 ·rw[if_neg h8] at hS
  have c1: ¬(l.length:Int)>8:=by omega
  simp only[zB,c1,Qs,Za,Ze,Ψ18];rw[uu f18l40.eq_1];refine zO (fun i:Nat=>[(0,lst 2 (l.map zV)),(4,.int .i64 i)]) (fun _=>[]) (fun i=>i<=l.length/\wE (fun i=>xC (l.getD i ⟨[],[]⟩)) (l.length-i) i=wE (fun i=>xC (l.getD i ⟨[],[]⟩)) l.length 0) (fun i=>l.length-i) 0 rfl rfl ⟨Zy _,rfl⟩ ?_;rintro i ⟨hi,hD⟩;by_cases hlt:i<l.length
  ·have d1:(i:Int)<l.length:=by omega
   have c4:IntKind.i64.wrap ((i:Int)+1)=(i:Int)+1:=wrap_in (by omega) (by omega);have hgd:l.getD i ⟨[],[]⟩=l[i]:=by rw[Zm,Zk hlt];rfl
   rw[lZ hlt,hgd] at hD;have g1:=c41 _ (hl.2 _ (Zv hlt));have hat:=mC hlt;generalize l[i]=d at hD g1 hat;rw[show zV d=[.str d.kind,zF 2 (d.flds.map zW)] from rfl] at g1;simp only[d1,hat,zB,Qs,Za,Ze,Ψ18];refine zD g1 ?_ (ha:=by simp only[Zj,Zo,zC,V.norm,C.norm,C.normRow,zS wS]<;>rfl);by_cases h0:xC d=0
   ·have w0:(xC d !=0)=false:=by simp[h0]
    rw[if_pos h0] at hD;simp only[w0,c4,Qs,Za,Ψ18];exact Next.intro (i+1) rfl rfl ⟨by omega,hD⟩ (by omega)
   ·have w0:(xC d !=0)=true:=by simp[h0]
    rw[if_neg h0] at hD;rw[<-hD,if_neg h0] at hS;simp only[w0,Qs,Zi,Za,Ψ18];exact hS _ rfl
  ·have d1: ¬(i:Int)<l.length:=by omega
   rw[show l.length-i=0 by omega] at hD;have hz:wE (fun i=>xC (l.getD i ⟨[],[]⟩)) l.length 0=0:=hD.symm;rw[if_pos hz] at hS;simp only[d1,zB,Qs,Za,Ze,Ψ18];rw[uu f18l19.eq_1];refine zO (fun x:Nat×List Int×Nat=>[(0,lst 2 (l.map zV)),(6,.int .i64 (x.2.2:Nat)),(7,.int .i64 x.1)]) (fun _=>[]) (fun x=>x.1<=l.length/\x.2.2<=4096/\vZ (l.drop x.1) x.2.1 x.2.2=vZ l [] 1) (fun x=>l.length-x.1) (0,[],1) rfl rfl ⟨Zy _,by simp only;decide,rfl⟩ ?_;rintro⟨i,L,n⟩ ⟨hi,hn,hD⟩;simp only[] at hi hn hD;by_cases hlt:i<l.length
   ·have d1:(i:Int)<l.length:=by omega
    have c4:IntKind.i64.wrap ((i:Int)+1)=(i:Int)+1:=wrap_in (by omega) (by omega);have g1:=c42 _ (hl.2 _ (Zv hlt));have hat:=mC hlt;rw[Zx hlt,vZ] at hD;have hr:=iK (d:=l[i]);generalize l[i]=d at hD g1 hat hr;rw[show zV d=[.str d.kind,zF 2 (d.flds.map zW)] from rfl] at g1;generalize cntD d=c at hD g1 hr;obtain⟨cn,ce⟩:=c;simp only[] at hD g1 hr;have hmul:0<=(n:Int)*cn/\(n:Int)*cn<=4096*4096:=⟨Int.mul_nonneg (by omega) hr.1,Int.mul_le_mul (by omega) hr.2 hr.1 (by omega)⟩;have c5:IntKind.i64.wrap ((n:Int)*cn)=(n:Int)*cn:=wrap_in (by omega) (by omega);simp only[d1,hat,zB,Qs,Za,Ze,Ψ18];refine zD g1 ?_ (ha:=by simp only[Zj,Zo,zC,V.norm,C.norm,C.normRow,zS wS]<;>rfl);by_cases he:ce=0
    ·have e1:(ce !=0)=false:=by simp[he]
     by_cases hb:(n:Int)*cn>4096
     ·rw[if_pos (.inr hb)] at hD
      rw[<-hD] at hS;simp only[e1,c5,hb,Qs,Zi,Za,Ψ18];exact hS _ rfl
     ·rw[if_neg (by intro q;rcases q with q|q;exact q he;exact hb q)] at hD
      obtain⟨c',rfl⟩: ∃c':Nat,cn=c':=⟨cn.toNat,by omega⟩;rw[Ym] at hD;have hnn:(n:Int)*(c':Int)=((n*c':Nat):Int):=(Yq n c').symm;simp only[e1,c4,c5,hb,Qs,Za,Ψ18];exact Next.intro (i+1,L++[(c':Int)],n*c') (by simp only[hnn];rfl) rfl ⟨by simp only;omega,by simp only;omega,hD⟩ (by simp only;omega)
    ·have e1:(ce !=0)=true:=by simp[he]
     rw[if_pos (.inl he)] at hD;rw[<-hD] at hS;simp only[e1,Qs,Zi,Za,Ψ18];exact hS _ rfl
   ·have d1: ¬(i:Int)<l.length:=by omega
    rw[ZE (by omega),vZ] at hD;rw[<-hD] at hS;simp only[d1,zB,Qs,Zi,Za,Ze,Ψ18];exact hS _ rfl
theorem c31 (L:List Dmd) (hL:L.length<=8):Spec Tryz.prog 31 [lst 8 (L.map zM)] (fun v=>v=.bool (L.all qL)):=by
 refine Spec.of_awlS hf31 okf31 (by simp) fun S hS=>?_
 simp only[zB,Qs,Ψ31];rw[uu f31l15.eq_1];refine zO (fun i:Nat=>[(0,lst 8 (L.map zM)),(3,.int .i64 i)]) (fun _=>[]) (fun i=>i<=L.length/\(L.drop i).all qL=L.all qL) (fun i=>L.length-i) 0 rfl rfl ⟨Zy _,rfl⟩ ?_;rintro i ⟨hi,hD⟩;by_cases hlt:i<L.length
 ·have d1:(i:Int)<L.length:=by omega
  have d2:(i:Int)<40:=by omega
  have c4:IntKind.i64.wrap ((i:Int)+1)=(i:Int)+1:=wrap_in (by omega) (by omega);have hat:=kH hlt;have hgd:L.getD i yI=L[i]:=by rw[Zm,Zk hlt];rfl
  rw[Zx hlt,Yz] at hD;rw[hgd] at hat;generalize L[i]=m at hat hD;have hbad:qL m=false->S (.bool false):=fun h=>by
   rw[h,ZF] at hD;rw[<-hD] at hS;exact hS
  have hF:qL m=true ↔ m.txt.length<=500/\m.doc.length<=60/\m.fld.length<=60/\m.oth.length<=60/\m.sec.length<=60:=by
   unfold qL;simp only[Zp,decide_eq_true_eq];omega
  have hno: ¬(m.txt.length<=500/\m.doc.length<=60/\m.fld.length<=60/\m.oth.length<=60/\m.sec.length<=60)->S (.bool false):=fun h=>hbad (Yj.2 fun q=>h (hF.1 q))
  simp only[d1,d2,c4,hat,zB,Qs,Zb,Zd,Za,Ze,Ψ31];refine⟨fun q=>hno (by omega),fun q1=>⟨fun q=>hno (by omega),fun q2=>⟨fun q=>hno (by omega),fun q3=>⟨fun q=>hno (by omega),fun q4=>⟨fun q=>hno (by omega),fun q5=>?_⟩⟩⟩⟩⟩;rw[hF.2 (by omega),ZC] at hD;exact Next.intro (i+1) rfl rfl ⟨by omega,hD⟩ (by omega)
 ·have d1: ¬(i:Int)<L.length:=by omega
  have d2:(L.length:Int)<=30:=by omega
  rw[ZE (by omega),Xu] at hD;rw[<-hD] at hS;simp only[d1,d2,zB,Qs,Za,Ze,Ψ31];exact hS
theorem c30 (d:Dcm):Spec Tryz.prog 30 [.agg (zV d)] (fun v=>v=.bool (uX d)):=by
 refine Spec.of_awlS hf30 okf30 (by simp) fun S hS=>?_
 unfold zV;unfold uX at hS;by_cases h14:d.flds.length<=14
 ·by_cases h100:d.kind.length<=100
  ·rw[decide_eq_true h14,decide_eq_true h100,ZC,ZC] at hS
   have c1: ¬(d.flds.length:Int)>14:=by omega
   have c2: ¬(d.kind.length:Int)>100:=by omega
   simp only[c1,c2,zB,Qs,Zb,Zd,Za,Ze,Ψ30];rw[uu f30l51.eq_1];refine zO (fun i:Nat=>[(1,.k (.c (.ro [.str d.kind,zF 2 (d.flds.map zW)] 0))),(3,.int .i64 i)]) (fun _=>[]) (fun i=>i<=d.flds.length/\(d.flds.drop i).all pK=d.flds.all pK) (fun i=>d.flds.length-i) 0 rfl rfl ⟨Zy _,rfl⟩ ?_;rintro i ⟨hi,hD⟩;by_cases hlt:i<d.flds.length
   ·have d1:(i:Int)<d.flds.length:=by omega
    have c4:IntKind.i64.wrap ((i:Int)+1)=(i:Int)+1:=wrap_in (by omega) (by omega);have hat:=oS hlt;rw[Zx hlt,Yz] at hD;generalize d.flds[i]=f at hat hD;have hbad:pK f=false->S (.bool false):=fun h=>by
     rw[h,ZF] at hD;rw[<-hD] at hS;exact hS
    have hF:pK f=((decide (f.words.length<=10)&&decide (f.name.length<=100))&&f.words.all pJ):=rfl;by_cases h10:f.words.length<=10
    ·by_cases hnm:f.name.length<=100
     ·rw[decide_eq_true h10,decide_eq_true hnm,ZC,ZC] at hF
      have e1: ¬(f.words.length:Int)>10:=by omega
      have e2: ¬(f.name.length:Int)>100:=by omega
      simp only[d1,e1,e2,hat,zB,Qs,Zb,Zd,Za,Ze,Ψ30];rw[uu f30l35.eq_1];refine zO (fun k:Nat=>[(1,.k (.c (.ro [.str d.kind,zF 2 (d.flds.map zW)] 0))),(3,.int .i64 i),(4,.int .i64 k)]) (fun _=>[]) (fun k=>k<=f.words.length/\(f.words.drop k).all pJ=f.words.all pJ) (fun k=>f.words.length-k) 0 rfl rfl ⟨Zy _,rfl⟩ ?_;rintro k ⟨hk,hD2⟩;by_cases hlk:k<f.words.length
      ·have d2:(k:Int)<f.words.length:=by omega
       have c5:IntKind.i64.wrap ((k:Int)+1)=(k:Int)+1:=wrap_in (by omega) (by omega);have haw:=lY hlk;rw[Zx hlk,Yz] at hD2;generalize f.words[k]=w at haw hD2;have hbad2:pJ w=false->S (.bool false):=fun h=>hbad (by rw[hF,<-hD2,h,ZF])
       have hW:pJ w=(decide (w.length<=6)&&w.all fun s=>decide (s.length<=100)):=rfl;by_cases h6:w.length<=6
       ·rw[decide_eq_true h6,ZC] at hW
        have e3: ¬(w.length:Int)>6:=by omega
        simp only[d1,d2,e3,hat,haw,zB,zQ,Qs,Zb,Za,Ze,Ψ30];rw[uu f30l17.eq_1];refine zO (fun j:Nat=>[(1,.k (.c (.ro [.str d.kind,zF 2 (d.flds.map zW)] 0))),(3,.int .i64 i),(4,.int .i64 k),(5,lst 1 (zK w)),(6,.int .i64 j)]) (fun _=>[]) (fun j=>j<=w.length/\(w.drop j).all (fun s=>decide (s.length<=100))=w.all fun s=>decide (s.length<=100)) (fun j=>w.length-j) 0 rfl rfl ⟨Zy _,rfl⟩ ?_;rintro j ⟨hj,hD3⟩;by_cases hlj:j<w.length
        ·have d3:(j:Int)<w.length:=by omega
         have c6:IntKind.i64.wrap ((j:Int)+1)=(j:Int)+1:=wrap_in (by omega) (by omega);have has:=vU hlj;rw[Zx hlj,Yz] at hD3;generalize w[j]=s at has hD3;by_cases hs:s.length<=100
         ·rw[decide_eq_true hs,ZC] at hD3
          have e4: ¬(s.length:Int)>100:=by omega
          simp only[d3,e4,c6,has,zQ,Qs,Za,Ψ30];exact Next.intro (j+1) rfl rfl ⟨by omega,hD3⟩ (by omega)
         ·rw[decide_eq_false hs,ZF] at hD3
          have e4:(s.length:Int)>100:=by omega
          simp only[d3,e4,has,zQ,Qs,Za,Ψ30];exact hbad2 (by rw[hW,<-hD3])
        ·have d3: ¬(j:Int)<w.length:=by omega
         rw[ZE (by omega),Xu] at hD3;rw[hW,<-hD3,ZC] at hD2;simp only[d3,c5,zQ,Qs,reduceCtorEq,Zn,Za,Ψ30];exact Next.intro (k+1) rfl rfl ⟨by omega,hD2⟩ (by omega)
       ·rw[decide_eq_false h6,ZF] at hW
        have e3:(w.length:Int)>6:=by omega
        simp only[d1,d2,e3,hat,haw,zB,zQ,Qs,Zb,Za,Ze,Ψ30];exact hbad2 hW
      ·have d2: ¬(k:Int)<f.words.length:=by omega
       rw[ZE (by omega),Xu] at hD2;rw[hF,<-hD2,ZC] at hD;simp only[d1,d2,c4,hat,zB,Qs,reduceCtorEq,Zb,Za,Ze,Ψ30];exact Next.intro (i+1) rfl rfl ⟨by omega,hD⟩ (by omega)
     ·rw[decide_eq_false hnm,Yo,ZF] at hF
      have e1: ¬(f.words.length:Int)>10:=by omega
      have e2:(f.name.length:Int)>100:=by omega
      simp only[d1,e1,e2,hat,zB,Qs,Zb,Zd,Za,Ze,Ψ30];exact hbad hF
    ·rw[decide_eq_false h10,ZF,ZF] at hF
     have e1:(f.words.length:Int)>10:=by omega
     simp only[d1,e1,hat,zB,Qs,Zb,Za,Ze,Ψ30];exact hbad hF
   ·have d1: ¬(i:Int)<d.flds.length:=by omega
    rw[ZE (by omega),Xu] at hD;rw[<-hD] at hS;simp only[d1,zB,Qs,Zb,Za,Ze,Ψ30];exact hS
  ·rw[decide_eq_false h100,Yo,ZF] at hS
   have c1: ¬(d.flds.length:Int)>14:=by omega
   have c2:(d.kind.length:Int)>100:=by omega
   simp only[c1,c2,zB,Qs,Zb,Zd,Za,Ze,Ψ30];exact hS
 ·rw[decide_eq_false h14,ZF,ZF] at hS
  have c1:(d.flds.length:Int)>14:=by omega
  simp only[c1,zB,Qs,Zb,Za,Ze,Ψ30];exact hS
end Go.Abs
namespace Go.Ex
open Go.Lib Go.Wd Go.Wire Go.Abs
def kM (L:List Dmd) (D:List Dcm):Bool:=(D.take 12).all uX&&(decide (L.length<=8)&&(decide (D.length<=12)&&(L.all qL&&(decide ((cnts D).2.2≠0)||decide ((cnts D).2.1<=128)))))
theorem zkw {d:Dcm} (h:uX d=true):DcmS d:=by
 unfold uX at h;simp only[Zp,decide_eq_true_eq,Zt] at h;obtain⟨⟨h1,h2⟩,h3⟩:=h;refine⟨by omega,by omega,fun f hf=>?_⟩;have:=h3 f hf;unfold pK at this;simp only[Zp,decide_eq_true_eq,Zt] at this;obtain⟨⟨h4,h5⟩,h6⟩:=this;refine⟨by omega,by omega,fun w hw=>?_⟩;have:=h6 w hw;unfold pJ at this;simp only[Zp,decide_eq_true_eq,Zt] at this;exact⟨by omega,fun s hs=>by have:=this.2 s hs;omega⟩
theorem cC {D:List Dcm} (h1:(D.take 12).all uX=true) (h2:D.length<=12):uT D:=by
 rw[ZU (by omega)] at h1;exact⟨by omega,fun d hd=>zkw (Zt.1 h1 d hd)⟩
end Go.Ex
namespace Go.Abs
open Go.Proofs Go.RowKit Go.Lib Go.Wd Go.Wire Go.Ex
theorem c9 (L:List Dmd) (D:List Dcm):Spec Tryz.prog 9 [lst 8 (L.map zM),lst 2 (D.map zV)] (fun v=>v=.bool (kM L D)):=by
 refine Spec.of_awlS hf9 okf9 (by simp) fun S hS=>?_
 unfold kM at hS;simp only[zB,Qs,Zb,Ψ9];rw[uu f9l23.eq_1];refine zO (fun i:Nat=>[(0,lst 8 (L.map zM)),(1,lst 2 (D.map zV)),(5,.int .i64 i)]) (fun _=>[]) (fun i=>i<=D.length/\i<=12/\((D.take 12).drop i).all uX=(D.take 12).all uX) (fun i=>D.length-i) 0 rfl rfl ⟨Zy _,by decide,rfl⟩ ?_;rintro i ⟨hi,hi12,hD⟩;have fin: ¬(i<D.length/\i<12)->(D.take 12).all uX=true:=fun h=>by
  rw[<-hD,ZE (by rw[Yk];omega)];rfl
 by_cases hlt:i<D.length
 ·by_cases h12:i<12
  ·have d1:(i:Int)<D.length:=by omega
   have d2:(i:Int)<12:=by omega
   have c4:IntKind.i64.wrap ((i:Int)+1)=(i:Int)+1:=wrap_in (by omega) (by omega);have hat:=mC hlt;have hlt2:i<(D.take 12).length:=by rw[Yk];omega
   have hg:(D.take 12)[i]=D[i]:=List.getElem_take;rw[Zx hlt2,Yz,hg] at hD;have g1:=c30 D[i];generalize D[i]=d at hat hD g1;rw[show zV d=[.str d.kind,zF 2 (d.flds.map zW)] from rfl] at g1;simp only[d1,d2,hat,zB,Qs,Za,Ze,Ψ9];refine zD g1 ?_ (ha:=by simp only[Zj,Zo,zC,V.norm,C.norm,C.normRow,zS wS]<;>rfl);cases hf:uX d with
   |true=>
    rw[hf,ZC] at hD;simp only[c4,Qs,Za,Ψ9];exact Next.intro (i+1) rfl rfl ⟨by omega,by omega,hD⟩ (by omega)
   |false=>
    rw[hf,ZF] at hD;rw[<-hD,ZF] at hS;simp only[Qs,Ψ9];exact hS
  ·have d1:(i:Int)<D.length:=by omega
   have d2: ¬(i:Int)<12:=by omega
   have hall:=fin (by omega);simp only[d1,d2,zB,Qs,Za,Ze,Ψ9];rw[hall,ZC] at hS;refine⟨fun q=>?_,fun q1=>⟨fun q=>?_,fun q2=>?_⟩⟩
   ·rw[decide_eq_false (by omega: ¬L.length<=8),ZF] at hS
    exact hS
   ·rw[decide_eq_true (by omega:L.length<=8),ZC,decide_eq_false (by omega: ¬D.length<=12),ZF] at hS
    exact hS
   ·have q12:D.length<=12:=by omega
    rw[decide_eq_true (by omega:L.length<=8),ZC,decide_eq_true q12,ZC] at hS;have g31:=c31 L (by omega);have g18:=c18 D (cC hall q12);refine zD g31 ?_ (ha:=by simp only[Zj,Zo,zC,V.norm,zI,yK uL,C.norm]<;>rfl);cases hm:L.all qL with
    |false=>
     rw[hm,ZF] at hS;simp only[Qs,Za,Ψ9];exact hS
    |true=>
     rw[hm,ZC] at hS;simp only[Qs,Za,Ψ9];refine zD g18 ?_ (ha:=by simp only[Zj,Zo,zC,V.norm,zI,yK yN,C.norm]<;>rfl);by_cases he:(cnts D).2.2=0
     ·have e1:((cnts D).2.2 !=0)=false:=by simp[he]
      rw[decide_eq_false (fun q=>q he),Yd] at hS;simp only[e1,Qs,Za,Ψ9];exact hS
     ·have e1:((cnts D).2.2 !=0)=true:=by simp[he]
      rw[decide_eq_true he,YI] at hS;simp only[e1,Qs,Za,Ψ9];exact hS
 ·have d1: ¬(i:Int)<D.length:=by omega
  have hall:=fin (by omega);simp only[d1,zB,Qs,Za,Ze,Ψ9];rw[hall,ZC] at hS;refine⟨fun q=>?_,fun q1=>⟨fun q=>?_,fun q2=>?_⟩⟩
  ·rw[decide_eq_false (by omega: ¬L.length<=8),ZF] at hS
   exact hS
  ·rw[decide_eq_true (by omega:L.length<=8),ZC,decide_eq_false (by omega: ¬D.length<=12),ZF] at hS
   exact hS
  ·have q12:D.length<=12:=by omega
   rw[decide_eq_true (by omega:L.length<=8),ZC,decide_eq_true q12,ZC] at hS;have g31:=c31 L (by omega);have g18:=c18 D (cC hall q12);refine zD g31 ?_ (ha:=by simp only[Zj,Zo,zC,V.norm,zI,yK uL,C.norm]<;>rfl);cases hm:L.all qL with
   |false=>
    rw[hm,ZF] at hS;simp only[Qs,Za,Ψ9];exact hS
   |true=>
    rw[hm,ZC] at hS;simp only[Qs,Za,Ψ9];refine zD g18 ?_ (ha:=by simp only[Zj,Zo,zC,V.norm,zI,yK yN,C.norm]<;>rfl);by_cases he:(cnts D).2.2=0
    ·have e1:((cnts D).2.2 !=0)=false:=by simp[he]
     rw[decide_eq_false (fun q=>q he),Yd] at hS;simp only[e1,Qs,Za,Ψ9];exact hS
    ·have e1:((cnts D).2.2 !=0)=true:=by simp[he]
     rw[decide_eq_true he,YI] at hS;simp only[e1,Qs,Za,Ψ9];exact hS
end Go.Abs
namespace Go.Ex
open Go.Lib Go.Wd Go.Wire Go.Abs Go.Proofs
structure DmdI (m:Dmd):Prop where
 l1: -9223372036854775808<=m.lo
 l2:m.lo<=9223372036854775807
 h1: -9223372036854775808<=m.hi
 h2:m.hi<=9223372036854775807
theorem zkx {B:Nat}: ∀l:List Txt,(∀s∈l,s.length<=B)->xJ l<=l.length*B
 |[],_=>by simp[xJ]
 |s::l,h=>by
  have h1:=h s (by simp);have h2:=zkx l fun x hx=>h x (ZH _ hx)
  rw[xJ,Zu,Xw];omega
theorem zqN {f:Fld} (hf:pK f=true) (hp: ∀w∈f.words,1<=w.length) (i:Nat):(textF f i).length<=2000:=by
 unfold pK at hf;simp only[Zp,decide_eq_true_eq,Zt] at hf;obtain⟨⟨h4,_⟩,h6⟩:=hf;have hm:=za9 (W:=f.words) (i:=i) (B:=100) fun w hw=>⟨hp w hw,fun s hs=>by
  have:=h6 w hw
  unfold pJ at this
  simp only[Zp,decide_eq_true_eq,Zt] at this
  exact this.2 s hs⟩
 have hl:=dK f.words i;unfold textF;rw[<-zba];have h1:=dJ [32] (pick f.words i).1;have h2:=zkx _ hm;rw[hl] at h1 h2;simp only[Zu,ZK] at h1;omega
theorem zky: ∀(l:List Fld) (i:Nat),(wM l i).1.length=l.length/\ ∀s∈(wM l i).1,∃f∈l,∃j,s=textF f j
 |[],i=>by simp[wM]
 |f::l,i=>by
  have ih:=zky l i;rw[wM];refine⟨by simp[ih.1],fun s hs=>?_⟩;rcases ZB.1 hs with rfl|hs
  ·exact⟨f,by simp,_,rfl⟩
  ·obtain⟨g,hg,j,e⟩:=ih.2 s hs
   exact⟨g,ZH _ hg,j,e⟩
theorem zqO {d:Dcm} (h:uX d=true) (h0:xC d=0) (q:Nat):PlnS (rdD d q):=by
 have hR:=qV (zkw h) h0;unfold uX at h;simp only[Zp,decide_eq_true_eq,Zt] at h;obtain⟨⟨h1,h2⟩,h3⟩:=h;obtain⟨t1,t2⟩:=zky d.flds q;refine⟨by show d.kind.length<=_;omega,by show(d.flds.map Fld.name).length<=_;rw[Ze];omega,by show(wM d.flds q).1.length<=_;omega,fun s hs=>?_⟩;obtain⟨f,hf,j,rfl⟩:=t2 s hs;obtain⟨i,hi,rfl⟩:=XP hf;have hF:=(za0 hi (hR.s.fl _ hf) (hR.fe i hi)).1;have:=zqN (h3 _ hf) (fun w hw=>(hF.sp w hw).1) j;omega
theorem zbP: ∀(D:List Dcm) (cs:List Nat) (i:Nat),(xU D cs i).1.length<=D.length/\ ∀p∈(xU D cs i).1,∃d∈D,∃q,p=rdD d q
 |[],cs,i=>by cases cs<;>simp[xU]
 |d::D,[],i=>by simp[xU]
 |d::D,c::cs,i=>by
  have ih:=zbP D cs i;rw[xU];refine⟨by simp[ih.1],fun s hs=>?_⟩;rcases ZB.1 hs with rfl|hs
  ·exact⟨d,by simp,_,rfl⟩
  ·obtain⟨g,hg,j,e⟩:=ih.2 s hs
   exact⟨g,ZH _ hg,j,e⟩
theorem cD {L:List Dmd} {D:List Dcm} (hL: ∀m∈L,DmdI m) (h:kM L D=true):AskS L D/\((cnts D).2.2=0->yY D<=128):=by
 unfold kM at h;simp only[Zp,decide_eq_true_eq,Yi] at h;obtain⟨h1,h2,h3,h4,h5⟩:=h;have hD:=cC h1 h3;rw[ZU (by omega),Zt] at h1;rw[Zt] at h4;refine⟨⟨h2,fun m hm=>?_,hD,fun h0 i _=>?_⟩,fun h0=>?_⟩
 ·have:=h4 m hm
  unfold qL at this;simp only[Zp,decide_eq_true_eq] at this;obtain⟨⟨⟨⟨a1,a2⟩,a3⟩,a4⟩,a5⟩:=this;have hI:=hL m hm;exact⟨by omega,by omega,by omega,by omega,by omega,hI.l1,hI.l2,hI.h1,hI.h2⟩
 ·have hok:=vQ h0
  obtain⟨r1,r2⟩:=zbP D (xO D) i;refine⟨by show(xU D (xO D) i).1.length<=_;omega,fun p hp=>?_⟩;obtain⟨d,hd,q,rfl⟩:=r2 p hp;exact zqO (h1 d hd) (rP (hok.e d hd)) q
 ·have hok:=vQ h0
  rcases h5 with h5|h5
  ·exact absurd h0 h5
  ·have:=hok.n
   omega
end Go.Ex
namespace Go.Abs
open Go.RowKit Go.Proofs Go.Wd Go.Wire Go.Ex
theorem zkz {α:Type} {S:List C->Prop} (enc:α->List C) (Q:α->Prop) (hS: ∀r,S r-> ∃a,r=enc a/\Q a): ∀(rows:List (List C)),(∀r∈rows,S r)-> ∃l:List α,rows=l.map enc/\ ∀a∈l,Q a
 |[],_=>⟨[],rfl,fun _ h=>by cases h⟩
 |r::rows,h=>by
  obtain⟨a,ha,hq⟩:=hS r (h r (by simp));obtain⟨l,hl,hQ⟩:=zkz enc Q hS rows (fun x hx=>h x (by simp[hx]));refine⟨a::l,by rw[ha,hl];rfl,fun x hx=>?_⟩;rcases ZB.1 hx with rfl|hx
  ·exact hq
  ·exact hQ x hx
theorem zkA {m:Int} (h:(Lit.int .i64 m).wf=true): -9223372036854775808<=m/\m<=9223372036854775807:=by
 have:=(Lit.wf_int_iff _ _).1 h;simpa [IntKind.min,IntKind.max,IntKind.signed,IntKind.bits] using this
theorem zqP {n:Nat} {r:List C} (hr:xE Tryz.prog n 46 r): ∃x:Dmd,r=zM x/\DmdI x:=by
 obtain⟨m,rs,_,rfl,h⟩:=dA Tryz.underlying46 hr
 match rs,h with
 |[x0,x1,x2,x3,x4,x5,x6,x7],⟨h0,h1,h2,h3,h4,h5,h6,h7,_⟩=>
  obtain⟨a0,rfl,_⟩:=eZ Tryz.underlying3 h0;obtain⟨a1,rfl,_⟩:=oP Tryz.underlying9 h1;obtain⟨a2,rfl,_⟩:=oP Tryz.underlying9 h2;obtain⟨a3,rfl,_⟩:=oP Tryz.underlying9 h3;obtain⟨a4,rfl,_⟩:=oP Tryz.underlying9 h4;obtain⟨a5,rfl,_⟩:=oP Tryz.underlying9 h5;obtain⟨a6,rfl,q6⟩:=eZ Tryz.underlying3 h6;obtain⟨a7,rfl,q7⟩:=eZ Tryz.underlying3 h7;have w6:=zkA q6;have w7:=zkA q7;exact⟨⟨a0,a1,a2,a3,a4,a5,a6,a7⟩,rfl,w6.1,w6.2,w7.1,w7.2⟩
theorem zqQ {n:Nat} {r:List C} (hr:xE Tryz.prog n 22 r): ∃l:List Dmd,tU Tryz.prog 22 r=lst 8 (l.map zM)/\ ∀m∈l,DmdI m:=by
 obtain⟨m,rows,rfl,rfl,_,h⟩:=iG Tryz.underlying22 hr;obtain⟨l,rfl,hq⟩:=zkz zM DmdI (fun r hr=>zqP hr) rows h;exact⟨l,by simp only[tU,Tryz.underlying22,show Tryz.prog.cellsOf 46=8 by kernel_rfl],hq⟩
theorem zqR {n:Nat} {r:List C} (hr:xE Tryz.prog n 109 r): ∃x:List Txt,r=wH x:=by
 obtain⟨m,rs,_,rfl,h⟩:=dA Tryz.underlying109 hr
 match rs,h with
 |[x0],⟨h0,_⟩=>
  obtain⟨_,rows,_,rfl,_,h⟩:=iG Tryz.underlying51 h0;obtain⟨l,rfl⟩:=iH (fun s:Txt=>[C.str s]) (fun r hr=>by obtain⟨x,rfl,_⟩:=oP Tryz.underlying9 hr;exact⟨x,rfl⟩) rows h;exact⟨l,by rw[show Tryz.prog.cellsOf 9=1 by kernel_rfl];rfl⟩
theorem zqS {n:Nat} {r:List C} (hr:xE Tryz.prog n 107 r): ∃x:Fld,r=zW x:=by
 obtain⟨m,rs,_,rfl,h⟩:=dA Tryz.underlying107 hr
 match rs,h with
 |[x0,x1],⟨h0,h1,_⟩=>
  obtain⟨a0,rfl,_⟩:=oP Tryz.underlying9 h0;obtain⟨_,rows,_,rfl,_,h⟩:=iG Tryz.underlying105 h1;obtain⟨l,rfl⟩:=iH wH (fun r hr=>zqR hr) rows h;exact⟨⟨a0,l⟩,by rw[show Tryz.prog.cellsOf 109=1 by kernel_rfl];rfl⟩
theorem zqT {n:Nat} {r:List C} (hr:xE Tryz.prog n 58 r): ∃x:Dcm,r=zV x:=by
 obtain⟨m,rs,_,rfl,h⟩:=dA Tryz.underlying58 hr
 match rs,h with
 |[x0,x1],⟨h0,h1,_⟩=>
  obtain⟨a0,rfl,_⟩:=oP Tryz.underlying9 h0;obtain⟨_,rows,_,rfl,_,h⟩:=iG Tryz.underlying56 h1;obtain⟨l,rfl⟩:=iH zW (fun r hr=>zqS hr) rows h;exact⟨⟨a0,l⟩,by rw[show Tryz.prog.cellsOf 107=2 by kernel_rfl];rfl⟩
theorem zqU {n:Nat} {r:List C} (hr:xE Tryz.prog n 23 r): ∃l:List Dcm,tU Tryz.prog 23 r=lst 2 (l.map zV):=by
 obtain⟨m,rows,rfl,rfl,_,h⟩:=iG Tryz.underlying23 hr;obtain⟨l,rfl⟩:=iH zV (fun r hr=>zqT hr) rows h;exact⟨l,by simp only[tU,Tryz.underlying23,show Tryz.prog.cellsOf 58=2 by kernel_rfl]⟩
end Go.Abs
namespace Go.Abs
theorem zqV {m:Int} (h:(Lit.int .i64 m).wf=true): -9223372036854775808<=m/\m<=9223372036854775807:=by
 have:=(Lit.wf_int_iff _ _).1 h;simpa [IntKind.min,IntKind.max,IntKind.signed,IntKind.bits] using this
section
variable {P : Program}
theorem zqW {n:Nat} {t:TypeId} {r:List C} (ht:P.underlying t=some (.int .i64)) (hr:xE P n t r): ∃m:Int,tU P t r=.int .i64 m/\(-9223372036854775808<=m/\m<=9223372036854775807):=by
 obtain⟨m,rfl,h⟩:=eZ ht hr;exact⟨m,by simp only[tU,ht],zqV h⟩
end
end Go.Abs
namespace Go.Proofs.YtpmicgjdckeejaaGreatDoor
open Go.Abs Go.RowKit Go.ChangeShapes Go.WideShapes Go.ChangeAt Go.WideMaps Go.WideElems Go.Ex
theorem own:ownKnob Tryz.prog.godebug=none:=by kernel_rfl
theorem kids:Kids Tryz.prog (· <Tryz.prog.types.size):=kids_rows (by kernel_rfl) (by kernel_rfl)
theorem full: ∀t e,t<Tryz.prog.types.size->Tryz.prog.underlying t=some (.slice e)->0<Tryz.prog.cellsOf e:=slices_full_of Tryz.prog (by kernel_rfl)
def cE:List TypeId:=[3,4,5,9,22,23,36,46,51,56,58,105,107,109]
theorem zqX:mB Tryz.prog cE=true:=by kernel_rfl
theorem zqY: ∀t∈cE,t<Tryz.prog.types.size:=by
 have:cE.all (fun t=>decide (t<Tryz.prog.types.size))=true:=by kernel_rfl
 simpa using this
abbrev cF:List (String×DataW Unit):=Rows.examineConflictsRow.laid
theorem zqZ {W:World} {name:String} {g:Nat} {cs:Array Value} (hn:Tryz.prog.globalNamed name=some g) (hv:W.var? Tryz.prog name=some cs): ∃t f,W.heap[g]?=some (.cells cs t f):=by
 unfold World.var? at hv;rw[hn,Xg] at hv;split at hv
 ·rename_i h
  cases hv;exact⟨_,_,h⟩
 ·cases hv
theorem zq0 {P:Program} {w:World} {g n:Nat} {t tE:TypeId} {zero:Array Value} {k:IntKind}
  (h:w.ShapedOpen P) (hg:g<P.globals.size) (h0:((begin P (fun _ _=>0) default).world.heap[g]?).bind Obj.row?=some (zero,t)) (hz:zero.size=n)
  (hb:P.buildable t=true) (hc:P.cellTypes P.depth t=some (List.replicate n tE)) (hu:P.underlying tE=some (.int k)):
  ∃cs T f,w.heap[g]?=some (.cells cs T f)/\ ∀i,i<n-> ∃z:Int,cs[i]?=some (.int k z):=by
 obtain⟨cs,hh,hs,hr⟩:=h.1 g zero t hg h0;obtain⟨ts,hts,_,hall⟩:=hr hb;rw[hc] at hts;cases hts;refine⟨cs,_,_,hh,fun i hi=>?_⟩;have h1:i<cs.size:=by omega
 obtain⟨u,hu',hok⟩:=hall i cs[i] (by simp[h1]);have:u=tE:=by simp[X9,hi] at hu';exact hu'.2.symm
 subst this;have hcell:cs[i]?=some cs[i]:=by simp[h1]
 rw[hcell];unfold Cell.ok at hok;rw[hu] at hok;cases hv:cs[i]<;>rw[hv] at hok<;>simp at hok
 case int k' n=>exact⟨n,by rw[hok.1]⟩
theorem zkB {W:World} (hL:laidMet Tryz.prog cF W) {name:String} {g n:Nat} {T:TypeId} {zs:List Int} {d:DataW Unit} (hm:(name,d)∈cF) (hd0:d=Lib.tabData .u8 zs) (hn:Tryz.prog.globalNamed name=some g)
  (hT:(Tryz.prog.globals[g]?).map (·.type)=some T) (ht:Tryz.prog.underlying T=some (.array n 5)) (hct:Tryz.prog.cellsOf T=n):g<W.heap.size/\ ∃b,W.heap[g]?=some b/\tL (zs.map fun z=>Value.int .u8 z).toArray b:=by
 obtain⟨g',t',cs,fuel,p,hg',hty,hvar,hd⟩:=Lib.laidMet.reads hL (n:=name) hm;obtain rfl:=YA (hn.symm.trans hg');obtain rfl:=YA (hT.symm.trans hty);obtain⟨t,f,hb⟩:=zqZ hn hvar;refine⟨(Zs.1 hb).1,_,hb,?_⟩;subst hd0;have e:=Lib.cells_of_tab ht Tryz.underlying5 (by kernel_rfl) hct hd;show cs=_;rw[<-e]
theorem zq1 {W:World} (hL:laidMetH Tryz.prog cF W) (hsh:W.ShapedOpen Tryz.prog):yU (Go.Abs.base W):=by
 rw[MakeChecks.laidMetH_plain _ _ _ (by kernel_rfl)] at hL;refine⟨(fun _ _ h=>nomatch h),fun g p hg=>?_⟩
 match g,hg with
 |2,hg=>
  cases hg;obtain⟨m,hm⟩:=cell_of_shapedOpen_int (zero:= #[.int .i64 0]) (t:=3) (k:=.i64) (g:=2) hsh (of_decide_eq_true (by kernel_rfl)) (by kernel_rfl) rfl (by kernel_rfl) (by kernel_rfl) Tryz.underlying3;unfold World.cell? at hm;cases hb:W.heap[2]? with
  |none=>rw[hb] at hm;simp at hm
  |some ob=>
   refine⟨(Zs.1 hb).1,ob,rfl,?_⟩;rw[hb] at hm;cases ob with
   |cells cs t f=>exact⟨_,by simpa using hm,m,rfl⟩
   |_=>simp at hm
 |0,hg=>cases hg;exact zkB hL (name:= "math/bits.deBruijn32tab") (T:=208) (.head _) rfl (by kernel_rfl) (by kernel_rfl) Tryz.underlying208 (by kernel_rfl)
 |1,hg=>cases hg;exact zkB hL (name:= "math/bits.deBruijn64tab") (T:=209) (.tail _ (.head _)) rfl (by kernel_rfl) (by kernel_rfl) Tryz.underlying209 (by kernel_rfl)
 |5,hg=>
  cases hg;obtain⟨cs,T,f,hb,hc⟩:=zq0 (zero:=(List.replicate 20 (Value.int .u64 0)).toArray) (t:=267) (tE:=154) (k:=.u64) (g:=5) (n:=20) hsh (of_decide_eq_true (by kernel_rfl)) (by kernel_rfl) rfl (by kernel_rfl) (by kernel_rfl) Tryz.underlying154;exact⟨(Zs.1 hb).1,_,hb,hc⟩
theorem zq2 (os:Os) (args:Array Value):laidMetH Tryz.prog cF ((World.doorLaid Tryz.prog 400 os).forCall (fun _ _=>0) ⟨#[],args,[]⟩).memory:=
 laidMetH_of_parts3 (fuel:=8) (laidMet_of_run' 8 (by kernel_rfl) (by kernel_rfl)) (by kernel_rfl) (by kernel_rfl)
end Go.Proofs.YtpmicgjdckeejaaGreatDoor
namespace Go.Abs
open Go.Proofs Go.RowKit Go.Lib Go.Wd Go.Wire Go.Ex
theorem zq3 (c:UInt8):uR c=true ↔ 32<=c.toNat/\c.toNat<=126:=by unfold uR;rw[decide_eq_true_eq]
theorem zkC (s:Txt):quoB s=(s.all uR&&decide (s.length<=400)):=by
 unfold quoB;rw[Ye,decide_eq_true_eq,Zp,decide_eq_true_eq,<-lX];constructor
 ·intro h;exact⟨Decidable.byContradiction fun q=>h (.inr q),by omega⟩
 ·rintro⟨h1,h2⟩ (q|q)
  ·omega
  ·exact q h1
theorem zq4 (s:Txt) (hl:s.length<=9223372036854775807):Spec Tryz.prog 116 [.str s] (fun v=>v=.bool (quoB s)):=by
 refine Spec.of_awlS hf116 okf116 (by simp) fun S hS=>?_
 rw[zkC] at hS;simp only[Qs,Ψ116];rw[uu f116l15.eq_1];refine zO (fun i:Nat=>[(0,.str s),(3,.int .i64 i)]) (fun _=>[]) (fun i=>i<=s.length/\(s.drop i).all uR=s.all uR) (fun i=>s.length-i) 0 rfl rfl ⟨Zy _,rfl⟩ ?_;rintro i ⟨hi,hD⟩;by_cases hlt:i<s.length
 ·have d1:(i:Int)<s.length:=by omega
  have c4:IntKind.i64.wrap ((i:Int)+1)=(i:Int)+1:=wrap_in (by omega) (by omega);have hgt:=iI hlt;rw[Zx hlt,Yz] at hD;have hI:=zq3 s[i];generalize s[i]=c at hgt hD hI;by_cases h1:(c.toNat:Int)<32
  ·have hf:uR c=false:=by rw[Yj];intro h;have:=hI.1 h;omega
   rw[hf,ZF] at hD;rw[<-hD,ZF] at hS;simp only[d1,h1,hgt,Qs,Za,Ψ116];exact hS
  ·by_cases h2:(c.toNat:Int)>126
   ·have hf:uR c=false:=by rw[Yj];intro h;have:=hI.1 h;omega
    rw[hf,ZF] at hD;rw[<-hD,ZF] at hS;simp only[d1,h1,h2,hgt,Qs,Za,Ψ116];exact hS
   ·have hf:uR c=true:=hI.2 (by omega)
    rw[hf,ZC] at hD;simp only[d1,h1,h2,hgt,c4,Qs,Za,Ψ116];exact Next.intro (i+1) rfl rfl ⟨by omega,hD⟩ (by omega)
 ·have d1: ¬(i:Int)<s.length:=by omega
  rw[ZE (by omega)] at hD;rw[<-hD,show([]:Txt).all uR=true from rfl,ZC] at hS;simp only[d1,Qs,Za,Ψ116];exact wQ hS (by simp only[decide_eq_true_eq];omega)
end Go.Abs
namespace Go.Ex
open Go.Lib Go.Wd Go.Wire Go.Abs
def zZ (p:Pln) (f:Txt):Int:=
 if fstN (fun x=>decide (f=x)) p.names 0<p.texts.length then fstN (fun x=>decide (f=x)) p.names 0 else-1
end Go.Ex
namespace Go.Abs
open Go.Proofs Go.RowKit Go.Lib Go.Wd Go.Wire Go.Ex
theorem mQ (p:Pln) (f:Txt) (hn:p.names.length<=1000000):Spec Tryz.prog 123 [.agg (zX p),.str f] (fun v=>v=.int .i64 (zZ p f)):=by
 refine Spec.of_awlS hf123 okf123 (by simp) fun S hS=>?_
 unfold zZ at hS;unfold zX;simp only[Qs,Zb,Za,Ψ123];rw[uu f123l21.eq_1];refine zO (fun i:Nat=>[(1,.str f),(2,.k (.c (.ro [.str p.kind,zF 1 (zK p.names),zF 1 (zK p.texts)] 0))),(5,.int .i64 i)]) (fun _=>[]) (fun i=>i<=p.names.length/\fstN (fun x=>decide (f=x)) (p.names.drop i) i=fstN (fun x=>decide (f=x)) p.names 0) (fun i=>p.names.length-i) 0 rfl rfl ⟨Zy _,rfl⟩ ?_;rintro i ⟨hi,hD⟩;by_cases hlt:i<p.names.length
 ·have d1:(i:Int)<p.names.length:=by omega
  have c4:IntKind.i64.wrap ((i:Int)+1)=(i:Int)+1:=wrap_in (by omega) (by omega);rw[oQ hlt] at hD;have hat:=vU hlt;generalize p.names[i]=x at hD hat;by_cases he:x=f
  ·rw[if_pos (by rw[he];simp)] at hD
   rw[<-hD] at hS;by_cases ht:(i:Int)<p.texts.length
   ·rw[if_pos ht] at hS
    simp only[d1,hat,he,ht,zQ,Qs,BEq.rfl,Zb,Zd,Za,Ψ123];exact hS
   ·rw[if_neg ht] at hS
    simp only[d1,hat,he,ht,zQ,Qs,Yp,BEq.rfl,Zb,Zd,Za,Ψ123];exact hS
  ·rw[if_neg (by rw[decide_eq_true_eq];exact Ne.symm he)] at hD
   simp only[d1,hat,he,c4,zQ,Qs,forall_const,Yp,Zb,Zd,Za,Ψ123];exact Next.intro (i+1) rfl rfl ⟨by omega,hD⟩ (by omega)
 ·have d1: ¬(i:Int)<p.names.length:=by omega
  rw[ZE (by omega)] at hD;rw[<-hD] at hS;rw[show fstN (fun x=>decide (f=x)) [] i= -1 from rfl] at hS;simp only[d1,zQ,Qs,Yp,Zb,Zd,Za,Ψ123];split at hS<;>exact hS
end Go.Abs
namespace Go.Ex
open Go.Lib Go.Wd Go.Wire Go.Abs
theorem zbQ {α:Type} (d:α) (p:α->Bool): ∀(l:List α) (i:Nat),fstN p l i= -1\/ ∃j,j<l.length/\fstN p l i=((i+j:Nat):Int)/\p (l.getD j d)=true
 |[],_=> .inl rfl
 |a::l,i=>by
  rw[fstN];split
  ·rename_i h;exact .inr ⟨0,by simp,rfl,h⟩
  ·rcases zbQ d p l (i+1) with h|⟨j,h1,h2,h3⟩
   ·exact .inl h
   ·exact .inr ⟨j+1,by simp;omega,by rw[h2];congr 1;omega,h3⟩
theorem zkD (p:Pln) (f:Txt) (k:Nat) (hk:k<p.names.length):zZ p f=(k:Int) ↔ p.names.getD k []=f/\fstN (fun x=>decide (p.names.getD k []=x)) p.names 0=(k:Int)/\k<p.texts.length:=by
 unfold zZ;constructor
 ·intro h
  split at h
  ·rename_i h1
   rcases zbQ ([]:Txt) (fun x=>decide (f=x)) p.names 0 with q|⟨j,_,q2,q3⟩
   ·rw[q] at h;omega
   ·have e:j=k:=by have:=q2.symm.trans h;omega
    subst e;rw[decide_eq_true_eq] at q3;rw[<-q3];exact⟨rfl,h,by omega⟩
  ·omega
 ·rintro⟨h1,h2,h3⟩
  rw[h1] at h2;rw[if_pos (by omega),h2]
theorem zbR (p:Pln) (f:Txt): -1<=zZ p f/\zZ p f<p.names.length/\zZ p f<p.texts.length\/zZ p f= -1:=by
 unfold zZ;split
 ·rename_i h1
  rcases zbQ ([]:Txt) (fun x=>decide (f=x)) p.names 0 with q|⟨j,q1,q2,q3⟩
  ·exact .inr q
  ·left;rw[q2];rw[q2] at h1;omega
 ·exact .inr rfl
theorem zkE (p:Pln) (f:Txt): -1<=zZ p f:=by rcases zbR p f with h|h<;>omega
theorem zkF (p:Pln) (f:Txt):zZ p f<p.names.length:=by rcases zbR p f with h|h<;>omega
theorem zkG (p:Pln) (f:Txt):zZ p f<p.texts.length:=by rcases zbR p f with h|h<;>omega
def aG (m:Dmd) (p:Pln):Int:=if p.kind=m.doc then zZ p m.fld else-1
def bG (m:Dmd) (p:Pln):Int:=if p.kind=m.oth/\m.op=3 then zZ p m.sec else-1
def lkG (a b:Int) (i:Nat):List Plc:=(if min a b>=0/\min a b<max a b then[⟨(i:Int),min a b⟩] else[])++(if max a b>=0 then[⟨(i:Int),max a b⟩] else[])
theorem zq5 (m:Dmd) (p:Pln) (k:Nat) (hk:k<p.names.length):mG m p k=decide ((k:Int)=min (aG m p) (bG m p)\/(k:Int)=max (aG m p) (bG m p)):=by
 have h1:=zkD p m.fld k hk;have h2:=zkD p m.sec k hk;have e:((k:Int)=min (aG m p) (bG m p)\/(k:Int)=max (aG m p) (bG m p)) ↔ aG m p=(k:Int)\/bG m p=(k:Int):=by omega
 rw[Ye,decide_eq_true_eq,e];unfold mG aG bG;simp only[Zp,Yi,decide_eq_true_eq];constructor
 ·rintro⟨⟨q1,q2⟩,⟨q3,q4⟩|⟨q3,q4,q5⟩⟩
  ·left;rw[if_pos q3,h1];exact⟨q4,q1,q2⟩
  ·right;rw[if_pos ⟨q4,q3⟩,h2];exact⟨q5,q1,q2⟩
 ·rintro(q|q)
  ·split at q
   ·rename_i q0;rw[h1] at q;exact⟨⟨q.2.1,q.2.2⟩,.inl ⟨q0,q.1⟩⟩
   ·omega
  ·split at q
   ·rename_i q0;rw[h2] at q;exact⟨⟨q.2.1,q.2.2⟩,.inr ⟨q0.2,q0.1,q.1⟩⟩
   ·omega
theorem zkH (lo hi:Int) (h:lo<=hi) (i:Int): ∀n:Nat,((List.range n).filter fun(k:Nat)=>decide ((k:Int)=lo\/(k:Int)=hi)).map (fun(k:Nat)=>(⟨i,(k:Int)⟩:Plc))=(if lo>=0/\lo<hi/\lo<n then[⟨i,lo⟩] else[])++(if hi>=0/\hi<n then[⟨i,hi⟩] else[])
 |0=>by rw[if_neg (by omega),if_neg (by omega)];rfl
 |n+1=>by
  rw[YY,Y6,ZV,zkH lo hi h i n,Xn,XK];by_cases e1:(n:Int)=lo
  ·by_cases e2:(n:Int)=hi
   ·rw[if_neg (by omega),if_neg (by omega),if_pos (by simp[e1]),if_neg (by omega),if_pos (by omega),<-e2];rfl
   ·rw[if_neg (by omega),if_neg (by omega),if_pos (by simp[e1]),if_pos (by omega),if_neg (by omega),<-e1];rfl
  ·by_cases e2:(n:Int)=hi
   ·rw[if_neg (show¬(hi>=0/\hi<n) by omega),if_pos (show decide ((n:Int)=lo\/(n:Int)=hi)=true by simp[e2]),if_pos (show hi>=0/\hi<((n+1:Nat):Int) by omega),<-e2]
    by_cases q:lo>=0/\lo<(n:Int)
    ·rw[if_pos (by omega),if_pos (by omega)];rfl
    ·rw[if_neg (by omega),if_neg (by omega)];rfl
   ·rw[if_neg (show¬decide ((n:Int)=lo\/(n:Int)=hi)=true by simp[e1,e2])]
    have a1:(lo>=0/\lo<hi/\lo<(n:Int)) ↔ (lo>=0/\lo<hi/\lo<((n+1:Nat):Int)):=by omega
    have a2:(hi>=0/\hi<(n:Int)) ↔ (hi>=0/\hi<((n+1:Nat):Int)):=by omega
    simp only[a1,a2,Zo,Zi]
theorem zq6 (m:Dmd) (p:Pln) (i:Nat):qH m p i=lkG (aG m p) (bG m p) i:=by
 unfold qH lkG;have ha:aG m p<p.names.length:=by
  unfold aG;split
  ·exact zkF p m.fld
  ·omega
 have hb:bG m p<p.names.length:=by
  unfold bG;split
  ·exact zkF p m.sec
  ·omega
 rw[List.filter_congr (q:=fun(k:Nat)=>decide ((k:Int)=min (aG m p) (bG m p)\/(k:Int)=max (aG m p) (bG m p))) (fun k hk=>zq5 m p k (Yb.1 hk))];rw[zkH _ _ (by omega)];have a1:(min (aG m p) (bG m p)>=0/\min (aG m p) (bG m p)<max (aG m p) (bG m p)/\min (aG m p) (bG m p)<(p.names.length:Int)) ↔ (min (aG m p) (bG m p)>=0/\min (aG m p) (bG m p)<max (aG m p) (bG m p)):=by omega
 have a2:(max (aG m p) (bG m p)>=0/\max (aG m p) (bG m p)<(p.names.length:Int)) ↔ max (aG m p) (bG m p)>=0:=by omega
 simp only[a1,a2]
end Go.Ex
