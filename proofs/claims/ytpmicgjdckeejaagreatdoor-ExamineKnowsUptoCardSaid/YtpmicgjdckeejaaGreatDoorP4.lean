/- A part of the proof; the last text states what is proved. -/
import Derived.Test.YtpmicgjdckeejaaGreatDoorP3
import Derived.RangeFuncWrites
import Derived.RangeFuncNested
import Derived.Below
import Derived.RangeFuncBox
import Derived.RangeFuncLeaves
import Derived.Shelf.Abstract
import Derived.WalkKit
import Derived.OwnWalkIn
import Derived.TacticsInMore
import Derived.LoopNIn
import Derived.LoopIn
import Derived.Test.YtpmicgjdckeejaaGreatDoorProg
import Derived.BigCall
import Derived.Deep.LoopGhost
import Derived.Shelf.Strings.BuilderK
import Derived.Shelf.Strings.Builder2
import Derived.Shelf.Strings.Split
import Derived.Shelf.Strings.Builder1
import Derived.Deep.QuietTactic
import Derived.BigQuiet
import Derived.Maps.AppendAt
import Derived.Deep.AppendSrc
import Derived.RangeFuncRecord
import Derived.RangeFuncBound
import Derived.RangeFuncCalls
import Derived.Laws.MakeOwn
import Derived.Deep.RegionHeld3
import Derived.OrdersHeld
import Derived.OrdersIn
import Derived.TacticsIn
import Derived.Laws.Rows
import Derived.Shelf.SlSortCmp.NoneTotal
import Derived.Shelf.SlicesG.Cmp
set_option linter.unusedVariables false
set_option linter.unusedSimpArgs false
set_option maxRecDepth 100000
set_option maxHeartbeats 8000000
open Array renaming eq_empty_of_size_eq_zero → YR,getD_eq_getD_getElem? → ZR,getElem?_append_left → YT,getElem?_eq_getElem → Yb,getElem?_eq_some_iff → Zn,getElem?_modify → Xh,getElem?_push → YJ,getElem?_setIfInBounds → Yn,getElem?_toList → Ys,replicate → YM,replicate_succ → YB,replicate_zero → YA
open BitVec renaming ofInt → Yc,toNat_ofNat → Xv
open Bool renaming and_assoc → XM,and_eq_true → Zp,and_false → YU,eq_false_iff → YE,eq_iff_iff → Yp,false_and → ZP,false_eq_true → Z1,false_or → Ym,not_eq_true' → Xg,or_eq_true → Yi,true_and → ZJ,true_or → Y7
open Eq renaming refl → ZI,trans → ZQ
open Exists renaming intro → Z8
open Iff renaming rfl → XO
open Int renaming natCast_mul → Yt,reduceBNe → Xn,reduceLE → Yl,reduceNeg → Xm,reduceToNat → XN,toNat_natCast → Z6,toNat_zero → XT
open List renaming all_cons → Yz,all_eq_false → YD,all_eq_true → Zu,any_eq_true → Yo,append_assoc → Yd,append_nil → Zk,append_toArray → YC,cons_append → ZS,drop_eq_getElem_cons → ZE,drop_eq_nil_of_le → ZC,eq_nil_of_length_eq_zero → ZZ,exists_mem_of_ne_nil → Y8,ext_getElem → Xj,filter_append → X2,filter_filter → X1,flatten_cons → YL,foldl_append → Xq,foldl_cons → YQ,getD_eq_getElem?_getD → Zh,getElem?_append_left → ZD,getElem?_drop → YH,getElem?_eq_getElem → Zg,getElem?_eq_none → Y4,getElem?_eq_some_iff → Zr,getElem?_map → Zw,getElem?_range → XZ,getElem?_take → Z4,getElem?_toArray → Y3,getElem_mem → Zx,getElem_of_mem → YW,length_append → Zv,length_cons → Zo,length_filter_le → YF,length_map → Zi,length_nil → ZG,length_pos_iff → Yh,length_take → Yy,map_append → ZW,map_cons → Zm,map_nil → Zq,mem_append → Yg,mem_cons → ZH,mem_cons_of_mem → Zz,mem_cons_self → Yr,mem_filter → Yj,mem_map → ZB,mem_of_getElem? → ZL,mem_range → Z7,mem_singleton → ZU,nil_append → Ya,nodup_cons → ZY,not_mem_nil → Zy,pairwise_cons → XB,push_toArray → YK,range' → Xp,range_succ → XL,setIfInBounds_toArray → ZO,set_cons_succ → Z3,set_cons_zero → Z2,size_toArray → Yu,take_of_length_le → Z9,take_succ_eq_append_getElem → ZK
open List.Pairwise renaming nil → XI
open List.Perm renaming refl → Xu
open Nat renaming add_assoc → YO,add_comm → Y0,add_mul → Yx,add_zero → Yq,div_le_self → Xo,eq_of_mul_eq_mul_right → XQ,le_of_not_lt → Xl,le_refl → Zt,le_trans → ZT,lt_of_lt_of_le → ZM,lt_or_ge → YZ,min_eq_left → Xx,mod_eq_of_lt → Xt,mod_lt → Xc,mul_assoc → XD,mul_le_mul → YX,mul_le_mul_right → ZX,mul_one → YS,one_mul → Xs,one_shiftLeft → XH,pow_le_pow_right → Yf,reduceAdd → Zc,reduceBEq → Za,reduceEqDiff → Zs,reduceLT → Z5,reduceLeDiff → Zl,reduceMul → Ye,reduceSub → YV,sub_zero → XG,succ_mul → Xb,testBit_and → Xw,zero_add → ZV,zero_le → ZA,zero_testBit → Xa
open Option renaming getD_some → Y1,isSome_none → YN,map_eq_some_iff → Zd,map_some → Yw
open Option.some renaming inj → Yv
namespace Go.Abs
open Go.Proofs Go.RowKit Go.Lib Go.Wd Go.Wire Go.Ex
theorem c82 (f:Fld) (hf:FldR f):Spec Tryz.prog 82 [.agg (zR f)] (fun v=>v=.int .i64 (yQ f:Nat)):=by
 refine Spec.of_awlS hf82 okf82 (by simp) fun S hS=>?_
 have h8:=hf.ws;unfold zR;simp only[zI,Qs,Za,Ψ82];rw[uu f82l11.eq_1];refine yA (fun i:Nat=>[(1,.k (.c (.ro [.str f.name,zC 1 (f.words.map xX)] 0))),(3,.int .i64 (uV (f.words.take i):Nat)),(4,.int .i64 i)]) (fun _=>[]) (fun i=>i<=f.words.length) (fun i=>f.words.length-i) 0 rfl rfl (ZA _) ?_;intro i hi;by_cases hlt:i<f.words.length
 ·have c1:(i:Int)<f.words.length:=by omega
  have c4:IntKind.i64.wrap ((i:Int)+1)=(i:Int)+1:=wrap_in (by omega) (by omega);have hp:=iW hf.ws (fun w hw=>(hf.sp w hw).2) (i+1) (by omega);have hq:4 ^ (i+1)<=4 ^ 8:=Yf (by decide) (by omega);have hpt:=iV hlt;have hws:=lX hlt;generalize f.words[i]=w at hpt hws;have c5:IntKind.i64.wrap (((uV (f.words.take i):Nat):Int)*(w.length:Int))=((uV (f.words.take (i+1)):Nat):Int):=by
   have h4:(4:Nat) ^ 8=65536:=by decide
   rw[hpt,wrap_in]
   ·exact(Yt _ _).symm
   ·rw[<-Yt];omega
   ·rw[<-Yt,<-hpt];omega
  simp only[c1,c4,c5,hws,zI,yB,Qs,Zc,Za,Zi,Ψ82];exact Next.intro (i+1) rfl rfl (by omega) (by omega)
 ·have c1: ¬(i:Int)<f.words.length:=by omega
  rw[Z9 (by omega)];simp only[c1,zI,Qs,Zc,Za,Zi,Ψ82];exact hS
theorem zlY {α:Type} {p:α->Bool} {l:List α} {j:Nat} (h:j<l.length):(l.take (j+1)).any p=((l.take j).any p||p l[j]):=by
 rw[ZK h,List.any_append];simp
theorem c41 (d:Dcm) (hd:DcmS d):Spec Tryz.prog 41 [.agg (zV d)] (fun v=>v=.int .i64 (docE d)):=by
 refine Spec.of_awlS hf41 okf41 (by simp) fun S hS=>?_
 have g1:=c80 d.kind hd.kd;have hfs:=hd.fs;unfold docE at hS;unfold zV;cases hk:nameP d.kind with
 |false=>
  rw[hk] at g1;rw[if_neg (by rw[hk];simp)] at hS;simp only[Qs,Zc,Zl,Za,Ψ41];refine zF g1 ?_ (ha:=by rfl);simp only[Qs,Ψ41];exact hS
 |true=>
  rw[hk] at g1;rw[if_pos hk] at hS;by_cases h12:d.flds.length>12
  ·rw[if_pos h12] at hS
   have c1:(d.flds.length:Int)>12:=by omega
   simp only[Qs,Zc,Zl,Za,Ψ41];refine zF g1 ?_ (ha:=by rfl);simp only[zI,c1,Qs,Zc,Za,Zi,Ψ41];exact hS
  ·rw[if_neg h12] at hS
   have c1: ¬(d.flds.length:Int)>12:=by omega
   simp only[Qs,Zc,Zl,Za,Ψ41];refine zF g1 ?_ (ha:=by rfl);simp only[zI,c1,Qs,Zc,Za,Zi,Ψ41];rw[uu f41l59.eq_1];refine yA (fun i:Nat=>[(1,.k (.c (.ro [.str d.kind,zC 2 (d.flds.map zR)] 0))),(3,.int .i64 i)]) (fun _=>[]) (fun i=>i<=d.flds.length/\xL (wN d.flds) (d.flds.length-i) i=xL (wN d.flds) d.flds.length 0) (fun i=>d.flds.length-i) 0 rfl rfl ⟨ZA _,rfl⟩ ?_;rintro i ⟨hi,hD⟩;by_cases hlt:i<d.flds.length
   ·have d1:(i:Int)<d.flds.length:=by omega
    have c4:IntKind.i64.wrap ((i:Int)+1)=(i:Int)+1:=wrap_in (by omega) (by omega);rw[nW hlt] at hD;have hat:=oL hlt;have hgd:d.flds.getD i yT=d.flds[i]:=by rw[Zh,Zg hlt];rfl
    have hf:=hd.fl _ (Zx hlt);have hE:wN d.flds i=(if nameP d.flds[i].name=true then(if (d.flds.take i).any (fun g=>decide (g.name=d.flds[i].name))=true then 5 else if d.flds[i].words.length>8 then 6 else xL (fun k=>wI (d.flds[i].words.getD k [])) d.flds[i].words.length 0) else 2):=by
     unfold wN;simp only[hgd]
    generalize d.flds[i]=f at hat hf hE;have g2:=c80 f.name hf.nm;have hbad: ∀e:Int,wN d.flds i=e->e≠0->S (.int .i64 e):=fun e h1 h2=>by
     rw[h1,if_neg h2] at hD;rw[<-hD] at hS;exact hS
    cases hn:nameP f.name with
    |false=>
     rw[hn] at g2;rw[if_neg (by rw[hn];simp)] at hE;simp only[d1,hat,zI,Qs,Zk,Zc,Zl,Za,Zi,Ψ41];refine zF g2 ?_ (ha:=by rfl);simp only[Qs,Ψ41];exact hbad 2 hE (by decide)
    |true=>
     rw[hn] at g2;rw[if_pos hn] at hE;simp only[d1,hat,zI,Qs,Zk,Zc,Zl,Za,Zi,Ψ41];refine zF g2 ?_ (ha:=by rfl);simp only[Qs,Ψ41];rw[uu f41l40.eq_1];refine yA (fun j:Nat=>[(1,.k (.c (.ro [.str d.kind,zC 2 (d.flds.map zR)] 0))),(3,.int .i64 i),(4,.k (.c (.ro [.str f.name,zC 1 (f.words.map xX)] 0))),(5,.int .i64 j)]) (fun _=>[]) (fun j=>j<=i/\(d.flds.take j).any (fun g=>decide (g.name=f.name))=false) (fun j=>i-j) 0 rfl rfl ⟨ZA _,rfl⟩ ?_;rintro j ⟨hj,hN⟩;by_cases hji:j<i
     ·have d2:(j:Int)<i:=by omega
      have d3:(j:Int)<d.flds.length:=by omega
      have c5:IntKind.i64.wrap ((j:Int)+1)=(j:Int)+1:=wrap_in (by omega) (by omega);have hjl:j<d.flds.length:=by omega
      have haj:=oL hjl;have hat2:=zlY (p:=fun g:Fld=>decide (g.name=f.name)) hjl;rw[hN,Ym] at hat2;have hmono:d.flds[j].name=f.name->(d.flds.take i).any (fun g=>decide (g.name=f.name))=true:=fun h=>by
       rw[Yo];exact⟨d.flds[j],by rw[List.mem_take_iff_getElem];exact⟨j,by omega,rfl⟩,decide_eq_true h⟩
      generalize d.flds[j]=g at haj hat2 hmono;by_cases hab:g.name=f.name
      ·have e1:(g.name==f.name)=true:=by simp[hab]
       rw[if_pos (hmono hab)] at hE;simp only[d2,d3,e1,haj,zI,Qs,Zc,Zl,Za,Zi,Ψ41];exact hbad 5 hE (by decide)
      ·have e1:(g.name==f.name)=false:=by simp[hab]
       rw[decide_eq_false hab] at hat2;simp only[d2,d3,e1,haj,c5,zI,Qs,Zc,Zl,Za,Zi,Ψ41];exact Next.intro (j+1) rfl rfl ⟨by omega,hat2⟩ (by omega)
     ·have d2: ¬(j:Int)<i:=by omega
      obtain rfl:j=i:=by omega
      rw[if_neg (by rw[hN];simp)] at hE;by_cases h8:f.words.length>8
      ·rw[if_pos h8] at hE
       have e8:(f.words.length:Int)>8:=by omega
       simp only[d2,e8,zI,Qs,reduceCtorEq,Zc,Za,Zi,Ψ41];exact hbad 6 hE (by decide)
      ·rw[if_neg h8] at hE
       have e8: ¬(f.words.length:Int)>8:=by omega
       simp only[d2,e8,zI,Qs,reduceCtorEq,Zc,Za,Zi,Ψ41];rw[uu f41l18.eq_1];refine yA (fun k:Nat=>[(1,.k (.c (.ro [.str d.kind,zC 2 (d.flds.map zR)] 0))),(3,.int .i64 j),(4,.k (.c (.ro [.str f.name,zC 1 (f.words.map xX)] 0))),(6,.int .i64 k)]) (fun _=>[]) (fun k=>k<=f.words.length/\xL (fun k=>wI (f.words.getD k [])) (f.words.length-k) k=wN d.flds j) (fun k=>f.words.length-k) 0 rfl rfl ⟨ZA _,hE.symm⟩ ?_;rintro k ⟨hk2,hD3⟩;by_cases hlk:k<f.words.length
       ·have d3:(k:Int)<f.words.length:=by omega
        have c5:IntKind.i64.wrap ((k:Int)+1)=(k:Int)+1:=wrap_in (by omega) (by omega);have haw:=lX hlk;have hwg:f.words.getD k []=f.words[k]:=by rw[Zh,Zg hlk];rfl
        have hws:=hf.sp _ (Zx hlk);rw[nW hlk,hwg] at hD3;generalize f.words[k]=w at haw hws hD3;have g4:=c81 w hws.2 hws.1;simp only[d3,haw,zI,Qs,Zc,Za,Zi,Ψ41];refine zF g4 ?_ (ha:=by simp only[Zm,Zq,zB,V.norm,C.norm,C.normRow,zO,wD]<;>rfl);by_cases hw0:wI w=0
        ·have w0:(wI w !=0)=false:=by simp[hw0]
         rw[if_pos hw0] at hD3;simp only[w0,c5,Qs,Za,Ψ41];exact Next.intro (k+1) rfl rfl ⟨by omega,hD3⟩ (by omega)
        ·have w0:(wI w !=0)=true:=by simp[hw0]
         rw[if_neg hw0] at hD3;simp only[w0,Qs,Za,Ψ41];exact hbad (wI w) hD3.symm hw0
       ·have d3: ¬(k:Int)<f.words.length:=by omega
        rw[show f.words.length-k=0 by omega] at hD3;have hz:wN d.flds j=0:=hD3.symm;rw[if_pos hz] at hD;simp only[d3,c4,zI,Qs,reduceCtorEq,Zc,Zs,Za,Zi,Ψ41];exact Next.intro (j+1) rfl rfl ⟨by omega,hD⟩ (by omega)
   ·have d1: ¬(i:Int)<d.flds.length:=by omega
    rw[show d.flds.length-i=0 by omega] at hD;have hD2:0=xL (wN d.flds) d.flds.length 0:=hD;rw[<-hD2] at hS;simp only[d1,zI,Qs,Zc,Za,Zi,Ψ41];exact hS
theorem c42 (d:Dcm) (hd:DcmS d):Spec Tryz.prog 42 [.agg (zV d)] (fun v=>v=.tup [.int .i64 (cntD d).1,.int .i64 (cntD d).2]):=by
 refine Spec.of_awlP hf42 okf42 (by simp) fun S hS=>?_
 have g1:=c41 d hd;have hn:[C.str d.kind,zC 2 (d.flds.map zR)]=zV d:=rfl;unfold cntD at hS;by_cases h0:docE d=0
 ·rw[if_pos h0] at hS
  have hR:=oM hd h0;have hfs:=hR.fs;have w0:(docE d !=0)=false:=by simp[h0]
  rw[<-hn] at g1⊢;simp only[Qs,Zc,Za,Ψ42];refine zF g1 ?_ (ha:=by simp only[Zm,Zq,zB,V.norm,C.norm,C.normRow,yG wO]<;>rfl);simp only[w0,zI,Qs,Ψ42];rw[uu f42l17.eq_1];refine yA (fun x:Nat×Nat=>[(1,.k (.c (.ro [.str d.kind,zC 2 (d.flds.map zR)] 0))),(5,.int .i64 (x.2:Nat)),(6,.int .i64 x.1)]) (fun _=>[]) (fun x=>x.1<=d.flds.length/\x.2<=4096/\vD (d.flds.drop x.1) x.2=vD d.flds 1) (fun x=>d.flds.length-x.1) (0,1) rfl rfl ⟨ZA _,by simp only;decide,rfl⟩ ?_;rintro⟨i,n⟩ ⟨hi,hn4,hD⟩;simp only[] at hi hn4 hD;by_cases hlt:i<d.flds.length
  ·have c1:(i:Int)<d.flds.length:=by omega
   have c4:IntKind.i64.wrap ((i:Int)+1)=(i:Int)+1:=wrap_in (by omega) (by omega);have hf:=hR.fld (Zx hlt);rw[ZE hlt,vD] at hD;have hat:=oL hlt;generalize d.flds[i]=f at hf hD hat;have g2:=c82 f hf;have hsz:=bF hf;rw[show zR f=[.str f.name,zC 1 (f.words.map xX)] from rfl] at g2;have hmul:n*yQ f<=4096*65536:=YX hn4 hsz;have c5:IntKind.i64.wrap ((n:Int)*((yQ f:Nat):Int))=((n*yQ f:Nat):Int):=by
    rw[Yt,wrap_in]
    ·rw[<-Yt];omega
    ·rw[<-Yt];omega
   simp only[c1,hat,zI,Qs,Zc,Za,Zi,Ψ42];refine zF g2 ?_ (ha:=by simp only[Zm,Zq,zB,V.norm,C.norm,C.normRow,yG oK]<;>rfl);by_cases hbig:n*yQ f>4096
   ·have c6:((n*yQ f:Nat):Int)>4096:=by omega
    rw[if_pos hbig] at hD;rw[<-hD] at hS;simp only[c5,c6,Qs,Zk,Za,Ψ42];exact hS _ rfl
   ·have c6: ¬((n*yQ f:Nat):Int)>4096:=by omega
    rw[if_neg hbig] at hD;simp only[c4,c5,c6,Qs,Za,Ψ42];exact Next.intro (i+1,n*yQ f) rfl rfl ⟨by simp only;omega,by simp only;omega,hD⟩ (by simp only;omega)
  ·have c1: ¬(i:Int)<d.flds.length:=by omega
   rw[ZC (by omega),vD] at hD;rw[<-hD] at hS;simp only[c1,zI,Qs,Zk,Zc,Za,Zi,Ψ42];exact hS _ rfl
 ·rw[if_neg h0] at hS
  have w0:(docE d !=0)=true:=by simp[h0]
  rw[<-hn] at g1⊢;simp only[Qs,Zc,Za,Ψ42];refine zF g1 ?_ (ha:=by simp only[Zm,Zq,zB,V.norm,C.norm,C.normRow,yG wO]<;>rfl);simp only[w0,Qs,Zk,Za,Ψ42];exact hS _ rfl
end Go.Abs
namespace Go
open Go.RowKit
def bG {α:Type} (F:Fence) (n:Nat) (P:Program) (g:Nat) (lb:Array Value) (encs:α->Array Value) (Kp:World->World->Prop) (S:List α->Prop) (N:Nat) (w:World):Prop:=
 ∀(l:Nat) (J:List α->World->Prop) (W:World),Kp w W->(∀pre W1 W2,J pre W1->Below W1.heap.size W1 W2->J pre W2)->
  (∀pre x W1,J pre W1->pre.length<N->YieldAt F (n-1) P l (encs x) W1 fun e W'=>e=.returned (.bool true)/\J (pre++[x]) W'/\Kp W1 W')->
  J [] W->
  CallsIn F n P g (#[.func (.yield l) #[] #[]]++lb) W fun e W'=>(∃v,e=.returned v)/\ ∃xs,S xs/\J xs W'
def zlZ {α:Type} (B:Nat) (Kp:World->World->Prop) (I:List α->World->Prop) (xs:List α) (W:World):Exit->Act->World->Prop
 | .normal,_,W'=>KeepsFrom B W W'/\Kp W W'/\I xs W'
 |_,_,_=>False
theorem nY {W W':World} (hb:Below W.heap.size W W'):W.grownBy W' none:=⟨hb.os,hb.tape,hb.output,hb.size,fun k hk _=>hb.block k hk⟩
variable {F : Fence} {n : Nat} {P : Program}
theorem zhj {α:Type} {g:Operand} {ps:Array Tmp} {assign body:Code} {Q:Exit->Act->World->Prop} {a:Act} {w:World}
  (hro:F.round=none) (h1:1<=n) {gf:Nat} {lb:Array Value} (hg:a.eval g=.func (.func gf) #[] lb) (hFg:F.fn gf) (eg: ∀args w,(callFunc gf args).run P w=.ok (.enter gf args) w)
  {encs:α->Array Value} {Kp:World->World->Prop} {S:List α->Prop} {N:Nat} (hseq:bG F (n-1) P gf lb encs Kp S N w)
  (hKt: ∀A B C:World,Kp A B->Kp B C->Kp A C) (hKb: ∀(W W':World) (row:Option Nat),w.heap.size<=W.heap.size->W.grownBy W' row->(∀r,row=some r->w.heap.size<=r)->Kp W W') (hps: ∀x,(encs x).size=ps.size)
  (I:List α->World->Prop) (hI:OwnFrom w.heap.size I) (h0:I [] w) (Ax:α->Act->World->Prop) (hA: ∀x a' W l o o',Ax x a' W->w.heap.size<=l->W.heap[l]?=some o->o.isCells=false->Ax x a' (W.putObj l o'))
  (hassign: ∀(l:Nat) (pre:List α) (x:α) (W:World) (K:Act->World->Prop),I pre W->w.heap.size<=W.heap.size->(∀a' W',Ax x a' W'->I pre W'->KeepsFrom w.heap.size W W'->Kp W W'->w.heap.size<=W'.heap.size->K a' W')->
   assign.wpIn (F.inRound l) (n-1-1) P (Exit.then K (fun _ _ _=>False)) {tmps:=(ps.zip (encs x)).foldl (fun t (p,v)=>t.setIfInBounds p v) a.tmps,defers:=[]} W)
  (hbody: ∀(l:Nat) (pre:List α) (x:α) (a':Act) (W:World),Ax x a' W->I pre W->pre.length<N->w.heap.size<=W.heap.size->body.wpIn (F.inRound l) (n-1-1) P (zlZ w.heap.size Kp I (pre++[x]) W) a' W)
  (hdone: ∀(D:Nat) (xs:List α) (W:World),w.heap.size<=D->S xs->I xs W->W.heap[D]?=some (.deferred (some []))->Q .normal {a with defers:={target:=.collected D,args:= #[]}::a.defers} W):
  (Code.rangeFunc g ps assign body).wpIn F n P Q a w:=by
 refine wpIn_rangeFunc ?_;intro fn hfn;rw[hro];obtain⟨rec,hrec⟩: ∃rec:LoopState->Option Code->Loop,rec=fun st pe=>{state:=st,pending:=pe,fn,tmps:=a.tmps,params:=ps,assign,body,defers:=w.heap.size}:=⟨_,rfl⟩
 obtain⟨W1,hW1⟩: ∃W1,(w.alloc (.deferred (some []))).alloc (.loop (rec .ready none))=W1:=⟨_,rfl⟩;have hL1:W1.heap[w.heap.size+1]?=some (.loop (rec .ready none)):=by
  rw[<-hW1];have:=World.alloc_heap_new (w.alloc (.deferred (some []))) (.loop (rec .ready none));rwa [World.size_alloc] at this
 have hK1:W1.heap[w.heap.size]?=some (.deferred (some [])):=by
  rw[<-hW1];exact(Below.heap_alloc _ _ _ (by simp)).trans (World.alloc_heap_new w _)
 have hI1:I [] W1:=by rw[<-hW1];exact hI.alloc _ (hI.alloc _ h0)
 have hg1:w.grownBy W1 none:=by rw[<-hW1];exact nY (((Below.refl _ w).alloc (Zt _) _).alloc (by simp) _)
 have hk1:Kp w W1:=hKb w W1 none (Zt _) hg1 (fun r e=>by cases e);have hs1:w.heap.size+1<W1.heap.size:=(Zn.1 hL1).1;refine⟨w.heap.size+1,[{target:=.collected w.heap.size,args:= #[]}],W1,{target:=.fn (.func gf) lb,args:= #[.func (.yield (w.heap.size+1)) #[] #[]]},W1,gf,
  #[.func (.yield (w.heap.size+1)) #[] #[]]++lb,W1,?_,?_,?_,?_,fun _=>h1,?_⟩
 ·rw[<-hW1,hrec];exact run_enterLoop_outer _ _ _ _ _
 ·simp only[resolve,hg]
  simp[go_sem]
 ·intro f' hf';simp[Target.leads] at hf';subst hf';exact hFg
 ·simp[invoke,go_sem,eg]
 ·refine(hseq (w.heap.size+1)
   (fun pre W=>I pre W/\W.heap[w.heap.size+1]?=some (.loop (rec .ready none))/\W.heap[w.heap.size]?=some (.deferred (some [])))
   W1 hk1
   (fun pre A B hs hb=>⟨hI pre A B none hs.1 (nY hb) (fun r e=>by cases e),(hb.block _ (Zn.1 hs.2.1).1).trans hs.2.1,(hb.block _ (Zn.1 hs.2.2).1).trans hs.2.2⟩)
   ?_ ⟨hI1,hL1,hK1⟩).mono ?_
  ·rintro pre x W ⟨hi,hl,hk⟩ hlen
   have hlt:w.heap.size+1<W.heap.size:=(Zn.1 hl).1;have hy:=run_yield (P:=P) (args:=encs x) hl (by rw[hrec];exact hps x);rw[hrec] at hy;refine⟨fn,_,assign,body,hy,roundIn_of_wpIn hfn (hassign _ pre x W _ hi (by omega) ?_)⟩;intro a' W2 hAx hI2 hk2' hkp2 hsz2;have hl0:=hk2'.same _ _ (by omega) hl rfl;have hk0:=hk2'.same _ _ (Zt _) hk rfl;have hlt2:w.heap.size+1<W2.heap.size:=(Zn.1 hl0).1;refine⟨_,run_beginRound hl0 (by rw[hrec]),?_⟩;have hl2:(W2.putObj (w.heap.size+1) (.loop {rec .ready none with state:=.busy})).heap[w.heap.size+1]?=some (.loop {rec .ready none with state:=.busy}):=World.putObj_heap_same hlt2;have hk2:(W2.putObj (w.heap.size+1) (.loop {rec .ready none with state:=.busy})).heap[w.heap.size]?=some (.deferred (some [])):=(World.putObj_heap_other (by omega)).trans hk0;have hI3:I pre (W2.putObj (w.heap.size+1) (.loop {rec .ready none with state:=.busy})):=hI.putObj _ hI2 (by omega) hl0 rfl;have hg2:=grownBy_putObj' W2 (w.heap.size+1) (.loop {rec .ready none with state:=.busy});have hw2:Kp W2 (W2.putObj (w.heap.size+1) (.loop {rec .ready none with state:=.busy})):=hKb _ _ (some (w.heap.size+1)) (by omega) hg2 (fun r e=>by cases e;omega);refine wpIn_mono (hbody _ pre x a' (W2.putObj (w.heap.size+1) (.loop {rec .ready none with state:=.busy})) (hA _ _ _ _ _ _ hAx (by omega) hl0 rfl) hI3 hlen (by have:=hg2.size;omega)) ?_;rintro e a3 W3 hp;cases e with
   |normal=>
    obtain⟨hk4,hkp4,hi4⟩:=hp;have hkk:=hk4;have hl3:=hkk.same _ _ (by omega) hl2 rfl;have hr:=run_endRound (P:=P) none hl3;rw[hrec] at hr hl3;refine⟨_,_,hr,rfl,⟨hI.putObj _ hi4 (by omega) (hkk.same _ _ (by omega) hl2 rfl) rfl,?_,(World.putObj_heap_other (by omega)).trans (hkk.same _ _ (by omega) hk2 rfl)⟩,?_⟩
    ·rw[hrec];exact World.putObj_heap_same (Zn.1 hl3).1
    ·exact hKt _ _ _ (hKt _ _ _ hkp2 hw2) (hKt _ _ _ hkp4 (hKb _ _ (some (w.heap.size+1)) (by have:=(Zn.1 hl3).1;omega) (grownBy_putObj' _ _ _) (fun r e=>by cases e;omega)))
   |ret=>exact hp.elim
   |exit id=>exact hp.elim
   |goto t=>exact hp.elim
   |panic ch=>exact hp.elim
   |outgrown=>exact hp.elim
  ·rintro e W2 ⟨⟨v,rfl⟩,xs,hS,hi,hl,hk⟩
   exact⟨none,_,by have:=run_endLoop (P:=P) hl (by rw[hrec];simp);rw[hrec] at this;exact this,hdone _ xs _ (Zt _) hS (hI.putObj _ hi (by omega) hl rfl) ((World.putObj_heap_other (by omega)).trans hk)⟩
end Go
namespace Go.Abs
open Go.Proofs Go.RowKit
abbrev zW (W:World):Bk->Prop:=fun b=>b.2<W.heap.size
theorem zl0 {Z:Bk->Prop} {w W:World} (hz: ∀b,Z b->b.2<w.heap.size) (hb:Below w.heap.size w W):yV Z w W:=fun b h=>hb.block b.2 (hz b h)
theorem vW {w W:World} {c:C} {v:Value} (h:PRep w (zW w) c v) (hb:Below w.heap.size w W):PRep W (zW W) c v:=
 h.mono (zl0 (fun _ h=>h) hb) fun _ h=>ZM h hb.size
theorem nZ {w:World} {Z:Bk->Prop} {c:C} {v:Value} (hz: ∀b,Z b->b.2<w.heap.size) (h:PRep w Z c v):PRep w (zW w) c v:=h.mono (fun _ _=>rfl) hz
theorem iY {w:World} {Z:Bk->Prop} {r:List C} {cs:List Value} (hr: ∀c∈r,c.sc=true) (h:yD w Z r cs):cs=r.map wE:=by
 apply List.ext_getElem?;intro j;rw[Zw];cases hj:r[j]? with
 |none=>
  rw[List.getElem?_eq_none_iff] at hj;rw[Y4 (by rw[h.1];exact hj)];rfl
 |some c=>
  have hlt:j<cs.length:=by rw[h.1];exact(Zr.1 hj).1
  have h1:cs[j]?=some cs[j]:=by simp[hlt]
  rw[h1,cY (hr c (ZL hj)) (h.2 j c _ hj h1)];rfl
theorem zl1 {w:World} {Z:Bk->Prop} {r:List C} (hr: ∀c∈r,c.sc=true):yD w Z r (r.map wE):=by
 refine⟨by simp,fun j c v hc hv=>?_⟩;rw[Zw,hc] at hv;cases hv;exact zha (hr c (ZL hc))
theorem xS (w:World) (Z:Bk->Prop):wH w Z [] []:=⟨rfl,fun j x v h=>by simp at h⟩
theorem zhk {w:World} {Z:Bk->Prop} {x:V} {xs:List V} {v:Value} {vs:List Value} (hx:x.isPure=true) (hv:zD w Z (fun _=>none) (fun _=>none) x v) (h:wH w Z xs vs):wH w Z (x::xs) (v::vs):=by
 refine⟨by simp[h.1],fun j y u hy hu=>?_⟩;cases j with
 |zero=>cases hy;cases hu;exact⟨hx,hv⟩
 |succ j=>exact h.2 j y u (by simpa using hy) (by simpa using hu)
theorem vH {w:World} {Z:Bk->Prop} {c:C} {xs:List V} {v:Value} {vs:List Value} (hv:PRep w Z c v) (h:wH w Z xs vs):wH w Z (.k (.c c)::xs) (v::vs):=zhk rfl ⟨hv.oneCell,hv⟩ h
theorem iZ {w:World} {Z:Bk->Prop} {r:List C} {xs:List V} {us:Array Value} {vs:List Value} (hv:yD w Z r us.toList) (h:wH w Z xs vs):wH w Z (.agg r::xs) (.agg us::vs):=zhk rfl ⟨us,rfl,hv⟩ h
theorem vN {w:World} {Z:Bk->Prop} {r:List C} {xs:List V} {vs:List Value} (hr: ∀c∈r,c.sc=true) (h:wH w Z xs vs):wH w Z (.agg r::xs) (.agg (r.map wE).toArray::vs):=iZ (zl1 hr) h
theorem Spec.pureC {P:Program} {f:FuncId} {xs:List V} {r:V} (h:Spec P f xs (fun r'=>r'=r)) (hp:r.isPure=true) (hr: ∀n,r.reg n=(r,[])) {W:World} (hG:yI (base W)) {Z:Bk->Prop} (hz: ∀b,Z b->b.2<W.heap.size) {vs:Array Value} (ha:wH W Z xs vs.toList):
  Calls P f vs W fun e W'=> ∃v,e=.returned v/\Below W.heap.size W W'/\zD W' (zW W') (fun _=>none) (fun _=>none) r v:=by
 refine(h.2 W Z vs hG hz ha).mono ?_;rintro e w' ⟨v,r',rfl,rfl,hnr,hrep⟩;obtain⟨κ,hi⟩:=hrep 0;have h0:=hi.tmps 0;simp only[if_pos,hr] at h0;refine⟨v,rfl,iU hi.kept,?_⟩;have h1:=zD.pure_any (κ':=fun _=>none) (o':=fun _=>none) hp h0;exact zD.mono (fun _ _=>rfl) (fun b hb=>hb.2.1) (τs:=fun _=>False) (fun τ hτ=>hτ.elim) (fun τ hτ=>by rw[hnr τ] at hτ;cases hτ) h1
theorem Spec.boolC {P:Program} {f:FuncId} {xs:List V} {b:Bool} (h:Spec P f xs (fun r'=>r'=.bool b)) {W:World} (hG:yI (base W)) {Z:Bk->Prop} (hz: ∀b,Z b->b.2<W.heap.size) {vs:Array Value} (ha:wH W Z xs vs.toList):
  Calls P f vs W fun e W'=>e=.returned (.bool b)/\Below W.heap.size W W':=by
 refine(h.pureC rfl (fun _=>rfl) hG hz ha).mono ?_;rintro e w' ⟨v,rfl,hb,hv⟩;rw[qR hv.2];exact⟨rfl,hb⟩
theorem Spec.strC {P:Program} {f:FuncId} {xs:List V} {s:List UInt8} (h:Spec P f xs (fun r'=>r'=.str s)) {W:World} (hG:yI (base W)) {Z:Bk->Prop} (hz: ∀b,Z b->b.2<W.heap.size) {vs:Array Value} (ha:wH W Z xs vs.toList):
  Calls P f vs W fun e W'=>e=.returned (.string ⟨s.toArray⟩)/\Below W.heap.size W W':=by
 refine(h.pureC rfl (fun _=>rfl) hG hz ha).mono ?_;rintro e w' ⟨v,rfl,hb,hv⟩;rw[uQ hv.2];exact⟨rfl,hb⟩
theorem Spec.intC {P:Program} {f:FuncId} {xs:List V} {k:IntKind} {n:Int} (h:Spec P f xs (fun r'=>r'=.int k n)) {W:World} (hG:yI (base W)) {Z:Bk->Prop} (hz: ∀b,Z b->b.2<W.heap.size) {vs:Array Value} (ha:wH W Z xs vs.toList):
  Calls P f vs W fun e W'=>e=.returned (.int k n)/\Below W.heap.size W W':=by
 refine(h.pureC rfl (fun _=>rfl) hG hz ha).mono ?_;rintro e w' ⟨v,rfl,hb,hv⟩;rw[vB hv.2];exact⟨rfl,hb⟩
theorem Spec.listC {P:Program} {f:FuncId} {xs:List V} {c:C} (h:Spec P f xs (fun r'=>r'=.k (.c c))) {W:World} (hG:yI (base W)) {Z:Bk->Prop} (hz: ∀b,Z b->b.2<W.heap.size) {vs:Array Value} (ha:wH W Z xs vs.toList):
  Calls P f vs W fun e W'=> ∃v,e=.returned v/\Below W.heap.size W W'/\PRep W' (zW W') c v:=by
 refine(h.pureC rfl (fun _=>rfl) hG hz ha).mono ?_;rintro e w' ⟨v,rfl,hb,hv⟩;exact⟨v,rfl,hb,hv.2⟩
theorem Spec.aggC {P:Program} {f:FuncId} {xs:List V} {r:List C} (hr: ∀c∈r,c.sc=true) (h:Spec P f xs (fun r'=>r'=.agg r)) {W:World} (hG:yI (base W)) {Z:Bk->Prop} (hz: ∀b,Z b->b.2<W.heap.size) {vs:Array Value} (ha:wH W Z xs vs.toList):
  Calls P f vs W fun e W'=>e=.returned (.agg (r.map wE).toArray)/\Below W.heap.size W W':=by
 refine(h.pureC rfl (fun _=>rfl) hG hz ha).mono ?_;rintro e w' ⟨v,rfl,hb,cs,rfl,hv⟩;have h1:=iY hr hv;obtain⟨cl⟩:=cs;have h2:cl=r.map wE:=h1;subst h2;exact⟨rfl,hb⟩
theorem zl2 {rows:List (List C)} {sz:Nat} (hs: ∀r∈rows,r.length=sz) {cur:Array Value} (hc: ∀(i j:Nat) r c,rows[i]?=some r->r[j]?=some c->cur[i*sz+j]?=some (wE c)):cur.toList.take (rows.length*sz)=(rows.flatten.map wE):=by
 have key: ∀(rows:List (List C)) (q:Nat),(∀r∈rows,r.length=sz)->(∀(i j:Nat) r c,rows[i]?=some r->r[j]?=some c->cur[q+(i*sz+j)]?=some (wE c))->(cur.toList.drop q).take (rows.length*sz)=rows.flatten.map wE:=by
  intro rows
  induction rows with
  |nil=>intro q _ _;simp
  |cons r rows ih=>
   intro q h1 h2;have hr:=h1 r (by simp);have h3:=ih (q+sz) (fun x hx=>h1 x (Zz _ hx)) fun i j r' c hi hj=>by
    have:=h2 (i+1) j r' c (by simpa using hi) hj;rw[show q+((i+1)*sz+j)=q+sz+(i*sz+j) by rw[Xb];omega] at this;exact this
   rw[Zo,Xb,Y0,List.take_add,List.drop_drop,h3,YL,ZW];congr 1;apply List.ext_getElem?;intro j;rw[Z4,YH,Zw];by_cases hj:j<sz
   ·rw[if_pos hj]
    have hj':j<r.length:=by omega
    rw[Zg hj',Yw,Ys];have:=h2 0 j r r[j] rfl (Zg hj')
    rwa [Nat.zero_mul,ZV] at this
   ·rw[if_neg hj,Y4 (by omega)];rfl
 have:=key rows 0 hs (by simpa using hc);simpa using this
theorem Spec.newB {P:Program} {f:FuncId} {xs:List V} {e sz:Nat} {rows:List (List C)} {b:Bool} (hsc: ∀r∈rows,∀c∈r,c.sc=true) (hln: ∀r∈rows,r.length=sz) (h:Spec P f xs (fun r'=>r'=.tup [.k (.newl e sz none rows),.bool b])) {W:World} (hG:yI (base W)) {Z:Bk->Prop} (hz: ∀b,Z b->b.2<W.heap.size) {vs:Array Value} (ha:wH W Z xs vs.toList):
  Calls P f vs W fun ex W'=> ∃v,ex=.returned (.tuple #[v,.bool b])/\Below W.heap.size W W'/\W'.ownsRow W.heap.size e sz v rows.length (rows.flatten.map wE):=by
 refine(h.2 W Z vs hG hz ha).mono ?_;rintro ex w' ⟨v,r',rfl,rfl,_,hrep⟩;obtain⟨κ,hi⟩:=hrep 0;have h0:=hi.tmps 0;have ho:=hi.objs 0 (.arr e sz none rows) rfl;have hw:=hi.own 0;have hlen:(rows.flatten.map wE).length=rows.length*sz:=by rw[Zi];exact zhd rows hln
 obtain⟨us,hu,hl,hv⟩:=h0;have hu':v=.tuple us:=hu;subst hu';obtain⟨l⟩:=us
 match l,hl,hv with
 |[x,y],_,hv=>
  obtain⟨hx,hy,_⟩:=hv;have hyb:=qR hy.2;subst hyb;refine⟨x,rfl,iU hi.kept,hlen,?_⟩;have hx2:=hx.2 e sz none rows rfl;rcases ho with⟨h1,h2,_⟩|⟨g,cur,cap,h1,h2,h3,h4,h5,h6,_,h8,h9⟩
  ·rcases hx2 with⟨_,h3⟩|⟨g,cur,cap,h3,_⟩
   ·exact .inl ⟨h3,by rw[h2];rfl⟩
   ·rw[h1] at h3;cases h3
  ·rcases hx2 with⟨h,_⟩|⟨g',cur',cap',k1,k2,k3,k4⟩
   ·rw[h1] at h;cases h
   ·rw[h1] at k1;cases k1
    rw[h2] at k2;cases k2;obtain rfl:cap=cap':=by
     have:=h4.symm.trans k3;exact XQ h3 this
    have hg:=(hw g (by simp[zS,V.reg,V.regL]) h1);refine .inr ⟨g,cap,cur,k4,Xl hg.1,h2,h5,h6,h4,zl2 h8 fun i j r c hr hc=>?_⟩;obtain⟨u,hu,hp⟩:=h9 i j r c hr hc;rw[hu,cY (hsc r (ZL hr) c (ZL hc)) hp]
end Go.Abs
namespace Go.Proofs
open Go.RowKit Go.Shelf Go.Abs
attribute [local go_sem] Oper.semAt_some
abbrev Ix (m:Nat):Type:={k:Nat//k<m}
def bI (m:Nat) (fv:Nat->Value×Value) (x:Ix m):Array Value:= #[.int .i64 (x.1:Int),.agg #[(fv x.1).1,(fv x.1).2]]
def zl3 (m:Nat) (xs:List (Ix m)):Prop:=xs.map (fun x=>x.1)=(List.range m).reverse
theorem zl4 {m k:Nat} {pre:List (Ix m)} (hk:k+1<=m) (h:pre.map (fun x=>x.1)++(List.range (k+1)).reverse=(List.range m).reverse):(pre++[(⟨k,hk⟩:Ix m)]).map (fun x=>x.1)++(List.range k).reverse=(List.range m).reverse:=by
 rw[<-h,XL,List.reverse_append];simp
theorem zl5 (n:Nat) (hn:3<=n) (bs m cap:Nat) (hm:m<=1000000) (p:Option Addr) (b o:Nat) (fv:Nat->Value×Value) (hf1: ∀k,(fv k).1.oneCell'=true) (hf2: ∀k,(fv k).2.oneCell'=true) (hp:0<m->p=some ⟨b,o,none⟩) (w:World) (Kp:World->World->Prop) (hKr:Kp w w) (hKt: ∀A B C,Kp A B->Kp B C->Kp A C)
  (hbx: ∀W,Kp w W->W.cell? ⟨bs,0,none⟩=some (.slice p m cap)) (hcl: ∀W,Kp w W-> ∀k,k<m->W.cell? ⟨b,o+k*2,none⟩=some (fv k).1/\W.cell? ⟨b,o+k*2+1,none⟩=some (fv k).2):
  bG Fence.wide n Tryz.prog 154 #[.pointer (some ⟨bs,0,none⟩)] (bI m fv) Kp (zl3 m) m w:=by
 intro l J W hW hJ hY h0;have h1n:1<=n:=by omega
 have mixed:Tryz.prog.follows Departure.mixedOrders=true:=by kernel_rfl
 have hb0:=hbx W hW;refine callsIn_of_wp Tryz.func154 rfl trivial ?_ rfl;simp only[Tryz.ntmps154,Yu,Zo,ZG,Zc,YV,YB,YA,YK,YC,Ya,ZS];have hw0:IntKind.i64.wrap ((m:Int)-1)=(m:Int)-1:=wrap_in (by omega) (by omega)
 gi_wp2
 gi_loopw [3] (fun q wr=> ∃(k:Nat) (pre:List (Ix m)),k<=m/\q=.int .i64 ((k:Int)-1)/\pre.map (fun x=>x.1)++(List.range k).reverse=(List.range m).reverse/\pre.length+k=m/\J pre wr/\Kp w wr)
  (fun q wr=>match q with| .int _ z=>(z+1).toNat|_=>0)
 case atStart=>exact⟨m,[],Zt _,rfl,by simp,by simp,h0,hW⟩
 case round=>
  obtain⟨k,pre,hk,rfl,hpre,hlen,hJ,hKp⟩:=hrel;by_cases h0k:k=0
  ·subst h0k
   have hle: ¬((0:Nat):Int)-1>=0:=by omega
   gi_wp2
   go_end0
   refine⟨⟨_,rfl⟩,pre,?_,hJ⟩;show _=_;rw[<-hpre];simp
  ·obtain⟨q,rfl⟩: ∃q,k=q+1:=⟨k-1,by omega⟩
   obtain rfl:=hp (by omega);have e6:((q+1:Nat):Int)-1=(q:Int):=by omega
   have hge:(q:Int)>=0:=by omega
   have hqm:(q:Int)<m:=by omega
   have hb1:=hbx wr hKp;obtain⟨hc1,hc2⟩:=hcl wr hKp q (by omega);have ho1:=hf1 q;have ho2:=hf2 q;have hw1:IntKind.i64.wrap ((q:Int)-1)=(q:Int)-1:=wrap_in (by omega) (by omega);obtain⟨fn,tmps,assign,body,hy,hR⟩:=hY pre ⟨q,by omega⟩ wr hJ (by omega);simp only[bI] at hy;rw[e6];clear hbx hcl hY
   gi_wp2
   refine hR.mono ?_;rintro e W3 ⟨rfl,hJ3,hk3⟩
   gi_wp2
   go_roundw
   case rel=>exact⟨q,pre++[⟨q,by omega⟩],by omega,rfl,zl4 (by omega) hpre,by rw[Zv];simp only[Zo,ZG];omega,hJ3,hKt _ _ _ hKp hk3⟩
   case measure=>simp only[];omega
end Go.Proofs
namespace Go.Proofs
open Go.RowKit Go.Wd Go.Wire
def tV (s:Txt):Value:=.string ⟨s.toArray⟩
def clV (op:Int) (d f o s t:Txt) (lo hi:Int):Value:=
 if op=0 then .iface 165 (.agg #[tV d]) else if op=1 then .iface 167 (.agg #[tV d,tV f,tV t]) else if op=3 then .iface 169 (.agg #[tV d,tV f,tV o,tV s])
 else if op=2 then .iface 171 (.agg #[tV d,tV f,.int .i64 lo,.int .i64 hi,.bool false]) else if op=4 then .iface 171 (.agg #[tV d,tV f,.int .i64 lo,.int .i64 hi,.bool true]) else .nilIface
def okO (op:Int):Bool:=decide (op=0)||(decide (op=1)||(decide (op=3)||(decide (op=2)||decide (op=4))))
theorem mA (w:World) (o1 o2:Obj):Below w.heap.size w ((w.alloc o1).alloc o2):=((Below.refl _ w).alloc (Zt _) _).alloc (by simp) _
theorem zhl (op:Int) (d f o s t:Txt) (lo hi:Int) (w:World):Calls Tryz.prog 79 #[.agg #[.int .i64 op,tV d,tV f,tV o,tV s,tV t,.int .i64 lo,.int .i64 hi]] w fun e w'=>e=.returned (.tuple #[clV op d f o s t lo hi,.bool (okO op)])/\Below w.heap.size w w':=by
 unfold tV;by_cases h0:op=0
 ·subst h0
  go_enter Tryz.func79,Tryz.ntmps79
  go_wp2
  go_ret2
  exact⟨rfl,mA w _ _⟩
 by_cases h1:op=1
 ·subst h1
  go_enter Tryz.func79,Tryz.ntmps79
  go_wp2
  go_ret2
  exact⟨rfl,mA w _ _⟩
 by_cases h3:op=3
 ·subst h3
  go_enter Tryz.func79,Tryz.ntmps79
  go_wp2
  go_ret2
  exact⟨rfl,mA w _ _⟩
 by_cases h2:op=2
 ·subst h2
  go_enter Tryz.func79,Tryz.ntmps79
  go_wp2
  go_ret2
  exact⟨rfl,mA w _ _⟩
 by_cases h4:op=4
 ·subst h4
  go_enter Tryz.func79,Tryz.ntmps79
  go_wp2
  go_ret2
  exact⟨rfl,mA w _ _⟩
 have e1:clV op d f o s t lo hi=.nilIface:=by unfold clV;rw[if_neg h0,if_neg h1,if_neg h3,if_neg h2,if_neg h4]
 have e2:okO op=false:=by unfold okO;simp[h0,h1,h2,h3,h4]
 rw[e1,e2]
 go_enter Tryz.func79,Tryz.ntmps79
 go_wp2
 go_ret2
 exact⟨rfl,mA w _ _⟩
end Go.Proofs
namespace Go.Ex
open Go.Lib Go.Wd Go.Wire Go.Abs
def fldsF (d f:Txt):List Pln->List Txt->List Txt×Bool
 |[],acc=>(acc,true)
 |p::l,acc=>if p.kind=d then(if fstN (fun x=>decide (f=x)) p.names 0<0\/fstN (fun x=>decide (f=x)) p.names 0>=p.texts.length then([],false) else fldsF d f l (acc++[p.texts.getD (fstN (fun x=>decide (f=x)) p.names 0).toNat []])) else fldsF d f l acc
structure PlnS (p:Pln):Prop where
 kd:p.kind.length<=1000000
 ns:p.names.length<=1000000
 ts:p.texts.length<=1000000
 tx: ∀s∈p.texts,s.length<=1000000
def vE (l:List Pln):Prop:=l.length<=1000000/\ ∀p∈l,PlnS p
def kindP (l:List Pln) (s:Txt):Bool:=l.any fun p=>decide (p.kind=s)
end Go.Ex
namespace Go.Abs
open Go.Proofs Go.RowKit Go.Lib Go.Wd Go.Wire Go.Ex
def yM (p:Pln):List C:=[.str p.kind,zC 1 (zJ p.names),zC 1 (zJ p.texts)]
@[simp] theorem sQ (p:Pln):C.normRow (yM p)=yM p:=by simp only[yM,C.normRow,C.norm,zO,wD]
theorem zpv {l:List Pln} {i:Nat} (h:i<l.length):(l.map yM).getD i []=[.str l[i].kind,zC 1 (zJ l[i].names),zC 1 (zJ l[i].texts)]:=by simp[yM,h]
theorem zl6 (s:Txt) (p:Pln):Spec Tryz.prog 209 [.agg (yM p),.k (.c (.ro [.str s] 0))] (fun v=>v=.bool (decide (p.kind=s))):=by
 refine Spec.of_awlS hf209 okf209 (by simp) fun S hS=>?_
 unfold yM;simp only[Qs,Zc,Zl,Za,Ψ209];refine wJ hS ?_;simp
theorem zl7 (s:Txt) (l:List Pln) (hl:l.length<=1000000):Spec Tryz.prog 210 [lst 3 (l.map yM),.k (.c (.fn 209 [.ro [.str s] 0]))] (fun v=>v=.int .i64 (fstN (fun p:Pln=>decide (p.kind=s)) l 0)):=by
 refine Spec.of_awlS hf210 okf210 (by simp) fun S hS=>?_
 simp only[zI,Qs,Zc,Za,Zi,Ψ210];rw[uu f210l17.eq_1];refine yA (fun i:Nat=>[(0,lst 3 (l.map yM)),(1,.k (.c (.fn 209 [.ro [.str s] 0]))),(7,.int .i64 l.length),(8,.int .i64 i)]) (fun _=>[]) (fun i=>i<=l.length/\fstN (fun p:Pln=>decide (p.kind=s)) (l.drop i) i=fstN (fun p:Pln=>decide (p.kind=s)) l 0) (fun i=>l.length-i) 0 rfl rfl ⟨ZA _,by simp⟩ ?_;rintro i ⟨hi,hD⟩;by_cases hlt:i<l.length
 ·have c1:(i:Int)<l.length:=by omega
  have c4:IntKind.i64.wrap ((i:Int)+1)=(i:Int)+1:=wrap_in (by omega) (by omega);have gi:=zl6 s l[i];rw[oJ hlt] at hD;simp only[c1,zI,zpv hlt,Qs,Za,Zi,Ψ210];refine pC gi ?_ (ha:=by simp only[Zm,Zq,ZS,Ya,zB,V.norm,C.norm,yM,C.normRow,zO,wD]<;>rfl);by_cases he:l[i].kind=s
  ·rw[if_pos (decide_eq_true he)] at hD
   rw[<-hD] at hS;simp only[decide_eq_true he,Qs,Za,Ψ210];exact hS
  ·rw[if_neg (by rw[decide_eq_false he];simp)] at hD
   simp only[decide_eq_false he,c4,Qs,Za,Ψ210];exact Next.intro (i+1) rfl rfl ⟨by omega,hD⟩ (by omega)
 ·have c1: ¬(i:Int)<l.length:=by omega
  rw[ZC (by omega)] at hD;rw[<-hD] at hS;simp only[c1,Qs,Xm,Za,Ψ210];exact hS
theorem zl8 (s:Txt) (l:List Pln) (hl:l.length<=1000000):Spec Tryz.prog 208 [lst 3 (l.map yM),.k (.c (.fn 209 [.ro [.str s] 0]))] (fun v=>v=.bool (kindP l s)):=by
 refine Spec.of_awlS hf208 okf208 (by simp) fun S hS=>?_
 have g1:=zl7 s l hl;have hp:=pE (p:=fun p:Pln=>decide (p.kind=s)) l 0;generalize fstN (fun p:Pln=>decide (p.kind=s)) l 0=x at g1 hp;simp only[Qs,Zc,Za,Ψ208];refine zF g1 ?_ (ha:=by simp only[Zm,Zq,zB,V.norm,C.norm,yG sQ,C.normRow]<;>rfl);simp only[Qs];exact wJ hS (by rw[decide_eq_true_eq];exact hp)
theorem zhm (s:Txt) (l:List Pln) (hl:l.length<=1000000):Spec Tryz.prog 207 [lst 3 (l.map yM),.str s] (fun v=>v=.bool (kindP l s)):=by
 refine Spec.of_awlS hf207 okf207 (by simp) fun S hS=>?_
 have g1:=zl8 s l hl;generalize kindP l s=x at g1 hS;simp only[Qs,zcK,zes,Zc,Za,zgI,zgJ,zgK,zgL,zgM,zgN,zgO,Ψ207];refine zF g1 ?_ (ha:=by simp only[Zm,Zq,zB,V.norm,C.norm,yG sQ,C.normRow]<;>rfl);simp only[Qs];exact hS
theorem zl9 (s:Txt) (l:List Pln) (hl:l.length<=1000000):Spec Tryz.prog 204 [.agg [.str s],lst 3 (l.map yM)] (fun v=>v=.bool (kindP l s)):=by
 refine Spec.of_awlS hf204 okf204 (by simp) fun S hS=>?_
 have g1:=zhm s l hl;generalize kindP l s=x at g1 hS;simp only[Qs,Zc,Za,Ψ204];refine zF g1 ?_ (ha:=by simp only[Zm,Zq,zB,V.norm,C.norm,yG sQ,C.normRow]<;>rfl);simp only[Qs];exact hS
theorem zhn (d f:Txt) (l:List Pln) (hl:vE l):Spec Tryz.prog 215 [lst 3 (l.map yM),.agg [.str d,.str f]] (fun v=>v=.tup [lst 1 (zJ (fldsF d f l []).1),.bool (fldsF d f l []).2]):=by
 refine Spec.of_awlP hf215 okf215 (by simp) fun S hS=>?_
 have hlen:=hl.1;simp only[zI,Qs,bne_iff_ne,ne_eq,Zc,Zs,Za,Zi,Ψ215];rw[uu f215l25.eq_1];refine yA (fun x:Nat×List Txt×Option Bool=>[(3,.k (.c (.ro [.str d,.str f] 0))),(6,.k (.own 6)),(10,lst 3 (l.map yM)),(11,.int .i64 l.length),(12,.int .i64 x.1)]) (fun x=>[(6,.arr 9 1 x.2.2 (zJ x.2.1))]) (fun x=>x.1<=l.length/\x.2.1.length<=x.1/\fldsF d f (l.drop x.1) x.2.1=fldsF d f l []) (fun x=>l.length-x.1) (0,[],some true) rfl rfl ⟨ZA _,by decide,rfl⟩ ?_;rintro⟨i,L,nl⟩ ⟨hi,hL,hD⟩;simp only[] at hi hL hD;by_cases hlt:i<l.length
 ·have d1:(i:Int)<l.length:=by omega
  have c4:IntKind.i64.wrap ((i:Int)+1)=(i:Int)+1:=wrap_in (by omega) (by omega);have hat:=zpv hlt;rw[ZE hlt,fldsF] at hD;have hp:=hl.2 _ (Zx hlt);generalize l[i]=p at hD hat hp;have g1:=c40 p.names f (big hp.ns);by_cases hk:p.kind=d
  ·rw[if_pos hk] at hD
   generalize fstN (fun x=>decide (f=x)) p.names 0=j at hD g1;by_cases hj:j<0\/j>=p.texts.length
   ·rw[if_pos hj] at hD
    rw[<-hD] at hS;by_cases hj0:j<0
    ·simp only[d1,hat,hk,zI,Qs,bne_iff_ne,ne_eq,BEq.rfl,Zk,Zc,Zs,Zl,Za,Zi,Ψ215]
     refine zF g1 ?_ (ha:=by simp only[Zm,Zq,zB,V.norm,C.norm,zO,wD]<;>rfl);simp only[hj0,yB,Qs,zeS,bne_iff_ne,ne_eq,Zk,ZY,Zs,Za,Zy,Ψ215];exact hS _ rfl
    ·have hj1:j>=p.texts.length:=hj.resolve_left hj0
     simp only[d1,hat,hk,zI,Qs,bne_iff_ne,ne_eq,BEq.rfl,Zk,Zc,Zs,Zl,Za,Zi,Ψ215];refine zF g1 ?_ (ha:=by simp only[Zm,Zq,zB,V.norm,C.norm,zO,wD]<;>rfl);simp only[hj0,hj1,yB,Qs,bne_iff_ne,ne_eq,Zk,ZY,Zc,Zs,Za,Zy,Ψ215];exact hS _ rfl
   ·rw[if_neg hj] at hD
    obtain⟨m,rfl⟩: ∃m:Nat,j=m:=⟨j.toNat,by omega⟩;have hj0: ¬(m:Int)<0:=by omega
    have hj1: ¬(m:Int)>=p.texts.length:=by omega
    have hm:m<p.texts.length:=by omega
    have hgd:p.texts.getD (m:Int).toNat []=p.texts[m]:=by simp[List.getD,hm]
    rw[hgd] at hD;simp only[d1,hat,hk,zI,Qs,bne_iff_ne,ne_eq,BEq.rfl,Zk,Zc,Zs,Zl,Za,Zi,Ψ215];refine zF g1 ?_ (ha:=by simp only[Zm,Zq,zB,V.norm,C.norm,zO,wD]<;>rfl);simp only[hj0,hj1,yB,uI hm,c4,Qs,forall_eq,bne_iff_ne,ne_eq,ZH,Zc,Zs,Zl,Z5,Za,Zy,Ψ215];refine⟨by omega,by omega,by omega,Next.intro (i+1,L++[p.texts[m]],some false) rfl (by simp[zJ];rfl) ⟨by simp only;omega,by simp;omega,hD⟩ (by simp only;omega)⟩
  ·rw[if_neg hk] at hD
   simp only[d1,hat,hk,c4,zI,Qs,forall_const,bne_iff_ne,ne_eq,Zk,Zc,Zs,Zl,Za,Zi,Ψ215];exact Next.intro (i+1,L,nl) rfl rfl ⟨by simp only;omega,by simp only;omega,hD⟩ (by simp only;omega)
 ·have d1: ¬(i:Int)<l.length:=by omega
  rw[ZC (by omega),fldsF] at hD;rw[<-hD] at hS;simp only[d1,Qs,Zk,ZY,Za,Zy,Ψ215];refine hS _ ?_;simp only[V.fz,V.fzL,V.nrm,V.nrmL,wD,qB (wD L)];rfl
theorem zma {g:Nat} {c:C} (hcn:c.norm=c) {p:Txt->Bool} (l:List Txt) (hg: ∀s∈l,Spec Tryz.prog g [.str s,.k (.c c)] (fun v=>v=.bool (p s))) (hl:l.length<=3000000):Spec Tryz.prog 96 [lst 1 (zJ l),.k (.c (.fn g [c]))] (fun v=>v=.int .i64 (fstN p l 0)):=by
 refine Spec.of_awlS hf96 okf96 (by simp) fun S hS=>?_
 simp only[yB,Qs,Zc,Za,Ψ96];rw[uu f96l17.eq_1];refine yA (fun i:Nat=>[(0,lst 1 (zJ l)),(1,.k (.c (.fn g [c]))),(7,.int .i64 l.length),(8,.int .i64 i)]) (fun _=>[]) (fun i=>i<=l.length/\fstN p (l.drop i) i=fstN p l 0) (fun i=>l.length-i) 0 rfl rfl ⟨ZA _,by simp⟩ ?_;rintro i ⟨hi,hD⟩;by_cases hlt:i<l.length
 ·have c1:(i:Int)<l.length:=by omega
  have c4:IntKind.i64.wrap ((i:Int)+1)=(i:Int)+1:=wrap_in (by omega) (by omega);have gi:=hg l[i] (Zx hlt);rw[oJ hlt] at hD;simp only[c1,yB,uI hlt,Qs,Za,Ψ96];refine pC gi ?_ (ha:=by simp only[Zm,Zq,ZS,Ya,zB,V.norm,C.norm,hcn]<;>rfl);cases hp:p l[i] with
  |true=>
   rw[if_pos hp] at hD;rw[<-hD] at hS;simp only[Qs,Za,Ψ96];exact hS
  |false=>
   rw[if_neg (by rw[hp];simp)] at hD;simp only[c4,Qs,Za,Ψ96];exact Next.intro (i+1) rfl rfl ⟨by omega,hD⟩ (by omega)
 ·have c1: ¬(i:Int)<l.length:=by omega
  rw[ZC (by omega)] at hD;rw[<-hD] at hS;simp only[c1,Qs,Xm,Za,Ψ96];exact hS
theorem zho {g:Nat} {c:C} (hcn:c.norm=c) {p:Txt->Bool} (l:List Txt) (hg: ∀s∈l,Spec Tryz.prog g [.str s,.k (.c c)] (fun v=>v=.bool (p s))) (hl:l.length<=3000000):Spec Tryz.prog 57 [lst 1 (zJ l),.k (.c (.fn g [c]))] (fun v=>v=.bool (l.any p)):=by
 refine Spec.of_awlS hf57 okf57 (by simp) fun S hS=>?_
 have g1:=zma hcn l hg hl;have hp:=pE (p:=p) l 0;generalize fstN p l 0=x at g1 hp;simp only[Qs,Zc,Za,Ψ57];refine zF g1 ?_ (ha:=by simp only[Zm,Zq,zB,V.norm,zO,C.norm,C.normRow,hcn,wD]<;>rfl);simp only[Qs];refine wJ hS ?_;rw[decide_eq_true_eq];exact hp
theorem zmb (d f t s:Txt):Spec Tryz.prog 216 [.str s,.k (.c (.ro [.str d,.str f,.str t] 0))] (fun v=>v=.bool (!decide (s=t))):=by
 refine Spec.of_awlS hf216 okf216 (by simp) fun S hS=>?_
 simp only[Qs,Zc,Za,Ψ216];refine wJ hS ?_;simp
theorem mB (d f:Txt): ∀(l:List Pln) (acc:List Txt),(fldsF d f l acc).1.length<=acc.length+l.length
 |[],acc=>by simp[fldsF]
 |p::l,acc=>by
  rw[fldsF];split
  ·split
   ·simp
   ·have:=mB d f l (acc++[p.texts.getD (fstN (fun x=>decide (f=x)) p.names 0).toNat []])
    simp only[Zv,Zo,ZG] at this⊢;omega
  ·have:=mB d f l acc
   simp only[Zo];omega
def readsP (d f t:Txt) (l:List Pln):Bool:=(fldsF d f l []).2&& !(fldsF d f l []).1.any fun s=> !decide (s=t)
theorem zmc (d f t:Txt) (l:List Pln) (hl:vE l):Spec Tryz.prog 212 [.agg [.str d,.str f,.str t],lst 3 (l.map yM)] (fun v=>v=.bool (readsP d f t l)):=by
 refine Spec.of_awlS hf212 okf212 (by simp) fun S hS=>?_
 have g1:=zhn d f l hl;have hn:=mB d f l [];have h1:=hl.1;unfold readsP at hS;generalize fldsF d f l []=r at g1 hn hS;obtain⟨L,b⟩:=r;simp only[] at g1 hn hS;have g2:=zho (c:=.ro [.str d,.str f,.str t] 0) rfl L (fun s _=>zmb d f t s) (by simp only[ZG] at hn;omega);simp only[Qs,Zc,Zl,Za,Ψ212];refine xI g1 ?_ (ha:=by simp only[Zm,Zq,zB,V.norm,C.norm,yG sQ,C.normRow]<;>rfl);cases b with
 |false=>
  simp only[Qs,zcr,Zk,Zc,Ye,Za,Ψ212];exact hS
 |true=>
  simp only[Qs,zcr,zcK,Zk,Zc,Ye,Za,zgI,zgJ,zgK,zgL,zgM,zgN,zgO,Ψ212];refine zF g2 ?_ (ha:=by simp only[Zm,Zq,zB,V.norm,zO,C.norm,C.normRow,wD]<;>rfl);simp only[Qs,Za];exact hS
end Go.Abs
namespace Go.Ex
open Go.Lib Go.Wd Go.Wire Go.Abs
def digsV (s:Txt):Nat:=s.foldl (fun a c=>10*a+(c.toNat-48)) 0
theorem zhp {s:Txt} {i:Nat} (h:i<s.length):digsV (s.take (i+1))=10*digsV (s.take i)+(s[i].toNat-48):=by
 unfold digsV;rw[List.take_add_one,Zg h,Option.toList_some,Xq];rfl
theorem zhq {c:UInt8} (h:digB c=true):48<=c.toNat/\c.toNat<=57:=by simpa [digB] using h
theorem zhr {s:Txt} (h:s.all digB=true): ∀i,i<=s.length->digsV (s.take i)<10 ^ i
 |0,_=>by simp[digsV]
 |i+1,hi=>by
  rw[zhp (by omega),Nat.pow_succ];have h1:=zhr h i (by omega);have h2:=zhq (Zu.1 h _ (Zx (n:=i) (by omega)));omega
def numV (s:Txt):Int×Bool:=
 if s=[] then(0,false) else if spanN digB s≠s.length then(0,false) else if s.getD 0 0=48/\s≠[48] then(0,false) else if s.length>13 then(0,false)
 else if digsV s>1099511627776 then(0,false) else((digsV s:Nat),true)
theorem zmd (s:Txt):0<=(numV s).1/\(numV s).1<=1099511627776:=by
 unfold numV
 repeat' split
 all_goals simp only[]
 all_goals omega
end Go.Ex
namespace Go.Abs
open Go.Proofs Go.RowKit Go.Lib Go.Wd Go.Wire Go.Ex
theorem zme (s:Txt) (hl:s.length<=1000000):Spec Tryz.prog 230 [.str s] (fun v=>v=.tup [.int .i64 (numV s).1,.bool (numV s).2]):=by
 refine Spec.of_awlP hf230 okf230 (by simp) fun S hS=>?_
 have g1:=cX zg9 s (big hl);by_cases h0:s=[]
 ·subst h0
  simp only[Qs,BEq.rfl,Zk,Za,Ψ230];exact hS _ rfl
 have hn:numV s=if spanN digB s≠s.length then((0:Int),false) else if s.getD 0 0=48/\s≠[48] then(0,false) else if s.length>13 then(0,false) else if digsV s>1099511627776 then(0,false) else(((digsV s:Nat):Int),true):=by
  rw[numV,if_neg h0]
 rw[hn] at hS;by_cases hsp:spanN digB s=s.length
 ·rw[if_neg (fun q=>q hsp)] at hS
  have hall:=cW.1 hsp;rw[hsp] at g1;have hpos:=Yh.2 h0;have hi0:(0:Int)<s.length:=by omega
  generalize hc:s.getD 0 0=c at hS;have e48:c=48 ↔ ((c.toNat:Nat):Int)=48:=by
   rw[<-UInt8.toNat_inj];show c.toNat=48 ↔ _;omega
  by_cases hz:c=48/\s≠[48]
  ·rw[if_pos hz] at hS
   obtain⟨z1,z2⟩:=hz;have z3:=e48.1 z1;simp only[h0,Qs,forall_const,Zk,Za,Ψ230];refine zF g1 ?_ (ha:=by rfl);simp only[h0,hi0,hc,z3,z2,XT,Qs,forall_const,BEq.rfl,Zk,Za,Yl,Ψ230];exact hS _ rfl
  ·rw[if_neg hz] at hS
   have z:(((c.toNat:Nat):Int)=48)=False/\((0:Nat)=0)=True\/(((c.toNat:Nat):Int)=48)=True/\(s=[48])=True:=by
    by_cases z1:c=48
    ·exact .inr ⟨eq_true (e48.1 z1),eq_true (Classical.byContradiction fun q=>hz ⟨z1,q⟩)⟩
    ·exact .inl ⟨eq_false fun q=>z1 (e48.2 q),eq_true rfl⟩
   rcases z with⟨z3,z4⟩|⟨z3,z4⟩
   all_goals
    simp only[h0,Qs,forall_const,Zk,Za,Ψ230];refine zF g1 ?_ (ha:=by rfl);by_cases h13:s.length>13
    ·rw[if_pos h13] at hS
     have d1:(s.length:Int)>13:=by omega
     simp only[h0,hi0,hc,z3,z4,d1,XT,Qs,forall_const,Zk,Za,Yl,Ψ230];exact hS _ rfl
    ·rw[if_neg h13] at hS
     have d1: ¬(s.length:Int)>13:=by omega
     simp only[h0,hi0,hc,z3,z4,d1,XT,Qs,forall_const,Zk,Za,Yl,Ψ230];rw[uu f230l19.eq_1];refine yA (fun i:Nat=>[(0,.str s),(4,.int .i64 (digsV (s.take i):Nat)),(30,.int .i64 s.length),(31,.int .i64 i)]) (fun _=>[]) (fun i=>i<=s.length) (fun i=>s.length-i) 0 rfl rfl (ZA _) ?_;intro i hi;by_cases hlt:i<s.length
     ·have e1:(i:Int)<s.length:=by omega
      have c4:IntKind.i64.wrap ((i:Int)+1)=(i:Int)+1:=wrap_in (by omega) (by omega);have hd:=zhq (Zu.1 hall _ (Zx hlt));have ht:=zhp hlt;have hb:=zhr hall (i+1) (by omega);have hb2:10 ^ (i+1)<=10 ^ 13:=Yf (by decide) (by omega);have hb3:(10:Nat) ^ 13=10000000000000:=by decide
      have hg:s.getD i 0=s[i]:=by rw[Zh,Zg hlt];rfl
      generalize s[i]=x at hd ht hg;generalize hT:digsV (s.take (i+1))=T at ht hb;generalize digsV (s.take i)=T0 at ht;have c5:IntKind.u8.wrap (((x.toNat:Nat):Int)-48)=((x.toNat:Nat):Int)-48:=by
       unfold IntKind.wrap;simp[IntKind.signed,IntKind.bits];omega
      have c6:IntKind.i64.wrap (((x.toNat:Nat):Int)-48)=((x.toNat:Nat):Int)-48:=wrap_in (by omega) (by omega);have c7:IntKind.i64.wrap (10*(T0:Int))=10*(T0:Int):=wrap_in (by omega) (by omega);have c8:IntKind.i64.wrap (10*(T0:Int)+(((x.toNat:Nat):Int)-48))=(T:Int):=by
       rw[wrap_in (by omega) (by omega)];omega
      simp only[e1,c4,hg,c5,c6,c7,c8,Z6,Qs,zcJ,zdH,zdV,Za,Ψ230];exact Next.intro (i+1) (by rw[hT];rfl) rfl (by omega) (by omega)
     ·have e1: ¬(i:Int)<s.length:=by omega
      rw[Z9 (by omega)];by_cases hbig:digsV s>1099511627776
      ·rw[if_pos hbig] at hS
       have e2:((digsV s:Nat):Int)>1099511627776:=by omega
       simp only[e1,e2,Qs,Zk,Za,Ψ230];exact hS _ rfl
      ·rw[if_neg hbig] at hS
       have e2: ¬((digsV s:Nat):Int)>1099511627776:=by omega
       simp only[e1,e2,Qs,Zk,Za,Ψ230];exact hS _ rfl
 ·rw[if_pos hsp] at hS
  have hsi: ¬((spanN digB s:Nat):Int)=s.length:=by omega
  simp only[h0,Qs,forall_const,Zk,Za,Ψ230];refine zF g1 ?_ (ha:=by rfl);simp only[h0,hsi,Qs,forall_const,Zk,Za,Yl,Ψ230];exact hS _ rfl
end Go.Abs
namespace Go.Ex
open Go.Lib Go.Wd Go.Wire Go.Abs
def mC (lo hi:Int) (sum:Bool):List Txt->Int->Option Int
 |[],a=>some a
 |s::r,a=>if (numV s).2=true then(if sum=false/\((numV s).1<lo\/(numV s).1>hi) then none else mC lo hi sum r (a+(numV s).1)) else none
def limP (d f:Txt) (lo hi:Int) (sum:Bool) (l:List Pln):Bool:=
 match mC lo hi sum (fldsF d f l []).1 0 with
 |none=>false
 |some a=>(fldsF d f l []).2&&(!sum||(decide (a>=lo)&&decide (a<=hi)))
end Go.Ex
namespace Go.Abs
open Go.Proofs Go.RowKit Go.Lib Go.Wd Go.Wire Go.Ex
theorem bJ (d f:Txt): ∀(l:List Pln) (acc:List Txt),(∀p∈l,PlnS p)->(∀s∈acc,s.length<=1000000)-> ∀s∈(fldsF d f l acc).1,s.length<=1000000
 |[],acc,_,ha=>ha
 |p::l,acc,hp,ha=>by
  rw[fldsF];split
  ·split
   ·intro s hs;cases hs
   ·refine bJ d f l _ (fun q hq=>hp q (Zz _ hq)) fun s hs=>?_
    rcases Yg.1 hs with h|h
    ·exact ha s h
    ·rw[ZU.1 h,Zh]
     cases hg:p.texts[(fstN (fun x=>decide (f=x)) p.names 0).toNat]? with
     |none=>simp
     |some t=>exact(hp p (by simp)).tx t (ZL hg)
  ·exact bJ d f l acc (fun q hq=>hp q (Zz _ hq)) ha
theorem zhs (d f:Txt) (lo hi:Int) (sum:Bool) (l:List Pln) (hl:vE l):Spec Tryz.prog 227 [.agg [.str d,.str f,.int .i64 lo,.int .i64 hi,.bool sum],lst 3 (l.map yM)] (fun v=>v=.bool (limP d f lo hi sum l)):=by
 refine Spec.of_awlS hf227 okf227 (by simp) fun S hS=>?_
 have g1:=zhn d f l hl;have hn:=mB d f l [];have hm:=bJ d f l [] hl.2 (by simp);have h1:=hl.1;unfold limP at hS;generalize fldsF d f l []=r at g1 hn hm hS;obtain⟨L,b⟩:=r;simp only[ZG,ZV] at g1 hn hm hS;simp only[Qs,Zc,Zl,Za,Ψ227];refine xI g1 ?_ (ha:=by simp only[Zm,Zq,zB,V.norm,C.norm,yG sQ,C.normRow]<;>rfl);simp only[yB,Qs,Zk,Zc,Ye,Za,Ψ227];rw[uu f227l21.eq_1];refine yA (fun x:Nat×Nat=>[(2,.k (.c (.ro [.str d,.str f,.int .i64 lo,.int .i64 hi,.bool sum] 0))),(6,.bool b),(7,.int .i64 (x.2:Nat)),(19,lst 1 (zJ L)),(20,.int .i64 L.length),(21,.int .i64 x.1)]) (fun _=>[]) (fun x=>x.1<=L.length/\x.2<=x.1*1099511627776/\mC lo hi sum (L.drop x.1) (x.2:Nat)=mC lo hi sum L 0) (fun x=>L.length-x.1) (0,0) rfl rfl ⟨ZA _,by decide,rfl⟩ ?_;rintro⟨i,a⟩ ⟨hi',ha,hD⟩;simp only[] at hi' ha hD;by_cases hlt:i<L.length
 ·have d1:(i:Int)<L.length:=by omega
  have c4:IntKind.i64.wrap ((i:Int)+1)=(i:Int)+1:=wrap_in (by omega) (by omega);rw[ZE hlt,mC] at hD;have g2:=zme L[i] (hm _ (Zx hlt));have hr:=zmd L[i];have hat:=uI hlt;generalize L[i]=s at hD g2 hr hat;generalize numV s=nv at hD g2 hr;obtain⟨n,is⟩:=nv;simp only[] at hD g2 hr;obtain⟨m,rfl⟩: ∃m:Nat,n=m:=⟨n.toNat,by omega⟩;have c5:IntKind.i64.wrap ((a:Int)+(m:Int))=((a+m:Nat):Int):=by
   rw[wrap_in (by omega) (by omega)];omega
  cases is with
  |false=>
   rw[if_neg (by decide)] at hD;rw[<-hD] at hS;simp only[d1,hat,yB,Qs,Za,Ψ227];refine zF g2 ?_ (ha:=by rfl);simp only[Qs,Za,Ψ227];exact hS
  |true=>
   rw[if_pos rfl] at hD;cases sum with
   |true=>
    rw[if_neg (by simp)] at hD;simp only[d1,hat,yB,Qs,Za,Ψ227];refine zF g2 ?_ (ha:=by rfl);simp only[c4,c5,Qs,Zc,Za,Ψ227];exact Next.intro (i+1,a+m) rfl rfl ⟨by simp only;omega,by simp only;omega,by simpa using hD⟩ (by simp only;omega)
   |false=>
    by_cases q1:(m:Int)<lo
    ·rw[if_pos ⟨rfl,.inl q1⟩] at hD
     rw[<-hD] at hS;simp only[d1,hat,yB,Qs,Za,Ψ227];refine zF g2 ?_ (ha:=by rfl);simp only[c4,c5,q1,Qs,Zc,Zl,Za,Ψ227];exact hS
    ·by_cases q2:(m:Int)>hi
     ·rw[if_pos ⟨rfl,.inr q2⟩] at hD
      rw[<-hD] at hS;simp only[d1,hat,yB,Qs,Za,Ψ227];refine zF g2 ?_ (ha:=by rfl);simp only[c4,c5,q1,q2,Qs,Zc,Zl,Za,Ψ227];exact hS
     ·rw[if_neg (fun q=>q.2.elim q1 q2)] at hD
      simp only[d1,hat,yB,Qs,Za,Ψ227];refine zF g2 ?_ (ha:=by rfl);simp only[c4,c5,q1,q2,Qs,Zc,Zl,Za,Ψ227];exact Next.intro (i+1,a+m) rfl rfl ⟨by simp only;omega,by simp only;omega,by simpa using hD⟩ (by simp only;omega)
 ·have d1: ¬(i:Int)<L.length:=by omega
  rw[ZC (by omega),mC] at hD;rw[<-hD] at hS;simp only[] at hS;cases b with
  |false=>
   simp only[d1,Qs,Za,Ψ227];exact hS
  |true=>
   cases sum with
   |false=>
    simp only[d1,Qs,Zc,Za,Ψ227];exact hS
   |true=>
    by_cases q1:(a:Int)>=lo
    ·by_cases q2:(a:Int)<=hi
     ·simp only[d1,q1,q2,Qs,Zc,Zl,Za,Ψ227]
      simpa [q1,q2] using hS
     ·simp only[d1,q1,q2,Qs,Zc,Zl,Za,Ψ227]
      simpa [q1,q2] using hS
    ·simp only[d1,q1,Qs,Zc,Zl,Za,Ψ227]
     simpa [q1] using hS
def zQ (d:Dmd):List C:=[.int .i64 d.op,.str d.doc,.str d.fld,.str d.oth,.str d.sec,.str d.txt,.int .i64 d.lo,.int .i64 d.hi]
theorem zpw (d f:Txt) (hd:d.length<=1000000) (hf:f.length<=1000000):Spec Tryz.prog 201 [.agg [.str d,.str f]] (fun v=>v=.bool (nameP d&&nameP f)):=by
 refine Spec.of_awlS hf201 okf201 (by simp) fun S hS=>?_
 have g1:=c92 d (big hd);have g2:=c92 f (big hf);generalize nameP d=x at g1 hS;generalize nameP f=y at g2 hS;simp only[Qs,Zc,Zl,Za,Ψ201];refine zF g1 ?_ (ha:=by rfl);cases x with
 |false=>
  simp only[Qs,Za];exact hS
 |true=>
  simp only[Qs,Zc,Za];refine zF g2 ?_ (ha:=by rfl);simp only[Qs,Za];exact hS
def wF:Txt:=[32,46,32]
theorem zpx (d f:Txt) (hd:d.length<=1000000) (hf:f.length<=1000000):Spec Tryz.prog 202 [.agg [.str d,.str f]] (fun v=>v=.str (d++wF++f)):=by
 refine Spec.of_awlS hf202 okf202 (by simp) fun S hS=>?_
 simp only[Qs,lG,Zc,Zl,Za,Ψ202];exact⟨by omega,by simp only[Zv,Zo,ZG];omega,hS⟩
theorem zmf (d:Txt) (hd:d.length<=1000000):Spec Tryz.prog 205 [.agg [.str d]] (fun v=>v=.bool (nameP d)):=by
 refine Spec.of_awlS hf205 okf205 (by simp) fun S hS=>?_
 have g1:=c92 d (big hd);generalize nameP d=x at g1 hS;simp only[Qs,Za,Ψ205];refine zF g1 ?_ (ha:=by rfl);simp only[Qs];exact hS
theorem zmg (d:Txt):Spec Tryz.prog 203 [.agg [.str d]] (fun v=>v=.agg (zQ ⟨0,d,[],[],[],[],0,0⟩)):=by
 refine Spec.of_awlS hf203 okf203 (by simp) fun S hS=>?_
 simp only[Qs,bne_iff_ne,ne_eq,Zk,Zc,Zs,Zl,Z5,Za,Ψ203];exact hS
theorem zmh (d f t:Txt):Spec Tryz.prog 211 [.agg [.str d,.str f,.str t]] (fun v=>v=.agg (zQ ⟨1,d,f,[],[],t,0,0⟩)):=by
 refine Spec.of_awlS hf211 okf211 (by simp) fun S hS=>?_
 simp only[Qs,bne_iff_ne,ne_eq,Zk,Zc,Zs,Zl,Z5,Za,Ψ211];exact hS
theorem zmi (d f e g:Txt):Spec Tryz.prog 221 [.agg [.str d,.str f,.str e,.str g]] (fun v=>v=.agg (zQ ⟨3,d,f,e,g,[],0,0⟩)):=by
 refine Spec.of_awlS hf221 okf221 (by simp) fun S hS=>?_
 simp only[Qs,bne_iff_ne,ne_eq,Zk,Zc,Zs,Zl,Z5,Za,Ψ221];exact hS
theorem zht (d f:Txt) (lo hi:Int) (sum:Bool):Spec Tryz.prog 226 [.agg [.str d,.str f,.int .i64 lo,.int .i64 hi,.bool sum]] (fun v=>v=.agg (zQ ⟨if sum=true then 4 else 2,d,f,[],[],[],lo,hi⟩)):=by
 refine Spec.of_awlS hf226 okf226 (by simp) fun S hS=>?_
 cases sum with
 |true=>
  simp only[Qs,zlg,zlk,bne_iff_ne,ne_eq,Zk,Zc,Zs,Zl,Z5,Za,Ψ226];exact hS
 |false=>
  simp only[Qs,bne_iff_ne,ne_eq,Zk,Zc,Zs,Zl,Z5,Za,Ψ226];exact hS
theorem zmj (d f e g:Txt) (hd:d.length<=1000000) (hf:f.length<=1000000) (he:e.length<=1000000) (hg:g.length<=1000000):Spec Tryz.prog 223 [.agg [.str d,.str f,.str e,.str g]] (fun v=>v=.bool ((nameP d&&nameP f)&&(nameP e&&nameP g))):=by
 refine Spec.of_awlS hf223 okf223 (by simp) fun S hS=>?_
 have g1:=zpw d f hd hf;have g2:=zpw e g he hg;generalize (nameP d&&nameP f)=x at g1 hS;generalize (nameP e&&nameP g)=y at g2 hS;simp only[Qs,Zc,Zl,Za,Ψ223];refine zF g1 ?_ (ha:=by rfl);cases x with
 |false=>
  simp only[Qs,Za];exact hS
 |true=>
  simp only[Qs,Zc,Za];refine zF g2 ?_ (ha:=by rfl);simp only[Qs,Za];exact hS
theorem zhu (d f:Txt) (lo hi:Int) (sum:Bool) (hd:d.length<=1000000) (hf:f.length<=1000000):Spec Tryz.prog 228 [.agg [.str d,.str f,.int .i64 lo,.int .i64 hi,.bool sum]] (fun v=>v=.bool ((nameP d&&nameP f)&&(decide (lo>=0)&&(decide (lo<=hi)&&decide (hi<=1099511627776))))):=by
 refine Spec.of_awlS hf228 okf228 (by simp) fun S hS=>?_
 have g1:=zpw d f hd hf;generalize (nameP d&&nameP f)=x at g1 hS;simp only[Qs,Zc,Zl,Za,Ψ228];refine zF g1 ?_ (ha:=by rfl);cases x with
 |false=>
  simp only[Qs,Za];exact hS
 |true=>
  by_cases q1:lo>=0
  ·by_cases q2:lo<=hi
   ·by_cases q3:hi<=1099511627776
    ·simp only[q1,q2,q3,Qs,Zc,Zl,Za]
     simpa [q1,q2,q3] using hS
    ·simp only[q1,q2,q3,Qs,Zc,Zl,Za]
     simpa [q1,q2,q3] using hS
   ·simp only[q1,q2,Qs,Zc,Zl,Za]
    simpa [q1,q2] using hS
  ·simp only[q1,Qs,Zc,Zl,Za]
   simpa [q1] using hS
theorem zmk (c:UInt8):Spec Tryz.prog 218 [.int .u8 (c.toNat:Int)] (fun v=>v=.bool (nV c)):=by
 refine Spec.of_awlS hf218 okf218 (by simp) fun S hS=>?_
 unfold nV at hS;have h1:=u8r c;by_cases q1:((c.toNat:Nat):Int)>=32
 ·by_cases q2:((c.toNat:Nat):Int)<=126
  ·simp only[q1,q2,Qs,Za,Ψ218]
   refine wJ hS ?_;rw[decide_eq_true_eq];simp only[true_iff];omega
  ·simp only[q1,q2,Qs,Za,Ψ218]
   refine wJ hS ?_;rw[decide_eq_true_eq];simp only[Z1,false_iff];omega
 ·simp only[q1,Qs,Za,Ψ218]
  refine wJ hS ?_;rw[decide_eq_true_eq];simp only[Z1,false_iff];omega
theorem zml (d f:Txt) (l:List Pln) (hl:vE l):Spec Tryz.prog 215 [lst 3 (l.map yM),.agg [.str d,.str f]] (fun v=>v=.tup [.k (.newl 9 1 none (zJ (fldsF d f l []).1)),.bool (fldsF d f l []).2]):=by
 refine Spec.of_awlS hf215 okf215 (by simp) fun S hS=>?_
 have hlen:=hl.1;simp only[zI,Qs,bne_iff_ne,ne_eq,Zc,Zs,Za,Zi,Ψ215];rw[uu f215l25.eq_1];refine yA (fun x:Nat×List Txt×Option Bool=>[(3,.k (.c (.ro [.str d,.str f] 0))),(6,.k (.own 6)),(10,lst 3 (l.map yM)),(11,.int .i64 l.length),(12,.int .i64 x.1)]) (fun x=>[(6,.arr 9 1 x.2.2 (zJ x.2.1))]) (fun x=>x.1<=l.length/\x.2.1.length<=x.1/\fldsF d f (l.drop x.1) x.2.1=fldsF d f l []) (fun x=>l.length-x.1) (0,[],some true) rfl rfl ⟨ZA _,by decide,rfl⟩ ?_;rintro⟨i,L,nl⟩ ⟨hi,hL,hD⟩;simp only[] at hi hL hD;by_cases hlt:i<l.length
 ·have d1:(i:Int)<l.length:=by omega
  have c4:IntKind.i64.wrap ((i:Int)+1)=(i:Int)+1:=wrap_in (by omega) (by omega);have hat:=zpv hlt;rw[ZE hlt,fldsF] at hD;have hp:=hl.2 _ (Zx hlt);generalize l[i]=p at hD hat hp;have g1:=c40 p.names f (big hp.ns);by_cases hk:p.kind=d
  ·rw[if_pos hk] at hD
   generalize fstN (fun x=>decide (f=x)) p.names 0=j at hD g1;by_cases hj:j<0\/j>=p.texts.length
   ·rw[if_pos hj] at hD
    rw[<-hD] at hS;by_cases hj0:j<0
    ·simp only[d1,hat,hk,zI,Qs,bne_iff_ne,ne_eq,BEq.rfl,Zk,Zc,Zs,Zl,Za,Zi,Ψ215]
     refine zF g1 ?_ (ha:=by simp only[Zm,Zq,zB,V.norm,C.norm,zO,wD]<;>rfl);simp only[hj0,yB,Qs,zeS,bne_iff_ne,ne_eq,Zk,ZY,Zs,Za,Zy,Ψ215];exact hS
    ·have hj1:j>=p.texts.length:=hj.resolve_left hj0
     simp only[d1,hat,hk,zI,Qs,bne_iff_ne,ne_eq,BEq.rfl,Zk,Zc,Zs,Zl,Za,Zi,Ψ215];refine zF g1 ?_ (ha:=by simp only[Zm,Zq,zB,V.norm,C.norm,zO,wD]<;>rfl);simp only[hj0,hj1,yB,Qs,bne_iff_ne,ne_eq,Zk,ZY,Zc,Zs,Za,Zy,Ψ215];exact hS
   ·rw[if_neg hj] at hD
    obtain⟨m,rfl⟩: ∃m:Nat,j=m:=⟨j.toNat,by omega⟩;have hj0: ¬(m:Int)<0:=by omega
    have hj1: ¬(m:Int)>=p.texts.length:=by omega
    have hm:m<p.texts.length:=by omega
    have hgd:p.texts.getD (m:Int).toNat []=p.texts[m]:=by simp[List.getD,hm]
    rw[hgd] at hD;simp only[d1,hat,hk,zI,Qs,bne_iff_ne,ne_eq,BEq.rfl,Zk,Zc,Zs,Zl,Za,Zi,Ψ215];refine zF g1 ?_ (ha:=by simp only[Zm,Zq,zB,V.norm,C.norm,zO,wD]<;>rfl);simp only[hj0,hj1,yB,uI hm,c4,Qs,forall_eq,bne_iff_ne,ne_eq,ZH,Zc,Zs,Zl,Z5,Za,Zy,Ψ215];refine⟨by omega,by omega,by omega,Next.intro (i+1,L++[p.texts[m]],some false) rfl (by simp[zJ];rfl) ⟨by simp only;omega,by simp;omega,hD⟩ (by simp only;omega)⟩
  ·rw[if_neg hk] at hD
   simp only[d1,hat,hk,c4,zI,Qs,forall_const,bne_iff_ne,ne_eq,Zk,Zc,Zs,Zl,Za,Zi,Ψ215];exact Next.intro (i+1,L,nl) rfl rfl ⟨by simp only;omega,by simp only;omega,hD⟩ (by simp only;omega)
 ·have d1: ¬(i:Int)<l.length:=by omega
  rw[ZC (by omega),fldsF] at hD;rw[<-hD] at hS;simp only[d1,Qs,Zk,ZY,Za,Zy,Ψ215];simpa only[wD] using hS
end Go.Abs
namespace Go.Proofs
open Go.Shelf Go.RowKit
def Tryz.laysString_ren:Go.Shelf.Ren:=
 {
  f:=fun x=>
   match x with
   |169=>134
   |n=>n,
  t:=fun x=>
   match x with
   |70=>185
   |9=>9
   |0=>0
   |72=>188
   |37=>186
   |127=>214
   |3=>3
   |5=>5
   |n=>n,
  g:=fun n=>n}
theorem Tryz.laysString:Lays.n169 Tryz.prog Tryz.laysString_ren:=
 {mixed:=by kernel_rfl,f169:=ZQ Tryz.func134 (congrArg some (ZI (Body.n169 Tryz.laysString_ren))),
  t0:=Tryz.underlying0,a0:=Tryz.isAgg0,z0:=Tryz.sizeOf0,v0:=Tryz.zeroValue0,t3:=Tryz.underlying3,
  a3:=Tryz.isAgg3,z3:=Tryz.sizeOf3,v3:=Tryz.zeroValue3,t9:=Tryz.underlying9,a9:=Tryz.isAgg9,
  z9:=Tryz.sizeOf9,v9:=Tryz.zeroValue9,t37:=Tryz.underlying186,a37:=Tryz.isAgg186,z37:=Tryz.sizeOf186,
  v37:=Tryz.zeroValue186,t70:=Tryz.underlying185,a70:=Tryz.isAgg185,z70:=Tryz.sizeOf185,
  v70:=Tryz.zeroValue185,t72:=Tryz.underlying188,a72:=Tryz.isAgg188,z72:=Tryz.sizeOf188,
  v72:=Tryz.zeroValue188,t127:=Tryz.underlying214,a127:=Tryz.isAgg214,z127:=Tryz.sizeOf214,
  v127:=Tryz.zeroValue214}
def Tryz.laysGrow_ren:Go.Shelf.Ren:=
 {
  f:=fun x=>
   match x with
   |241=>162
   |277=>176
   |n=>n,
  t:=fun x=>
   match x with
   |70=>185
   |3=>3
   |0=>0
   |72=>188
   |37=>186
   |5=>5
   |n=>n,
  g:=fun n=>n}
theorem Tryz.laysGrow:Lays.n241 Tryz.prog Tryz.laysGrow_ren:=
 {mixed:=by kernel_rfl,f241:=ZQ Tryz.func162 (congrArg some (ZI (Body.n241 Tryz.laysGrow_ren))),
  f277:=ZQ Tryz.func176 (congrArg some (ZI (Body.n277 Tryz.laysGrow_ren))),t0:=Tryz.underlying0,
  a0:=Tryz.isAgg0,z0:=Tryz.sizeOf0,v0:=Tryz.zeroValue0,t3:=Tryz.underlying3,a3:=Tryz.isAgg3,
  z3:=Tryz.sizeOf3,v3:=Tryz.zeroValue3,t37:=Tryz.underlying186,a37:=Tryz.isAgg186,z37:=Tryz.sizeOf186,
  v37:=Tryz.zeroValue186,t70:=Tryz.underlying185,a70:=Tryz.isAgg185,z70:=Tryz.sizeOf185,
  v70:=Tryz.zeroValue185,t72:=Tryz.underlying188,a72:=Tryz.isAgg188,z72:=Tryz.sizeOf188,
  v72:=Tryz.zeroValue188}
def Tryz.laysSplit_ren:Go.Shelf.Ren:=
 {
  f:=fun x=>
   match x with
   |146=>91
   |221=>124
   |268=>157
   |138=>158
   |143=>159
   |195=>171
   |197=>172
   |218=>173
   |219=>174
   |260=>179
   |217=>180
   |225=>181
   |224=>182
   |267=>183
   |266=>184
   |314=>185
   |n=>n,
  t:=fun x=>
   match x with
   |9=>9
   |31=>51
   |3=>3
   |4=>4
   |0=>0
   |105=>224
   |21=>21
   |5=>5
   |46=>71
   |119=>234
   |139=>237
   |138=>236
   |146=>238
   |51=>152
   |n=>n,
  g:=fun x=>
   match x with
   |1=>2
   |3=>3
   |4=>4
   |n=>n}
theorem Tryz.laysSplit:Lays.n146 Tryz.prog Tryz.laysSplit_ren:=
 {mixed:=by kernel_rfl,f138:=ZQ Tryz.func158 (congrArg some (ZI (Body.n138 Tryz.laysSplit_ren))),
  f143:=ZQ Tryz.func159 (congrArg some (ZI (Body.n143 Tryz.laysSplit_ren))),
  f146:=ZQ Tryz.func91 (congrArg some (ZI (Body.n146 Tryz.laysSplit_ren))),
  f195:=ZQ Tryz.func171 (congrArg some (ZI (Body.n195 Tryz.laysSplit_ren))),
  f197:=ZQ Tryz.func172 (congrArg some (ZI (Body.n197 Tryz.laysSplit_ren))),
  f217:=ZQ Tryz.func180 (congrArg some (ZI (Body.n217 Tryz.laysSplit_ren))),
  f218:=ZQ Tryz.func173 (congrArg some (ZI (Body.n218 Tryz.laysSplit_ren))),
  f219:=ZQ Tryz.func174 (congrArg some (ZI (Body.n219 Tryz.laysSplit_ren))),
  f221:=ZQ Tryz.func124 (congrArg some (ZI (Body.n221 Tryz.laysSplit_ren))),
  f224:=ZQ Tryz.func182 (congrArg some (ZI (Body.n224 Tryz.laysSplit_ren))),
  f225:=ZQ Tryz.func181 (congrArg some (ZI (Body.n225 Tryz.laysSplit_ren))),
  f260:=ZQ Tryz.func179 (congrArg some (ZI (Body.n260 Tryz.laysSplit_ren))),
  f266:=ZQ Tryz.func184 (congrArg some (ZI (Body.n266 Tryz.laysSplit_ren))),
  f267:=ZQ Tryz.func183 (congrArg some (ZI (Body.n267 Tryz.laysSplit_ren))),
  f268:=ZQ Tryz.func157 (congrArg some (ZI (Body.n268 Tryz.laysSplit_ren))),
  f314:=ZQ Tryz.func185 (congrArg some (ZI (Body.n314 Tryz.laysSplit_ren))),t0:=Tryz.underlying0,
  a0:=Tryz.isAgg0,z0:=Tryz.sizeOf0,v0:=Tryz.zeroValue0,t3:=Tryz.underlying3,a3:=Tryz.isAgg3,
  z3:=Tryz.sizeOf3,v3:=Tryz.zeroValue3,t4:=Tryz.underlying4,a4:=Tryz.isAgg4,z4:=Tryz.sizeOf4,
  v4:=Tryz.zeroValue4,t5:=Tryz.underlying5,a5:=Tryz.isAgg5,z5:=Tryz.sizeOf5,v5:=Tryz.zeroValue5,
  t9:=Tryz.underlying9,a9:=Tryz.isAgg9,z9:=Tryz.sizeOf9,v9:=Tryz.zeroValue9,t21:=Tryz.underlying21,
  a21:=Tryz.isAgg21,z21:=Tryz.sizeOf21,v21:=Tryz.zeroValue21,t31:=Tryz.underlying51,a31:=Tryz.isAgg51,
  z31:=Tryz.sizeOf51,v31:=Tryz.zeroValue51,t46:=Tryz.underlying71,a46:=Tryz.isAgg71,z46:=Tryz.sizeOf71,
  v46:=Tryz.zeroValue71,t51:=Tryz.underlying152,a51:=Tryz.isAgg152,z51:=Tryz.sizeOf152,
  v51:=Tryz.zeroValue152,t105:=Tryz.underlying224,a105:=Tryz.isAgg224,z105:=Tryz.sizeOf224,
  v105:=Tryz.zeroValue224,t119:=Tryz.underlying234,a119:=Tryz.isAgg234,z119:=Tryz.sizeOf234,
  t138:=Tryz.underlying236,a138:=Tryz.isAgg236,z138:=Tryz.sizeOf236,v138:=Tryz.zeroValue236,
  t139:=Tryz.underlying237,a139:=Tryz.isAgg237,z139:=Tryz.sizeOf237,v139:=Tryz.zeroValue237,
  t146:=Tryz.underlying238,a146:=Tryz.isAgg238,z146:=Tryz.sizeOf238,v146:=Tryz.zeroValue238,
  g1:=by kernel_rfl,g3:=by kernel_rfl,
  g4:=by kernel_rfl}
end Go.Proofs
namespace Go.Proofs
open Go.Shelf Go.RowKit Go.Lib
theorem Tryz.bx169:Builder.Extra Tryz.prog Tryz.laysString_ren where
 sizeBuilder:=by kernel_rfl
 liesBuilder:=by kernel_rfl
 t5:=Tryz.underlying5
 a5:=Tryz.isAgg5
 z5:=Tryz.sizeOf5
 v5:=Tryz.zeroValue5
 infoByte:=by kernel_rfl
 cellsByte:=by kernel_rfl
 sizeByte:=by kernel_rfl
 neB5:=by decide
theorem zmm (b:Nat) (w:World) (h0:w.cell? ⟨b,0,none⟩=some (.pointer (some ⟨b,0,none⟩))):
  Calls Tryz.prog 161 #[.pointer (some ⟨b,0,none⟩)] w fun e w'=>e=.returned (.tuple #[])/\w'=w:=by
 obtain⟨j,hj,_⟩:=Zd.1 Tryz.bx169.sizeBuilder
 go_enter Tryz.func161,Tryz.ntmps161
 go_wp2
 rw[Lib.run_neq_ptr_same w _ Tryz.underlying185 hj]
 go_wp2
 go_end0
 exact⟨rfl,rfl⟩
theorem zhv (b:Nat) (w:World) (h0:w.cell? ⟨b,0,none⟩=some (.pointer none)) (hsh:w.shape? b=some (188,2)) (hfz:w.frozen? ⟨b,0,none⟩=false):
  Calls Tryz.prog 161 #[.pointer (some ⟨b,0,none⟩)] w fun e w'=>e=.returned (.tuple #[])/\w'=w.setCell ⟨b,0,none⟩ (.pointer (some ⟨b,0,none⟩)):=by
 obtain⟨j,hj,hjs⟩:=Zd.1 Tryz.bx169.sizeBuilder
 go_enter Tryz.func161,Tryz.ntmps161
 go_wp2
 rw[Lib.run_to_unsafe w ⟨b,0,none⟩ Tryz.underlying185 Tryz.underlying227 hj (by rw[hjs];decide) hsh (Nat.zero_lt_succ 1)];simp only[Result.andThen];rw[Oper.upon_value]
 go_wp2
 rw[run_callFunc_extern Tryz.func175 (by kernel_rfl) (by kernel_rfl) (by kernel_rfl) (e:=Extern.AbiNoEscape.same) (by kernel_rfl)];rw[Lib.run_noEscape];simp only[Result.andThen];rw[Oper.upon_value]
 go_wp2
 rw[Lib.run_from_unsafe w ⟨b,0,none⟩ Tryz.underlying227 Tryz.underlying185 hj hsh Tryz.bx169.liesBuilder];simp only[Result.andThen];rw[Oper.upon_value]
 go_wp2
 go_end0
 exact⟨rfl,rfl⟩
theorem zhw (B b:Nat) (bs:List Value) (w:World) (h:Lib.IsBuilderF 188 5 B b bs w):
  Calls Tryz.prog 161 #[.pointer (some ⟨b,0,none⟩)] w fun e w'=>e=.returned (.tuple #[])/\Lib.BuilderAtF 188 5 B b (.pointer (some ⟨b,0,none⟩)) bs w'/\Below B w w':=by
 rcases h with h|h
 ·refine(zhv b w h.cell0 h.shape h.frozen0).mono ?_
  rintro e w' ⟨rfl,rfl⟩;exact⟨rfl,h.used _,(Below.refl B w).setCell (p:=⟨b,0,none⟩) h.1 _⟩
 ·refine(zmm b w h.cell0).mono ?_
  rintro e w' ⟨rfl,rfl⟩;exact⟨rfl,h,Below.refl B _⟩
theorem zmn (B b:Nat) (bs:List Value) (s:ByteArray) (w:World) (h:Lib.IsBuilderF 188 5 B b bs w) (hlen:bs.length+s.size<=140737488355328) (hBw:B<=w.heap.size):
  Calls Tryz.prog 133 #[.pointer (some ⟨b,0,none⟩),.string s] w fun e w'=>e=.returned (.tuple #[.int .i64 s.size,.nilIface])/\Lib.IsBuilderF 188 5 B b (bs++Lib.strCells s) w'/\Below B w w':=by
 obtain⟨i0,hi,hz0,hz1,hz2⟩:=info_parts Tryz.bx169.infoByte
 go_enter Tryz.func133,Tryz.ntmps133
 go_wp2_with (go_at_call 161;refine(zhw B b bs _ h).mono ?_)
 rintro e w1 ⟨rfl,h1,hb1⟩;obtain⟨hB,v,hbk,hown,hne⟩:=h1;have c0:w1.cell? ⟨b,0,none⟩=some (.pointer (some ⟨b,0,none⟩)):=by rw[Lib.cell_of_heap hbk];rfl
 have c1:w1.cell? ⟨b,1,none⟩=some v:=by rw[Lib.cell_of_heap hbk];rfl
 go_wp2_with (at_builtin;refine Lib.wpList_append_own_stringF _ rfl _ _ 186 9 rfl B 5 i0 Tryz.underlying186 Tryz.underlying9 hi hz0 hz1 hz2 _ _ _ rfl hown s rfl ?c3 ?c4 ?c5 ?_)
 case c3=>unfold maxLen;omega
 case c4=>omega
 case c5=>have:=hb1.size;omega
 intro v' w2 hown' hgrow _;have hlt:b<w1.heap.size:=by
  rcases YZ b w1.heap.size with h'|h'
  ·exact h'
  ·simp[Array.getElem?_eq_none h'] at hbk
 have hb2:w2.heap[b]?=some (.cells #[.pointer (some ⟨b,0,none⟩),v] 188 (0,0)):=by
  rw[hgrow.block b hlt (fun e=>hne e.symm)];exact hbk
 have d0:w2.cell? ⟨b,0,none⟩=some (.pointer (some ⟨b,0,none⟩)):=by rw[Lib.cell_of_heap hb2];rfl
 have d1:w2.cell? ⟨b,1,none⟩=some v:=by rw[Lib.cell_of_heap hb2];rfl
 have f1:w2.frozen? ⟨b,1,none⟩=false:=Lib.frozen_of_heap hb2 1;obtain⟨ao,n',cap,rfl⟩: ∃ao n' cap,v'=.slice ao n' cap:=by
  rcases hown'.2 with⟨hv,_⟩|⟨g,cap,cur,fz,hv,_⟩
  ·exact⟨_,_,_,hv⟩
  ·exact⟨_,_,_,hv⟩
 go_wp2
 go_ret2
 refine⟨rfl,.inr ?_,?_⟩
 ·exact Lib.BuilderAtF.put (T:=188) (e:=5) hB hb2 (bs':=bs++Lib.strCells s) (by simpa [Lib.strCells_length] using hown') (by decide)
 ·exact(hb1.grown hgrow (by have:=hb1.size;omega) (fun k hk=>(hown.lt k hk).1)).setCell (p:=⟨b,1,none⟩) hB _
theorem Tryz.bxg:Builder.Extra Tryz.prog Tryz.laysGrow_ren where
 sizeBuilder:=by kernel_rfl
 liesBuilder:=by kernel_rfl
 t5:=Tryz.underlying5
 a5:=Tryz.isAgg5
 z5:=Tryz.sizeOf5
 v5:=Tryz.zeroValue5
 infoByte:=by kernel_rfl
 cellsByte:=by kernel_rfl
 sizeByte:=by kernel_rfl
 neB5:=by decide
theorem zhx (B b:Nat) (l:List UInt8) (w:World) (h:Lib.IsBuilderF 188 5 B b (Lib.byteCells l) w) (hBw:B<=w.heap.size):
  Calls Tryz.prog 134 #[.pointer (some ⟨b,0,none⟩)] w fun e w'=>e=.returned (.string ⟨l.toArray⟩)/\Lib.IsBuilderF 188 5 B b (Lib.byteCells l) w'/\Below B w w':=
 (Any.Builder_String_any_k Tryz.laysString Tryz.bx169 B b l w h hBw).mono fun _ _ h=>⟨h.1,h.2.1,h.2.2.1⟩
theorem zmo (B b n:Nat) (w:World) (hB:B<=b) (hbk:w.heap[b]?=some (.cells #[.pointer (some ⟨b,0,none⟩),.slice none 0 0] 188 (0,0))) (hBw:B<=w.heap.size) (hn:n<=281474976710656):
  Calls Tryz.prog 162 #[.pointer (some ⟨b,0,none⟩),.int .i64 n] w fun e w'=>e=.returned (.tuple #[])/\(Lib.BuilderAt 188 5 B b (.pointer (some ⟨b,0,none⟩)) [] w'/\Below B w w'):=Any.Builder_grow_fresh Tryz.laysGrow Tryz.bxg B b n w hB hbk hBw hn
theorem zmp (B b n:Nat) (w:World) (hB:B<=b) (hbk:w.heap[b]?=some (.cells #[.pointer none,.slice none 0 0] 188 (0,0))) (hBw:B<=w.heap.size) (hn:n<=281474976710656):
  Calls Tryz.prog 132 #[.pointer (some ⟨b,0,none⟩),.int .i64 n] w fun e w'=>e=.returned (.tuple #[])/\(Lib.IsBuilderF 188 5 B b [] w'/\Below B w w'):=by
 have hbk1:(w.setCell ⟨b,0,none⟩ (.pointer (some ⟨b,0,none⟩))).heap[b]?=some (.cells #[.pointer (some ⟨b,0,none⟩),.slice none 0 0] 188 (0,0)):=by
  simp[World.setCell,Xh,hbk]
 have c1:(w.setCell ⟨b,0,none⟩ (.pointer (some ⟨b,0,none⟩))).cell? ⟨b,1,none⟩=some (.slice none 0 0):=by rw[Lib.cell_of_heap hbk1];rfl
 have hb1:Below B w (w.setCell ⟨b,0,none⟩ (.pointer (some ⟨b,0,none⟩))):=(Below.refl B w).setCell (p:=⟨b,0,none⟩) hB _
 go_enter Tryz.func132,Tryz.ntmps132
 have hU:Lib.BuilderAt 188 5 B b (.pointer (some ⟨b,0,none⟩)) [] (w.setCell ⟨b,0,none⟩ (.pointer (some ⟨b,0,none⟩))):=⟨hB,.slice none 0 0,hbk1,World.ownsRow_nil _ _ _ _,by simp[Value.ownBlock]⟩;have c1':(w.setCell ⟨b,0,none⟩ (.pointer (some ⟨b,0,none⟩))).drew.cell? ⟨b,1,none⟩=some (.slice none 0 0):=c1
 go_wp2_with (go_at_call 161;refine(zhv b w (by rw[Lib.cell_of_heap hbk];rfl) (by simp[World.shape?,hbk]) (Lib.frozen_of_heap hbk 0)).mono ?_;rintro e w' ⟨rfl,rfl⟩)
 go_region
 all_goals go_wp2_with (go_at_call 162;refine(zmo B b n (w.setCell ⟨b,0,none⟩ (.pointer (some ⟨b,0,none⟩))).drew hB hbk1 (by simpa [World.setCell,World.drew,-World.drew_eq] using hBw) hn).mono ?_;rintro e w' ⟨rfl,h1,h2⟩)
 all_goals first
  |(go_end0;exact⟨rfl,.of (.inr h1),hb1.drew.trans h2⟩)
  |(go_end0;exact⟨rfl,.of (.inr hU.drew),hb1.drew⟩)
abbrev vI:=List UInt8
def joinS (sep:vI):List vI->vI
 |[]=>[]
 |[w]=>w
 |w::v::r=>w++(sep++joinS sep (v::r))
theorem zhy (sep:vI): ∀(l:List vI) (x:vI),l≠[]->joinS sep (l++[x])=joinS sep l++(sep++x)
 |[],_,h=>absurd rfl h
 |[w],x,_=>rfl
 |w::v::r,x,_=>by
  have ih:=zhy sep (v::r) x (by simp);rw[ZS] at ih;rw[ZS,ZS,joinS,ih,joinS];simp
def yY:List vI->Nat
 |[]=>0
 |w::r=>w.length+yY r
theorem zhz (a b:List vI):yY (a++b)=yY a+yY b:=by
 induction a with
 |nil=>simp[yY]
 |cons w r ih=>simp only[ZS,yY,ih];omega
theorem zpy (sep:vI): ∀l:List vI,(joinS sep l).length<=yY l+sep.length*l.length
 |[]=>by simp[joinS]
 |[w]=>by simp[joinS,yY]
 |w::v::r=>by
  have ih:=zpy sep (v::r);simp only[joinS,yY,Zv,Zo] at ih⊢;rw[Nat.mul_add,YS] at ih⊢;rw[Nat.mul_add,YS];omega
theorem bK {l:List vI} {k:Nat} (h:k<l.length):l.take (k+1)=l.take k++[l.getD k []]:=by
 rw[ZK h];simp[List.getD,h]
theorem zmq {l:List vI} {k:Nat} (h:k<l.length):yY (l.take (k+1))=yY (l.take k)+(l.getD k []).length:=by
 rw[bK h,zhz];simp[yY]
theorem bL (l:List vI) (k:Nat):yY (l.take k)<=yY l:=by
 have:=zhz (l.take k) (l.drop k);rw[List.take_append_drop] at this;omega
theorem zmr {l:List vI} (sep:vI) {j:Nat} (h:j+1<l.length):joinS sep (l.take (j+1+1))=joinS sep (l.take (j+1))++(sep++l.getD (j+1) []):=by
 rw[bK h,zhy];intro e;rw[List.take_eq_nil_iff] at e;rcases e with e|e
 ·omega
 ·subst e;simp at h
theorem bM (B b:Nat) (l x:List UInt8) (w:World) (h:Lib.IsBuilderF 188 5 B b (Lib.byteCells l) w) (hlen:l.length+x.length<=140737488355328) (hBw:B<=w.heap.size):
  Calls Tryz.prog 133 #[.pointer (some ⟨b,0,none⟩),.string ⟨x.toArray⟩] w fun e w'=>e=.returned (.tuple #[.int .i64 x.length,.nilIface])/\Lib.IsBuilderF 188 5 B b (Lib.byteCells (l++x)) w'/\Below B w w':=by
 have hsz:(⟨x.toArray⟩:ByteArray).size=x.length:=by show x.toArray.size=_;simp
 refine(zmn B b (Lib.byteCells l) ⟨x.toArray⟩ w h (by rw[Lib.byteCells_length,hsz];exact hlen) hBw).mono ?_;rintro e w' ⟨rfl,h1,h2⟩;exact⟨by rw[hsz],by rw[Lib.byteCells_append];exact h1,h2⟩
theorem zhA (l:List vI) (sep:vI) (cap b o:Nat) (w:World) (hb0:b<w.heap.size) (hp: ∀k,k<l.length->w.cell? ⟨b,o+k,none⟩=some (.string ⟨(l.getD k []).toArray⟩)) (h2:2<=l.length) (hn:l.length<=1000) (hcap:l.length<=cap) (hs0:0<sep.length) (hs:sep.length<=100) (hlen:yY l<=1000000):
  Calls Tryz.prog 101 #[.slice (some ⟨b,o,none⟩) l.length cap,.string ⟨sep.toArray⟩] w fun e w'=>e=.returned (.string ⟨(joinS sep l).toArray⟩)/\Below w.heap.size w w':=by
 obtain⟨n,hN⟩: ∃n,l.length=n:=⟨_,rfl⟩;have hN':Aside (l.length=n):=hN;rw[hN] at hp h2 hn hcap⊢;clear hN;have hpA:Aside (∀k,k<n->w.cell? ⟨b,o+k,none⟩=some (.string ⟨(l.getD k []).toArray⟩)):=hp;clear hp;have i0: ¬(n:Int)=0:=by omega
 have i1: ¬(n:Int)=1:=by omega
 have hsz:(⟨sep.toArray⟩:ByteArray).size=sep.length:=by show sep.toArray.size=_;simp
 have hsp:(sep.length:Int)>0:=by omega
 obtain⟨M,hM⟩: ∃M:Nat,sep.length*(n-1)=M:=⟨_,rfl⟩;have hMb:M<=100*1000:=by rw[<-hM];exact YX hs (by omega)
 have w1:IntKind.i64.wrap ((n:Int)-1)=(n:Int)-1:=Go.Abs.wrap_in (by omega) (by omega);have hq:100<(9223372036854775807:Int)/((n:Int)-1)/\(9223372036854775807:Int)/((n:Int)-1)<=9223372036854775807:=by
  refine⟨?_,Int.ediv_le_self _ (by decide)⟩;have:(101:Int)<=9223372036854775807/((n:Int)-1):=by
   rw[Int.le_ediv_iff_mul_le (by omega)];omega
  omega
 have w2:IntKind.i64.wrap ((9223372036854775807:Int).tdiv ((n:Int)-1))=9223372036854775807/((n:Int)-1):=by
  rw[Int.tdiv_eq_ediv_of_nonneg (by decide)];exact Go.Abs.wrap_in (by omega) (by omega)
 have hng0: ¬(sep.length:Int)>=9223372036854775807/((n:Int)-1):=by omega
 have w3:IntKind.i64.wrap ((sep.length:Int)*((n:Int)-1))=(M:Int):=by
  rw[show(sep.length:Int)*((n:Int)-1)=(M:Int) by rw[<-hM];push_cast;rw[Int.ofNat_sub (by omega)];rfl];exact Go.Abs.wrap_in (by omega) (by omega)
 have w4:IntKind.i64.wrap (M:Int)=(M:Int):=Go.Abs.wrap_in (by omega) (by omega);clear hM hq
 go_enter Tryz.func101,Tryz.ntmps101
 go_wp2
 go_loopg [5,41] n (fun g t i wr=>wr=w/\ ∃k:Nat,k<=n/\g=n-k/\i=.int .i64 k/\t=.int .i64 ((M+yY (l.take k):Nat):Int))
 case atStart=>exact⟨rfl,0,ZA _,rfl,rfl,by simp[yY]⟩
 case round=>
  obtain⟨rfl,k,hk,rfl,rfl,rfl⟩:=hrel;by_cases hlt:k<n
  ·have hc:=hpA.out k hlt
   have hkn:(k:Int)<n:=by omega
   have hst:=zmq (l:=l) (k:=k) (by rw[hN'.out];exact hlt);have hle:=bL l (k+1);generalize l.getD k []=x at hc hst;obtain⟨T,hT⟩: ∃T,M+yY (l.take k)=T:=⟨_,rfl⟩;have hT2:Aside (M+yY (l.take (k+1))=T+x.length):=show _=_ by rw[hst];omega
   have hTb:T+x.length<=1100000:=by omega
   rw[hT];clear hst hle hT;have hszx:(⟨x.toArray⟩:ByteArray).size=x.length:=by show x.toArray.size=_;simp
   have hw2:IntKind.i64.wrap (9223372036854775807-(T:Int))=9223372036854775807-(T:Int):=Go.Abs.wrap_in (by omega) (by omega);have hw3:IntKind.i64.wrap ((T:Int)+x.length)=((T+x.length:Nat):Int):=by rw[Go.Abs.wrap_in (by omega) (by omega)];omega
   have hwr:IntKind.i64.wrap ((k:Int)+1)=((k+1:Nat):Int):=by rw[Go.Abs.wrap_in (by omega) (by omega)];omega
   have hng: ¬(x.length:Int)>9223372036854775807-(T:Int):=by omega
   go_wp2
   go_roundg (n-(k+1))
   case measure=>omega
   case rel=>
    refine⟨rfl,k+1,by omega,rfl,by go_num,?_⟩;rw[hT2.out,Int.natCast_add]
  ·obtain rfl:k=n:=by omega
   rename World=>w0
   have c0:=hpA.out 0 (by omega);rw[Yq] at c0;obtain⟨T,hT⟩: ∃T,M+yY (l.take k)=T:=⟨_,rfl⟩;have hTb:T<=1100000:=by have:=bL l k;omega
   rw[hT];have hJ: ∀j,(joinS sep (l.take j)).length<=1100000:=fun j=>by
    have h1:=zpy sep (l.take j);have h2:=bL l j;have h3:sep.length*(l.take j).length<=100*1000:=YX hs (by rw[Yy,hN'.out];omega);omega
   have e01:Aside (joinS sep (l.take (0+1))=l.getD 0 []):=show _=_ by rw[bK (by rw[hN'.out];omega)];rfl
   have hx0:=hJ (0+1);rw[e01.out] at hx0;obtain⟨x0,hx0'⟩: ∃x,l.getD 0 []=x:=⟨_,rfl⟩;rw[hx0'] at c0 hx0 e01;clear hT hx0';have hg1:(w0.alloc (.cells #[.pointer none,.slice none 0 0] 188)).heap[w0.heap.size]?=some (.cells #[.pointer none,.slice none 0 0] 188 (0,0)):=Go.Abs.alloc_get w0 _;have hb2:Below w0.heap.size w0 (w0.alloc (.cells #[.pointer none,.slice none 0 0] 188)):=(Below.refl _ w0).alloc (Zt _) _;have hb4of: ∀w2,Below w0.heap.size (w0.alloc (.cells #[.pointer none,.slice none 0 0] 188)) w2->w2.cell? ⟨b,o,none⟩=some (.string ⟨x0.toArray⟩):=fun w2 h=>((hb2.trans h).cell (p:=⟨b,o,none⟩) hb0).trans c0
   go_wp2_with (first|(go_at_call 132;refine(zmp w0.heap.size w0.heap.size T _ (Zt _) hg1 hb2.size (by omega)).mono ?_;rintro e w2 ⟨rfl,hI2,hb3⟩;have c0':=hb4of w2 hb3)|(go_at_call 133;refine(bM w0.heap.size w0.heap.size [] x0 _ hI2 (by rw[ZG];omega) (hb2.trans hb3).size).mono ?_;rintro e w3 ⟨rfl,hI3,hb5⟩))
   have hb6:=(hb2.trans hb3).trans hb5;rw[Ya,<-e01.out] at hI3
   go_loopg [65] (k-1) (fun g i w0'=>Below w0.heap.size w0 w0'/\ ∃j:Nat,j+1<=k/\g=k-1-j/\i=.int .i64 j/\Lib.IsBuilderF 188 5 w0.heap.size w0.heap.size (Lib.byteCells (joinS sep (l.take (j+1)))) w0')
   case atStart=>exact⟨hb6,0,by omega,rfl,rfl,hI3⟩
   case round=>
    obtain⟨hbx,j,hj,rfl,rfl,hIx⟩:=hrel;by_cases hlt2:j+1<k
    ·have hkn:(j:Int)<k-1:=by omega
     have hkn2:(j:Int)<((k-1:Nat):Int):=by omega
     have hkn3:j<k-1:=by omega
     have cj0:=hpA.out (j+1) hlt2;rw[show o+(j+1)=o+1+j by omega] at cj0;have cj:=(hbx.cell (p:=⟨b,o+1+j,none⟩) hb0).trans cj0;have hwr:IntKind.i64.wrap ((j:Int)+1)=((j+1:Nat):Int):=by rw[Go.Abs.wrap_in (by omega) (by omega)];omega
     have hE:Aside (joinS sep (l.take (j+1+1))=joinS sep (l.take (j+1))++(sep++l.getD (j+1) [])):=zmr sep (by rw[hN'.out];exact hlt2);have hl2:=hJ (j+1+1);rw[hE.out] at hl2;generalize l.getD (j+1) []=x at cj cj0 hE hl2;generalize joinS sep (l.take (j+1))=A at hIx hE hl2;simp only[Zv] at hl2
     go_wp2_with (first|(go_at_call 133;refine(bM w0.heap.size w0.heap.size (A++sep) x _ hI5 (by rw[Zv];omega) (hbx.trans hb7).size).mono ?_;rintro e w6 ⟨rfl,hI6,hb8⟩)|(go_at_call 133;refine(bM w0.heap.size w0.heap.size A sep _ hIx (by omega) hbx.size).mono ?_;rintro e w5 ⟨rfl,hI5,hb7⟩))
     rw[Yd,<-hE.out] at hI6
     go_roundg (k-1-(j+1))
     case measure=>omega
     case rel=>exact⟨(hbx.trans hb7).trans hb8,j+1,by omega,rfl,by go_num,hI6⟩
    ·obtain rfl:j+1=k:=by omega
     have hge: ¬(j:Int)<((j+1:Nat):Int)-1:=by omega
     have hge2: ¬(j:Int)<((j+1-1:Nat):Int):=by omega
     have hE:Aside (joinS sep (l.take (j+1))=joinS sep l):=show _=_ by rw[Z9 (by rw[hN'.out];exact Zt _)]
     go_wp2_with (go_at_call 134;refine(zhx w0.heap.size w0.heap.size (joinS sep (l.take (j+1))) _ hIx hbx.size).mono ?_;rintro e w6 ⟨rfl,hI6,hb8⟩)
     go_ret
     exact⟨by rw[hE.out];rfl,hbx.trans hb8⟩
theorem bN (cap:Nat) (ao:Option Addr) (sep:ByteArray) (w:World):
  Calls Tryz.prog 101 #[.slice ao 0 cap,.string sep] w fun e w'=>e=.returned (.string ⟨#[]⟩)/\Below w.heap.size w w':=by
 go_enter Tryz.func101,Tryz.ntmps101
 go_wp2
 go_ret
 exact⟨rfl,Below.refl _ _⟩
theorem zhB (cap b o:Nat) (s sep:ByteArray) (w:World) (hc:w.cell? ⟨b,o,none⟩=some (.string s)) (hcap:1<=cap):
  Calls Tryz.prog 101 #[.slice (some ⟨b,o,none⟩) 1 cap,.string sep] w fun e w'=>e=.returned (.string s)/\Below w.heap.size w w':=by
 go_enter Tryz.func101,Tryz.ntmps101
 go_wp2
 go_ret
 exact⟨rfl,Below.refl _ _⟩
end Go.Proofs
namespace Go.Ex
open Go.Lib Go.Wd Go.Wire
def pick:List (List Txt)->Nat->List Txt×Nat
 |[],i=>([],i)
 |w::ws,i=>(w.getD ((pick ws i).2 % w.length) []::(pick ws i).1,(pick ws i).2/w.length)
theorem bO: ∀(W:List (List Txt)) (i:Nat),(pick W i).1.length=W.length
 |[],_=>rfl
 |w::W,i=>by rw[pick,Zo,bO W i,Zo]
theorem zhC {W:List (List Txt)} {i B:Nat} (h: ∀x∈W,1<=x.length/\ ∀s∈x,s.length<=B): ∀s∈(pick W i).1,s.length<=B:=by
 induction W with
 |nil=>intro s hs;simp[pick] at hs
 |cons w W ih=>
  intro s hs;rw[pick,ZH] at hs;rcases hs with rfl|hs
  ·have hw:=h w (by simp)
   have hm:(pick W i).2 % w.length<w.length:=Xc _ (by omega);rw[Zh,Zg hm];exact hw.2 _ (Zx hm)
  ·exact ih (fun x hx=>h x (Zz _ hx)) s hs
theorem zhD: ∀(W:List (List Txt)) (i:Nat),(pick W i).2<=i
 |[],_=>Zt _
 |w::W,i=>by rw[pick];exact ZT (Xo _ _) (zhD W i)
def textF (f:Fld) (i:Nat):Txt:=oI 32 (pick f.words i).1
def stX (W:List (List Txt)) (i k j:Nat):Txt:=if k<=j then(pick (W.drop k) i).1.getD (j-k) [] else[]
theorem zms {W:List (List Txt)} {i k:Nat} (h:k<W.length) (j:Nat):stX W i k j=if j=k then W[k].getD ((pick (W.drop (k+1)) i).2 % W[k].length) [] else stX W i (k+1) j:=by
 unfold stX;rw[ZE h,pick];by_cases h1:j=k
 ·subst h1;simp
 ·rw[if_neg h1]
  by_cases h2:k<=j
  ·rw[if_pos h2,if_pos (by omega)]
   obtain⟨d,hd⟩: ∃d,j-k=d+1:=⟨j-k-1,by omega⟩;rw[hd,show j-(k+1)=d by omega];rfl
  ·rw[if_neg h2,if_neg (by omega)]
end Go.Ex
namespace Go.Proofs
open Go.Shelf Go.RowKit Go.Lib Go.Abs Go.Ex Go.Wire Go.Wd
abbrev sV (s:Txt):Value:=.string ⟨s.toArray⟩
def qC (w:World) (g:Nat) (st:Nat->Txt):Prop:= ∃cur:Array Value,w.heap[g]?=some (.cells cur 184 (0,0))/\cur.size=8/\ ∀j,j<8->cur[j]?=some (sV (st j))
theorem qC.cell {w:World} {g:Nat} {st:Nat->Txt} (h:qC w g st) {j:Nat} (hj:j<8):w.cell? ⟨g,j,none⟩=some (sV (st j)):=by
 obtain⟨cur,h1,_,h2⟩:=h;simp only[World.cell?,h1];exact h2 j hj
theorem qC.frozen {w:World} {g:Nat} {st:Nat->Txt} (h:qC w g st) {j:Nat}:w.frozen? ⟨g,j,none⟩=false:=by
 obtain⟨cur,h1,_,h2⟩:=h;simp[World.frozen?,h1]
theorem qC.set {w:World} {g:Nat} {st st':Nat->Txt} (h:qC w g st) {j:Nat} (hj:j<8) (s:Txt) (hst: ∀i,i<8->st' i=if i=j then s else st i):qC (w.setCell ⟨g,j,none⟩ (sV s)) g st':=by
 obtain⟨cur,h1,hs,h2⟩:=h;refine⟨cur.setIfInBounds j (sV s),by simp[World.setCell,Xh,h1],by simp[hs],fun i hi=>?_⟩;rw[Yn,hst i hi];by_cases e:j=i
 ·subst e
  simp[hs,hj]
 ·rw[if_neg e,if_neg (fun q=>e q.symm)]
  exact h2 i hi
theorem bP: ∀l:List Txt,joinS [32] l=oI 32 l
 |[]=>rfl
 |[w]=>rfl
 |w::v::r=>by rw[joinS,bP (v::r),oI];rfl
theorem zhE {B:Nat}: ∀{l:List Txt},(∀s∈l,s.length<=B)->yY l<=B*l.length
 |[],_=>by simp[yY]
 |a::l,h=>by
  have h1:=h a (by simp);have h2:=zhE (l:=l) fun s hs=>h s (Zz _ hs)
  simp only[yY,Zo,Nat.mul_succ];omega
theorem zmt (w:World) (o1 o2:Obj):((w.alloc o1).alloc o2).heap[w.heap.size]?=some o1/\((w.alloc o1).alloc o2).heap[w.heap.size+1]?=some o2:=by
 have h:((w.alloc o1).alloc o2).heap=(w.heap.push o1).push o2:=rfl;rw[h];constructor
 ·rw[YJ,if_neg (by rw[Array.size_push];omega),YJ,if_pos rfl]
 ·rw[YJ,if_pos (by rw[Array.size_push])]
theorem zmu (nm:ByteArray) (W:List (List Txt)) (p:Option Addr) (b o cap:Nat) (hn:W.length<=8) (hp:0<W.length->p=some ⟨b,o,none⟩) (bk ok cp:Nat->Nat) (w:World)
  (hk: ∀k,k<W.length->w.cell? ⟨b,o+k,none⟩=some (.slice (some ⟨bk k,ok k,none⟩) (W.getD k []).length (cp k))) (hl: ∀x∈W,1<=x.length/\x.length<=4/\ ∀s∈x,s.length<=100)
  (ht: ∀k j,k<W.length->j<(W.getD k []).length->w.cell? ⟨bk k,ok k+j,none⟩=some (sV ((W.getD k []).getD j []))) (i:Nat) (hi:i<=1000000):
  Calls Tryz.prog 100 #[.agg #[.string nm,.slice p W.length cap],.int .i64 i] w fun e w'=>e=.returned (sV (oI 32 (pick W i).1))/\Below w.heap.size w w':=by
 obtain⟨n,hN⟩: ∃n,W.length=n:=⟨_,rfl⟩;have hN':Aside (W.length=n):=hN;rw[hN] at hk ht hn hp⊢
 go_enter Tryz.func100,Tryz.ntmps100
 go_wp2
 have hst: ∀j,stX W i n j=[]:=fun j=>by
  unfold stX;rw[ZC (by rw[hN'.out];exact Zt _)];split<;>rfl
 have hA:=zmt w (Obj.cells #[Value.string nm,Value.slice p n cap] 107) (Obj.cells #[Value.string {data:= #[]},Value.string {data:= #[]},Value.string {data:= #[]},Value.string {data:= #[]},Value.string {data:= #[]},Value.string {data:= #[]},Value.string {data:= #[]},Value.string {data:= #[]}] 184);have hB0:Below w.heap.size w ((w.alloc (Obj.cells #[Value.string nm,Value.slice p n cap] 107)).alloc (Obj.cells #[Value.string {data:= #[]},Value.string {data:= #[]},Value.string {data:= #[]},Value.string {data:= #[]},Value.string {data:= #[]},Value.string {data:= #[]},Value.string {data:= #[]},Value.string {data:= #[]}] 184)):=((Below.refl _ w).alloc (Zt _) _).alloc (by simp) _;generalize ((w.alloc (Obj.cells #[Value.string nm,Value.slice p n cap] 107)).alloc (Obj.cells #[Value.string {data:= #[]},Value.string {data:= #[]},Value.string {data:= #[]},Value.string {data:= #[]},Value.string {data:= #[]},Value.string {data:= #[]},Value.string {data:= #[]},Value.string {data:= #[]}] 184))=wA at hA hB0⊢;have hbx0:wA.cell? ⟨w.heap.size,1,none⟩=some (.slice p n cap):=by simp only[World.cell?,hA.1];rfl
 have hH0:qC wA (w.heap.size+1) (stX W i n):=⟨_,hA.2,rfl,fun j hj=>by
  rw[hst]
  match j,hj with
  |0,_=>rfl
  |1,_=>rfl
  |2,_=>rfl
  |3,_=>rfl
  |4,_=>rfl
  |5,_=>rfl
  |6,_=>rfl
  |7,_=>rfl⟩
 have hp0:(pick (W.drop n) i).2=i:=by rw[ZC (by rw[hN'.out];exact Zt _)];rfl
 clear hA hst
 go_loopg [1,6] n (fun g x t wr=> ∃k:Nat,k<=n/\k=g/\x=.int .i64 ((pick (W.drop k) i).2:Nat)/\t=.int .i64 ((k:Int)-1)/\wr.cell? ⟨w.heap.size,1,none⟩=some (.slice p n cap)/\qC wr (w.heap.size+1) (stX W i k)/\Below w.heap.size w wr)
 case atStart=>exact⟨n,Zt _,rfl,by rw[hp0],rfl,hbx0,hH0,hB0⟩
 case round=>
  obtain⟨k,hkn,rfl,rfl,rfl,hbx,hH,hb⟩:=hrel;by_cases h0:k=0
  ·subst h0
   have hle: ¬((0:Nat):Int)-1>=0:=by omega
   have hpl:=bO W i;have hcs: ∀j,j<n->wr.cell? ⟨w.heap.size+1,j,none⟩=some (sV ((pick W i).1.getD j [])):=fun j hj=>by
    have h1:=hH.cell (j:=j) (by omega);rw[h1];unfold stX;rw[if_pos (ZA _),List.drop_zero,XG]
   have hsm: ∀s∈(pick W i).1,s.length<=100:=fun s hs=>zhC (fun x hx=>⟨(hl x hx).1,(hl x hx).2.2⟩) s hs
   have hbk:=(World.block_lt_of_cell? _ _ hbx);have hwn:w.heap.size<=wr.heap.size:=hb.size;rw[hN'.out] at hpl;obtain⟨T,hT⟩: ∃T,(pick W i).1=T:=⟨_,rfl⟩;rw[hT] at hpl hcs hsm;clear hH hbx0 hH0 hB0 hk ht hl hp;have hJoin:Calls Tryz.prog 101 #[.slice (some ⟨w.heap.size+1,0,none⟩) n 8,.string ⟨#[32]⟩] wr fun e w'=>e=.returned (sV (oI 32 T))/\Below wr.heap.size wr w':=by
    have hsum:yY T<=100*T.length:=zhE hsm;rcases YZ n 2 with h2|h2
    ·rcases YZ n 1 with h1|h1
     ·obtain rfl:n=0:=by omega
      obtain rfl:=ZZ hpl;exact bN 8 _ _ wr
     ·obtain rfl:n=1:=by omega
      obtain⟨t,rfl⟩:=List.length_eq_one_iff.1 hpl;exact zhB 8 _ 0 _ _ wr (hcs 0 (by omega)) (by decide)
    ·have:=zhA T [32] 8 (w.heap.size+1) 0 wr (by have:=World.block_lt_of_cell? _ _ (hcs 0 (by omega));exact this) (fun k hk=>by rw[ZV];exact hcs k (by omega)) (by omega) (by omega) (by omega) (by decide) (by decide) (by omega)
     rw[hpl] at this;rw[<-bP];exact this
   have hal:Tryz.prog.arrayLen 184=8:=by kernel_rfl
   have hn8:(n:Int)<=Tryz.prog.arrayLen 184:=by rw[hal];omega
   have hn0:(0:Int)<=n:=by omega
   have hsl:(Instr.sliceAt 184 (.pointer (some ⟨w.heap.size+1,0,none⟩)) none (some (.int .i64 n)) none).run Tryz.prog wr=.ok (.slice (some ⟨w.heap.size+1,0,none⟩) n 8) wr:=by
    rw[run_sliceAt_array_h wr 184 ⟨w.heap.size+1,0,none⟩ (by kernel_rfl) .i64 n hn0 hn8,hal];rw[show Tryz.prog.elem 184=9 by kernel_rfl,Tryz.sizeOf9];rfl
   go_wp2_with (go_at_call 101;refine hJoin.mono ?_;rintro e w' ⟨rfl,hb2⟩)
   go_ret
   rw[hT];exact⟨rfl,hb.trans (hb2.mono hwn)⟩
  ·obtain⟨m,rfl⟩: ∃m,k=m+1:=⟨k-1,by omega⟩
   obtain rfl:=hp (by omega);clear hp;have hm:m<n:=hkn;have hge:((m+1:Nat):Int)-1>=0:=by omega
   have hmw:m<W.length:=by rw[hN'.out];exact hm
   have hgd:W.getD m []=W[m]:=by rw[Zh,Zg hmw];rfl
   have hlm:=hl _ (Zx hmw);have hbb:=World.block_lt_of_cell? _ _ (hk m hm);have hc1:=(hb.cell (p:=⟨b,o+m,none⟩) hbb).trans (hk m hm);have hw1:IntKind.i64.wrap ((m:Int)-1)=(m:Int)-1:=Go.Abs.wrap_in (by omega) (by omega);have e6:((m+1:Nat):Int)-1=(m:Int):=by omega
   have hm8:m<8:=by omega
   have hst:=fun j=>zms (i:=i) hmw j
   have hpk:(pick (W.drop m) i).2=(pick (W.drop (m+1)) i).2/W[m].length:=by rw[ZE hmw,pick]
   have hqle:=zhD (W.drop (m+1)) i;have htm:=ht m;rw[hgd] at hc1 htm;generalize W[m]=wd at hlm hst hpk hc1 htm;obtain⟨q,hq⟩: ∃q,(pick (W.drop (m+1)) i).2=q:=⟨_,rfl⟩;rw[hq] at hst hpk hqle⊢;rw[e6];obtain⟨L,hL⟩: ∃L,wd.length=L:=⟨_,rfl⟩;rw[hL] at hlm hst hpk hc1 htm;have hL0: ¬(L:Int)=0:=by omega
   have hmod:q % L<L:=Xc _ (by omega);have hr1:(q:Int).tmod (L:Int)=((q % L:Nat):Int):=(Int.ofNat_tmod q L).symm;have hr2:(q:Int).tdiv (L:Int)=((q/L:Nat):Int):=(Int.ofNat_tdiv q L).symm;have hc2:=htm (q % L) hm hmod;have hbb2:=World.block_lt_of_cell? _ _ hc2;have hc3:=(hb.cell (p:=⟨bk m,ok m+q % L,none⟩) hbb2).trans hc2;have hc4:=hH.cell hm8;have hf4:=hH.frozen (j:=m);have hset:=hH.set (st':=stX W i m) hm8 (wd.getD (q % L) []) (fun j _=>hst j);have hmod':((q % L:Nat):Int)<L:=by omega
   have hmi:(m:Int)<n:=by omega
   have hm8i:(m:Int)<8:=by omega
   generalize hJ:q % L=J at hr1 hc3 hset hmod';clear hc2 hst htm hk ht hgd hl hH hB0 hH0 hbx0 hlm hmod;have hne:(⟨w.heap.size+1,m,none⟩:Addr)≠⟨w.heap.size,1,none⟩:=fun e=>by
    have:=congrArg Addr.block e;simp at this
   have hbx2:(wr.setCell ⟨w.heap.size+1,m,none⟩ (sV (wd.getD J []))).cell? ⟨w.heap.size,1,none⟩=some (.slice (some ⟨b,o,none⟩) n cap):=by
    have:=World.cell?_setCell_other wr _ _ (sV (wd.getD J [])) hne;rw[this];exact hbx
   have hqd:wrap64 ((q:Int)/(L:Int))=(q:Int)/(L:Int):=by
    rw[<-Int.natCast_ediv];have hd:=Xo q L;generalize q/L=d at hd;unfold wrap64;omega
   go_wp2
   go_roundg m
   case rel=>exact⟨m,by omega,rfl,by rw[hpk,Int.natCast_ediv],rfl,hbx2,hset,hb.setCell (by simp) _⟩
   case measure=>omega
end Go.Proofs
namespace Go.Abs
open Go.Proofs Go.RowKit Go.Lib Go.Wd Go.Wire Go.Ex
theorem zmv (l:List Txt):Plain 1 (zJ l):=by
 refine⟨by decide,fun r hr=>?_,fun r hr c hc=>?_⟩
 ·obtain⟨s,_,rfl⟩:=ZB.1 hr;rfl
 ·obtain⟨s,_,rfl⟩:=ZB.1 hr
  rw[ZU.1 hc];rfl
theorem zmw (l:List Txt):qA (zJ l)=l.map fun s=>Value.string ⟨s.toArray⟩:=by
 rw[qA,zJ]
 induction l with
 |nil=>rfl
 |cons a l ih=>simp only[Zm,YL,ZW,ih];rfl
theorem zmx {w:World} {Z:Bk->Prop} {l:List Txt} (hl:l≠[]) {v:Value} (h:PRep w Z (zC 1 (zJ l)) v):
  ∃b o cap,v=.slice (some ⟨b,o,none⟩) l.length cap/\ ∀j,j<l.length->w.cell? ⟨b,o+j,none⟩=some (sV (l.getD j [])):=by
 obtain⟨p,k,rfl,q,m⟩:=(zmv l).slice h;have hpos:0<(zJ l).length:=by rw[yB];exact Yh.2 hl
 obtain⟨b,o,rfl,g⟩:=q hpos;refine⟨b,o,k,by rw[yB],fun j hj=>?_⟩;refine g j _ ?_;rw[zmw,Zw,Zg hj];simp[List.getD,hj]
theorem zmy {w:World} {Z:Bk->Prop} {W:List (List Txt)} (hW: ∀x∈W,x≠[]) {v:Value} (h:PRep w Z (zC 1 (W.map xX)) v):
  ∃p cap b o,∃bk ok cp:Nat->Nat,v=.slice p W.length cap/\(0<W.length->p=some ⟨b,o,none⟩)/\
   (∀k,k<W.length->w.cell? ⟨b,o+k,none⟩=some (.slice (some ⟨bk k,ok k,none⟩) (W.getD k []).length (cp k)))/\
   ∀k j,k<W.length->j<(W.getD k []).length->w.cell? ⟨bk k,ok k+j,none⟩=some (sV ((W.getD k []).getD j [])):=by
 by_cases h0:W=[]
 ·subst h0
  have h':PRep w Z (.list 0 none []) v:=h;cases h' with
  |nil=>exact⟨none,0,0,0,fun _=>0,fun _=>0,fun _=>0,rfl,fun q=>absurd q (by simp),fun k q=>absurd q (by simp),fun k j q=>absurd q (by simp)⟩
  |emp _ _ a _=>exact⟨some a,0,0,0,fun _=>0,fun _=>0,fun _=>0,rfl,fun q=>absurd q (by simp),fun k q=>absurd q (by simp),fun k j q=>absurd q (by simp)⟩
  |list b o cap _ _ _ _ _ _ _ _ _ _ _=>exact⟨some ⟨b,o,none⟩,cap,0,0,fun _=>0,fun _=>0,fun _=>0,rfl,fun q=>absurd q (by simp),fun k q=>absurd q (by simp),fun k j q=>absurd q (by simp)⟩
 ·have hne:(W.map xX).isEmpty=false:=by cases W<;>simp_all
  unfold zC at h;rw[hne,if_neg (by simp)] at h;have hpos:=Yh.2 h0;generalize hrw:W.map xX=rows at h;cases h with
  |nil=>simp at hrw;exact absurd hrw h0
  |emp _ _ a _=>simp at hrw;exact absurd hrw h0
  |list b o cap _ _ _ val h1 h2 h3 h4 h5 h6 h7=>
   subst hrw;have hat: ∀k,k<W.length->(W.map xX)[k]?=some [zC 1 (zJ (W.getD k []))]:=fun k hk=>by
    rw[Zw,Zg hk,Zh,Zg hk];rfl
   have key: ∀k,∃bk ok cp,k<W.length->w.cell? ⟨b,o+k,none⟩=some (.slice (some ⟨bk,ok,none⟩) (W.getD k []).length cp)/\ ∀j,j<(W.getD k []).length->w.cell? ⟨bk,ok+j,none⟩=some (sV ((W.getD k []).getD j [])):=fun k=>by
    by_cases hk:k<W.length
    ·have hm:W.getD k []≠[]:=by
      rw[Zh,Zg hk];exact hW _ (Zx hk)
     have hv:=h7 k 0 _ _ (hat k hk) rfl;obtain⟨bk,ok,cp,e,hc⟩:=zmx hm hv;have hcell:=h6 k 0 _ _ (hat k hk) rfl;rw[YS,Yq,e] at hcell;exact⟨bk,ok,cp,fun _=>⟨hcell,hc⟩⟩
    ·exact⟨0,0,0,fun q=>absurd q hk⟩
   have hlen:(W.map xX).length=W.length:=Zi ..;exact⟨some ⟨b,o,none⟩,cap,b,o,fun k=>(key k).choose,fun k=>(key k).choose_spec.choose,fun k=>(key k).choose_spec.choose_spec.choose,by rw[hlen],fun _=>rfl,
    fun k hk=>((key k).choose_spec.choose_spec.choose_spec hk).1,fun k j hk hj=>((key k).choose_spec.choose_spec.choose_spec hk).2 j hj⟩
theorem zmz (f:Fld) (hf:FldR f) (hs: ∀w∈f.words,∀s∈w,s.length<=100) (i:Nat) (hi:i<=1000000):Spec Tryz.prog 100 [.agg (zR f),.int .i64 (i:Int)] (fun v=>v=.str (textF f i)):=by
 refine⟨rH (by kernel_rfl),fun w Z vs hG hz ha=>?_⟩;obtain⟨vl⟩:=vs
 match vl,ha with
 |[],ha=>exact absurd ha.1 (by simp)
 |[_],ha=>exact absurd ha.1 (by simp)
 |_::_::_::_,ha=>exact absurd ha.1 (by simp)
 |[v,v2],ha=>
  have e2:=vB (ha.2 1 _ v2 rfl rfl).2.2;subst e2;obtain⟨us,rfl,hrow⟩:=(ha.2 0 _ v rfl rfl).2;obtain⟨ul⟩:=us
  match ul,hrow with
  |[],hrow=>exact absurd hrow.1 (by simp[zR])
  |[_],hrow=>exact absurd hrow.1 (by simp[zR])
  |_::_::_::_,hrow=>exact absurd hrow.1 (by simp[zR])
  |[u0,u1],hrow=>
   have e0:=uQ (hrow.2 0 (.str f.name) u0 rfl rfl);subst e0;have h1:PRep w Z (zC 1 (f.words.map xX)) u1:=hrow.2 1 _ u1 rfl rfl;obtain⟨p,cap,b,o,bk,ok,cp,rfl,hp,hk,ht⟩:=zmy (fun x hx=>List.ne_nil_of_length_pos (hf.sp x hx).1) h1;refine(zmu ⟨f.name.toArray⟩ f.words p b o cap hf.ws hp bk ok cp w hk (fun x hx=>⟨(hf.sp x hx).1,(hf.sp x hx).2,hs x hx⟩) ht i hi).mono ?_;rintro e w' ⟨rfl,hb⟩;exact⟨_,_,rfl,rfl,fun _=>rfl,oG hG (xM hb) (fun _=>rfl) (fun _=>⟨rfl,.str _⟩)⟩
end Go.Abs
namespace Go.Ex
def bitsN (s:Nat):List Nat:=(List.range 10).filter fun k=>s.testBit k
theorem uW {s k:Nat} (h:s<1024):k∈bitsN s ↔ s.testBit k=true:=by
 unfold bitsN;rw[Yj,Z7];refine⟨fun h=>h.2,fun q=>⟨?_,q⟩⟩;rcases YZ k 10 with h1|h1
 ·exact h1
 ·rw[Nat.testBit_lt_two_pow (ZM h (show 1024<=2 ^ k from Yf (n:=2) (by decide) h1))] at q;cases q
def andN (a b:Nat):Nat:=a ^^^ (a&&&b)
theorem rI (a b k:Nat):(andN a b).testBit k=(a.testBit k&& !b.testBit k):=by
 unfold andN;rw[Nat.testBit_xor,Xw];cases a.testBit k<;>cases b.testBit k<;>rfl
theorem oN (k j:Nat):(1<<<k).testBit j=decide (k=j):=by
 rw[XH,Nat.testBit_two_pow]
theorem zhF {a b:Nat}:a&&&b=0 ↔ ∀k,a.testBit k=true->b.testBit k=false:=by
 constructor
 ·intro h k ha
  have:=Xw a b k;rw[h,Xa,ha,ZJ] at this;exact this.symm
 ·intro h
  apply Nat.eq_of_testBit_eq;intro k;rw[Xa,Xw];cases ha:a.testBit k with
  |true=>rw[h k ha];rfl
  |false=>rfl
def hitP (F:List Nat) (s:Nat):Bool:=F.all fun f=>f&&&s !=0
theorem rJ {F:List Nat} {s:Nat}:hitP F s=true ↔ ∀f∈F,∃k,f.testBit k=true/\s.testBit k=true:=by
 unfold hitP;rw[Zu];refine⟨fun h f hf=>?_,fun h f hf=>?_⟩
 ·have h1:=h f hf
  rw[bne_iff_ne,ne_eq,zhF] at h1;by_cases hk: ∃k,f.testBit k=true/\s.testBit k=true
  ·exact hk
  ·exact absurd (fun k hf=>by cases hs:s.testBit k with|false=>rfl|true=>exact absurd ⟨k,hf,hs⟩ hk) h1
 ·obtain⟨k,h1,h2⟩:=h f hf
  rw[bne_iff_ne,ne_eq,zhF];intro h3;rw[h3 k h1] at h2;cases h2
def wP (F:List Nat) (s:Nat):Bool:=hitP F s&&(bitsN s).all fun k=> !hitP F (andN s (1<<<k))
theorem oO {F:List Nat} {s:Nat} (h:s<1024):wP F s=true ↔ hitP F s=true/\ ∀k,s.testBit k=true->hitP F (andN s (1<<<k))=false:=by
 unfold wP;rw[Zp,Zu];refine and_congr XO ⟨fun h1 k hk=>?_,fun h1 k hk=>?_⟩
 ·have:=h1 k ((uW h).2 hk);simpa using this
 ·have:=h1 k ((uW h).1 hk);simpa using this
def vY (D:Nat):Nat->Nat->List Nat
 |0,_=>[]
 |n+1,p=>if p=0 then[] else p::vY D n ((p-1)&&&D)
def bQ (D:Nat):List Nat:=((List.range 256).filter fun p=>p !=0&&p&&&D==p).reverse
theorem zhG: ∀D,D<256->vY D 256 D=bQ D:=by decide+kernel
theorem zhH {D p:Nat} (hD:D<256):p∈bQ D ↔ p≠0/\p&&&D=p:=by
 unfold bQ;rw[List.mem_reverse,Yj,Z7,Zp,bne_iff_ne,beq_iff_eq];refine⟨fun h=>h.2,fun h=>⟨?_,h⟩⟩;have:=Nat.and_le_right (n:=p) (m:=D);omega
theorem zhI {D p:Nat}:p&&&D=p ↔ ∀k,p.testBit k=true->D.testBit k=true:=by
 constructor
 ·intro h k hk
  rw[<-h,Xw,Zp] at hk;exact hk.2
 ·intro h
  apply Nat.eq_of_testBit_eq;intro k;rw[Xw];cases hp:p.testBit k with
  |true=>rw[h k hp];rfl
  |false=>rfl
def xC:List Nat->List Nat->List Nat
 |[],acc=>acc
 |f::F,acc=>xC F (if f∈acc then acc else acc++[f])
theorem gD: ∀(F acc:List Nat) (x:Nat),x∈xC F acc ↔ x∈F\/x∈acc
 |[],acc,x=>by simp[xC]
 |f::F,acc,x=>by
  rw[xC,gD F];split
  ·rename_i h
   rw[ZH];constructor
   ·rintro(h1|h1)
    ·exact .inl (.inr h1)
    ·exact .inr h1
   ·rintro((rfl|h1)|h1)
    ·exact .inr h
    ·exact .inl h1
    ·exact .inr h1
  ·simp only[Yg,ZH,Zy,or_false]
   constructor
   ·rintro(h1|h1|h1)
    ·exact .inl (.inr h1)
    ·exact .inr h1
    ·exact .inl (.inl h1)
   ·rintro((h1|h1)|h1)
    ·exact .inr (.inr h1)
    ·exact .inl h1
    ·exact .inr (.inl h1)
theorem zqg: ∀(F acc:List Nat),acc.Nodup->(xC F acc).Nodup
 |[],acc,h=>h
 |f::F,acc,h=>by
  rw[xC];refine zqg F _ ?_;split
  ·exact h
  ·rename_i hf
   rw[List.nodup_append];exact⟨h,by simp,fun a ha b hb=>by rw[ZU] at hb;subst hb;rintro rfl;exact hf ha⟩
theorem zmA (F:List Nat) (p:Nat->Bool):(xC F []).all p=F.all p:=by
 rw[Yp,Zu,Zu];refine⟨fun h x hx=>h x ((gD F [] x).2 (.inl hx)),fun h x hx=>h x ?_⟩;rcases(gD F [] x).1 hx with h|h
 ·exact h
 ·cases h
structure Vw where
 sets:List Nat
 never:Nat
 doubt:Nat
def pF (m:Nat) (F:List Nat):Vw:=⟨xC F [],F.foldl (· &&& ·) (2 ^ m-1),andN (F.foldl (· ||| ·) 0) (F.foldl (· &&& ·) (2 ^ m-1))⟩
theorem gE: ∀(F:List Nat) (a k:Nat),(F.foldl (· &&& ·) a).testBit k=(a.testBit k&&F.all (·.testBit k))
 |[],a,k=>by simp
 |f::F,a,k=>by rw[YQ,gE F,Xw,Yz,XM]
theorem lY: ∀(F:List Nat) (a k:Nat),(F.foldl (· ||| ·) a).testBit k=(a.testBit k||F.any (·.testBit k))
 |[],a,k=>by simp
 |f::F,a,k=>by rw[YQ,lY F,Nat.testBit_or,List.any_cons,Bool.or_assoc]
theorem xT {m s:Nat}:s<2 ^ m ↔ ∀k,s.testBit k=true->k<m:=by
 constructor
 ·intro h k hk
  rcases YZ k m with h1|h1
  ·exact h1
  ·rw[Nat.testBit_lt_two_pow (ZM h (Yf (n:=2) (by decide) h1))] at hk;cases hk
 ·intro h
  apply Nat.lt_pow_two_of_testBit;intro i hi;cases q:s.testBit i with
  |false=>rfl
  |true=>exact absurd (h i q) (by omega)
theorem zmB {m:Nat} {F:List Nat}:(pF m F).never<2 ^ m:=xT.2 fun k hk=>by
 have h:(F.foldl (· &&& ·) (2 ^ m-1)).testBit k=true:=hk;rw[gE,Zp,Nat.testBit_two_pow_sub_one,decide_eq_true_eq] at h;exact h.1
theorem lZ {m:Nat} {F:List Nat} (hF: ∀f∈F,f<2 ^ m):(pF m F).doubt<2 ^ m:=xT.2 fun k hk=>by
 have h:(andN (F.foldl (· ||| ·) 0) (F.foldl (· &&& ·) (2 ^ m-1))).testBit k=true:=hk;rw[rI,Zp,lY,Xa,Ym,Yo] at h;obtain⟨⟨f,hf,h1⟩,_⟩:=h;exact xT.1 (hF f hf) k h1
theorem bS {m:Nat} {F:List Nat} (h0:F≠[]) (hF: ∀f∈F,f<2 ^ m) (k:Nat):(pF m F).never.testBit k=true ↔ ∀f∈F,f.testBit k=true:=by
 show(F.foldl (· &&& ·) (2 ^ m-1)).testBit k=true ↔ _;rw[gE,Zp,Zu,Nat.testBit_two_pow_sub_one,decide_eq_true_eq];refine⟨fun h=>h.2,fun h=>⟨?_,h⟩⟩;obtain⟨f,hf⟩:=Y8 F h0;exact xT.1 (hF f hf) k (h f hf)
theorem zmC {m:Nat} {F:List Nat} (h0:F≠[]) (hF: ∀f∈F,f<2 ^ m) (k:Nat):(pF m F).doubt.testBit k=true ↔ (∃f∈F,f.testBit k=true)/\ ∃f∈F,f.testBit k=false:=by
 show(andN (F.foldl (· ||| ·) 0) (pF m F).never).testBit k=true ↔ _;rw[rI,Zp,lY,Xa,Ym,Yo];refine and_congr XO ?_;rw[Xg,YE,ne_eq,bS h0 hF];constructor
 ·intro h
  by_cases hx: ∃f∈F,f.testBit k=false
  ·exact hx
  ·exact absurd (fun f hf=>by cases q:f.testBit k with|true=>rfl|false=>exact absurd ⟨f,hf,q⟩ hx) h
 ·rintro⟨f,hf,h1⟩ h
  rw[h f hf] at h1;cases h1
def conflP (v:Vw):List Nat:=((List.range 64).filter fun k=>v.never.testBit k).map (fun k=>1<<<k)++(vY v.doubt 256 v.doubt).filter (wP v.sets)
theorem zmD (F:List Nat):wP (xC F [])=wP F:=by
 have h:hitP (xC F [])=hitP F:=funext fun s=>by unfold hitP;exact zmA F _
 funext s;unfold wP;rw[h]
theorem bT {m:Nat} {F:List Nat} (hm:m<=8) (h0:F≠[]) (hF: ∀f∈F,f<2 ^ m) (s:Nat):s∈conflP (pF m F) ↔ s<2 ^ m/\wP F s=true:=by
 have h256:2 ^ m<=256:=(Yf (n:=2) (by decide) hm:2 ^ m<=2 ^ 8);have hd:=lZ hF;unfold conflP;rw[Yg,ZB,zhG _ (by omega),Yj,zhH (by omega),show(pF m F).sets=xC F [] from rfl,zmD];have hb: ∀{k j:Nat},(1<<<k).testBit j=true ↔ k=j:=fun{k j}=>by rw[oN,decide_eq_true_eq]
 constructor
 ·rintro(⟨k,hk,rfl⟩|⟨⟨hn,hs⟩,hc⟩)
  ·rw[Yj,bS h0 hF] at hk
   obtain⟨f,hf⟩:=Y8 F h0;have hkm:k<m:=xT.1 (hF f hf) k (hk.2 f hf);have hlt:1<<<k<2 ^ m:=xT.2 fun j hj=>by rw[hb] at hj;omega
   refine⟨hlt,(oO (by omega)).2 ⟨rJ.2 fun f hf=>⟨k,hk.2 f hf,hb.2 rfl⟩,fun j hj=>?_⟩⟩;rw[hb] at hj;subst hj;rw[YE];intro hh;obtain⟨f,hf⟩:=Y8 F h0;obtain⟨i,_,hi⟩:=rJ.1 hh f hf;rw[rI] at hi;cases hx:(1<<<k).testBit i<;>simp[hx] at hi
  ·refine⟨xT.2 fun k hk=>xT.1 hd k (zhI.1 hs k hk),hc⟩
 ·rintro⟨hs,hc⟩
  have hc2:=(oO (by omega)).1 hc;by_cases hx: ∃k,s.testBit k=true/\ ∀f∈F,f.testBit k=true
  ·left
   obtain⟨k,hk,hall⟩:=hx;refine⟨k,?_,?_⟩
   ·rw[Yj,bS h0 hF,Z7]
    exact⟨by have:=xT.1 hs k hk;omega,hall⟩
   ·apply Nat.eq_of_testBit_eq
    intro j;rw[oN];by_cases hj:k=j
    ·subst hj;rw[hk];simp
    ·rw[decide_eq_false hj]
     cases q:s.testBit j with
     |false=>rfl
     |true=>
      exfalso;have:=hc2.2 j q;rw[YE] at this;exact this (rJ.2 fun f hf=>⟨k,hall f hf,by rw[rI,hk,oN,decide_eq_false (fun e=>hj e.symm)];rfl⟩)
  ·right
   refine⟨⟨?_,zhI.2 fun k hk=>?_⟩,hc⟩
   ·rintro rfl
    obtain⟨f,hf⟩:=Y8 F h0;obtain⟨k,_,h2⟩:=rJ.1 hc2.1 f hf;rw[Xa] at h2;cases h2
   ·rw[zmC h0 hF]
    refine⟨?_,?_⟩
    ·by_cases hy: ∃f∈F,f.testBit k=true
     ·exact hy
     ·exfalso
      have:=hc2.2 k hk;rw[YE] at this;refine this (rJ.2 fun f hf=>?_);obtain⟨j,h1,h2⟩:=rJ.1 hc2.1 f hf;refine⟨j,h1,?_⟩;rw[rI,h2,oN];have:k≠j:=by rintro rfl;exact hy ⟨f,hf,h1⟩
      rw[decide_eq_false this];rfl
    ·by_cases hy: ∃f∈F,f.testBit k=false
     ·exact hy
     ·exact absurd ⟨k,hk,fun f hf=>by cases q:f.testBit k with|true=>rfl|false=>exact absurd ⟨f,hf,q⟩ hy⟩ hx
theorem zmE {m:Nat} {F:List Nat} (hm:m<=8): ∀(n s:Nat),s<2 ^ m->(bitsN s).length<=n->hitP F s=true-> ∃c,c<2 ^ m/\wP F c=true/\ ∀k,c.testBit k=true->s.testBit k=true:=by
 have h256:2 ^ m<=256:=(Yf (n:=2) (by decide) hm:2 ^ m<=2 ^ 8);intro n
 induction n with
 |zero=>
  intro s hs hl hh;refine⟨s,hs,(oO (by omega)).2 ⟨hh,fun k hk=>?_⟩,fun k h=>h⟩;have:=(uW (by omega)).2 hk;rw[ZZ (by omega:(bitsN s).length=0)] at this;cases this
 |succ n ih=>
  intro s hs hl hh;by_cases hc: ∃k,s.testBit k=true/\hitP F (andN s (1<<<k))=true
  ·obtain⟨k,hk,hq⟩:=hc
   have hsub: ∀j,(andN s (1<<<k)).testBit j=true->s.testBit j=true:=fun j hj=>by
    rw[rI,Zp] at hj;exact hj.1
   have hlt:andN s (1<<<k)<2 ^ m:=xT.2 fun j hj=>xT.1 hs j (hsub j hj)
   have hlen:(bitsN (andN s (1<<<k))).length<(bitsN s).length:=by
    have e:bitsN (andN s (1<<<k))=(bitsN s).filter fun j=> !decide (k=j):=by
     unfold bitsN;rw[X1];congr 1;funext j;rw[rI,oN,Bool.and_comm]
    rw[e];exact List.length_filter_lt_length_iff_exists.2 ⟨k,(uW (by omega)).2 hk,by simp⟩
   obtain⟨c,h1,h2,h3⟩:=ih _ hlt (by omega) hq;exact⟨c,h1,h2,fun j hj=>hsub j (h3 j hj)⟩
  ·refine⟨s,hs,(oO (by omega)).2 ⟨hh,fun k hk=>?_⟩,fun k h=>h⟩
   rw[YE];exact fun q=>hc ⟨k,hk,q⟩
def zo7:List Nat->Nat->List Nat×Nat
 |[],i=>([],i)
 |s::l,i=>((zo7 l i).2 % s::(zo7 l i).1,(zo7 l i).2/s)
def zo5:List Nat->Nat
 |[]=>1
 |s::l=>s*zo5 l
theorem zpi: ∀{l:List Nat},(∀s∈l,0<s)->0<zo5 l
 |[],_=>Nat.one_pos
 |s::l,h=>Nat.mul_pos (h s (by simp)) (zpi fun x hx=>h x (Zz _ hx))
theorem zpz: ∀(l:List Nat) (i:Nat),(zo7 l i).2=i/zo5 l
 |[],i=>by simp[zo7,zo5]
 |s::l,i=>by rw[zo7,zpz l,zo5,Nat.mul_comm,Nat.div_div_eq_div_mul]
theorem zqh: ∀(l:List Nat) (i:Nat),(zo7 l i).1.length=l.length
 |[],_=>rfl
 |s::l,i=>by rw[zo7,Zo,zqh l,Zo]
def InR:List Nat->List Nat->Prop
 |[],[]=>True
 |s::l,d::ds=>d<s/\InR l ds
 |_,_=>False
theorem zqi: ∀{l:List Nat} (i:Nat),(∀s∈l,0<s)->InR l (zo7 l i).1
 |[],_,_=>trivial
 |s::l,i,h=>⟨Xc _ (h s (by simp)),zqi i fun x hx=>h x (Zz _ hx)⟩
theorem zpQ: ∀{l ds:List Nat},(∀s∈l,0<s)->InR l ds-> ∃i,i<zo5 l/\(zo7 l i).1=ds
 |[],[],_,_=>⟨0,Nat.one_pos,rfl⟩
 |s::l,d::ds,hp,h=>by
  obtain⟨i,hi,hd⟩:=zpQ (fun x hx=>hp x (Zz _ hx)) h.2;have hl:=zpi (l:=l) fun x hx=>hp x (Zz _ hx)
  have key: ∀(l:List Nat) (i q:Nat),(∀s∈l,0<s)->(zo7 l (q*zo5 l+i)).1=(zo7 l i).1:=by
   intro l
   induction l with
   |nil=>intro i q _;rfl
   |cons s l ih=>
    intro i q hp;have hl:=zpi (l:=l) fun x hx=>hp x (Zz _ hx)
    rw[zo7,zo7,zpz,zpz,zo5,<-XD,ih i (q*s) fun x hx=>hp x (Zz _ hx)];show _::_=_::_;rw[Y0 (q*s*zo5 l) i,Nat.add_mul_div_right _ _ hl,Nat.add_mul_mod_self_right]
  refine⟨d*zo5 l+i,?_,?_⟩
  ·rw[zo5]
   have:=ZX (zo5 l) h.1;rw[Xb] at this;omega
  ·rw[zo7,key l i d (fun x hx=>hp x (Zz _ hx)),hd,zpz,Y0,Nat.add_mul_div_right _ _ hl,Nat.div_eq_of_lt hi,ZV,Xt h.1]
 |[],_::_,_,h=>h.elim
 |_::_,[],_,h=>h.elim
structure Strict {α:Type} (lt:α->α->Bool):Prop where
 irr: ∀a,lt a a=false
 tr: ∀a b c,lt a b=true->lt b c=true->lt a c=true
 tot: ∀a b,lt a b=false->lt b a=false->a=b
def insO {α:Type} (lt:α->α->Bool) (x:α):List α->List α
 |[]=>[x]
 |y::l=>if lt x y=true then x::y::l else y::insO lt x l
def sortO {α:Type} (lt:α->α->Bool):List α->List α
 |[]=>[]
 |x::l=>insO lt x (sortO lt l)
theorem bU {α:Type} (lt:α->α->Bool) (x:α): ∀l,(insO lt x l).Perm (x::l)
 |[]=>Xu _
 |y::l=>by
  rw[insO];split
  ·exact Xu _
  ·exact((bU lt x l).cons y).trans (List.Perm.swap x y l)
theorem qD {α:Type} (lt:α->α->Bool): ∀l,(sortO lt l).Perm l
 |[]=>Xu _
 |x::l=>(bU lt x _).trans ((qD lt l).cons x)
theorem zhJ {α:Type} {lt:α->α->Bool} (h:Strict lt) (x:α): ∀l:List α,l.Pairwise (fun a b=>lt b a=false)->(insO lt x l).Pairwise fun a b=>lt b a=false
 |[],_=>by simp[insO]
 |y::l,hl=>by
  rw[insO];have hc:=XB.1 hl;split
  ·rename_i hxy
   refine XB.2 ⟨fun z hz=>?_,hl⟩;cases q:lt z x with
   |false=>rfl
   |true=>
    exfalso;have h1:=h.tr _ _ _ q hxy;rcases ZH.1 hz with rfl|hz
    ·rw[h.irr] at h1;cases h1
    ·rw[hc.1 z hz] at h1;cases h1
  ·rename_i hxy
   refine XB.2 ⟨fun z hz=>?_,zhJ h x l hc.2⟩;rcases ZH.1 ((bU lt x l).mem_iff.1 hz) with rfl|hz
   ·simpa using hxy
   ·exact hc.1 z hz
theorem zhK {α:Type} {lt:α->α->Bool} (h:Strict lt): ∀l:List α,(sortO lt l).Pairwise fun a b=>lt b a=false
 |[]=>XI
 |x::l=>zhJ h x _ (zhK h l)
theorem zhL {α:Type} {lt:α->α->Bool} (h:Strict lt): ∀{a b:List α},a.Perm b->a.Pairwise (fun x y=>lt y x=false)->b.Pairwise (fun x y=>lt y x=false)->a=b
 |[],b,hp,_,_=>(List.Perm.nil_eq hp)
 |x::a,[],hp,_,_=>absurd hp.length_eq (by simp)
 |x::a,y::b,hp,ha,hb=>by
  have h1:=XB.1 ha;have h2:=XB.1 hb;have e:x=y:=by
   rcases ZH.1 (hp.mem_iff.1 (Yr)) with e|hx
   ·exact e
   rcases ZH.1 (hp.mem_iff.2 (Yr)) with e|hy
   ·exact e.symm
   exact h.tot _ _ (h2.1 x hx) (h1.1 y hy)
  subst e;rw[zhL h ((List.perm_cons x).1 hp) h1.2 h2.2]
theorem zhM {α:Type} {lt:α->α->Bool} (h:Strict lt) {a b:List α} (hp:b.Perm a) (hb:b.Pairwise fun x y=>lt y x=false):b=sortO lt a:=
 zhL h (hp.trans (qD lt a).symm) hb (zhK h a)
def uJ:List Nat->List Nat->Bool
 |a::x,b::y=>if a=b then uJ x y else decide (a<b)
 |[],_::_=>true
 |_,[]=>false
def ltC (a b:List Nat):Bool:=if a.length=b.length then uJ a b else decide (a.length<b.length)
theorem zhN: ∀a,uJ a a=false
 |[]=>rfl
 |a::x=>by rw[uJ,if_pos rfl,zhN x]
theorem zhO: ∀a b c,uJ a b=true->uJ b c=true->uJ a c=true
 |[],[],_,h,_=>by cases h
 |[],_::_,[],_,h=>by cases h
 |[],_::_,_::_,_,_=>rfl
 |_::_,[],_,h,_=>by cases h
 |_::_,_::_,[],_,h=>by cases h
 |a::x,b::y,c::z,h1,h2=>by
  rw[uJ] at h1 h2⊢;split at h1
  ·rename_i e1;subst e1
   split at h2
   ·rename_i e2;subst e2;rw[if_pos rfl];exact zhO x y z h1 h2
   ·rename_i e2;rw[if_neg e2];exact h2
  ·rename_i e1
   rw[decide_eq_true_eq] at h1;split at h2
   ·rename_i e2;subst e2;rw[if_neg e1,decide_eq_true_eq];exact h1
   ·rename_i e2
    rw[decide_eq_true_eq] at h2;rw[if_neg (by omega),decide_eq_true_eq];omega
theorem zhP: ∀a b,uJ a b=false->uJ b a=false->a=b
 |[],[],_,_=>rfl
 |[],_::_,h,_=>by cases h
 |_::_,[],_,h=>by cases h
 |a::x,b::y,h1,h2=>by
  rw[uJ] at h1 h2;by_cases e:a=b
  ·subst e
   rw[if_pos rfl] at h1 h2;rw[zhP x y h1 h2]
  ·rw[if_neg e,decide_eq_false_iff_not] at h1
   rw[if_neg (fun h=>e h.symm),decide_eq_false_iff_not] at h2;omega
theorem zhQ:Strict ltC where
 irr a:=by unfold ltC;rw[if_pos rfl,zhN]
 tr a b c h1 h2:=by
  unfold ltC at*
  split at h1
  ·rename_i e1
   split at h2
   ·rename_i e2;rw[if_pos (e1.trans e2)];exact zhO _ _ _ h1 h2
   ·rename_i e2;rw[if_neg (by rw[e1];exact e2),e1];exact h2
  ·rename_i e1
   rw[decide_eq_true_eq] at h1;split at h2
   ·rename_i e2;rw[if_neg (by rw[<-e2];exact e1),decide_eq_true_eq,<-e2];exact h1
   ·rename_i e2
    rw[decide_eq_true_eq] at h2;rw[if_neg (by omega),decide_eq_true_eq];omega
 tot a b h1 h2:=by
  unfold ltC at*
  by_cases e:a.length=b.length
  ·rw[if_pos e] at h1;rw[if_pos e.symm] at h2;exact zhP _ _ h1 h2
  ·rw[if_neg e,decide_eq_false_iff_not] at h1
   rw[if_neg (fun h=>e h.symm),decide_eq_false_iff_not] at h2;omega
end Go.Ex
namespace Go.Ex
open Go.Lib Go.Wd Go.Wire Go.Abs
def agreesP (d f e g:Txt) (l:List Pln):Bool:=
 if kindP l d=true then if kindP l e=true then
  (fldsF d f l []).2&&((fldsF e g l []).2&& !((fldsF d f l []).1++(fldsF e g l []).1).any fun s=> !decide (s=(fldsF d f l []).1.headD []))
 else true else true
def wV (m:Dmd) (l:List Pln):Bool:=
 if m.op=0 then kindP l m.doc else if m.op=1 then readsP m.doc m.fld m.txt l else if m.op=2 then limP m.doc m.fld m.lo m.hi false l
 else if m.op=3 then agreesP m.doc m.fld m.oth m.sec l else if m.op=4 then limP m.doc m.fld m.lo m.hi true l else false
def yZ:Dmd:=⟨0,[],[],[],[],[],0,0⟩
def sR (L:List Dmd) (p:List Pln):List Nat:=(List.range L.length).filter fun i=> !wV (L.getD i yZ) p
theorem gF {L:List Dmd} {p:List Pln} {k:Nat}:k∈sR L p ↔ k<L.length/\wV (L.getD k yZ) p=false:=by
 unfold sR;rw[Yj,Z7];simp
def wL (l:List Nat):Nat:=l.foldl (fun s k=>s|||(1<<<k)) 0
theorem zhR: ∀(l:List Nat) (a j:Nat),(l.foldl (fun s k=>s|||(1<<<k)) a).testBit j=(a.testBit j||decide (j∈l))
 |[],a,j=>by simp
 |k::l,a,j=>by
  rw[YQ,zhR l,Nat.testBit_or,oN,Bool.or_assoc];congr 1;rw[Yp,Yi,decide_eq_true_eq,decide_eq_true_eq,decide_eq_true_eq,ZH];exact or_congr eq_comm XO
theorem gG (l:List Nat) (j:Nat):(wL l).testBit j=decide (j∈l):=by unfold wL;rw[zhR,Xa,Ym]
theorem gH {l:List Nat} {m:Nat} (h: ∀k∈l,k<m):wL l<2 ^ m:=xT.2 fun k hk=>by rw[gG,decide_eq_true_eq] at hk;exact h k hk
def wQ:List Fld->Nat->List Txt×Nat
 |[],i=>([],i)
 |f::l,i=>(textF f ((wQ l i).2 % yQ f)::(wQ l i).1,(wQ l i).2/yQ f)
def rdD (d:Dcm) (i:Nat):Pln:=⟨d.kind,d.flds.map Fld.name,(wQ d.flds i).1⟩
def xN:List Dcm->List Nat->Nat->List Pln×Nat
 |d::l,c::cs,i=>(rdD d ((xN l cs i).2 % c)::(xN l cs i).1,(xN l cs i).2/c)
 |_,_,i=>([],i)
def vZ (D:List Dcm):List Nat:=(cnts D).1.map Int.toNat
def rdsD (D:List Dcm) (i:Nat):List Pln:=(xN D (vZ D) i).1
def xY (D:List Dcm):Nat:=(cnts D).2.1.toNat
def yN (L:List Dmd) (D:List Dcm):List Nat:=(List.range (xY D)).map fun i=>wL (sR L (rdsD D i))
theorem mD (L:List Dmd) (D:List Dcm): ∀f∈yN L D,f<2 ^ L.length:=by
 intro f hf;obtain⟨i,_,rfl⟩:=ZB.1 hf;exact gH fun k hk=>(gF.1 hk).1
def viewD (L:List Dmd) (D:List Dcm):Vw:=pF L.length (yN L D)
def uA (a b:Plc):Bool:=if a.doc=b.doc then decide (a.fld<b.fld) else decide (a.doc<b.doc)
theorem zhS:Strict uA where
 irr a:=by unfold uA;rw[if_pos rfl,decide_eq_false_iff_not];omega
 tr a b c h1 h2:=by
  unfold uA at*
  split at h1<;>split at h2<;>rw[decide_eq_true_eq] at h1 h2
  ·rw[if_pos (by omega),decide_eq_true_eq];omega
  ·rw[if_neg (by omega),decide_eq_true_eq];omega
  ·rw[if_neg (by omega),decide_eq_true_eq];omega
  ·rw[if_neg (by omega),decide_eq_true_eq];omega
 tot a b h1 h2:=by
  obtain⟨a1,a2⟩:=a;obtain⟨b1,b2⟩:=b;unfold uA at*
  simp only[] at*
  by_cases e:a1=b1
  ·rw[if_pos e,decide_eq_false_iff_not] at h1
   rw[if_pos e.symm,decide_eq_false_iff_not] at h2;rw[e,show a2=b2 by omega]
  ·rw[if_neg e,decide_eq_false_iff_not] at h1
   rw[if_neg (fun h=>e h.symm),decide_eq_false_iff_not] at h2;omega
def kA (m:Dmd) (p:Pln) (k:Nat):Bool:=
 (decide (fstN (fun x=>decide (p.names.getD k []=x)) p.names 0=(k:Int))&&decide (k<p.texts.length))&&
  ((decide (p.kind=m.doc)&&decide (p.names.getD k []=m.fld))||(decide (m.op=3)&&(decide (p.kind=m.oth)&&decide (p.names.getD k []=m.sec))))
def mE (m:Dmd) (p:Pln) (i:Nat):List Plc:=((List.range p.names.length).filter (kA m p)).map fun(k:Nat)=>⟨(i:Int),(k:Int)⟩
def tJ (m:Dmd):List Pln->Nat->List Plc
 |[],_=>[]
 |p::l,i=>mE m p i++tJ m l (i+1)
def uX (m:Dmd) (l:List Pln):List Plc:=if m.op<=0\/m.op>=5 then[] else tJ m l 0
def uK:List Plc->List Plc
 |[]=>[]
 |[a]=>[a]
 |a::b::l=>if a=b then uK (b::l) else a::uK (b::l)
def xU (L:List Dmd) (which:List Nat) (l:List Pln):List Plc:=uK (sortO uA (which.map fun k=>uX (L.getD k yZ) l).flatten)
def kB (L:List Dmd) (v:Vw) (p:List Pln):List Flw:=
 ((sortO ltC ((conflP v).map bitsN)).map fun c=>⟨c.map fun(k:Nat)=>(k:Int),xU L c p,true⟩)++(bitsN v.doubt).map fun k=>⟨[(k:Int)],xU L [k] p,false⟩
def gI (L:List Dmd) (D:List Dcm):List Flw:=kB L (viewD L D) (rdsD D 0)
def zhT (v:Vw):Int:=if 0∈v.sets then(if v.sets.length=1 then 1 else 2) else 0
end Go.Ex
namespace Go.Abs
open Go.Proofs Go.RowKit Go.Lib Go.Wd Go.Wire Go.Ex
theorem zmF (l0:List Txt) (h0:0<l0.length) (hl:l0.length<=1000000) (s:Txt):Spec Tryz.prog 225 [.str s,.k (.c (.ro [zC 1 (zJ l0)] 0))] (fun v=>v=.bool (!decide (s=l0.headD []))):=by
 refine Spec.of_awlS hf225 okf225 (by simp) fun S hS=>?_
 have e:l0.headD []=l0[0]:=by cases l0 with|nil=>cases h0|cons a l=>rfl
 have c1:(0:Int)<l0.length:=by omega
 rw[e] at hS;have hat:=uI h0;simp only[c1,yB,hat,Qs,Zc,Za,Yl,Ψ225];refine wJ hS ?_;simp
end Go.Abs
namespace Go.Proofs
open Go.RowKit Go.Abs Go.Wd Go.Wire Go.Ex
theorem zmG (w:World) (base g1 n1 c1 g2 n2 c2:Nat) (xs ys:List Value) (hx:w.ownsRow base 9 1 (.slice (some ⟨g1,0,none⟩) n1 c1) n1 xs) (hb:base<=w.heap.size) (hy:ys.length=n2) (hyc: ∀j u,ys[j]?=some u->w.cell? ⟨g2,j,none⟩=some u) (h1: ∀u∈ys,u.oneCell'=true)
  (hn:n1+n2<=4000000):
  ∃g' cap' w',(Builtin.append_ #[51,51] 51 #[.slice (some ⟨g1,0,none⟩) n1 c1,.slice (some ⟨g2,0,none⟩) n2 c2]).run Tryz.prog w=.ok (.slice (some ⟨g',0,none⟩) (n1+n2) cap') w'/\n1+n2<=cap'/\cap'<=maxLen/\Below base w w'/\(∀k,k<w.heap.size->k≠g1->w'.heap[k]?=w.heap[k]?)/\
   (∀j u,(xs++ys)[j]?=some u->w'.cell? ⟨g',j,none⟩=some u)/\(∀j u,xs[j]?=some u->w'.cell? ⟨g1,j,none⟩=some u):=by
 obtain⟨i0,hi,hz0,hz1,hz2⟩:=info_parts (show(Tryz.prog.info? 9).map (fun i=>(i.zero,i.size,i.bytes))=some (some (.string ⟨#[]⟩),1,16) by kernel_rfl);rcases hx with⟨hxl,⟨hc,_⟩|⟨g,cap,cur,hv,hg,hh,h5,h6,h7,h8⟩⟩
 ·cases hc
 obtain⟨rfl,rfl⟩:g1=g/\c1=cap:=by cases hv;exact⟨rfl,rfl⟩
 have hS:Src Tryz.prog i0.size 51 (.slice (some ⟨g2,0,none⟩) n2 c2) n2 ys w:=Src.ofSlice w (e':=9) (by kernel_rfl) ⟨g2,0,none⟩ n2 c2 ys (by rw[hz1,hy];omega) (fun j u hu=>by rw[sH,ZV];exact hyc j u hu) h1;have hgs:g1<w.heap.size:=(Zn.1 hh).1;have hxs:xs.length=n1:=by omega
 have hcell: ∀j u,xs[j]?=some u->cur[j]?=some u:=fun j u hu=>by
  rw[<-h8,Z4] at hu;split at hu
  ·rwa [Ys] at hu
  ·cases hu
 have cell_of: ∀(W:World) (b:Nat) (cr:Array Value) (j:Nat) (u:Value),W.heap[b]?=some (.cells cr 9 (0,0))->cr[j]?=some u->W.cell? ⟨b,j,none⟩=some u:=fun W b cr j u h k=>by
  simp only[World.cell?,h];simpa using k
 by_cases hroom:n1+n2<=c1
 ·have hrun:=run_append_room_row (P:=Tryz.prog) (w:=w) 51 51 51 9 i0 (by kernel_rfl) hi g1 n1 c1 cur hh (.slice (some ⟨g2,0,none⟩) n2 c2) n2 ys hS hroom (by rw[hz1];exact h7)
  rw[hz1,YS] at hrun;have hcut:cur.toList.take n1=xs:=by rw[<-h8,YS]
  rw[hcut] at hrun;have hcx: ∀j u,(xs++ys)[j]?=some u->(xs++ys++cur.toList.drop (n1+ys.length)).toArray[j]?=some u:=fun j u hu=>by
   have hlt:j<(xs++ys).length:=(Zr.1 hu).1;rw[Y3,ZD hlt,hu]
  generalize (xs++ys++cur.toList.drop (n1+ys.length)).toArray=cur2 at hrun hcx;have hnew:=setRow_heap w g1 cur cur2 9 (0,0) hh;refine⟨g1,c1,_,hrun,hroom,h6,?_,fun k _ hk=>setRow_other w g1 k cur2 hk,fun j u hu=>cell_of _ _ _ _ _ hnew (hcx j u hu),fun j u hu=>cell_of _ _ _ _ _ hnew (hcx j u ?_)⟩
  ·exact⟨rfl,rfl,rfl,by simp,fun k hk=>setRow_other w g1 k cur2 (by omega)⟩
  ·rw[ZD (Zr.1 hu).1,hu]
 ·have hold:(Builtin.firstCells i0.size n1 (.slice (some ⟨g1,0,none⟩) n1 c1)).run Tryz.prog w.drew=.ok xs.toArray w.drew:=by
   rw[hz1];refine run_firstCells_some w.drew 1 n1 ⟨g1,0,none⟩ n1 c1 xs (by omega) fun j u hu=>?_
   rw[sH,ZV];exact cell_of w g1 cur j u hh (hcell j u hu)
  have hfit:Builtin.nextslicecap (n1+n2) c1*i0.bytes<=281474976710656:=growslice_fits (by omega) (by rw[hz2];omega);have hrun:=run_append_grow_src (P:=Tryz.prog) w 51 51 51 9 i0 (.string ⟨#[]⟩) (by kernel_rfl) hi hz0 (some ⟨g1,0,none⟩) n1 c1 xs hold (.slice (some ⟨g2,0,none⟩) n2 c2) n2 ys hS (by omega) (by omega) hfit;have hge:=grownCap_ge w (n1+n2) c1 9;have hlm:=grownCap_le_maxLen w (n1+n2) c1 9 (by simp only[maxLen];omega);generalize grownCap w (n1+n2) c1 9=cp at hrun hge hlm;have hcx: ∀j u,(xs++ys)[j]?=some u->((xs++ys).toArray++Builtin.zeroCells (Value.string ⟨#[]⟩).cells (cp-(n1+n2)))[j]?=some u:=fun j u hu=>by
   have hlt:j<(xs++ys).length:=(Zr.1 hu).1;rw[YT (by simpa using hlt),Y3,hu]
  generalize ((xs++ys).toArray++Builtin.zeroCells (Value.string ⟨#[]⟩).cells (cp-(n1+n2)))=cur2 at hrun hcx;have hnew:(w.drew.alloc (.cells cur2 9)).heap[w.heap.size]?=some (.cells cur2 9 (0,0)):=World.alloc_heap_new w.drew _;refine⟨w.heap.size,cp,_,hrun,hge,hlm,?_,fun k hk _=>Below.heap_alloc w.drew _ k hk,fun j u hu=>cell_of _ _ _ _ _ hnew (hcx j u hu),fun j u hu=>?_⟩
  ·exact((Below.refl base w).drew).alloc hb _
  ·have hw:(w.drew.alloc (.cells cur2 9)).heap[g1]?=some (.cells cur 9 (0,0)):=(Below.heap_alloc w.drew _ g1 hgs).trans hh
   exact cell_of _ _ _ _ _ hw (hcell j u hu)
theorem zmH {W W':World} (hb:Below W.heap.size W W'):W.grownBy W' none:=⟨hb.os,hb.tape,hb.output,hb.size,fun k hk _=>hb.block k hk⟩
theorem zmI (L:List Txt) (j:Nat):(L.map tV)[j]?=(L[j]?).map tV:=Zw ..
theorem zmJ (L:List Txt):((zJ L).flatten.map wE)=L.map tV:=by
 induction L with
 |nil=>rfl
 |cons a L ih=>simp only[zJ,Zm,YL,ZW] at ih⊢;rw[ih];rfl
theorem zhU {w:World} {L:List Txt} (h0:0<L.length) {g o cap:Nat} (hg:g<w.heap.size) (h1:L.length<=cap) (h2:cap<=maxLen) (hc: ∀j u,(L.map tV)[j]?=some u->w.cell? ⟨g,o+j,none⟩=some u):
  PRep w (zW w) (zC 1 (zJ L)) (.slice (some ⟨g,o,none⟩) L.length cap):=by
 have e:zC 1 (zJ L)=.list 1 none (zJ L):=by
  unfold zC;rw[if_neg];cases L with|nil=>cases h0|cons a L=>simp[zJ]
 have e2:L.length=(zJ L).length:=(yB L).symm;rw[e,e2];have hat: ∀(i j:Nat) r c,(zJ L)[i]?=some r->r[j]?=some c->j=0/\ ∃s,L[i]?=some s/\c=.str s:=fun i j r c hr hc=>by
  rw[zJ,Zw] at hr;cases hs:L[i]? with
  |none=>rw[hs] at hr;cases hr
  |some s=>
   rw[hs] at hr;cases hr;cases j with
   |zero=>cases hc;exact⟨rfl,s,rfl,rfl⟩
   |succ j=>simp at hc
 refine .list g o cap 1 none (zJ L) (fun i _=>tV (L.getD i [])) (by simp) (by rw[yB];exact h1) h2 (fun _=>hg) (fun r hr=>by obtain⟨s,_,rfl⟩:=ZB.1 hr;rfl) (fun i j r c hr hcj=>?_) fun i j r c hr hcj=>?_
 ·obtain⟨rfl,s,hs,rfl⟩:=hat i j r c hr hcj
  rw[YS,Yq];exact hc i _ (by rw[zmI,hs];simp[List.getD,hs])
 ·obtain⟨rfl,s,hs,rfl⟩:=hat i j r c hr hcj
  have:L.getD i []=s:=by simp[List.getD,hs]
  rw[this];exact .str s
theorem zhV {W:World} {b0:Nat} {v:Value} {L:List Txt} (h:W.ownsRow b0 9 1 v (zJ L).length ((zJ L).flatten.map wE)) (h0:0<L.length):
  ∃g cap,v=.slice (some ⟨g,0,none⟩) L.length cap/\b0<=g/\L.length<=cap/\cap<=maxLen/\W.ownsRow b0 9 1 (.slice (some ⟨g,0,none⟩) L.length cap) L.length (L.map tV)/\ ∀j u,(L.map tV)[j]?=some u->W.cell? ⟨g,j,none⟩=some u:=by
 rw[yB,zmJ] at h;have h2:=h;rcases h with⟨_,⟨_,h3⟩|⟨g,cap,cur,rfl,hg,hh,h5,h6,h7,h8⟩⟩
 ·omega
 refine⟨g,cap,rfl,hg,h5,h6,h2,fun j u hu=>?_⟩;rw[<-h8,Z4] at hu;split at hu
 ·rw[Ys] at hu
  simp only[World.cell?,hh];simpa using hu
 ·cases hu
theorem gJ (d f:Txt): ∀(l:List Pln) (acc:List Txt),(fldsF d f l acc).2=true->acc.length<=(fldsF d f l acc).1.length/\(kindP l d=true->acc.length<(fldsF d f l acc).1.length)
 |[],acc,_=>⟨Zt _,fun h=>by simp[kindP] at h⟩
 |p::l,acc,h=>by
  rw[fldsF] at h⊢;by_cases hk:p.kind=d
  ·rw[if_pos hk] at h⊢
   split at h
   ·cases h
   ·rename_i hj
    rw[if_neg hj];have:=gJ d f l _ h;rw[Zv] at this;simp only[Zo,ZG] at this;exact⟨by omega,fun _=>by omega⟩
  ·rw[if_neg hk] at h⊢
   have:=gJ d f l acc h;refine⟨this.1,fun hq=>this.2 ?_⟩;unfold kindP at hq⊢;rw[List.any_cons,decide_eq_false hk,Ym] at hq;exact hq
theorem gK {W:World} {b0:Nat} {v:Value} {L:List Txt} (h:W.ownsRow b0 9 1 v (zJ L).length ((zJ L).flatten.map wE)): ∃p cap,v=.slice p L.length cap:=by
 rw[yB] at h;rcases h.2 with⟨rfl,h3⟩|⟨g,cap,cur,rfl,_⟩
 ·exact⟨none,0,by rw[h3]⟩
 ·exact⟨_,cap,rfl⟩
theorem rK {W:World} {b t:Nat} {a0 a1 a2 a3:Value} (h:W.heap[b]?=some (.cells #[a0,a1,a2,a3] t (0,0))):
  W.cell? ⟨b,0,none⟩=some a0/\W.cell? ⟨b,1,none⟩=some a1/\W.cell? ⟨b,2,none⟩=some a2/\W.cell? ⟨b,3,none⟩=some a3:=by
 refine⟨?_,?_,?_,?_⟩<;>simp[World.cell?,h]
attribute [-go_sem] Builtin.append_
theorem zmK (L M:List Txt) (A:Bool) (hA:((L++M).any fun s=> !decide (s=L.headD []))=A) (hL0:0<L.length) (hlen:L.length+M.length<=3000000) (hLl:L.length<=1000000) (W:World) (hG:yI (base W)) (bx g3 cap3 g5 cap5:Nat) (hbx:W.heap[bx]?=some (.cells #[Value.slice (some ⟨g3,0,none⟩) L.length cap3] 51 (0,0)))
  (hc3:L.length<=cap3) (hm3:cap3<=maxLen) (hc5:L.length+M.length<=cap5) (hm5:cap5<=maxLen) (hcx: ∀j u,(L.map tV++M.map tV)[j]?=some u->W.cell? ⟨g5,j,none⟩=some u) (hcl: ∀j u,(L.map tV)[j]?=some u->W.cell? ⟨g3,j,none⟩=some u):
  Calls Tryz.prog 57 #[.slice (some ⟨g5,0,none⟩) (L.length+M.length) cap5,.func (.func 225) #[] #[.pointer (some ⟨bx,0,none⟩)]] W fun ex W'=>ex=.returned (.bool A)/\Below W.heap.size W W':=by
 subst hA;have hcon:=zho (c:=.ro [zC 1 (zJ L)] 0) (by simp only[C.norm,C.normRow,zO,wD]) (L++M) (fun s _=>zmF L hL0 hLl s) (by rw[Zv];exact hlen);have hb3:=World.block_lt_of_cell? _ _ (hcl 0 (tV L[0]) (by rw[Zw,Zg hL0];rfl));have hb5:=World.block_lt_of_cell? _ _ (hcx 0 (tV L[0]) (by rw[ZD (by simpa using hL0),Zw,Zg hL0];rfl));have hbl:=(Zn.1 hbx).1;have e:L.length+M.length=(L++M).length:=by simp
 have hP1:PRep W (zW W) (zC 1 (zJ (L++M))) (.slice (some ⟨g5,0,none⟩) (L++M).length cap5):=zhU (by rw[<-e];omega) hb5 (by rw[<-e];exact hc5) hm5 fun j u hu=>by rw[ZV];exact hcx j u (by rw[<-ZW];exact hu)
 have hP2:PRep W (zW W) (zC 1 (zJ L)) (.slice (some ⟨g3,0,none⟩) L.length cap3):=zhU hL0 hb3 hc3 hm3 fun j u hu=>by rw[ZV];exact hcl j u hu
 have hP3:PRep W (zW W) (.ro [zC 1 (zJ L)] 0) (.pointer (some ⟨bx,0,none⟩)):=.ro bx _ 0 (fun _=> .slice (some ⟨g3,0,none⟩) L.length cap3) hbl (fun j c hc=>by
  cases j with
  |zero=>simp[World.cell?,hbx]
  |succ j=>simp at hc) fun j c hc=>by
  cases j with
  |zero=>cases hc;exact hP2
  |succ j=>simp at hc
 have hP4:PRep W (zW W) (.fn 225 [.ro [zC 1 (zJ L)] 0]) (.func (.func 225) #[] #[.pointer (some ⟨bx,0,none⟩)]):=.fn 225 _ _ (fun _=> .pointer (some ⟨bx,0,none⟩)) rfl (fun j c hc=>by
  cases j with
  |zero=>rfl
  |succ j=>simp at hc) fun j c hc=>by
  cases j with
  |zero=>cases hc;exact hP3
  |succ j=>simp at hc
 rw[e];exact hcon.boolC hG (Z:=zW W) (fun _ h=>h) (vH hP1 (vH hP4 (xS _ _)))
theorem zmL (d f e g:Txt) (l:List Pln) (hl:vE l) (w:World) (hG:yI (base w)) (v2:Value) (hv:PRep w (zW w) (zC 3 (l.map yM)) v2):
  Calls Tryz.prog 222 #[.agg #[tV d,tV f,tV e,tV g],v2] w fun ex w'=>ex=.returned (.bool (agreesP d f e g l))/\Below w.heap.size w w':=by
 have k207: ∀s W,Below w.heap.size w W->Calls Tryz.prog 207 #[v2,tV s] W fun ex W'=>ex=.returned (.bool (kindP l s))/\Below W.heap.size W W':=fun s W hb=>
  (zhm s l hl.1).boolC (hG.later (xM hb)) (Z:=zW W) (fun _ h=>h) (vH (vW hv hb) (vH (.str _) (xS _ _)))
 have k215: ∀d f W,Below w.heap.size w W->Calls Tryz.prog 215 #[v2,.agg #[tV d,tV f]] W fun ex W'=> ∃v,ex=.returned (.tuple #[v,.bool (fldsF d f l []).2])/\Below W.heap.size W W'/\W'.ownsRow W.heap.size 9 1 v (zJ (fldsF d f l []).1).length ((zJ (fldsF d f l []).1).flatten.map wE):=fun d f W hb=>
  (zml d f l hl).newB (fun r hr c hc=>by obtain⟨s,_,rfl⟩:=ZB.1 hr;rw[ZU.1 hc];rfl) (fun r hr=>by obtain⟨s,_,rfl⟩:=ZB.1 hr;rfl) (hG.later (xM hb)) (Z:=zW W) (fun _ h=>h) (vH (vW hv hb) (vN (r:=[.str d,.str f]) (by simp[C.sc]) (xS _ _)))
 have hB0: ∀o,Below w.heap.size w (w.alloc o):=fun o=>(Below.refl _ w).alloc (Zt _) _
 have a207d:=k207 d;have a207e:=k207 e;have a215d:=k215 d f;have a215e:=k215 e g;have hvo:=hv.oneCell;have hp1:=fun h=>gJ d f l [] h
 have hp2:=fun h=>gJ e g l [] h
 have hR:agreesP d f e g l=agreesP d f e g l:=rfl
 conv at hR=>rhs;unfold agreesP
 generalize agreesP d f e g l=R at hR⊢;generalize kindP l d=b1 at a207d hR hp1;generalize kindP l e=b2 at a207e hR hp2;clear k207 k215;unfold tV at*
 cases b1 with
 |false=>
  rw[if_neg (by simp)] at hR;subst hR
  go_enter Tryz.func222,Tryz.ntmps222
  go_wp2_with (go_at_call 207;refine(a207d _ (hB0 _)).mono ?_;rintro ex w1 ⟨rfl,hb1⟩)
  go_ret
  exact⟨rfl,(hB0 _).trans (hb1.mono (hB0 _).size)⟩
 |true=>
  rw[if_pos rfl] at hR;cases b2 with
  |false=>
   rw[if_neg (by simp)] at hR;subst hR
   go_enter Tryz.func222,Tryz.ntmps222
   go_wp2_with (first|(go_at_call 207;refine(a207e _ hB1).mono ?_;rintro ex w2 ⟨rfl,hb2⟩)|(go_at_call 207;refine(a207d _ (hB0 _)).mono ?_;rintro ex w1 ⟨rfl,hb1⟩;have hB1:=(hB0 (.cells #[Value.string ⟨d.toArray⟩,Value.string ⟨f.toArray⟩,Value.string ⟨e.toArray⟩,Value.string ⟨g.toArray⟩] 169)).trans (hb1.mono (hB0 (.cells #[Value.string ⟨d.toArray⟩,Value.string ⟨f.toArray⟩,Value.string ⟨e.toArray⟩,Value.string ⟨g.toArray⟩] 169)).size);have hx1:=(hb1.block w.heap.size (by simp)).trans (World.alloc_heap_new w (.cells #[Value.string ⟨d.toArray⟩,Value.string ⟨f.toArray⟩,Value.string ⟨e.toArray⟩,Value.string ⟨g.toArray⟩] 169));obtain⟨q0,q1,q2,q3⟩:=rK hx1))
   go_ret
   exact⟨rfl,hB1.trans (hb2.mono hB1.size)⟩
  |true=>
   rw[if_pos rfl] at hR;have n1:=mB d f l [];have n2:=mB e g l [];have hl1:=hl.1;generalize (fldsF d f l [])=r1 at a215d hR n1 hp1;generalize (fldsF e g l [])=r2 at a215e hR n2 hp2;obtain⟨L,x1⟩:=r1;obtain⟨M,x2⟩:=r2;simp only[ZG,ZV] at a215d a215e hR n1 n2 hp1 hp2;have hx12:x1=true/\x2=true\/(x1&&x2)=false:=by cases x1<;>cases x2<;>simp
   rcases hx12 with⟨rfl,rfl⟩|hx12
   ·have hL0:0<L.length:=(hp1 rfl).2 trivial
    have hM0:0<M.length:=(hp2 rfl).2 trivial;rw[ZJ,ZJ] at hR;obtain⟨A,hA⟩: ∃A,Aside (((L++M).any fun s=> !decide (s=L.headD []))=A):=⟨_,rfl⟩;rw[hA.out] at hR;subst hR;clear hp1 hp2
    go_enter Tryz.func222,Tryz.ntmps222
    go_wp2_with (first|(go_at_call 57;refine(zmK L M A hA.out hL0 (by omega) (by omega) w5 (hG.later (xM (hB4.trans (hB5.mono hB2.size)))) w3.heap.size g3 cap3 g5 cap5 ((hoth w3.heap.size (Zn.1 hbx).1 (Nat.ne_of_gt hgl3)).trans hbx) hc3 hm3 hq5 hq6 hcx hcl).mono ?_;rintro ex w6 ⟨rfl,hb6⟩)|(go_at_call 215;refine(a215e _ hB3).mono ?_;rintro ex w4 ⟨v4,rfl,hb4,ho4⟩;have hB4:=hB3.trans (hb4.mono hB3.size);obtain⟨g4,cap4,rfl,hg4,hc4,hm4,ho4',hcl4⟩:=zhV ho4 hM0;have hbx:w4.heap[w3.heap.size]?=some (.cells #[Value.slice (some ⟨g3,0,none⟩) L.length cap3] 51 (0,0)):=(hb4.block w3.heap.size (by simp)).trans (World.alloc_heap_new w3 _);have hbc:w4.cell? ⟨w3.heap.size,0,none⟩=some (.slice (some ⟨g3,0,none⟩) L.length cap3):=(by simp[World.cell?,hbx]);obtain⟨g5,cap5,w5,hrun,hq5,hq6,hB5,hoth,hcx,hcl⟩:=zmG w4 w2.heap.size g3 L.length cap3 g4 M.length cap4 (L.map tV) (M.map tV) ((ho3'.kept (World.grownBy_alloc w3 (.cells #[Value.slice (some ⟨g3,0,none⟩) L.length cap3] 51) none) (Classical.em _)).kept (zmH hb4) (Classical.em _)) (ZT hb3.size (ZT (by simp) hb4.size)) (by simp) hcl4 (by intro u hu;obtain⟨s,_,rfl⟩:=ZB.1 hu;rfl) (by omega))|(go_at_call 215;refine(a215d _ hB2).mono ?_;rintro ex w3 ⟨v3,rfl,hb3,ho3⟩;obtain⟨g3,cap3,rfl,hg3,hc3,hm3,ho3',hcl3⟩:=zhV ho3 hL0;have hgl3:g3<w3.heap.size:=World.block_lt_of_cell? _ _ (hcl3 0 (tV L[0]) (by rw[Zw,Zg hL0];rfl));have hB3:=(hB2.trans (hb3.mono hB2.size)).alloc (hB2.trans (hb3.mono hB2.size)).size (.cells #[Value.slice (some ⟨g3,0,none⟩) L.length cap3] 51);have hx3:=(Below.heap_alloc w3 (.cells #[Value.slice (some ⟨g3,0,none⟩) L.length cap3] 51) w.heap.size (ZM (Zn.1 hx2).1 hb3.size)).trans ((hb3.block w.heap.size (Zn.1 hx2).1).trans hx2);obtain⟨s0,s1,s2,s3⟩:=rK hx3)|(go_at_call 207;refine(a207e _ hB1).mono ?_;rintro ex w2 ⟨rfl,hb2⟩;have hB2:=hB1.trans (hb2.mono hB1.size);have hx2:=(hb2.block w.heap.size (Zn.1 hx1).1).trans hx1;obtain⟨r0,r1,r2,r3⟩:=rK hx2)|(go_at_call 207;refine(a207d _ (hB0 _)).mono ?_;rintro ex w1 ⟨rfl,hb1⟩;have hB1:=(hB0 (.cells #[Value.string ⟨d.toArray⟩,Value.string ⟨f.toArray⟩,Value.string ⟨e.toArray⟩,Value.string ⟨g.toArray⟩] 169)).trans (hb1.mono (hB0 (.cells #[Value.string ⟨d.toArray⟩,Value.string ⟨f.toArray⟩,Value.string ⟨e.toArray⟩,Value.string ⟨g.toArray⟩] 169)).size);have hx1:=(hb1.block w.heap.size (by simp)).trans (World.alloc_heap_new w (.cells #[Value.string ⟨d.toArray⟩,Value.string ⟨f.toArray⟩,Value.string ⟨e.toArray⟩,Value.string ⟨g.toArray⟩] 169));obtain⟨q0,q1,q2,q3⟩:=rK hx1))
    go_ret
    exact⟨rfl,(hB4.trans (hB5.mono hB2.size)).trans (hb6.mono (hB4.trans (hB5.mono hB2.size)).size)⟩
   ·have hRf:R=false:=by rw[hR,<-XM,hx12];rfl
    subst hRf;clear hR;cases x1 with
    |false=>
     go_enter Tryz.func222,Tryz.ntmps222
     go_wp2_with (first|(go_at_call 215;refine(a215e _ hB3).mono ?_;rintro ex w4 ⟨v4,rfl,hb4,ho4⟩;have hB4:=hB3.trans (hb4.mono hB3.size);obtain⟨p4,cap4,rfl⟩:=gK ho4)|(go_at_call 215;refine(a215d _ hB2).mono ?_;rintro ex w3 ⟨v3,rfl,hb3,ho3⟩;obtain⟨p3,cap3,rfl⟩:=gK ho3;have hB3:=(hB2.trans (hb3.mono hB2.size)).alloc (hB2.trans (hb3.mono hB2.size)).size (.cells #[Value.slice p3 L.length cap3] 51);have hx3:=(Below.heap_alloc w3 (.cells #[Value.slice p3 L.length cap3] 51) w.heap.size (ZM (Zn.1 hx2).1 hb3.size)).trans ((hb3.block w.heap.size (Zn.1 hx2).1).trans hx2);obtain⟨s0,s1,s2,s3⟩:=rK hx3)|(go_at_call 207;refine(a207e _ hB1).mono ?_;rintro ex w2 ⟨rfl,hb2⟩;have hB2:=hB1.trans (hb2.mono hB1.size);have hx2:=(hb2.block w.heap.size (Zn.1 hx1).1).trans hx1;obtain⟨r0,r1,r2,r3⟩:=rK hx2)|(go_at_call 207;refine(a207d _ (hB0 _)).mono ?_;rintro ex w1 ⟨rfl,hb1⟩;have hB1:=(hB0 (.cells #[Value.string ⟨d.toArray⟩,Value.string ⟨f.toArray⟩,Value.string ⟨e.toArray⟩,Value.string ⟨g.toArray⟩] 169)).trans (hb1.mono (hB0 (.cells #[Value.string ⟨d.toArray⟩,Value.string ⟨f.toArray⟩,Value.string ⟨e.toArray⟩,Value.string ⟨g.toArray⟩] 169)).size);have hx1:=(hb1.block w.heap.size (by simp)).trans (World.alloc_heap_new w (.cells #[Value.string ⟨d.toArray⟩,Value.string ⟨f.toArray⟩,Value.string ⟨e.toArray⟩,Value.string ⟨g.toArray⟩] 169));obtain⟨q0,q1,q2,q3⟩:=rK hx1))
     go_ret
     exact⟨rfl,hB4⟩
    |true=>
     cases x2 with
     |true=>cases hx12
     |false=>
      go_enter Tryz.func222,Tryz.ntmps222
      go_wp2_with (first|(go_at_call 215;refine(a215e _ hB3).mono ?_;rintro ex w4 ⟨v4,rfl,hb4,ho4⟩;have hB4:=hB3.trans (hb4.mono hB3.size);obtain⟨p4,cap4,rfl⟩:=gK ho4)|(go_at_call 215;refine(a215d _ hB2).mono ?_;rintro ex w3 ⟨v3,rfl,hb3,ho3⟩;obtain⟨p3,cap3,rfl⟩:=gK ho3;have hB3:=(hB2.trans (hb3.mono hB2.size)).alloc (hB2.trans (hb3.mono hB2.size)).size (.cells #[Value.slice p3 L.length cap3] 51);have hx3:=(Below.heap_alloc w3 (.cells #[Value.slice p3 L.length cap3] 51) w.heap.size (ZM (Zn.1 hx2).1 hb3.size)).trans ((hb3.block w.heap.size (Zn.1 hx2).1).trans hx2);obtain⟨s0,s1,s2,s3⟩:=rK hx3)|(go_at_call 207;refine(a207e _ hB1).mono ?_;rintro ex w2 ⟨rfl,hb2⟩;have hB2:=hB1.trans (hb2.mono hB1.size);have hx2:=(hb2.block w.heap.size (Zn.1 hx1).1).trans hx1;obtain⟨r0,r1,r2,r3⟩:=rK hx2)|(go_at_call 207;refine(a207d _ (hB0 _)).mono ?_;rintro ex w1 ⟨rfl,hb1⟩;have hB1:=(hB0 (.cells #[Value.string ⟨d.toArray⟩,Value.string ⟨f.toArray⟩,Value.string ⟨e.toArray⟩,Value.string ⟨g.toArray⟩] 169)).trans (hb1.mono (hB0 (.cells #[Value.string ⟨d.toArray⟩,Value.string ⟨f.toArray⟩,Value.string ⟨e.toArray⟩,Value.string ⟨g.toArray⟩] 169)).size);have hx1:=(hb1.block w.heap.size (by simp)).trans (World.alloc_heap_new w (.cells #[Value.string ⟨d.toArray⟩,Value.string ⟨f.toArray⟩,Value.string ⟨e.toArray⟩,Value.string ⟨g.toArray⟩] 169));obtain⟨q0,q1,q2,q3⟩:=rK hx1))
      go_ret
      exact⟨rfl,hB4⟩
end Go.Proofs
namespace Go.Ex
open Go.Lib Go.Wd Go.Wire Go.Abs
def vJ (fl:List Fld) (i:Nat) (pre:List Nat):Nat×(Nat->Txt):=
 pre.foldl (fun s k=>(s.1/yQ (fl.getD k yT),fun j=>if j=k then textF (fl.getD k yT) (s.1 % yQ (fl.getD k yT)) else s.2 j)) (i,fun _=>[])
theorem zhW (fl:List Fld) (i:Nat) (pre:List Nat) (k:Nat):vJ fl i (pre++[k])=((vJ fl i pre).1/yQ (fl.getD k yT),fun j=>if j=k then textF (fl.getD k yT) ((vJ fl i pre).1 % yQ (fl.getD k yT)) else(vJ fl i pre).2 j):=by
 unfold vJ;rw[Xq];rfl
theorem zmM (fl:List Fld) (i:Nat) (pre:List Nat):(vJ fl i pre).1<=i:=by
 have key: ∀(pre:List Nat) (s:Nat×(Nat->Txt)),(pre.foldl (fun(s:Nat×(Nat->Txt)) k=>(s.1/yQ (fl.getD k yT),fun j=>if j=k then textF (fl.getD k yT) (s.1 % yQ (fl.getD k yT)) else s.2 j)) s).1<=s.1:=by
  intro pre
  induction pre with
  |nil=>intro s;exact Zt _
  |cons a l ih=>intro s;rw[YQ];exact ZT (ih _) (Xo _ _)
 exact key pre _
theorem zhX: ∀(l:List Fld) (i:Nat),(wQ l i).1.length=l.length
 |[],_=>rfl
 |f::l,i=>by rw[wQ,Zo,zhX l,Zo]
theorem zhY (fl:List Fld) (i:Nat): ∀k,k<=fl.length->(vJ fl i ((Xp (fl.length-k) k).reverse)).1=(wQ (fl.drop (fl.length-k)) i).2/\ ∀j,j<k->(vJ fl i ((Xp (fl.length-k) k).reverse)).2 (fl.length-k+j)=(wQ (fl.drop (fl.length-k)) i).1.getD j []
 |0,_=>by simp[vJ,wQ]
 |k+1,hk=>by
  have h:=zhY fl i k (by omega);have e:Xp (fl.length-(k+1)) (k+1)=(fl.length-(k+1))::Xp (fl.length-k) k:=by
   rw[List.range'_succ];congr 2;omega
  have hlt:fl.length-(k+1)<fl.length:=by omega
  have hd:fl.drop (fl.length-(k+1))=fl.getD (fl.length-(k+1)) yT::fl.drop (fl.length-k):=by
   rw[ZE hlt];simp only[List.getD,Zg hlt,Y1];congr 2;omega
  rw[e,List.reverse_cons,zhW,hd,wQ,h.1];refine⟨rfl,fun j hj=>?_⟩;cases j with
  |zero=>simp
  |succ j=>
   simp only[];rw[if_neg (by omega)];have:=h.2 j (by omega);rw[show fl.length-k+j=fl.length-(k+1)+(j+1) by omega] at this;rw[this];simp
end Go.Ex
namespace Go.Proofs
open Go.RowKit Go.Shelf Go.Abs Go.Wd Go.Wire Go.Ex
attribute [local go_sem] Oper.semAt_some
theorem zmN (v:Value) (hv:v.oneCell'=true) (w:World):Calls Tryz.prog 112 #[v] w fun e w'=>e=.returned (.func (.func 154) #[] #[.pointer (some ⟨w.heap.size,0,none⟩)])/\w'=w.alloc (.cells #[v] 56):=by
 go_enter Tryz.func112,Tryz.ntmps112
 go_wp2
 go_ret
 exact⟨rfl,rfl⟩
structure FldAt (w:World) (fl:List Fld) (p:Option Addr) (b o:Nat) (fv:Nat->Value×Value):Prop where
 ad:0<fl.length->p=some ⟨b,o,none⟩/\b<w.heap.size
 cl: ∀k,k<fl.length->w.cell? ⟨b,o+k*2,none⟩=some (fv k).1/\w.cell? ⟨b,o+k*2+1,none⟩=some (fv k).2
 rp: ∀k,k<fl.length->yD w (zW w) (zR (fl.getD k yT)) [(fv k).1,(fv k).2]
 o1: ∀k,(fv k).1.oneCell'=true
 o2: ∀k,(fv k).2.oneCell'=true
theorem zmO {w:World} {Z:Bk->Prop} (hz: ∀b,Z b->b.2<w.heap.size) {fl:List Fld} {v:Value} (h:PRep w Z (zC 2 (fl.map zR)) v): ∃p cap b o fv,v=.slice p fl.length cap/\FldAt w fl p b o fv:=by
 by_cases h0:fl=[]
 ·subst h0
  have h':PRep w Z (.list 0 none []) v:=h;have hd: ∀p,FldAt w [] p 0 0 fun _=>(.bool true,.bool true):=fun p=>⟨fun q=>absurd q (by simp),fun k q=>absurd q (by simp),fun k q=>absurd q (by simp),fun _=>rfl,fun _=>rfl⟩
  cases h' with
  |nil=>exact⟨none,0,0,0,_,rfl,hd _⟩
  |emp _ _ a _=>exact⟨some a,0,0,0,_,rfl,hd _⟩
  |list b o cap _ _ _ _ _ _ _ _ _ _ _=>exact⟨some ⟨b,o,none⟩,cap,0,0,_,rfl,hd _⟩
 ·have hne:(fl.map zR).isEmpty=false:=by cases fl<;>simp_all
  have hpos:=Yh.2 h0;have h':PRep w Z (.list 2 none (fl.map zR)) v:=by
   unfold zC at h;rw[hne,if_neg (by simp)] at h;exact h
  generalize hrw:fl.map zR=rows at h';cases h' with
  |nil=>simp at hrw;exact absurd hrw h0
  |emp _ _ a _=>simp at hrw;exact absurd hrw h0
  |list b o cap _ _ _ val h1 h2 h3 h4 h5 h6 h7=>
   subst hrw;have hat: ∀k,k<fl.length->(fl.map zR)[k]?=some (zR (fl.getD k yT)):=fun k hk=>by
    rw[Zw,Zg hk];simp[List.getD,hk]
   have hlen:(fl.map zR).length=fl.length:=Zi ..;have hb:b<w.heap.size:=hz _ (h4 (by rw[<-Yh,hlen];exact hpos));refine⟨some ⟨b,o,none⟩,cap,b,o,fun k=>if k<fl.length then(val k 0,val k 1) else(.bool true,.bool true),by rw[hlen],fun _=>⟨rfl,hb⟩,fun k hk=>?_,fun k hk=>?_,fun k=>?_,fun k=>?_⟩
   ·simp only[if_pos hk]
    exact⟨h6 k 0 _ _ (hat k hk) rfl,by have:=h6 k 1 _ _ (hat k hk) rfl;rwa [<-YO] at this⟩
   ·simp only[if_pos hk]
    refine⟨rfl,fun j c u hc hu=>?_⟩
    match j with
    |0=>cases hc;cases hu;exact nZ hz (h7 k 0 _ _ (hat k hk) rfl)
    |1=>cases hc;cases hu;exact nZ hz (h7 k 1 _ _ (hat k hk) rfl)
    |j+2=>simp[zR] at hc
   ·by_cases hk:k<fl.length
    ·simp only[if_pos hk];exact(h7 k 0 _ _ (hat k hk) rfl).oneCell
    ·simp only[if_neg hk];rfl
   ·by_cases hk:k<fl.length
    ·simp only[if_pos hk];exact(h7 k 1 _ _ (hat k hk) rfl).oneCell
    ·simp only[if_neg hk];rfl
def fvO (fl:List Fld) (pf:Nat->Option Addr×Nat) (k:Nat):Value×Value:=(.string ⟨(fl.getD k yT).name.toArray⟩,.slice (pf k).1 (fl.getD k yT).words.length (pf k).2)
theorem zmP {w:World} {Z:Bk->Prop} {sz:Nat} {rows:List (List C)} {v:Value} (h:PRep w Z (zC sz rows) v): ∃p cap,v=.slice p rows.length cap:=by
 unfold zC at h;split at h
 ·rename_i he
  have:rows=[]:=by simpa using he
  subst this;cases h with
  |nil=>exact⟨none,0,rfl⟩
  |emp _ _ a _=>exact⟨some a,0,rfl⟩
  |list b o cap _ _ _ _ _ _ _ _ _ _ _=>exact⟨some ⟨b,o,none⟩,cap,rfl⟩
 ·cases h with
  |nil=>exact⟨none,0,rfl⟩
  |emp _ _ a _=>exact⟨some a,0,rfl⟩
  |list b o cap _ _ _ _ _ _ _ _ _ _ _=>exact⟨some ⟨b,o,none⟩,cap,rfl⟩
theorem zmQ {w:World} {fl:List Fld} {p:Option Addr} {b o:Nat} {fv:Nat->Value×Value} (h:FldAt w fl p b o fv): ∃pf,FldAt w fl p b o (fvO fl pf):=by
 have key: ∀k,∃q:Option Addr×Nat,k<fl.length->fv k=fvO fl (fun _=>q) k:=fun k=>by
  by_cases hk:k<fl.length
  ·have hr:=h.rp k hk
   have h1:=uQ (hr.2 0 (.str (fl.getD k yT).name) (fv k).1 rfl rfl);obtain⟨q,cap,h2⟩:=zmP (hr.2 1 (zC 1 ((fl.getD k yT).words.map xX)) (fv k).2 rfl rfl);rw[Zi] at h2;refine⟨(q,cap),fun _=>?_⟩;unfold fvO;exact Prod.ext h1 h2
  ·exact⟨(none,0),fun q=>absurd q hk⟩
 refine⟨fun k=>(key k).choose,?_⟩;have e: ∀k,k<fl.length->fvO fl (fun k=>(key k).choose) k=fv k:=fun k hk=>((key k).choose_spec hk).symm
 exact⟨h.ad,fun k hk=>by rw[e k hk];exact h.cl k hk,fun k hk=>by rw[e k hk];exact h.rp k hk,fun _=>rfl,fun _=>rfl⟩
attribute [local go_sem] Oper.semAt_some
def mk0 (n:Nat):Array Value:=madeCells (Value.string ⟨#[]⟩).cells n
theorem bV (n:Nat):(mk0 n).size=n:=size_madeCells _ _
theorem zhZ {n j:Nat} (h:j<n):(mk0 n)[j]?=some (tV []):=by
 have h1:j<(mk0 n).size:=by rw[bV];exact h
 rw[Yb h1];simp[mk0,madeCells,Value.cells,tV,Nat.mod_one]
theorem zmR (n:Nat) (hn:n<=1000000) (W:World):(Instr.makeSlice 51 (.int .i64 (n:Int)) (.int .i64 (n:Int))).run Tryz.prog W=.ok (.slice (some ⟨W.heap.size,0,none⟩) n n) (W.alloc (.cells (mk0 n) 9)):=by
 obtain⟨i0,hi,hz0,hz1,hz2⟩:=info_parts (show(Tryz.prog.info? 9).map (fun i=>(i.zero,i.size,i.bytes))=some (some (.string ⟨#[]⟩),1,16) by kernel_rfl);have:=run_make (P:=Tryz.prog) W 51 9 i0 (.string ⟨#[]⟩) (by kernel_rfl) hi hz0 .i64 .i64 n n (by omega) (by omega) (by rw[hz2];omega) (by omega);rw[this,hz1];simp[mk0]
theorem xE (w:World) (a b c:Obj):(((w.alloc a).alloc b).alloc c).heap[w.heap.size]?=some a/\(((w.alloc a).alloc b).alloc c).heap[w.heap.size+1]?=some b/\(((w.alloc a).alloc b).alloc c).heap[w.heap.size+1+1]?=some c:=by
 have h:(((w.alloc a).alloc b).alloc c).heap=((w.heap.push a).push b).push c:=rfl;rw[h];refine⟨?_,?_,?_⟩
 ·rw[YJ,if_neg (by simp;omega),YJ,if_neg (by simp),YJ,if_pos rfl]
 ·rw[YJ,if_neg (by simp),YJ,if_pos (by simp)]
 ·rw[YJ,if_pos (by simp)]
theorem sS {W:World} {b t:Nat} {a0:Value} (h:W.heap[b]?=some (.cells #[a0] t (0,0))):W.cell? ⟨b,0,none⟩=some a0:=by simp[World.cell?,h]
theorem oP {W:World} {b t:Nat} {a0 a1:Value} (h:W.heap[b]?=some (.cells #[a0,a1] t (0,0))):W.cell? ⟨b,0,none⟩=some a0/\W.cell? ⟨b,1,none⟩=some a1:=by constructor<;>simp[World.cell?,h]
def tK (k:Nat):Code->Option Code
 | .region i o d=>if i=k then some (.region i o d) else none
 | .seq a b=>match tK k a with|some c=>some c|none=>tK k b
 | .cond _ a b=>match tK k a with|some c=>some c|none=>tK k b
 | .block _ c=>tK k c
 | .loop c=>tK k c
 | .scope c=>tK k c
 |_=>none
def oQ (f:Func):Code:=f.body.getD .skip
theorem wW (W:World):Below W.heap.size W W.drew:=(Below.refl _ W).drew
theorem zmS (kd:Txt) (p:Option Addr) (n cap i b2 b3 b4:Nat) (cn:Int) (hn:n<=12) (z11 z12 z13 z14 z15 z16 z17 z18 z19 z20 z21 z22 z23 z24 z25 z26 z27 z28:Value) (w1:World) (q2:w1.heap[b2]?=some (.cells #[.string ⟨kd.toArray⟩,.slice p n cap] 58 (0,0))) (Q:Exit->Act->World->Prop)
  (hQ: ∀(gn gt b8:Nat) (z31 z32 z33 z34 z35 z36 z37 z38 z39 z40 z41:Value) (W:World),gn≠gt->gn≠b8->gt≠b8->w1.heap.size<=gn->w1.heap.size<=gt->w1.heap.size<=b8->W.heap[gn]?=some (.cells (mk0 n) 9 (0,0))->W.heap[gt]?=some (.cells (mk0 n) 9 (0,0))->W.heap[b8]?=some (.cells #[.string ⟨kd.toArray⟩,.slice (some ⟨gn,0,none⟩) n n,.slice (some ⟨gt,0,none⟩) n n] 53 (0,0))->Below w1.heap.size w1 W->Q .normal {tmps:= #[.agg #[.string ⟨kd.toArray⟩,.slice p n cap],.int .i64 (i:Int),.pointer (some ⟨b2,0,none⟩),.pointer (some ⟨b3,0,none⟩),.pointer (some ⟨b4,0,none⟩),.int .i64 0,.int .i64 cn,.int .i64 0,.pointer (some ⟨b8,0,none⟩),undef,undef,z11,z12,z13,z14,z15,z16,z17,z18,z19,z20,z21,z22,z23,z24,z25,z26,z27,z28,undef,undef,z31,z32,z33,z34,z35,z36,z37,z38,z39,z40,z41,undef,undef,undef,undef,undef,undef,undef,undef,undef,undef,undef,undef,undef,undef,undef,undef,undef,undef,undef,undef,undef,undef,undef,undef,undef,undef],defers:=[]} W)
  (c:Code) (hc:tK 6 (oQ Tryz.f78)=some c):c.wpIn Fence.wide 8 Tryz.prog Q {tmps:= #[.agg #[.string ⟨kd.toArray⟩,.slice p n cap],.int .i64 (i:Int),.pointer (some ⟨b2,0,none⟩),.pointer (some ⟨b3,0,none⟩),.pointer (some ⟨b4,0,none⟩),.int .i64 0,.int .i64 cn,.int .i64 0,undef,undef,undef,z11,z12,z13,z14,z15,z16,z17,z18,z19,z20,z21,z22,z23,z24,z25,z26,z27,z28,undef,undef,undef,undef,undef,undef,undef,undef,undef,undef,undef,undef,undef,undef,undef,undef,undef,undef,undef,undef,undef,undef,undef,undef,undef,undef,undef,undef,undef,undef,undef,undef,undef,undef,undef,undef,undef,undef,undef],defers:=[]} w1:=by
 have hn1:1<=8:=by decide
 have mixed:Tryz.prog.follows Departure.mixedOrders=true:=by kernel_rfl
 have hmk:=zmR n (by omega);have hB3: ∀a b c,Below w1.heap.size w1 ((((w1.alloc a).alloc b).alloc c).drew):=fun a b c=>((((Below.refl _ w1).alloc (Zt _) _).alloc (by simp) _).alloc (by simp;omega) _).drew
 obtain⟨c20,c21⟩:=oP q2;have l2:b2<w1.heap.size:=(Zn.1 q2).1;have l2b:b2<w1.heap.size+1:=Nat.lt_succ_of_lt l2;have l2c:b2<w1.heap.size+1+1:=Nat.lt_succ_of_lt l2b;have hc2:some c=tK 6 (oQ Tryz.f78):=hc.symm;have hc3:c=_:=Yv (hc2.trans (show tK 6 (oQ Tryz.f78)=some _ from rfl));subst hc3;clear hc hc2;have kp: ∀W,Below w1.heap.size w1 W->W.cell? ⟨b2,0,none⟩=some (.string ⟨kd.toArray⟩)/\W.cell? ⟨b2,1,none⟩=some (.slice p n cap):=fun W hb=>oP ((hb.block b2 l2).trans q2)
 have kp0:=kp _ (wW w1);have kp1:=fun a=>kp _ ((((Below.refl _ w1).alloc (Zt _) a)).drew)
 have kp2:=fun a b=>kp _ ((((Below.refl _ w1).alloc (Zt _) a).alloc (by simp) b).drew)
 have kp3:=fun a b c=>kp _ (hB3 a b c)
 refine wpIn_wide.2 ?_
 go_region_held3 (fun w'=>w'.cell? ⟨b2,0,none⟩=some (.string ⟨kd.toArray⟩)/\w'.cell? ⟨b2,1,none⟩=some (.slice p n cap)) (first|exact kp0|exact kp1 _|exact kp2 _ _|exact kp3 _ _ _|go_keep) (fail)
 all_goals first
  |exact hQ w1.heap.size (w1.heap.size+1) (w1.heap.size+1+1) _ _ _ _ _ _ _ _ _ _ _ _ (by omega) (by omega) (by omega) (by omega) (by omega) (by omega) (xE w1 _ _ _).1 (xE w1 _ _ _).2.1 (xE w1 _ _ _).2.2 (hB3 _ _ _)
  |exact hQ w1.heap.size (w1.heap.size+1+1) (w1.heap.size+1) _ _ _ _ _ _ _ _ _ _ _ _ (by omega) (by omega) (by omega) (by omega) (by omega) (by omega) (xE w1 _ _ _).1 (xE w1 _ _ _).2.2 (xE w1 _ _ _).2.1 (hB3 _ _ _)
  |exact hQ (w1.heap.size+1) w1.heap.size (w1.heap.size+1+1) _ _ _ _ _ _ _ _ _ _ _ _ (by omega) (by omega) (by omega) (by omega) (by omega) (by omega) (xE w1 _ _ _).2.1 (xE w1 _ _ _).1 (xE w1 _ _ _).2.2 (hB3 _ _ _)
  |exact hQ (w1.heap.size+1) (w1.heap.size+1+1) w1.heap.size _ _ _ _ _ _ _ _ _ _ _ _ (by omega) (by omega) (by omega) (by omega) (by omega) (by omega) (xE w1 _ _ _).2.1 (xE w1 _ _ _).2.2 (xE w1 _ _ _).1 (hB3 _ _ _)
  |exact hQ (w1.heap.size+1+1) w1.heap.size (w1.heap.size+1) _ _ _ _ _ _ _ _ _ _ _ _ (by omega) (by omega) (by omega) (by omega) (by omega) (by omega) (xE w1 _ _ _).2.2 (xE w1 _ _ _).1 (xE w1 _ _ _).2.1 (hB3 _ _ _)
  |exact hQ (w1.heap.size+1+1) (w1.heap.size+1) w1.heap.size _ _ _ _ _ _ _ _ _ _ _ _ (by omega) (by omega) (by omega) (by omega) (by omega) (by omega) (xE w1 _ _ _).2.2 (xE w1 _ _ _).2.1 (xE w1 _ _ _).1 (hB3 _ _ _)
end Go.Proofs
namespace Go
variable {n : Nat} {P : Program} {ops : Array Oper} {Q : Exit -> Act -> World -> Prop} {md : Region.Mode}
theorem Oper.wpIn_round {l:Nat} {o:Oper} (hd: ∀c,o.op≠.defer c) {a:Act} {w:World} {K:Act->World->Prop} (h:o.wp P a w K Q):o.wpIn (Fence.wide.inRound l) n P a w K Q:=by
 refine⟨fun _ _=>trivial,?_⟩;have e:Oper.semAt (Fence.wide.inRound l).round a.eval o=execOp a.eval o:=Oper.semAt_some l a.eval o hd;rw[e];unfold Oper.wp at h;generalize (execOp a.eval o).run P w=r at h;cases r with
 |ok x w'=>
  cases x with
  |value v=>exact h
  |skip=>exact h
  | «defer» d=>exact h
  |enter f args=>exact⟨fun q=>by simp[Fence.wide,Fence.inRound] at q,callsIn_wide.2 h⟩
  |row row args=>exact⟨fun q=>by simp[Fence.wide,Fence.inRound] at q,fun c cs _=>let ⟨v,w',r,s⟩:=h c cs;⟨v,w',r,stepsIn_wide.2 s⟩⟩
  |_=>exact h.elim
 |halt x w'=>cases x<;>exact h
theorem zmT {l i:Nat} (hL: ¬LetsOut Q) (hd: ∀(j:Nat) (o:Oper),ops[j]?=some o-> ∀c,o.op≠.defer c) {K K':Act->World->Prop} (hK: ∀a w,K a w->K' a w) {a:Act} {w:World} (h:wpOp P ops Q i K a w):wpOpIn (Fence.wide.inRound l) n P ops Q i K' a w:=by
 refine wpOpIn_mono hK ?_;unfold wpOp at h;unfold wpOpIn;split
 ·rename_i ho
  simp only[ho] at h;exact h
 ·rename_i o ho
  simp only[ho] at h;split
  ·rename_i hw
   simp only[hw,if_true] at h;exact Oper.wpIn_round (hd i o ho) (h.resolve_right fun q=>hL q.2)
  ·rename_i hw
   simp only[hw] at h;exact⟨fun _ _=>trivial,h⟩
theorem zh0 {l:Nat} (hL: ¬LetsOut Q) (hd: ∀(j:Nat) (o:Oper),ops[j]?=some o-> ∀c,o.op≠.defer c): ∀(fuel:Nat) (listed:Array Bool) (a:Act) (w:World),wpAny P md ops Q fuel listed a w->wpAnyIn (Fence.wide.inRound l) n P md ops Q fuel listed a w
 |0,_,_,_,h=>h
 |fuel+1,_,_,_,h=>⟨h.1,fun i hi=>zmT hL hd (fun a' w' h'=>zh0 hL hd fuel _ a' w' h') (h.2 i hi)⟩
def bZ (ops:Array Oper):Bool:=ops.toList.all fun o=>match o.op with| .defer _=>false|_=>true
theorem zmU (h:bZ ops=true): ∀(j:Nat) (o:Oper),ops[j]?=some o-> ∀c,o.op≠.defer c:=by
 intro j o ho c e;unfold bZ at h;rw[Zu] at h;have:=h o (by rw[<-Ys] at ho;exact ZL ho);rw[e] at this;cases this
theorem zmV {l id:Nat} {S:World->Prop} {a:Act} {w:World} (hm:P.follows .mixedOrders=true) (hd:bZ ops=true) (hL: ¬LetsOut Q)
  (h:wpAnyH P .any ops Q S ops.size (YM ops.size false) a w.drew):(Code.region id ops true).wpIn (Fence.wide.inRound l) n P Q a w:=
 wpIn_region_any hm (zh0 hL (zmU hd) _ _ _ _ (wpAny_of_held _ _ _ _ h))
end Go
namespace Go.Proofs
open Go.RowKit Go.Shelf Go.Abs Go.Wd Go.Wire Go.Ex
structure RB (b3 b8 Bx gn gt:Nat) (r:Int) (kd:Value) (n:Nat) (v1 v2:Value) (cN cT:Array Value) (W:World):Prop where
 h3:W.heap[b3]?=some (.cells #[.int .i64 r] 3 (0,0))
 h8:W.heap[b8]?=some (.cells #[kd,.slice (some ⟨gn,0,none⟩) n n,.slice (some ⟨gt,0,none⟩) n n] 53 (0,0))
 hx:W.heap[Bx]?=some (.cells #[v1,v2] 107 (0,0))
 hn:W.heap[gn]?=some (.cells cN 9 (0,0))
 ht:W.heap[gt]?=some (.cells cT 9 (0,0))
theorem RB.later {b3 b8 Bx gn gt:Nat} {r:Int} {kd:Value} {n:Nat} {v1 v2:Value} {cN cT:Array Value} {W W':World} (h:RB b3 b8 Bx gn gt r kd n v1 v2 cN cT W) (hb:Below W.heap.size W W'):RB b3 b8 Bx gn gt r kd n v1 v2 cN cT W':=
 ⟨(hb.block _ (Zn.1 h.h3).1).trans h.h3,(hb.block _ (Zn.1 h.h8).1).trans h.h8,(hb.block _ (Zn.1 h.hx).1).trans h.hx,(hb.block _ (Zn.1 h.hn).1).trans h.hn,(hb.block _ (Zn.1 h.ht).1).trans h.ht⟩
theorem RB.cells {b3 b8 Bx gn gt:Nat} {r:Int} {kd:Value} {n:Nat} {v1 v2:Value} {cN cT:Array Value} {W:World} (h:RB b3 b8 Bx gn gt r kd n v1 v2 cN cT W) {k:Nat} {u v:Value} (hu:cN[k]?=some u) (hv:cT[k]?=some v):
  W.cell? ⟨b3,0,none⟩=some (.int .i64 r)/\W.cell? ⟨b8,1,none⟩=some (.slice (some ⟨gn,0,none⟩) n n)/\W.cell? ⟨b8,2,none⟩=some (.slice (some ⟨gt,0,none⟩) n n)/\W.cell? ⟨Bx,0,none⟩=some v1/\W.cell? ⟨Bx,1,none⟩=some v2/\
   W.cell? ⟨gn,k,none⟩=some u/\W.cell? ⟨gt,k,none⟩=some v/\W.frozen? ⟨gn,k,none⟩=false/\W.frozen? ⟨gt,k,none⟩=false/\W.frozen? ⟨b3,0,none⟩=false:=by
 obtain⟨h1,h2,h3,h4,h5⟩:=h;refine⟨?_,?_,?_,?_,?_,?_,?_,?_,?_,?_⟩<;>simp[World.cell?,World.frozen?,h1,h2,h3,h4,h5,hu,hv]
def qE:Code->Option Code
 | .rangeFunc _ _ _ b=>some b
 | .seq a b=>match qE a with|some c=>some c|none=>qE b
 | .cond _ a b=>match qE a with|some c=>some c|none=>qE b
 | .block _ c=>qE c
 | .loop c=>qE c
 | .scope c=>qE c
 |_=>none
theorem zmW (w:World) (kd:Value) (cN cT0:Array Value) (u v:Value) (l n k r b3 b8 Bx gn gt n2 c2 S:Nat) (tx:Txt) (v1:ByteArray) (p2:Option Addr) (hk:k<n) (hS:0<S) (n1:gn≠gt) (m1:gn≠b3) (m2:gn≠b8) (m3:gn≠Bx) (m4:gt≠b3) (m5:gt≠b8) (m6:gt≠Bx) (y0 y1 y2 y4 y5 y6 y7 y11 y12 y13 y14 y15 y16 y17 y18 y19 y20 y21 y22 y23 y24 y25 y26 y27 y28 y31 y32 y33 y34 y35 y36 y37 y38 y39 y40 y41 y42 y43 y44 y45 y46:Value) (W:World) (fd:RB b3 b8 Bx gn gt (r:Int) kd n (.string v1) (.slice p2 n2 c2) cN cT0 W.drew) (hu:cN[k]?=some u) (hv:cT0[k]?=some v) (hBd:Below w.heap.size w W.drew)
  (k61: ∀W',Below w.heap.size w W'->Calls Tryz.prog 61 #[.agg #[.string v1,.slice p2 n2 c2]] W' fun e W''=>e=.returned (.int .i64 (S:Int))/\Below W'.heap.size W' W'')
  (k100: ∀W',Below w.heap.size w W'->Calls Tryz.prog 100 #[.agg #[.string v1,.slice p2 n2 c2],.int .i64 ((r % S:Nat):Int)] W' fun e W''=>e=.returned (.string ⟨tx.toArray⟩)/\Below W'.heap.size W' W'') (Q:Exit->Act->World->Prop) (hQp: ∀c a w,¬Q (.panic c) a w) (hQo: ¬LetsOut Q) (hQn: ∀(W5:World) (z47 z48 z49 z50 z51 z52 z53 z54 z55 z56 z57 z58 z59 z60 z61 z62:Value),RB b3 b8 Bx gn gt (r:Int) kd n (.string v1) (.slice p2 n2 c2) cN cT0 W5->Below w.heap.size w W5->Below W.heap.size W W5->Q .normal {tmps:= #[y0,y1,y2,.pointer (some ⟨b3,0,none⟩),y4,y5,y6,y7,.pointer (some ⟨b8,0,none⟩),.int .i64 (k:Int),.pointer (some ⟨Bx,0,none⟩),y11,y12,y13,y14,y15,y16,y17,y18,y19,y20,y21,y22,y23,y24,y25,y26,y27,y28,undef,undef,y31,y32,y33,y34,y35,y36,y37,y38,y39,y40,y41,y42,y43,y44,y45,y46,z47,z48,z49,z50,z51,z52,z53,z54,z55,z56,z57,z58,z59,z60,z61,z62,undef,undef,undef,undef,undef],defers:=[]} ((W5.setCell ⟨gn,k,none⟩ (.string v1)).setCell ⟨gt,k,none⟩ (.string ⟨tx.toArray⟩)))
  (bd cd:Code) (hbd:qE (oQ Tryz.f78)=some bd) (hcd:tK 10 bd=some cd):cd.wpIn (Fence.wide.inRound l) 6 Tryz.prog Q {tmps:= #[y0,y1,y2,.pointer (some ⟨b3,0,none⟩),y4,y5,y6,y7,.pointer (some ⟨b8,0,none⟩),.int .i64 (k:Int),.pointer (some ⟨Bx,0,none⟩),y11,y12,y13,y14,y15,y16,y17,y18,y19,y20,y21,y22,y23,y24,y25,y26,y27,y28,undef,undef,y31,y32,y33,y34,y35,y36,y37,y38,y39,y40,y41,y42,y43,y44,y45,y46,undef,undef,undef,undef,undef,undef,undef,undef,undef,undef,undef,undef,undef,undef,undef,undef,undef,undef,undef,undef,undef],defers:=[]} W:=by
 obtain rfl:bd=_:=Yv (hbd.symm.trans (show qE (oQ Tryz.f78)=some _ from rfl));obtain rfl:cd=_:=Yv (hcd.symm.trans (show tK 10 _=some _ from rfl));clear hbd hcd;have hki:(k:Int)<n:=by omega
 have cS: ∀W',RB b3 b8 Bx gn gt (r:Int) kd n (.string v1) (.slice p2 n2 c2) cN cT0 W'->(fun W=>W.cell? ⟨b3,0,none⟩=some (.int .i64 (r:Int))/\W.cell? ⟨b8,1,none⟩=some (.slice (some ⟨gn,0,none⟩) n n)/\W.cell? ⟨b8,2,none⟩=some (.slice (some ⟨gt,0,none⟩) n n)/\W.cell? ⟨Bx,0,none⟩=some (.string v1)/\W.cell? ⟨Bx,1,none⟩=some (.slice p2 n2 c2)) W':=fun W' h=>by
  obtain⟨e1,e2,e3,e4,e5,_⟩:=h.cells hu hv;exact⟨e1,e2,e3,e4,e5⟩
 have hS0:=cS _ fd;have hSn: ¬(S:Int)=0:=by omega
 have hSm: ¬S=0:=by omega
 have cT: ∀(W':World) (g:Nat) (x:Value),g≠b3->g≠b8->g≠Bx->(fun W=>W.cell? ⟨b3,0,none⟩=some (.int .i64 (r:Int))/\W.cell? ⟨b8,1,none⟩=some (.slice (some ⟨gn,0,none⟩) n n)/\W.cell? ⟨b8,2,none⟩=some (.slice (some ⟨gt,0,none⟩) n n)/\W.cell? ⟨Bx,0,none⟩=some (.string v1)/\W.cell? ⟨Bx,1,none⟩=some (.slice p2 n2 c2)) W'->(fun W=>W.cell? ⟨b3,0,none⟩=some (.int .i64 (r:Int))/\W.cell? ⟨b8,1,none⟩=some (.slice (some ⟨gn,0,none⟩) n n)/\W.cell? ⟨b8,2,none⟩=some (.slice (some ⟨gt,0,none⟩) n n)/\W.cell? ⟨Bx,0,none⟩=some (.string v1)/\W.cell? ⟨Bx,1,none⟩=some (.slice p2 n2 c2)) (W'.setCell ⟨g,k,none⟩ x):=fun W' g x g1 g2 g3 h=>by
  have ne: ∀b o,g≠b->(⟨g,k,none⟩:Addr)≠⟨b,o,none⟩:=fun b o hb e=>hb (by cases e;rfl)
  obtain⟨e1,e2,e3,e4,e5⟩:=h;exact⟨(World.cell?_setCell_other _ _ _ _ (ne _ _ g1)).trans e1,(World.cell?_setCell_other _ _ _ _ (ne _ _ g2)).trans e2,(World.cell?_setCell_other _ _ _ _ (ne _ _ g2)).trans e3,(World.cell?_setCell_other _ _ _ _ (ne _ _ g3)).trans e4,(World.cell?_setCell_other _ _ _ _ (ne _ _ g3)).trans e5⟩
 have hr1:(r:Int).tmod (S:Int)=((r % S:Nat):Int):=(Int.ofNat_tmod r S).symm;have hk0:(0:Int)<=k:=by omega
 refine zmV (S:=(fun W=>W.cell? ⟨b3,0,none⟩=some (.int .i64 (r:Int))/\W.cell? ⟨b8,1,none⟩=some (.slice (some ⟨gn,0,none⟩) n n)/\W.cell? ⟨b8,2,none⟩=some (.slice (some ⟨gt,0,none⟩) n n)/\W.cell? ⟨Bx,0,none⟩=some (.string v1)/\W.cell? ⟨Bx,1,none⟩=some (.slice p2 n2 c2))) (by kernel_rfl) (by kernel_rfl) hQo ?_;show wpAnyH _ _ _ _ _ 18 _ _ _;refine wpAnyH_take (i:=0) (v:=.pointer (some ⟨b8,1,none⟩)) rfl (by kernel_rfl) (by kernel_rfl) (by kernel_rfl) (fun c a w h=>absurd h (hQp _ _ _)) (.inl ⟨rfl,fun W hS=>?_⟩) hS0 ?_
 ·obtain⟨s1,s2,s3,s4,s5⟩:=hS
  go_simp
 simp only[Act.put,ZO,Z2,Z3];refine wpAnyH_take (i:=1) (v:=.slice (some ⟨gn,0,none⟩) n n) rfl (by kernel_rfl) (by kernel_rfl) (by kernel_rfl) (fun c a w h=>absurd h (hQp _ _ _)) (.inl ⟨rfl,fun W hS=>?_⟩) hS0 ?_
 ·obtain⟨s1,s2,s3,s4,s5⟩:=hS
  go_simp
 simp only[Act.put,ZO,Z2,Z3];refine wpAnyH_take (i:=2) (v:=.int .i64 (k:Int)) rfl (by kernel_rfl) (by kernel_rfl) (by kernel_rfl) (fun c a w h=>absurd h (hQp _ _ _)) (.inl ⟨rfl,fun W hS=>?_⟩) hS0 ?_
 ·obtain⟨s1,s2,s3,s4,s5⟩:=hS
  go_simp
 simp only[Act.put,ZO,Z2,Z3];refine wpAnyH_take (i:=3) (v:=.pointer (some ⟨b8,2,none⟩)) rfl (by kernel_rfl) (by kernel_rfl) (by kernel_rfl) (fun c a w h=>absurd h (hQp _ _ _)) (.inl ⟨rfl,fun W hS=>?_⟩) hS0 ?_
 ·obtain⟨s1,s2,s3,s4,s5⟩:=hS
  go_simp
 simp only[Act.put,ZO,Z2,Z3];refine wpAnyH_take (i:=4) (v:=.slice (some ⟨gt,0,none⟩) n n) rfl (by kernel_rfl) (by kernel_rfl) (by kernel_rfl) (fun c a w h=>absurd h (hQp _ _ _)) (.inl ⟨rfl,fun W hS=>?_⟩) hS0 ?_
 ·obtain⟨s1,s2,s3,s4,s5⟩:=hS
  go_simp
 simp only[Act.put,ZO,Z2,Z3];refine wpAnyH_take (i:=5) (v:=.int .i64 (k:Int)) rfl (by kernel_rfl) (by kernel_rfl) (by kernel_rfl) (fun c a w h=>absurd h (hQp _ _ _)) (.inl ⟨rfl,fun W hS=>?_⟩) hS0 ?_
 ·obtain⟨s1,s2,s3,s4,s5⟩:=hS
  go_simp
 simp only[Act.put,ZO,Z2,Z3];refine wpAnyH_take (i:=6) (v:=.pointer (some ⟨Bx,0,none⟩)) rfl (by kernel_rfl) (by kernel_rfl) (by kernel_rfl) (fun c a w h=>absurd h (hQp _ _ _)) (.inl ⟨rfl,fun W hS=>?_⟩) hS0 ?_
 ·obtain⟨s1,s2,s3,s4,s5⟩:=hS
  go_simp
 simp only[Act.put,ZO,Z2,Z3];refine wpAnyH_take (i:=7) (v:=.string v1) rfl (by kernel_rfl) (by kernel_rfl) (by kernel_rfl) (fun c a w h=>absurd h (hQp _ _ _)) (.inl ⟨rfl,fun W hS=>?_⟩) hS0 ?_
 ·obtain⟨s1,s2,s3,s4,s5⟩:=hS
  go_simp
 simp only[Act.put,ZO,Z2,Z3];refine wpAnyH_take (i:=8) (v:=.agg #[.string v1,.slice p2 n2 c2]) rfl (by kernel_rfl) (by kernel_rfl) (by kernel_rfl) (fun c a w h=>absurd h (hQp _ _ _)) (.inl ⟨rfl,fun W hS=>?_⟩) hS0 ?_
 ·obtain⟨s1,s2,s3,s4,s5⟩:=hS
  go_simp
 simp only[Act.put,ZO,Z2,Z3];refine wpAnyH_take (i:=9) (v:=.int .i64 (r:Int)) rfl (by kernel_rfl) (by kernel_rfl) (by kernel_rfl) (fun c a w h=>absurd h (hQp _ _ _)) (.inl ⟨rfl,fun W hS=>?_⟩) hS0 ?_
 ·obtain⟨s1,s2,s3,s4,s5⟩:=hS
  go_simp
 simp only[Act.put,ZO,Z2,Z3];refine wpAnyH_take (i:=10) (v:=.agg #[.string v1,.slice p2 n2 c2]) rfl (by kernel_rfl) (by kernel_rfl) (by kernel_rfl) (fun c a w h=>absurd h (hQp _ _ _)) (.inl ⟨rfl,fun W hS=>?_⟩) hS0 ?_
 ·obtain⟨s1,s2,s3,s4,s5⟩:=hS
  go_simp
 simp only[Act.put,ZO,Z2,Z3];refine wpAnyH_all (rs:=[11]) (by kernel_rfl) (by simp) fun i hi=>?_
 obtain rfl:=ZU.1 hi;refine Or.inl (?_:Oper.wp Tryz.prog _ _ _ _ _)
 go_wp2_with (go_at_call 61;refine(k61 _ hBd).mono ?_;rintro e W4 ⟨rfl,hb4⟩)
 have f4:=fd.later hb4;have hB4:=hBd.trans (hb4.mono hBd.size);have hS4:=cS _ f4;refine⟨hS4,?_⟩;refine wpAnyH_take (i:=12) (v:=.int .i64 ((r % S:Nat):Int)) rfl (by kernel_rfl) (by kernel_rfl) (by kernel_rfl) (fun c a w h=>absurd h (hQp _ _ _)) (.inl ⟨rfl,fun W hS=>?_⟩) hS4 ?_
 ·go_simp
 simp only[Act.put,ZO,Z2,Z3];refine wpAnyH_all (rs:=[13]) (by kernel_rfl) (by simp) fun i hi=>?_
 obtain rfl:=ZU.1 hi;refine Or.inl (?_:Oper.wp Tryz.prog _ _ _ _ _)
 go_wp2_with (go_at_call 100;refine(k100 _ hB4).mono ?_;rintro e W5 ⟨rfl,hb5⟩)
 have f5:=f4.later hb5;have hB5:=hB4.trans (hb5.mono hB4.size);have hS5:=cS _ f5;refine⟨hS5,?_⟩;refine wpAnyH_take (i:=14) (v:=.pointer (some ⟨gn,k,none⟩)) rfl (by kernel_rfl) (by kernel_rfl) (by kernel_rfl) (fun c a w h=>absurd h (hQp _ _ _)) (.inl ⟨rfl,fun W hS=>?_⟩) hS5 ?_
 ·go_simp
 simp only[Act.put,ZO,Z2,Z3];obtain⟨s1,s2,s3,s4,s5,s6,s7,s8,s9,s10⟩:=f5.cells hu hv;refine wpAnyH_all (rs:=[15]) (by kernel_rfl) (by simp) fun i hi=>?_
 obtain rfl:=ZU.1 hi;refine Or.inl (?_:Oper.wp Tryz.prog _ _ _ _ _)
 go_wp2_with fail
 have hS6:=cT _ gn (.string v1) m1 m2 m3 hS5;have z1:(W5.setCell ⟨gn,k,none⟩ (.string v1)).cell? ⟨gt,k,none⟩=some v:=(World.cell?_setCell_other _ _ _ _ (fun e=>n1 (by cases e;rfl))).trans s7;have z2:(W5.setCell ⟨gn,k,none⟩ (.string v1)).frozen? ⟨gt,k,none⟩=false:=(World.frozen?_setCell _ _ _ _).trans s9
 first|refine⟨hS6,?_⟩|skip
 refine wpAnyH_take (S:=(fun W=>W.cell? ⟨b3,0,none⟩=some (.int .i64 (r:Int))/\W.cell? ⟨b8,1,none⟩=some (.slice (some ⟨gn,0,none⟩) n n)/\W.cell? ⟨b8,2,none⟩=some (.slice (some ⟨gt,0,none⟩) n n)/\W.cell? ⟨Bx,0,none⟩=some (.string v1)/\W.cell? ⟨Bx,1,none⟩=some (.slice p2 n2 c2))) (i:=16) (v:=.pointer (some ⟨gt,k,none⟩)) rfl (by kernel_rfl) (by kernel_rfl) (by kernel_rfl) (fun c a w h=>absurd h (hQp _ _ _)) (.inl ⟨rfl,fun W hS=>?_⟩) hS6 ?_
 ·go_simp
 simp only[Act.put,ZO,Z2,Z3];refine wpAnyH_all (rs:=[17]) (by kernel_rfl) (by simp) fun i hi=>?_
 obtain rfl:=ZU.1 hi;refine Or.inl (?_:Oper.wp Tryz.prog _ _ _ _ _)
 go_wp2_with fail
 first|refine⟨cT _ gt _ m4 m5 m6 hS6,?_⟩|skip
 refine wpAnyH_done (S:=(fun W=>W.cell? ⟨b3,0,none⟩=some (.int .i64 (r:Int))/\W.cell? ⟨b8,1,none⟩=some (.slice (some ⟨gn,0,none⟩) n n)/\W.cell? ⟨b8,2,none⟩=some (.slice (some ⟨gt,0,none⟩) n n)/\W.cell? ⟨Bx,0,none⟩=some (.string v1)/\W.cell? ⟨Bx,1,none⟩=some (.slice p2 n2 c2))) (by kernel_rfl) ?_ _;exact hQn _ _ _ _ _ _ _ _ _ _ _ _ _ _ _ _ _ f5 hB5 ((wW W).trans (hb4.trans (hb5.mono hb4.size)))
attribute [local go_sem] Oper.semAt_some
def mF:Code->Code
 | .seq _ b=>b
 |c=>c
def KpR (N b3 gn gt:Nat) (A B:World):Prop:=A.heap.size<=B.heap.size/\ ∀j,j<N->j≠b3->j≠gn->j≠gt->B.heap[j]?=A.heap[j]?
structure RdI (fl:List Fld) (i:Nat) (w:World) (N b3 gn gt:Nat) (W0:World) (pre:List Nat) (W:World):Prop where
 box:W.heap[b3]?=some (.cells #[.int .i64 ((vJ fl i pre).1:Int)] 3 (0,0))
 ns: ∃c,W.heap[gn]?=some (.cells c 9 (0,0))/\c.size=fl.length/\ ∀j,j<fl.length->c[j]?=some (tV (if j∈pre then(fl.getD j yT).name else[]))
 ts: ∃c,W.heap[gt]?=some (.cells c 9 (0,0))/\c.size=fl.length/\ ∀j,j<fl.length->c[j]?=some (tV ((vJ fl i pre).2 j))
 kp:KpR N b3 gn gt W0 W
 bl:Below w.heap.size w W
theorem KpR.trans {N b3 gn gt:Nat} {A B C:World} (h:KpR N b3 gn gt A B) (k:KpR N b3 gn gt B C):KpR N b3 gn gt A C:=⟨ZT h.1 k.1,fun j h1 h2 h3 h4=>(k.2 j h1 h2 h3 h4).trans (h.2 j h1 h2 h3 h4)⟩
theorem KpR.grown {N b3 gn gt:Nat} {A B:World} {row:Option Nat} (hN:N<=A.heap.size) (hg:A.grownBy B row) (hr: ∀r,row=some r->N<=r):KpR N b3 gn gt A B:=
 ⟨hg.size,fun j hj _ _ _=>hg.block j (by omega) (fun e=>by have:=hr j e.symm;omega)⟩
theorem RdI.own {fl:List Fld} {i:Nat} {w W0:World} {N b3 gn gt:Nat} (h3:b3<N) (hn:gn<N) (ht:gt<N) (hw:w.heap.size<=N) (hW:N<=W0.heap.size): ∀(pre:List Nat) (A B:World) (row:Option Nat),RdI fl i w N b3 gn gt W0 pre A->A.grownBy B row->(∀r,row=some r->N<=r)->RdI fl i w N b3 gn gt W0 pre B:=by
 rintro pre A B row ⟨k1,⟨c1,k2,k3⟩,⟨c2,k4,k5⟩,k6,k7⟩ hg hr;have hsz:N<=A.heap.size:=ZT hW k6.1;have hb: ∀j,j<N->B.heap[j]?=A.heap[j]?:=fun j hj=>hg.block j (by omega) (fun e=>by have:=hr j e.symm;omega)
 exact⟨(hb _ h3).trans k1,⟨c1,(hb _ hn).trans k2,k3⟩,⟨c2,(hb _ ht).trans k4,k5⟩,k6.trans (KpR.grown hsz hg hr),k7.grown hg (ZT hw hsz) (fun r e=>by have:=hr r e;omega)⟩
theorem vO (w:World) (g i:Nat) (cur:Array Value) (t:TypeId) (fr:Nat×Nat) (v:Value) (hg:w.heap[g]?=some (.cells cur t fr)):(w.setCell ⟨g,i,none⟩ v).heap[g]?=some (.cells (cur.setIfInBounds i v) t fr):=by
 rw[setCell_eq_setRow w g i cur t fr v hg];exact setRow_heap w g cur _ t fr hg
theorem uB (w:World) (a:Addr) (v:Value) (k:Nat) (h:k≠a.block):(w.setCell a v).heap[k]?=w.heap[k]?:=Below.heap_setCell _ _ _ _ h
theorem aA {w W:World} {r:List C} {cs:List Value} (h:yD w (zW w) r cs) (hb:Below w.heap.size w W):yD W (zW W) r cs:=⟨h.1,fun j c v hc hv=>vW (h.2 j c v hc hv) hb⟩
theorem zmX (fl:List Fld) (i:Nat) (w W2 W3 W5 X W6:World) (N b3 gn gt b8 Bx:Nat) (pre:List Nat) (k:Nat) (kd:Value) (F:Fld) (S r:Nat) {pf:Option Addr} {pn pc:Nat} (cN cT:Array Value) (aF:fl.getD k yT=F) (aS:yQ F=S) (aR:(vJ fl i pre).1=r)
  (aN:cN.size=fl.length/\(∀j,j<fl.length->cN[j]?=some (tV (if j∈pre then(fl.getD j yT).name else[])))/\cT.size=fl.length/\ ∀j,j<fl.length->cT[j]?=some (tV ((vJ fl i pre).2 j)))
  (r10:KpR N b3 gn gt W2 W3) (h5:Below W3.heap.size W3 W5) (oX: ∀j,j≠gn->j≠gt->X.heap[j]?=W5.heap[j]?) (szX:X.heap.size=W5.heap.size)
  (f7:RB b3 b8 Bx gn gt (r:Int) kd fl.length (.string ⟨F.name.toArray⟩) (.slice pf pn pc) (cN.setIfInBounds k (.string ⟨F.name.toArray⟩)) (cT.setIfInBounds k (.string ⟨(textF F (r % S)).toArray⟩)) W6) (hB7:Below w.heap.size w W6) (hbd:Below X.heap.size X X.drew) (hb6:Below X.drew.heap.size X.drew W6)
  (l1:b3<N) (l2:gn<N) (l3:gt<N) (n4:b3≠gn) (n5:b3≠gt) (g3:w.heap.size<=b3) (hsz:N<=W3.heap.size) (hk:k<fl.length):
  KeepsFrom N W3 (W6.setCell ⟨b3,0,none⟩ (.int .i64 ((r/S:Nat):Int)))/\KpR N b3 gn gt W3 (W6.setCell ⟨b3,0,none⟩ (.int .i64 ((r/S:Nat):Int)))/\RdI fl i w N b3 gn gt W2 (pre++[k]) (W6.setCell ⟨b3,0,none⟩ (.int .i64 ((r/S:Nat):Int))):=by
 have h6:=hbd.trans hb6;have oY: ∀j,j≠b3->(W6.setCell ⟨b3,0,none⟩ (.int .i64 ((r/S:Nat):Int))).heap[j]?=W6.heap[j]?:=fun j hj=>uB _ _ _ _ hj
 have szY:(W6.setCell ⟨b3,0,none⟩ (.int .i64 ((r/S:Nat):Int))).heap.size=W6.heap.size:=by simp
 have s5:=h5.size;have s6:=h6.size;have all: ∀j,j<W3.heap.size->j≠b3->j≠gn->j≠gt->(W6.setCell ⟨b3,0,none⟩ (.int .i64 ((r/S:Nat):Int))).heap[j]?=W3.heap[j]?:=fun j hj h1 h2 h3=>
  (oY j h1).trans ((h6.block j (by omega)).trans ((oX j h2 h3).trans (h5.block j hj)))
 have hkp:KpR N b3 gn gt W3 (W6.setCell ⟨b3,0,none⟩ (.int .i64 ((r/S:Nat):Int))):=⟨by omega,fun j hj h1 h2 h3=>all j (by omega) h1 h2 h3⟩;refine⟨⟨by omega,fun j o hj ho _=>?_⟩,hkp,?_⟩
 ·have hlt:=(Zn.1 ho).1
  exact(all j hlt (by omega) (by omega) (by omega)).trans ho
 ·have hfs:=zhW fl i pre k
  rw[aF,aS,aR] at hfs;refine⟨?_,⟨_,(oY gn n4.symm).trans f7.hn,by simp[aN.1],fun j hj=>?_⟩,⟨_,(oY gt n5.symm).trans f7.ht,by simp[aN.2.2.1],fun j hj=>?_⟩,r10.trans hkp,hB7.setCell (p:=⟨b3,0,none⟩) g3 _⟩
  ·rw[vO W6 b3 0 _ 3 (0,0) _ f7.h3,hfs];rfl
  ·rw[Yn]
   by_cases e:k=j
   ·subst e
    rw[if_pos rfl,if_pos (by rw[aN.1];exact hk),if_pos (by simp),aF];rfl
   ·rw[if_neg e,aN.2.1 j hj]
    have:(j∈pre++[k]) ↔ j∈pre:=by simp[Ne.symm e]
    simp only[this]
  ·rw[Yn,hfs]
   by_cases e:k=j
   ·subst e
    rw[if_pos rfl,if_pos (by rw[aN.2.2.1];exact hk)];simp[tV]
   ·rw[if_neg e,aN.2.2.2 j hj]
    simp only[if_neg (Ne.symm e)]
theorem oR {fn:Func} {p u:Tmp} {ty:TypeId} (h:fn.results= #[.cell p ty,.tmp u]) (tmps:Array Value) (w:World) {g:Nat} {t:TypeId} {cs:Array Value} {fr:Nat×Nat}
  (hp:tmps.getD p undef=.pointer (some ⟨g,0,none⟩)) (hg:w.heap[g]?=some (.cells cs t fr))
  {fs:Array Field} (hu:Tryz.prog.underlying ty=some (.struct fs)) (hi:(Tryz.prog.info? ty).map (·.size)=some cs.size):
  (results fn tmps).run Tryz.prog w=.ok (.tuple #[.agg cs,tmps.getD u undef]) w:=by
 have hp':tmps[p]?.getD undef=.pointer (some ⟨g,0,none⟩):=by simpa using hp
 simp[results,h,hp',asAddr,run_loadVar_row w g t ty cs fr _ hg hu rfl hi]
theorem uC {W:World} {b t:Nat} {a0 a1 a2:Value} (h:W.heap[b]?=some (.cells #[a0,a1,a2] t (0,0))):W.cell? ⟨b,0,none⟩=some a0/\W.cell? ⟨b,1,none⟩=some a1/\W.cell? ⟨b,2,none⟩=some a2:=by refine⟨?_,?_,?_⟩<;>simp[World.cell?,h]
theorem zmY (d:Dcm) (hd:DcmR d) (hs100: ∀f∈d.flds,∀w∈f.words,∀s∈w,s.length<=100) (i:Nat) (hi:i<=4096) (cn:Int) (w:World) (hG:yI (base w)) (p:Option Addr) (cap b o:Nat) (pf:Nat->Option Addr×Nat) (hf:FldAt w d.flds p b o (fvO d.flds pf)) (b2 b3 b4 b8 gn gt:Nat) (W:World)
  (g2:w.heap.size<=b2) (g3:w.heap.size<=b3) (g4:w.heap.size<=b4) (g8:w.heap.size<=b8) (gg:w.heap.size<=gn) (gh:w.heap.size<=gt) (n1:gn≠gt) (n2:gn≠b8) (n3:gt≠b8) (n4:b3≠gn) (n5:b3≠gt) (n6:b3≠b8) (n7:b2≠b3) (n8:b2≠gn) (n9:b2≠gt) (n10:b4≠b3) (n11:b4≠gn) (n12:b4≠gt)
  (q2:W.heap[b2]?=some (.cells #[.string ⟨d.kind.toArray⟩,.slice p d.flds.length cap] 58 (0,0))) (q3:W.heap[b3]?=some (.cells #[.int .i64 (i:Int)] 3 (0,0))) (q4:W.heap[b4]?=some (.cells #[.string ⟨#[]⟩,.slice none 0 0,.slice none 0 0] 53 (0,0)))
  (q8:W.heap[b8]?=some (.cells #[.string ⟨d.kind.toArray⟩,.slice (some ⟨gn,0,none⟩) d.flds.length d.flds.length,.slice (some ⟨gt,0,none⟩) d.flds.length d.flds.length] 53 (0,0)))
  (qn:W.heap[gn]?=some (.cells (mk0 d.flds.length) 9 (0,0))) (qt:W.heap[gt]?=some (.cells (mk0 d.flds.length) 9 (0,0))) (hB:Below w.heap.size w W) (z11 z12 z13 z14 z15 z16 z17 z18 z19 z20 z21 z22 z23 z24 z25 z26 z27 z28 z31 z32 z33 z34 z35 z36 z37 z38 z39 z40 z41:Value):
  Code.wpIn Fence.wide 8 Tryz.prog (mF (mF (mF (mF (mF (oQ Tryz.f78)))))) (bodyPostM Fence.wide 8 Tryz.prog Tryz.f78 (fun e w'=> ∃gn gt,e=.returned (.tuple #[.agg #[.string ⟨d.kind.toArray⟩,.slice (some ⟨gn,0,none⟩) d.flds.length d.flds.length,.slice (some ⟨gt,0,none⟩) d.flds.length d.flds.length],.int .i64 0])/\Below w.heap.size w w'/\
   w.heap.size<=gn/\w.heap.size<=gt/\(∃c,w'.heap[gn]?=some (.cells c 9 (0,0)))/\(∃c,w'.heap[gt]?=some (.cells c 9 (0,0)))/\(∀j,j<d.flds.length->w'.cell? ⟨gn,j,none⟩=some (tV (d.flds.getD j yT).name)/\w'.cell? ⟨gt,j,none⟩=some (tV ((wQ d.flds i).1.getD j [])))))
   {tmps:= #[.agg #[.string ⟨d.kind.toArray⟩,.slice p d.flds.length cap],.int .i64 (i:Int),.pointer (some ⟨b2,0,none⟩),.pointer (some ⟨b3,0,none⟩),.pointer (some ⟨b4,0,none⟩),.int .i64 0,.int .i64 cn,.int .i64 0,.pointer (some ⟨b8,0,none⟩),undef,undef,z11,z12,z13,z14,z15,z16,z17,z18,z19,z20,z21,z22,z23,z24,z25,z26,z27,z28,undef,undef,z31,z32,z33,z34,z35,z36,z37,z38,z39,z40,z41,undef,undef,undef,undef,undef,undef,undef,undef,undef,undef,undef,undef,undef,undef,undef,undef,undef,undef,undef,undef,undef,undef,undef,undef,undef,undef],defers:=[]} W:=by
 have hn1:1<=8:=by decide
 have hn12:=hd.fs;have hl2:b2<W.heap.size:=(Zn.1 q2).1;have hl3:b3<W.heap.size:=(Zn.1 q3).1;have hl4:b4<W.heap.size:=(Zn.1 q4).1;have hl8:b8<W.heap.size:=(Zn.1 q8).1;have hln:gn<W.heap.size:=(Zn.1 qn).1;have hlt:gt<W.heap.size:=(Zn.1 qt).1;obtain⟨c20,c21⟩:=oP q2;obtain⟨Q,hQ⟩: ∃Q,bodyPostM Fence.wide 8 Tryz.prog Tryz.f78 (fun e w'=> ∃gn gt,e=.returned (.tuple #[.agg #[.string ⟨d.kind.toArray⟩,.slice (some ⟨gn,0,none⟩) d.flds.length d.flds.length,.slice (some ⟨gt,0,none⟩) d.flds.length d.flds.length],.int .i64 0])/\Below w.heap.size w w'/\
   w.heap.size<=gn/\w.heap.size<=gt/\(∃c,w'.heap[gn]?=some (.cells c 9 (0,0)))/\(∃c,w'.heap[gt]?=some (.cells c 9 (0,0)))/\(∀j,j<d.flds.length->w'.cell? ⟨gn,j,none⟩=some (tV (d.flds.getD j yT).name)/\w'.cell? ⟨gt,j,none⟩=some (tV ((wQ d.flds i).1.getD j []))))=Q:=⟨_,rfl⟩
 rw[hQ];dsimp only[mF,oQ,Tryz.f78,Option.getD];have h112:=fun W'=>zmN (.slice p d.flds.length cap) rfl W'
 gi_wp2_with (refine⟨trivial,?_⟩;gi_at_call 112;refine(callsIn_wide.2 (h112 _)).mono ?_;rintro e W2 ⟨rfl,rfl⟩)
 obtain⟨W2,hW2⟩: ∃W2,W.alloc (.cells #[.slice p d.flds.length cap] 56)=W2:=⟨_,rfl⟩;have hN:W2.heap.size=W.heap.size+1:=by rw[<-hW2,World.size_alloc]
 have old: ∀j,j<W.heap.size->W2.heap[j]?=W.heap[j]?:=fun j hj=>by rw[<-hW2];exact Below.heap_alloc _ _ _ hj
 have hbs:W2.heap[W.heap.size]?=some (.cells #[.slice p d.flds.length cap] 56 (0,0)):=by rw[<-hW2];exact World.alloc_heap_new _ _
 have hB2:Below w.heap.size w W2:=by rw[<-hW2];exact hB.alloc hB.size _
 rw[hW2];have hwW:=hB.size;refine zhj (α:=Ix d.flds.length) rfl (by decide) (gf:=154) (lb:= #[.pointer (some ⟨W.heap.size,0,none⟩)]) rfl trivial (enters_of Tryz.func154 (by kernel_rfl) rfl)
  (zl5 7 (by decide) W.heap.size d.flds.length cap (by omega) p b o (fvO d.flds pf) hf.o1 hf.o2 (fun h=>(hf.ad h).1) W2 (KpR W2.heap.size b3 gn gt) ⟨Zt _,fun _ _ _ _ _=>rfl⟩ (fun _ _ _=>KpR.trans) ?hbx ?hcl)
  (fun _ _ _=>KpR.trans) (fun A B row hs hg hr=>KpR.grown hs hg hr) (fun _=>rfl) (fun pre=>RdI d.flds i w W2.heap.size b3 gn gt W2 (pre.map fun x=>x.1)) (fun pre A B row hI hg hr=>RdI.own (by omega) (by omega) (by omega) hB2.size (Zt _) _ A B row hI hg fun r e=>(hr r e).1) ?h0
  (fun x a' W'=> ∃Bx,W2.heap.size<=Bx/\W'.heap[Bx]?=some (.cells #[(fvO d.flds pf x.1).1,(fvO d.flds pf x.1).2] 107 (0,0))/\a'={tmps:= #[.agg #[.string ⟨d.kind.toArray⟩,.slice p d.flds.length cap],.int .i64 (i:Int),.pointer (some ⟨b2,0,none⟩),.pointer (some ⟨b3,0,none⟩),.pointer (some ⟨b4,0,none⟩),.int .i64 0,.int .i64 cn,.int .i64 0,.pointer (some ⟨b8,0,none⟩),.int .i64 (x.1:Int),.pointer (some ⟨Bx,0,none⟩),z11,z12,z13,z14,z15,z16,z17,z18,z19,z20,z21,z22,z23,z24,z25,z26,z27,z28,undef,undef,z31,z32,z33,z34,z35,z36,z37,z38,z39,z40,z41,.pointer (some ⟨b2,1,none⟩),.slice p d.flds.length cap,.func (.func 154) #[] #[.pointer (some ⟨W.heap.size,0,none⟩)],.int .i64 (x.1:Int),.agg #[(fvO d.flds pf x.1).1,(fvO d.flds pf x.1).2],undef,undef,undef,undef,undef,undef,undef,undef,undef,undef,undef,undef,undef,undef,undef,undef,undef,undef,undef,undef,undef],defers:=[]}) ?hA ?assign ?body ?done
 case hbx=>
  intro A hA;have:=(hA.2 W.heap.size (by omega) (by omega) (by omega) (by omega)).trans hbs;exact sS this
 case hcl=>
  intro A hA k hk;obtain⟨_,hb⟩:=hf.ad (by omega);have hbl:A.heap[b]?=w.heap[b]?:=(hA.2 b (by omega) (by omega) (by omega) (by omega)).trans (hB2.block b hb);obtain⟨k1,k2⟩:=hf.cl k hk;exact⟨(World.cell?_of_block (w:=w) (a:=⟨b,o+k*2,none⟩) hbl).trans k1,(World.cell?_of_block (w:=w) (a:=⟨b,o+k*2+1,none⟩) hbl).trans k2⟩
 case h0=>
  exact⟨(old b3 hl3).trans q3,⟨_,(old gn hln).trans qn,bV _,fun j hj=>by rw[zhZ hj];simp⟩,⟨_,(old gt hlt).trans qt,bV _,fun j hj=>by rw[zhZ hj];simp[vJ]⟩,⟨Zt _,fun _ _ _ _ _=>rfl⟩,hB2⟩
 case hA=>
  rintro x a' W' l ob ob' ⟨Bx,h1,h2,rfl⟩ hl ho hc;refine⟨Bx,h1,?_,rfl⟩;rw[World.putObj_heap_other (fun e=>?_)]
  ·exact h2
  ·subst e;rw[h2] at ho;cases ho;cases hc
 case assign=>
  intro l pre x W' K hI hsz hK;simp only[bI,fvO]
  gi_wp2
  have hb:=(Below.refl W'.heap.size W').alloc (Zt _) (.cells #[(fvO d.flds pf x.1).1,(fvO d.flds pf x.1).2] 107);have hg:=nY hb;exact hK _ _ ⟨W'.heap.size,hsz,World.alloc_heap_new W' _,rfl⟩ (RdI.own (by omega) (by omega) (by omega) hB2.size (Zt _) _ _ _ none hI hg (fun r e=>by cases e)) (KeepsFrom.of_grownBy hg (fun r e=>by cases e)) (KpR.grown hsz hg (fun r e=>by cases e)) (ZT hsz hg.size)
 case body=>
  rintro l pre x a' W3 ⟨Bx,hBx,hbx,rfl⟩ hI hlen hsz3;obtain⟨r3,⟨cN,r4,r5,r6⟩,⟨cT,r7,r8,r9⟩,r10,r11⟩:=hI;have hxk:=x.2;obtain⟨r,hr⟩: ∃r,(vJ d.flds i (pre.map fun x=>x.1)).1=r:=⟨_,rfl⟩;have hri:r<=4096:=by rw[<-hr];exact ZT (zmM _ _ _) hi
  have hfm:d.flds.getD x.1 yT∈d.flds:=by simp[List.getD,hxk]
  have hfR:=hd.fld hfm;have hsp:=zhi hfR;have hsl:=bF hfR;have hrp:=hf.rp x.1 hxk;have k61: ∀W',Below w.heap.size w W'->Calls Tryz.prog 61 #[.agg #[(fvO d.flds pf x.1).1,(fvO d.flds pf x.1).2]] W' fun e W''=>e=.returned (.int .i64 ((yQ (d.flds.getD x.1 yT):Nat):Int))/\Below W'.heap.size W' W'':=fun W' hb=>(c61 _ hfR).intC (hG.later (xM hb)) (Z:=zW W') (fun _ h=>h) (iZ (aA hrp hb) (xS _ _))
  have k100: ∀q:Nat,q<=1000000-> ∀W',Below w.heap.size w W'->Calls Tryz.prog 100 #[.agg #[(fvO d.flds pf x.1).1,(fvO d.flds pf x.1).2],.int .i64 (q:Int)] W' fun e W''=>e=.returned (.string ⟨(textF (d.flds.getD x.1 yT) q).toArray⟩)/\Below W'.heap.size W' W'':=fun q hq W' hb=>(zmz _ hfR (hs100 _ hfm) q hq).strC (hG.later (xM hb)) (Z:=zW W') (fun _ h=>h) (iZ (aA hrp hb) (vH (.int _ _) (xS _ _)))
  rw[hr] at r3;have q8':=(r10.2 b8 (by omega) (by omega) (by omega) (by omega)).trans ((old b8 hl8).trans q8);have f3:RB b3 b8 Bx gn gt (r:Int) _ d.flds.length _ _ cN cT W3:=⟨r3,q8',hbx,r4,r7⟩;have fd:=f3.later (wW W3);have hBd:=r11.trans ((wW W3).mono r11.size);have hu:=r6 x.1 hxk;have hv:=r9 x.1 hxk;have hw1:1<=8-1-1:=by decide
  have mixed:Tryz.prog.follows Departure.mixedOrders=true:=by kernel_rfl
  simp only[fvO] at fd k61 k100⊢;generalize hF:d.flds.getD x.1 yT=F at*
  generalize hS:yQ F=S at*
  have aF:Aside (d.flds.getD x.1 yT=F):=hF;have aS:Aside (yQ F=S):=hS;have aR:Aside ((vJ d.flds i (pre.map fun x=>x.1)).1=r):=hr;have aN:Aside (cN.size=d.flds.length/\(∀j,j<d.flds.length->cN[j]?=some (tV (if j∈pre.map (fun x=>x.1) then(d.flds.getD j yT).name else[])))/\cT.size=d.flds.length/\ ∀j,j<d.flds.length->cT[j]?=some (tV ((vJ d.flds i (pre.map fun x=>x.1)).2 j))):=⟨r5,r6,r8,r9⟩;have hS0: ¬(S:Int)=0:=by omega
  have hr1:(r:Int).tmod (S:Int)=((r % S:Nat):Int):=(Int.ofNat_tmod r S).symm;have hr2:(r:Int).tdiv (S:Int)=((r/S:Nat):Int):=(Int.ofNat_tdiv r S).symm;have hq:=k100 (r % S) (by have:=Nat.mod_le r S;omega);have hki:(x.1:Int)<d.flds.length:=by omega
  obtain⟨e1,e2,e3,e4,e5,e6,e7,e8,e9,e10⟩:=f3.cells hu hv;obtain⟨y1,y2,y3,y4,y5,y6,y7,y8,y9,y10⟩:=fd.cells hu hv;have m2:=n2.symm;have m3:=n3.symm;have m4:=n4.symm;have m5:=n5.symm;have m6:=n6.symm;have m1:=n1.symm;have x1:gn≠Bx:=by omega
  have x2:gt≠Bx:=by omega
  have x3:=x1.symm;have x4:=x2.symm;clear hF hS hr r3 q8' hbx r4 r7
  gi_wp2
  refine zmW w _ cN cT _ _ l d.flds.length x.1 r b3 b8 Bx gn gt _ _ S _ _ _ hxk (by omega) n1 m4 n2 x1 m5 n3 x2 _ _ _ _ _ _ _ _ _ _ _ _ _ _ _ _ _ _ _ _ _ _ _ _ _ _ _ _ _ _ _ _ _ _ _ _ _ _ _ _ _ W3 fd hu hv hBd k61 hq _ (fun c a w h=>?hp) ?ho ?hn _ _ rfl rfl
  case hp=>exact h
  case ho=>rintro⟨a,W',h⟩;exact h
  case hn=>
   intro W5 _ _ _ _ _ _ _ _ _ _ _ _ _ _ _ _ f5 hB5 hs5;obtain⟨X,hX⟩: ∃X,(W5.setCell ⟨gn,x.1,none⟩ (.string ⟨F.name.toArray⟩)).setCell ⟨gt,x.1,none⟩ (.string ⟨(textF F (r % S)).toArray⟩)=X:=⟨_,rfl⟩;have gX1:=vO W5 gn x.1 cN 9 (0,0) (.string ⟨F.name.toArray⟩) f5.hn;have gX2:=vO (W5.setCell ⟨gn,x.1,none⟩ (.string ⟨F.name.toArray⟩)) gt x.1 cT 9 (0,0) (.string ⟨(textF F (r % S)).toArray⟩) ((uB _ _ _ _ m1).trans f5.ht);have oX: ∀j,j≠gn->j≠gt->X.heap[j]?=W5.heap[j]?:=fun j h1 h2=>by rw[<-hX];exact(uB _ _ _ _ h2).trans (uB _ _ _ _ h1)
   have f6:RB b3 b8 Bx gn gt (r:Int) (.string ⟨d.kind.toArray⟩) d.flds.length (.string ⟨F.name.toArray⟩) (.slice (pf x.1).1 F.words.length (pf x.1).2) (cN.setIfInBounds x.1 (.string ⟨F.name.toArray⟩)) (cT.setIfInBounds x.1 (.string ⟨(textF F (r % S)).toArray⟩)) X:=
    ⟨(oX _ n4 n5).trans f5.h3,(oX _ m2 m3).trans f5.h8,(oX _ x3 x4).trans f5.hx,by rw[<-hX];exact(uB _ _ _ _ n1).trans gX1,by rw[<-hX];exact gX2⟩
   have szX:X.heap.size=W5.heap.size:=by rw[<-hX];simp
   have hBX:Below w.heap.size w X:=by rw[<-hX];exact(hB5.setCell (p:=⟨gn,x.1,none⟩) gg _).setCell (p:=⟨gt,x.1,none⟩) gh _
   have fx:=f6.later (wW X);have hBXd:=hBX.trans ((wW X).mono hBX.size);have hu6:(cN.setIfInBounds x.1 (Value.string ⟨F.name.toArray⟩))[x.1]?=some (.string ⟨F.name.toArray⟩):=by rw[Array.getElem?_setIfInBounds_self_of_lt (by omega)]
   have hv6:(cT.setIfInBounds x.1 (Value.string ⟨(textF F (r % S)).toArray⟩))[x.1]?=some (.string ⟨(textF F (r % S)).toArray⟩):=by rw[Array.getElem?_setIfInBounds_self_of_lt (by omega)]
   obtain⟨a1,a2,a3,a4,a5,a6,a7,a8,a9,a10⟩:=f6.cells hu6 hv6;obtain⟨b1',b2',b3',b4',b5',b6',b7',b8',b9',b10'⟩:=fx.cells hu6 hv6;rw[hX];clear hX gX1 gX2;dsimp only
   gi_wp2
   gi_region_with_o (refine⟨trivial,?_⟩;gi_at_call 61;refine(CallsIn.inRound l (callsIn_wide.2 (k61 _ hBXd))).mono ?_;rintro e W6 ⟨rfl,hb6⟩;have f7:=fx.later hb6;have hB7:=hBXd.trans (hb6.mono hBXd.size);obtain⟨t1,t2,t3,t4,t5,t6,t7,t8,t9,t10⟩:=f7.cells hu6 hv6)
   all_goals
    have hqd:wrap64 ((r:Int)/(S:Int))=((r/S:Nat):Int):=by
     rw[<-Int.natCast_ediv];have hd0:=Xo r S;generalize r/S=dd at hd0;unfold wrap64;omega
    rw[hqd];have hh:KeepsFrom W2.heap.size W3 (W6.setCell ⟨b3,0,none⟩ (.int .i64 ((r/S:Nat):Int)))/\KpR W2.heap.size b3 gn gt W3 (W6.setCell ⟨b3,0,none⟩ (.int .i64 ((r/S:Nat):Int)))/\RdI d.flds i w W2.heap.size b3 gn gt W2 ((pre++[x]).map fun x=>x.1) (W6.setCell ⟨b3,0,none⟩ (.int .i64 ((r/S:Nat):Int))):=by
     rw[ZW];exact zmX d.flds i w W2 W3 W5 X W6 W2.heap.size b3 gn gt b8 Bx (pre.map fun x=>x.1) x.1 _ F S r cN cT aF.out aS.out aR.out aN.out r10 hs5 oX szX f7 hB7 (wW X) hb6 (by omega) (by omega) (by omega) n4 n5 g3 hsz3 hxk
    exact hh
 case done=>
  rintro D xs W3 hD hxs hI hK;obtain⟨r3,⟨cN,r4,r5,r6⟩,⟨cT,r7,r8,r9⟩,r10,r11⟩:=hI;have k8:=(r10.2 b8 (by omega) (by omega) (by omega) (by omega)).trans ((old b8 hl8).trans q8);have k4:=(r10.2 b4 (by omega) (by omega) (by omega) (by omega)).trans ((old b4 hl4).trans q4);obtain⟨e1,e2,e3⟩:=uC k8;obtain⟨e4,e5,e6⟩:=uC k4;have e7: ∀j,W3.frozen? ⟨b4,j,none⟩=false:=fun j=>by simp[World.frozen?,k4]
  have e8:=e7 0;have e9:=e7 1;have e10:=e7 2;refine(‹∀(a:Act) (w:World),Code.wpIn Fence.wide 8 Tryz.prog _ _ a w->_›) _ _ ?_
  gi_wp2
  rw[<-hQ];have w1':=vO W3 b4 0 _ 53 (0,0) (.string ⟨d.kind.toArray⟩) k4;have w2':=vO _ b4 1 _ 53 (0,0) (.slice (some ⟨gn,0,none⟩) d.flds.length d.flds.length) w1';have w3':=vO _ b4 2 _ 53 (0,0) (.slice (some ⟨gt,0,none⟩) d.flds.length d.flds.length) w2';have oY: ∀j,j≠b4->(((W3.setCell ⟨b4,0,none⟩ (.string ⟨d.kind.toArray⟩)).setCell ⟨b4,1,none⟩ (.slice (some ⟨gn,0,none⟩) d.flds.length d.flds.length)).setCell ⟨b4,2,none⟩ (.slice (some ⟨gt,0,none⟩) d.flds.length d.flds.length)).heap[j]?=W3.heap[j]?:=fun j hj=>(uB _ _ _ _ hj).trans ((uB _ _ _ _ hj).trans (uB _ _ _ _ hj))
  have hBY:Below w.heap.size w (((W3.setCell ⟨b4,0,none⟩ (.string ⟨d.kind.toArray⟩)).setCell ⟨b4,1,none⟩ (.slice (some ⟨gn,0,none⟩) d.flds.length d.flds.length)).setCell ⟨b4,2,none⟩ (.slice (some ⟨gt,0,none⟩) d.flds.length d.flds.length)):=((r11.setCell (p:=⟨b4,0,none⟩) g4 _).setCell (p:=⟨b4,1,none⟩) g4 _).setCell (p:=⟨b4,2,none⟩) g4 _;have hKY:=(oY D (by omega)).trans hK;generalize (((W3.setCell ⟨b4,0,none⟩ (.string ⟨d.kind.toArray⟩)).setCell ⟨b4,1,none⟩ (.slice (some ⟨gn,0,none⟩) d.flds.length d.flds.length)).setCell ⟨b4,2,none⟩ (.slice (some ⟨gt,0,none⟩) d.flds.length d.flds.length))=Y at w3' oY hBY hKY⊢;have hall:=zhY d.flds i d.flds.length (Zt _);rw[Nat.sub_self,List.drop_zero,<-List.range_eq_range'] at hall;have hxs':(xs.map fun x=>x.1)=(List.range d.flds.length).reverse:=hxs;rw[hxs'] at r6 r9;refine⟨by simp,.inl ⟨_,_,rfl,run_takeDeferred hKY,?_⟩⟩;refine⟨_,oR rfl _ _ rfl ((World.putObj_heap_other (by omega)).trans w3') Tryz.underlying53 (by kernel_rfl),gn,gt,rfl,hBY.grown (grownBy_putObj' _ D _) hBY.size (fun k e=>by cases e;omega),gg,gh,⟨cN,(World.putObj_heap_other (by omega)).trans ((oY gn n11.symm).trans r4)⟩,⟨cT,(World.putObj_heap_other (by omega)).trans ((oY gt n12.symm).trans r7)⟩,fun j hj=>?_⟩;have hn':(Y.putObj D (.deferred none)).heap[gn]?=some (.cells cN 9 (0,0)):=(World.putObj_heap_other (by omega)).trans ((oY gn n11.symm).trans r4);have ht':(Y.putObj D (.deferred none)).heap[gt]?=some (.cells cT 9 (0,0)):=(World.putObj_heap_other (by omega)).trans ((oY gt n12.symm).trans r7);have s1:=r6 j hj;have s2:=r9 j hj;rw[if_pos (by simp[hj])] at s1;have hq:=hall.2 j hj;rw[ZV] at hq;rw[hq] at s2;constructor
  ·simp only[World.cell?,hn'];simpa using s1
  ·simp only[World.cell?,ht'];simpa using s2
end Go.Proofs
namespace Go.Ex
open Go.Lib Go.Wd Go.Wire Go.Abs
def rdE (d:Dcm) (i:Int):Int:=if (cntD d).2≠0 then(cntD d).2 else if i<0\/i>=(cntD d).1 then 4 else 0
def zmZ:Pln:=⟨[],[],[]⟩
def rdR (d:Dcm) (i:Int):Pln:=if rdE d i=0 then rdD d i.toNat else zmZ
theorem zm0 {s:Txt} (h:vM s=true):s.length<=20:=by
 unfold vM at h;rw[Zp,Zp,decide_eq_true_eq,decide_eq_true_eq] at h;exact h.2.1
theorem zm1 {d:Dcm} (hd:DcmS d) (h:docE d=0): ∀f∈d.flds,∀w∈f.words,∀s∈w,s.length<=20:=by
 intro f hf w hw s hs;obtain⟨k,hk,rfl⟩:=YW hf;have hr:=oM hd h;obtain⟨_,_,_,h4⟩:=bE hk (hd.fl _ hf) (hr.fe k hk);exact zm0 (Zu.1 (bC (h4 w hw)).2.2.1 s hs)
theorem kC {d:Dcm} (h:(cntD d).2=0):docE d=0:=by
 unfold cntD at h;split at h
 ·assumption
 ·rename_i h2;exact absurd h h2
end Go.Ex
namespace Go.Proofs
open Go.RowKit Go.Shelf Go.Abs Go.Wd Go.Wire Go.Ex
attribute [local go_sem] Oper.semAt_some
theorem aB {W:World} {b4:Nat} {a0 a1 a2 v0 v1 v2:Value} (q:W.heap[b4]?=some (.cells #[a0,a1,a2] 53 (0,0))):(((W.setCell ⟨b4,0,none⟩ v0).setCell ⟨b4,1,none⟩ v1).setCell ⟨b4,2,none⟩ v2).heap[b4]?=some (.cells #[v0,v1,v2] 53 (0,0)):=by
 have w1':=vO W b4 0 _ 53 (0,0) v0 q;have w2':=vO _ b4 1 _ 53 (0,0) v1 w1';exact vO _ b4 2 _ 53 (0,0) v2 w2'
theorem zm2 (d:Dcm) (hd:DcmS d) (i:Int) (w:World) (hG:yI (base w)) (p:Option Addr) (cap b o:Nat) (fv:Nat->Value×Value) (hf:FldAt w d.flds p b o fv)
  (h77: ∀W,Below w.heap.size w W->Calls Tryz.prog 77 #[.agg #[.string ⟨d.kind.toArray⟩,.slice p d.flds.length cap]] W fun e W'=>e=.returned (.tuple #[.int .i64 (cntD d).1,.int .i64 (cntD d).2])/\Below W.heap.size W W'):
  Calls Tryz.prog 78 #[.agg #[.string ⟨d.kind.toArray⟩,.slice p d.flds.length cap],.int .i64 i] w fun e w'=>(rdE d i≠0/\e=.returned (.tuple #[.agg #[.string ⟨#[]⟩,.slice none 0 0,.slice none 0 0],.int .i64 (rdE d i)])/\Below w.heap.size w w')\/
   (rdE d i=0/\ ∃gn gt,e=.returned (.tuple #[.agg #[.string ⟨d.kind.toArray⟩,.slice (some ⟨gn,0,none⟩) d.flds.length d.flds.length,.slice (some ⟨gt,0,none⟩) d.flds.length d.flds.length],.int .i64 0])/\Below w.heap.size w w'/\
    w.heap.size<=gn/\w.heap.size<=gt/\(∃c,w'.heap[gn]?=some (.cells c 9 (0,0)))/\(∃c,w'.heap[gt]?=some (.cells c 9 (0,0)))/\(∀j,j<d.flds.length->w'.cell? ⟨gn,j,none⟩=some (tV (d.flds.getD j yT).name)/\w'.cell? ⟨gt,j,none⟩=some (tV ((wQ d.flds i.toNat).1.getD j [])))):=by
 refine(callsIn_wide (n:=8)).1 ?_;have hn1:1<=8:=by decide
 have hB0: ∀a b c,Below w.heap.size w (((w.alloc a).alloc b).alloc c):=fun a b c=>(((Below.refl _ w).alloc (Zt _) _).alloc (by simp) _).alloc (by simp;omega) _
 have hcr:=iX (d:=d);obtain⟨cn,hcn⟩: ∃cn,(cntD d).1=cn:=⟨_,rfl⟩;obtain⟨ce,hce⟩: ∃ce,(cntD d).2=ce:=⟨_,rfl⟩;rw[hcn] at hcr;rw[hcn,hce] at h77;have hE:rdE d i=if ce≠0 then ce else if i<0\/i>=cn then 4 else 0:=by unfold rdE;rw[hcn,hce]
 by_cases h0:ce=0
 ·subst h0
  rw[if_neg (by simp)] at hE;by_cases hi0:i<0
  ·rw[if_pos (.inl hi0)] at hE
   rw[hE];refine callsIn_of_wp_marks Tryz.func78 rfl trivial ?_;simp only[Tryz.ntmps78,Yu,Zo,ZG,Zc,YV,YB,YA,YK,YC,Ya,ZS]
   gi_wp2_with (refine⟨trivial,?_⟩;gi_at_call 77;refine(callsIn_wide.2 (h77 _ (hB0 _ _ _))).mono ?_;rintro e w1 ⟨rfl,hb1⟩;have q2:=(hb1.block w.heap.size (by simp only[World.size_alloc];omega)).trans (xE w _ _ _).1;have q3:=(hb1.block (w.heap.size+1) (by simp only[World.size_alloc];omega)).trans (xE w _ _ _).2.1;have q4:=(hb1.block (w.heap.size+1+1) (by simp only[World.size_alloc];omega)).trans (xE w _ _ _).2.2;obtain⟨c20,c21⟩:=oP q2;have c30:=sS q3;obtain⟨c40,c41,c42⟩:=uC q4;have e7: ∀j,w1.frozen? ⟨w.heap.size+1+1,j,none⟩=false:=(fun j=>by simp[World.frozen?,q4]);have e8:=e7 0;have e9:=e7 1;have e10:=e7 2;have hB1:=(hB0 (.cells #[.string ⟨d.kind.toArray⟩,.slice p d.flds.length cap] 58) (.cells #[.int .i64 i] 3) (.cells #[.string ⟨#[]⟩,.slice none 0 0,.slice none 0 0] 53)).trans (hb1.mono (hB0 _ _ _).size))
   refine⟨_,oR rfl _ _ rfl (aB q4) Tryz.underlying53 (by kernel_rfl),.inl ⟨by decide,rfl,((hB1.setCell (p:=⟨w.heap.size+1+1,0,none⟩) (show w.heap.size<=w.heap.size+1+1 by omega) _).setCell (p:=⟨w.heap.size+1+1,1,none⟩) (show w.heap.size<=w.heap.size+1+1 by omega) _).setCell (p:=⟨w.heap.size+1+1,2,none⟩) (show w.heap.size<=w.heap.size+1+1 by omega) _⟩⟩
  by_cases hi1:i>=cn
  ·rw[if_pos (.inr hi1)] at hE
   rw[hE];refine callsIn_of_wp_marks Tryz.func78 rfl trivial ?_;simp only[Tryz.ntmps78,Yu,Zo,ZG,Zc,YV,YB,YA,YK,YC,Ya,ZS]
   gi_wp2_with (refine⟨trivial,?_⟩;gi_at_call 77;refine(callsIn_wide.2 (h77 _ (hB0 _ _ _))).mono ?_;rintro e w1 ⟨rfl,hb1⟩;have q2:=(hb1.block w.heap.size (by simp only[World.size_alloc];omega)).trans (xE w _ _ _).1;have q3:=(hb1.block (w.heap.size+1) (by simp only[World.size_alloc];omega)).trans (xE w _ _ _).2.1;have q4:=(hb1.block (w.heap.size+1+1) (by simp only[World.size_alloc];omega)).trans (xE w _ _ _).2.2;obtain⟨c20,c21⟩:=oP q2;have c30:=sS q3;obtain⟨c40,c41,c42⟩:=uC q4;have e7: ∀j,w1.frozen? ⟨w.heap.size+1+1,j,none⟩=false:=(fun j=>by simp[World.frozen?,q4]);have e8:=e7 0;have e9:=e7 1;have e10:=e7 2;have hB1:=(hB0 (.cells #[.string ⟨d.kind.toArray⟩,.slice p d.flds.length cap] 58) (.cells #[.int .i64 i] 3) (.cells #[.string ⟨#[]⟩,.slice none 0 0,.slice none 0 0] 53)).trans (hb1.mono (hB0 _ _ _).size))
   refine⟨_,oR rfl _ _ rfl (aB q4) Tryz.underlying53 (by kernel_rfl),.inl ⟨by decide,rfl,((hB1.setCell (p:=⟨w.heap.size+1+1,0,none⟩) (show w.heap.size<=w.heap.size+1+1 by omega) _).setCell (p:=⟨w.heap.size+1+1,1,none⟩) (show w.heap.size<=w.heap.size+1+1 by omega) _).setCell (p:=⟨w.heap.size+1+1,2,none⟩) (show w.heap.size<=w.heap.size+1+1 by omega) _⟩⟩
  rw[if_neg (by omega)] at hE;rw[hE];have hR:DcmR d:=oM hd (kC hce);have hsw: ∀f∈d.flds,∀w∈f.words,∀s∈w,s.length<=100:=fun f hf w hw s hs=>ZT (zm1 hd (kC hce) f hf w hw s hs) (by decide)
  have hnf:=hR.fs;obtain⟨m,rfl⟩: ∃m:Nat,i=m:=⟨i.toNat,by omega⟩;obtain⟨pf,hf'⟩:=zmQ hf;have ht:((m:Int)).toNat=m:=by simp
  rw[ht];refine CallsIn.mono (R:=fun e w'=> ∃gn gt,e=.returned (.tuple #[.agg #[.string ⟨d.kind.toArray⟩,.slice (some ⟨gn,0,none⟩) d.flds.length d.flds.length,.slice (some ⟨gt,0,none⟩) d.flds.length d.flds.length],.int .i64 0])/\Below w.heap.size w w'/\
    w.heap.size<=gn/\w.heap.size<=gt/\(∃c,w'.heap[gn]?=some (.cells c 9 (0,0)))/\(∃c,w'.heap[gt]?=some (.cells c 9 (0,0)))/\(∀j,j<d.flds.length->w'.cell? ⟨gn,j,none⟩=some (tV (d.flds.getD j yT).name)/\w'.cell? ⟨gt,j,none⟩=some (tV ((wQ d.flds m).1.getD j [])))) ?_ fun e w' h=> .inr ⟨rfl,h⟩
  refine callsIn_of_wp_marks Tryz.func78 rfl trivial ?_;simp only[Tryz.ntmps78,Yu,Zo,ZG,Zc,YV,YB,YA,YK,YC,Ya,ZS]
  gi_wp2_with (refine⟨trivial,?_⟩;gi_at_call 77;refine(callsIn_wide.2 (h77 _ (hB0 _ _ _))).mono ?_;rintro e w1 ⟨rfl,hb1⟩;have q2:=(hb1.block w.heap.size (by simp only[World.size_alloc];omega)).trans (xE w _ _ _).1;have q3:=(hb1.block (w.heap.size+1) (by simp only[World.size_alloc];omega)).trans (xE w _ _ _).2.1;have q4:=(hb1.block (w.heap.size+1+1) (by simp only[World.size_alloc];omega)).trans (xE w _ _ _).2.2;obtain⟨c20,c21⟩:=oP q2;have c30:=sS q3;obtain⟨c40,c41,c42⟩:=uC q4;have e7: ∀j,w1.frozen? ⟨w.heap.size+1+1,j,none⟩=false:=(fun j=>by simp[World.frozen?,q4]);have e8:=e7 0;have e9:=e7 1;have e10:=e7 2;have hB1:=(hB0 (.cells #[.string ⟨d.kind.toArray⟩,.slice p d.flds.length cap] 58) (.cells #[.int .i64 (m:Int)] 3) (.cells #[.string ⟨#[]⟩,.slice none 0 0,.slice none 0 0] 53)).trans (hb1.mono (hB0 _ _ _).size))
  refine zmS d.kind p d.flds.length cap m w.heap.size (w.heap.size+1) (w.heap.size+1+1) cn (by omega) _ _ _ _ _ _ _ _ _ _ _ _ _ _ _ _ _ _ w1 q2 _ ?_ _ rfl;intro gn gt b8 u31 u32 u33 u34 u35 u36 u37 u38 u39 u40 u41 W n1 n2 n3 l1 l2 l3 g1 g2 g3 hbW;have hs1:w.heap.size+1+1<w1.heap.size:=(Zn.1 q4).1;refine(‹∀(a:Act) (w:World),Code.wpIn Fence.wide 8 Tryz.prog _ _ a w->_›) _ _ ?_;exact zmY d hR hsw m (by omega) cn w hG p cap b o pf hf' w.heap.size (w.heap.size+1) (w.heap.size+1+1) b8 gn gt W (by omega) (by omega) (by omega) (by omega) (by omega) (by omega) n1 n2 n3 (by omega) (by omega) (by omega) (by omega) (by omega) (by omega) (by omega) (by omega) (by omega)
   ((hbW.block _ (by omega)).trans q2) ((hbW.block _ (by omega)).trans q3) ((hbW.block _ (by omega)).trans q4) g3 g1 g2 (hB1.trans (hbW.mono hB1.size)) _ _ _ _ _ _ _ _ _ _ _ _ _ _ _ _ _ _ _ _ _ _ _ _ _ _ _ _ _
 ·rw[if_pos h0] at hE
  rw[hE];have h0':(ce==0)=false:=by simp[h0]
  have h0n:(ce !=0)=true:=by simp[h0]
  refine callsIn_of_wp_marks Tryz.func78 rfl trivial ?_;simp only[Tryz.ntmps78,Yu,Zo,ZG,Zc,YV,YB,YA,YK,YC,Ya,ZS]
  gi_wp2_with (refine⟨trivial,?_⟩;gi_at_call 77;refine(callsIn_wide.2 (h77 _ (hB0 _ _ _))).mono ?_;rintro e w1 ⟨rfl,hb1⟩;have q2:=(hb1.block w.heap.size (by simp only[World.size_alloc];omega)).trans (xE w _ _ _).1;have q3:=(hb1.block (w.heap.size+1) (by simp only[World.size_alloc];omega)).trans (xE w _ _ _).2.1;have q4:=(hb1.block (w.heap.size+1+1) (by simp only[World.size_alloc];omega)).trans (xE w _ _ _).2.2;obtain⟨c20,c21⟩:=oP q2;have c30:=sS q3;obtain⟨c40,c41,c42⟩:=uC q4;have e7: ∀j,w1.frozen? ⟨w.heap.size+1+1,j,none⟩=false:=(fun j=>by simp[World.frozen?,q4]);have e8:=e7 0;have e9:=e7 1;have e10:=e7 2;have hB1:=(hB0 (.cells #[.string ⟨d.kind.toArray⟩,.slice p d.flds.length cap] 58) (.cells #[.int .i64 i] 3) (.cells #[.string ⟨#[]⟩,.slice none 0 0,.slice none 0 0] 53)).trans (hb1.mono (hB0 _ _ _).size))
  refine⟨_,oR rfl _ _ rfl (aB q4) Tryz.underlying53 (by kernel_rfl),.inl ⟨h0,rfl,((hB1.setCell (p:=⟨w.heap.size+1+1,0,none⟩) (show w.heap.size<=w.heap.size+1+1 by omega) _).setCell (p:=⟨w.heap.size+1+1,1,none⟩) (show w.heap.size<=w.heap.size+1+1 by omega) _).setCell (p:=⟨w.heap.size+1+1,2,none⟩) (show w.heap.size<=w.heap.size+1+1 by omega) _⟩⟩
end Go.Proofs
namespace Go.Abs
open Go.Proofs Go.RowKit Go.Lib Go.Wd Go.Wire Go.Ex
theorem zh1 {w w':World} {Z:Bk->Prop} {r:V} {v:Value} (hG:yI (base w)) (hk:xG w w') (hr: ∀n,r.reg n=(r,[])) (hp:zD w' (fun b=>w.heap.size<=b.2/\b.2<w'.heap.size/\sA w' b.2) (fun _=>none) (fun _=>none) r v) (hn: ∀τ,r.noRef τ=true):mN (base w) Z r v w':=by
 intro n;have e0:(zS n (r.reg n).2:Nat->Option O)=fun _=>none:=by
  funext τ;rw[hr];simp[zS]
 rw[e0,hr];refine⟨fun _=>none,hk,hG,fun τ b h=>absurd rfl h,fun τ τ' b h=>absurd rfl h,fun τ ob h=>(by cases h),fun s=>?_⟩;by_cases hs:s=0
 ·subst hs
  exact zD.mono (fun _ _=>rfl) (fun b hb=>⟨.inr ⟨by have:=hb.1;simp;omega,hb.2.2⟩,hb.2.1,fun τ h=>absurd rfl h⟩) (τs:=fun _=>False) (fun τ hτ=>hτ.elim) (fun τ hτ=>absurd (show r.noRef τ=false from hτ) (by rw[hn τ];simp)) hp
 ·simp only[hs,if_false];trivial
theorem Spec.int2C {P:Program} {f:FuncId} {xs:List V} {k k':IntKind} {n m:Int} (h:Spec P f xs (fun r'=>r'=.tup [.int k n,.int k' m])) {W:World} (hG:yI (base W)) {Z:Bk->Prop} (hz: ∀b,Z b->b.2<W.heap.size) {vs:Array Value} (ha:wH W Z xs vs.toList):
  Calls P f vs W fun e W'=>e=.returned (.tuple #[.int k n,.int k' m])/\Below W.heap.size W W':=by
 refine(h.2 W Z vs hG hz ha).mono ?_;rintro e w' ⟨v,r',rfl,rfl,_,hrep⟩;obtain⟨κ,hi⟩:=hrep 0;have h0:=hi.tmps 0;obtain⟨us,hu,hl,hv⟩:=h0;have hu':v=.tuple us:=hu;subst hu';obtain⟨l⟩:=us
 match l,hl,hv with
 |[x,y],_,hv=>
  have h1:=vB hv.1.2;have h2:=vB hv.2.1.2;subst h1 h2;exact⟨rfl,iU hi.kept⟩
theorem zh2 {w:World} {Z:Bk->Prop} {L:List Txt} {g:Nat} (hZ:Z (1,g)) (h2:L.length<=maxLen) (hc: ∀j,j<L.length->w.cell? ⟨g,j,none⟩=some (tV (L.getD j []))):
  PRep w Z (zC 1 (zJ L)) (.slice (some ⟨g,0,none⟩) L.length L.length):=by
 by_cases h0:L=[]
 ·subst h0
  exact .emp 0 none ⟨g,0,none⟩ (by simp)
 have e:zC 1 (zJ L)=.list 1 none (zJ L):=by
  unfold zC;rw[if_neg];cases L with|nil=>exact absurd rfl h0|cons a L=>simp[zJ]
 have e2:L.length=(zJ L).length:=(yB L).symm;have hat: ∀(i j:Nat) r c,(zJ L)[i]?=some r->r[j]?=some c->j=0/\ ∃s,L[i]?=some s/\c=.str s:=fun i j r c hr hc=>by
  rw[zJ,Zw] at hr;cases hs:L[i]? with
  |none=>rw[hs] at hr;cases hr
  |some s=>
   rw[hs] at hr;cases hr;cases j with
   |zero=>cases hc;exact⟨rfl,s,rfl,rfl⟩
   |succ j=>simp at hc
 rw[e];have key:PRep w Z (.list 1 none (zJ L)) (.slice (some ⟨g,0,none⟩) (zJ L).length L.length):=by
  refine .list g 0 L.length 1 none (zJ L) (fun i _=>tV (L.getD i [])) (by simp) (by rw[yB];exact Zt _) h2 (fun _=>hZ) (fun r hr=>by obtain⟨s,_,rfl⟩:=ZB.1 hr;rfl) (fun i j r c hr hcj=>?_) fun i j r c hr hcj=>?_
  ·obtain⟨rfl,s,hs,rfl⟩:=hat i j r c hr hcj
   rw[YS,Yq,ZV];exact hc i (Zr.1 hs).1
  ·obtain⟨rfl,s,hs,rfl⟩:=hat i j r c hr hcj
   have:L.getD i []=s:=by simp[List.getD,hs]
   rw[this];exact .str s
 rw[yB] at key;exact key
theorem c78 (d:Dcm) (hd:DcmS d) (i:Int):Spec Tryz.prog 78 [.agg (zV d),.int .i64 i] (fun v=>v=.tup [.agg (yM (rdR d i)),.int .i64 (rdE d i)]):=by
 refine⟨rH (by kernel_rfl),fun w Z vs hG hz ha=>?_⟩;obtain⟨vl⟩:=vs
 match vl,ha with
 |[],ha=>exact absurd ha.1 (by simp)
 |[_],ha=>exact absurd ha.1 (by simp)
 |_::_::_::_,ha=>exact absurd ha.1 (by simp)
 |[v,v2],ha=>
  have e2:=vB (ha.2 1 _ v2 rfl rfl).2.2;subst e2;obtain⟨us,rfl,hrow⟩:=(ha.2 0 _ v rfl rfl).2;obtain⟨ul⟩:=us
  match ul,hrow with
  |[],hrow=>exact absurd hrow.1 (by simp[zV])
  |[_],hrow=>exact absurd hrow.1 (by simp[zV])
  |_::_::_::_,hrow=>exact absurd hrow.1 (by simp[zV])
  |[u0,u1],hrow=>
   have e0:=uQ (hrow.2 0 (.str d.kind) u0 rfl rfl);subst e0;have h1:PRep w Z (zC 2 (d.flds.map zR)) u1:=hrow.2 1 _ u1 rfl rfl;obtain⟨p,cap,b,o,fv,rfl,hf⟩:=zmO hz h1;have hrow':yD w (zW w) (zV d) [.string ⟨d.kind.toArray⟩,.slice p d.flds.length cap]:=⟨hrow.1,fun j c v hc hv=>nZ hz (hrow.2 j c v hc hv)⟩;refine(zm2 d hd i w hG p cap b o fv hf fun W hb=>(c77 d hd).int2C (hG.later (xM hb)) (Z:=zW W) (fun _ h=>h) (iZ (aA hrow' hb) (xS _ _))).mono ?_;rintro e w' (⟨h0,rfl,hb⟩|⟨h0,gn,gt,rfl,hb,l1,l2,⟨cN,k1⟩,⟨cT,k2⟩,hc⟩)
   ·refine⟨_,_,rfl,rfl,fun _=>rfl,oG hG (xM hb) (fun _=>rfl) fun Z=>⟨_,rfl,rfl,⟨_,rfl,?_⟩,⟨rfl,.int _ _⟩,trivial⟩⟩
    unfold rdR;rw[if_neg h0];refine⟨rfl,fun j c v hc hv=>?_⟩
    match j with
    |0=>cases hc;cases hv;exact .str _
    |1=>cases hc;cases hv;exact .nil 0 none (by simp)
    |2=>cases hc;cases hv;exact .nil 0 none (by simp)
    |j+3=>simp[yM] at hc
   ·have hR:=oM hd (kC (d:=d) (by by_cases h:(cntD d).2=0;exact h;unfold rdE at h0;rw[if_pos h] at h0;exact h0))
    have hnf:=hR.fs;have ht:=zhX d.flds i.toNat;have sN:sA w' gn:=fun cur e f h=>by rw[k1] at h;cases h;rfl
    have sT:sA w' gt:=fun cur e f h=>by rw[k2] at h;cases h;rfl
    have zN:=(Zn.1 k1).1;have zT:=(Zn.1 k2).1;have hm:d.flds.length<=maxLen:=by unfold maxLen;omega
    refine⟨_,_,rfl,rfl,fun _=>rfl,zh1 hG (xM hb) (fun _=>rfl) ⟨_,rfl,rfl,⟨_,rfl,?_⟩,⟨rfl,by rw[h0];exact .int _ _⟩,trivial⟩ (fun _=>rfl)⟩;unfold rdR;rw[if_pos h0];refine⟨rfl,fun j c v hc' hv=>?_⟩
    match j with
    |0=>cases hc';cases hv;exact .str _
    |1=>
     cases hc';cases hv;have:=zh2 (w:=w') (Z:=fun b=>w.heap.size<=b.2/\b.2<w'.heap.size/\sA w' b.2) (L:=d.flds.map Fld.name) (g:=gn) ⟨l1,zN,sN⟩ (by simp;exact hm) (fun j hj=>by
      rw[Zi] at hj
      have:=(hc j hj).1
      rw[this]
      simp[List.getD,hj])
     rw[Zi] at this;exact this
    |2=>
     cases hc';cases hv;have:=zh2 (w:=w') (Z:=fun b=>w.heap.size<=b.2/\b.2<w'.heap.size/\sA w' b.2) (L:=(wQ d.flds i.toNat).1) (g:=gt) ⟨l2,zT,sT⟩ (by rw[ht];exact hm) (fun j hj=>by
      rw[ht] at hj
      exact(hc j hj).2)
     rw[ht] at this;exact this
    |j+3=>simp[yM] at hc'
end Go.Abs
namespace Go.Proofs
open Go.RowKit Go.Abs Go.Wd Go.Wire Go.Ex
theorem Tryz.m165demand (us:Array Value) (w:World):(method 369 165 (.agg us) "allonge/require.demand").run Tryz.prog w=.ok (203,.agg us) w:=by kernel_rfl
theorem Tryz.m165met (us:Array Value) (w:World):(method 369 165 (.agg us) "allonge/require.met").run Tryz.prog w=.ok (204,.agg us) w:=by kernel_rfl
theorem Tryz.m165named (us:Array Value) (w:World):(method 369 165 (.agg us) "allonge/require.named").run Tryz.prog w=.ok (205,.agg us) w:=by kernel_rfl
theorem Tryz.m165words (us:Array Value) (w:World):(method 369 165 (.agg us) "allonge/require.words").run Tryz.prog w=.ok (206,.agg us) w:=by kernel_rfl
theorem Tryz.m167demand (us:Array Value) (w:World):(method 369 167 (.agg us) "allonge/require.demand").run Tryz.prog w=.ok (211,.agg us) w:=by kernel_rfl
theorem Tryz.m167met (us:Array Value) (w:World):(method 369 167 (.agg us) "allonge/require.met").run Tryz.prog w=.ok (212,.agg us) w:=by kernel_rfl
theorem Tryz.m167named (us:Array Value) (w:World):(method 369 167 (.agg us) "allonge/require.named").run Tryz.prog w=.ok (213,.agg us) w:=by kernel_rfl
theorem Tryz.m167words (us:Array Value) (w:World):(method 369 167 (.agg us) "allonge/require.words").run Tryz.prog w=.ok (214,.agg us) w:=by kernel_rfl
theorem Tryz.m169demand (us:Array Value) (w:World):(method 369 169 (.agg us) "allonge/require.demand").run Tryz.prog w=.ok (221,.agg us) w:=by kernel_rfl
theorem Tryz.m169met (us:Array Value) (w:World):(method 369 169 (.agg us) "allonge/require.met").run Tryz.prog w=.ok (222,.agg us) w:=by kernel_rfl
theorem Tryz.m169named (us:Array Value) (w:World):(method 369 169 (.agg us) "allonge/require.named").run Tryz.prog w=.ok (223,.agg us) w:=by kernel_rfl
theorem Tryz.m169words (us:Array Value) (w:World):(method 369 169 (.agg us) "allonge/require.words").run Tryz.prog w=.ok (224,.agg us) w:=by kernel_rfl
theorem Tryz.m171demand (us:Array Value) (w:World):(method 369 171 (.agg us) "allonge/require.demand").run Tryz.prog w=.ok (226,.agg us) w:=by kernel_rfl
theorem Tryz.m171met (us:Array Value) (w:World):(method 369 171 (.agg us) "allonge/require.met").run Tryz.prog w=.ok (227,.agg us) w:=by kernel_rfl
theorem Tryz.m171named (us:Array Value) (w:World):(method 369 171 (.agg us) "allonge/require.named").run Tryz.prog w=.ok (228,.agg us) w:=by kernel_rfl
theorem Tryz.m171words (us:Array Value) (w:World):(method 369 171 (.agg us) "allonge/require.words").run Tryz.prog w=.ok (229,.agg us) w:=by kernel_rfl
def zh3 (m:Dmd):Value:=.agg #[.int .i64 m.op,tV m.doc,tV m.fld,tV m.oth,tV m.sec,tV m.txt,.int .i64 m.lo,.int .i64 m.hi]
theorem zm3 (m:Dmd) (l:List Pln) (hl:vE l) (w:World) (hG:yI (base w)) (v2:Value) (hv:PRep w (zW w) (zC 3 (l.map yM)) v2):
  Calls Tryz.prog 39 #[zh3 m,v2] w fun ex w'=>ex=.returned (.bool (wV m l))/\Below w.heap.size w w':=by
 have hvo:=hv.oneCell;obtain⟨op,d,f,o,s,t,lo,hi⟩:=m;have k79:=zhl op d f o s t lo hi;have hB0: ∀ob,Below w.heap.size w (w.alloc ob):=fun ob=>(Below.refl _ w).alloc (Zt _) _
 have k222: ∀W,Below w.heap.size w W->Calls Tryz.prog 222 #[.agg #[tV d,tV f,tV o,tV s],v2] W fun ex W'=>ex=.returned (.bool (agreesP d f o s l))/\Below W.heap.size W W':=fun W hb=>zmL d f o s l hl W (hG.later (xM hb)) v2 (vW hv hb)
 unfold zh3;simp only[];unfold tV at*
 by_cases h0:op=0
 ·subst h0
  have e:wV ⟨0,d,f,o,s,t,lo,hi⟩ l=kindP l d:=rfl;rw[e];have hc:clV 0 d f o s t lo hi=.iface 165 (.agg #[.string ⟨d.toArray⟩]):=rfl;have ho:okO 0=true:=rfl;rw[hc,ho] at k79;have hm:=Tryz.m165met;have kc: ∀W,Below w.heap.size w W->Calls Tryz.prog 204 #[.agg #[.string ⟨d.toArray⟩],v2] W fun ex W'=>ex=.returned (.bool (kindP l d))/\Below W.heap.size W W':=fun W hb=>(zl9 d l hl.1).boolC (hG.later (xM hb)) (Z:=zW W) (fun _ h=>h) (vN (r:=[.str d]) (by simp[C.sc]) (vH (vW hv hb) (xS _ _)))
  generalize kindP l d=R at kc⊢;clear e
  go_enter Tryz.func39,Tryz.ntmps39
  go_wp2_with (first|(go_at_call 204;refine(kc _ hB1).mono ?_;rintro ex w2 ⟨rfl,hb2⟩)|(go_at_call 79;refine(k79 _).mono ?_;rintro ex w1 ⟨rfl,hb1⟩;have hB1:=(hB0 (.cells #[Value.int .i64 0,Value.string ⟨d.toArray⟩,Value.string ⟨f.toArray⟩,Value.string ⟨o.toArray⟩,Value.string ⟨s.toArray⟩,Value.string ⟨t.toArray⟩,Value.int .i64 lo,Value.int .i64 hi] 46)).trans (hb1.mono (hB0 (.cells #[Value.int .i64 0,Value.string ⟨d.toArray⟩,Value.string ⟨f.toArray⟩,Value.string ⟨o.toArray⟩,Value.string ⟨s.toArray⟩,Value.string ⟨t.toArray⟩,Value.int .i64 lo,Value.int .i64 hi] 46)).size)))
  go_ret
  exact⟨rfl,hB1.trans (hb2.mono hB1.size)⟩
 by_cases h1:op=1
 ·subst h1
  have e:wV ⟨1,d,f,o,s,t,lo,hi⟩ l=readsP d f t l:=rfl;rw[e];have hc:clV 1 d f o s t lo hi=.iface 167 (.agg #[.string ⟨d.toArray⟩,.string ⟨f.toArray⟩,.string ⟨t.toArray⟩]):=rfl;have ho:okO 1=true:=rfl;rw[hc,ho] at k79;have hm:=Tryz.m167met;have kc: ∀W,Below w.heap.size w W->Calls Tryz.prog 212 #[.agg #[.string ⟨d.toArray⟩,.string ⟨f.toArray⟩,.string ⟨t.toArray⟩],v2] W fun ex W'=>ex=.returned (.bool (readsP d f t l))/\Below W.heap.size W W':=fun W hb=>(zmc d f t l hl).boolC (hG.later (xM hb)) (Z:=zW W) (fun _ h=>h) (vN (r:=[.str d,.str f,.str t]) (by simp[C.sc]) (vH (vW hv hb) (xS _ _)))
  generalize readsP d f t l=R at kc⊢;clear e
  go_enter Tryz.func39,Tryz.ntmps39
  go_wp2_with (first|(go_at_call 212;refine(kc _ hB1).mono ?_;rintro ex w2 ⟨rfl,hb2⟩)|(go_at_call 79;refine(k79 _).mono ?_;rintro ex w1 ⟨rfl,hb1⟩;have hB1:=(hB0 (.cells #[Value.int .i64 1,Value.string ⟨d.toArray⟩,Value.string ⟨f.toArray⟩,Value.string ⟨o.toArray⟩,Value.string ⟨s.toArray⟩,Value.string ⟨t.toArray⟩,Value.int .i64 lo,Value.int .i64 hi] 46)).trans (hb1.mono (hB0 (.cells #[Value.int .i64 1,Value.string ⟨d.toArray⟩,Value.string ⟨f.toArray⟩,Value.string ⟨o.toArray⟩,Value.string ⟨s.toArray⟩,Value.string ⟨t.toArray⟩,Value.int .i64 lo,Value.int .i64 hi] 46)).size)))
  go_ret
  exact⟨rfl,hB1.trans (hb2.mono hB1.size)⟩
 by_cases h3:op=3
 ·subst h3
  have e:wV ⟨3,d,f,o,s,t,lo,hi⟩ l=agreesP d f o s l:=rfl;rw[e];have hc:clV 3 d f o s t lo hi=.iface 169 (.agg #[.string ⟨d.toArray⟩,.string ⟨f.toArray⟩,.string ⟨o.toArray⟩,.string ⟨s.toArray⟩]):=rfl;have ho:okO 3=true:=rfl;rw[hc,ho] at k79;have hm:=Tryz.m169met;have kc: ∀W,Below w.heap.size w W->Calls Tryz.prog 222 #[.agg #[.string ⟨d.toArray⟩,.string ⟨f.toArray⟩,.string ⟨o.toArray⟩,.string ⟨s.toArray⟩],v2] W fun ex W'=>ex=.returned (.bool (agreesP d f o s l))/\Below W.heap.size W W':=fun W hb=>k222 W hb
  generalize agreesP d f o s l=R at kc⊢;clear e
  go_enter Tryz.func39,Tryz.ntmps39
  go_wp2_with (first|(go_at_call 222;refine(kc _ hB1).mono ?_;rintro ex w2 ⟨rfl,hb2⟩)|(go_at_call 79;refine(k79 _).mono ?_;rintro ex w1 ⟨rfl,hb1⟩;have hB1:=(hB0 (.cells #[Value.int .i64 3,Value.string ⟨d.toArray⟩,Value.string ⟨f.toArray⟩,Value.string ⟨o.toArray⟩,Value.string ⟨s.toArray⟩,Value.string ⟨t.toArray⟩,Value.int .i64 lo,Value.int .i64 hi] 46)).trans (hb1.mono (hB0 (.cells #[Value.int .i64 3,Value.string ⟨d.toArray⟩,Value.string ⟨f.toArray⟩,Value.string ⟨o.toArray⟩,Value.string ⟨s.toArray⟩,Value.string ⟨t.toArray⟩,Value.int .i64 lo,Value.int .i64 hi] 46)).size)))
  go_ret
  exact⟨rfl,hB1.trans (hb2.mono hB1.size)⟩
 by_cases h2:op=2
 ·subst h2
  have e:wV ⟨2,d,f,o,s,t,lo,hi⟩ l=limP d f lo hi false l:=rfl;rw[e];have hc:clV 2 d f o s t lo hi=.iface 171 (.agg #[.string ⟨d.toArray⟩,.string ⟨f.toArray⟩,.int .i64 lo,.int .i64 hi,.bool false]):=rfl;have ho:okO 2=true:=rfl;rw[hc,ho] at k79;have hm:=Tryz.m171met;have kc: ∀W,Below w.heap.size w W->Calls Tryz.prog 227 #[.agg #[.string ⟨d.toArray⟩,.string ⟨f.toArray⟩,.int .i64 lo,.int .i64 hi,.bool false],v2] W fun ex W'=>ex=.returned (.bool (limP d f lo hi false l))/\Below W.heap.size W W':=fun W hb=>(zhs d f lo hi false l hl).boolC (hG.later (xM hb)) (Z:=zW W) (fun _ h=>h) (vN (r:=[.str d,.str f,.int .i64 lo,.int .i64 hi,.bool false]) (by simp[C.sc]) (vH (vW hv hb) (xS _ _)))
  generalize limP d f lo hi false l=R at kc⊢;clear e
  go_enter Tryz.func39,Tryz.ntmps39
  go_wp2_with (first|(go_at_call 227;refine(kc _ hB1).mono ?_;rintro ex w2 ⟨rfl,hb2⟩)|(go_at_call 79;refine(k79 _).mono ?_;rintro ex w1 ⟨rfl,hb1⟩;have hB1:=(hB0 (.cells #[Value.int .i64 2,Value.string ⟨d.toArray⟩,Value.string ⟨f.toArray⟩,Value.string ⟨o.toArray⟩,Value.string ⟨s.toArray⟩,Value.string ⟨t.toArray⟩,Value.int .i64 lo,Value.int .i64 hi] 46)).trans (hb1.mono (hB0 (.cells #[Value.int .i64 2,Value.string ⟨d.toArray⟩,Value.string ⟨f.toArray⟩,Value.string ⟨o.toArray⟩,Value.string ⟨s.toArray⟩,Value.string ⟨t.toArray⟩,Value.int .i64 lo,Value.int .i64 hi] 46)).size)))
  go_ret
  exact⟨rfl,hB1.trans (hb2.mono hB1.size)⟩
 by_cases h4:op=4
 ·subst h4
  have e:wV ⟨4,d,f,o,s,t,lo,hi⟩ l=limP d f lo hi true l:=rfl;rw[e];have hc:clV 4 d f o s t lo hi=.iface 171 (.agg #[.string ⟨d.toArray⟩,.string ⟨f.toArray⟩,.int .i64 lo,.int .i64 hi,.bool true]):=rfl;have ho:okO 4=true:=rfl;rw[hc,ho] at k79;have hm:=Tryz.m171met;have kc: ∀W,Below w.heap.size w W->Calls Tryz.prog 227 #[.agg #[.string ⟨d.toArray⟩,.string ⟨f.toArray⟩,.int .i64 lo,.int .i64 hi,.bool true],v2] W fun ex W'=>ex=.returned (.bool (limP d f lo hi true l))/\Below W.heap.size W W':=fun W hb=>(zhs d f lo hi true l hl).boolC (hG.later (xM hb)) (Z:=zW W) (fun _ h=>h) (vN (r:=[.str d,.str f,.int .i64 lo,.int .i64 hi,.bool true]) (by simp[C.sc]) (vH (vW hv hb) (xS _ _)))
  generalize limP d f lo hi true l=R at kc⊢;clear e
  go_enter Tryz.func39,Tryz.ntmps39
  go_wp2_with (first|(go_at_call 227;refine(kc _ hB1).mono ?_;rintro ex w2 ⟨rfl,hb2⟩)|(go_at_call 79;refine(k79 _).mono ?_;rintro ex w1 ⟨rfl,hb1⟩;have hB1:=(hB0 (.cells #[Value.int .i64 4,Value.string ⟨d.toArray⟩,Value.string ⟨f.toArray⟩,Value.string ⟨o.toArray⟩,Value.string ⟨s.toArray⟩,Value.string ⟨t.toArray⟩,Value.int .i64 lo,Value.int .i64 hi] 46)).trans (hb1.mono (hB0 (.cells #[Value.int .i64 4,Value.string ⟨d.toArray⟩,Value.string ⟨f.toArray⟩,Value.string ⟨o.toArray⟩,Value.string ⟨s.toArray⟩,Value.string ⟨t.toArray⟩,Value.int .i64 lo,Value.int .i64 hi] 46)).size)))
  go_ret
  exact⟨rfl,hB1.trans (hb2.mono hB1.size)⟩
 have e1:clV op d f o s t lo hi=.nilIface:=by unfold clV;rw[if_neg h0,if_neg h1,if_neg h3,if_neg h2,if_neg h4]
 have e2:okO op=false:=by unfold okO;simp[h0,h1,h2,h3,h4]
 have e3:wV ⟨op,d,f,o,s,t,lo,hi⟩ l=false:=by unfold wV;simp only[];rw[if_neg h0,if_neg h1,if_neg h2,if_neg h3,if_neg h4]
 rw[e1,e2] at k79;rw[e3];clear e1 e2 e3 k222
 go_enter Tryz.func39,Tryz.ntmps39
 go_wp2_with (go_at_call 79;refine(k79 _).mono ?_;rintro ex w1 ⟨rfl,hb1⟩;have hB1:=(hB0 (.cells #[Value.int .i64 op,Value.string ⟨d.toArray⟩,Value.string ⟨f.toArray⟩,Value.string ⟨o.toArray⟩,Value.string ⟨s.toArray⟩,Value.string ⟨t.toArray⟩,Value.int .i64 lo,Value.int .i64 hi] 46)).trans (hb1.mono (hB0 (.cells #[Value.int .i64 op,Value.string ⟨d.toArray⟩,Value.string ⟨f.toArray⟩,Value.string ⟨o.toArray⟩,Value.string ⟨s.toArray⟩,Value.string ⟨t.toArray⟩,Value.int .i64 lo,Value.int .i64 hi] 46)).size))
 go_ret
 exact⟨rfl,hB1⟩
end Go.Proofs
namespace Go.Abs
open Go.Proofs Go.RowKit Go.Lib Go.Wd Go.Wire Go.Ex
theorem zh4 (m:Dmd): ∀c∈zQ m,c.sc=true:=by simp[zQ,C.sc]
theorem c39 (m:Dmd) (l:List Pln) (hl:vE l):Spec Tryz.prog 39 [.agg (zQ m),lst 3 (l.map yM)] (fun v=>v=.bool (wV m l)):=by
 refine⟨rH (by kernel_rfl),fun w Z vs hG hz ha=>?_⟩;obtain⟨vl⟩:=vs
 match vl,ha with
 |[],ha=>exact absurd ha.1 (by simp)
 |[_],ha=>exact absurd ha.1 (by simp)
 |_::_::_::_,ha=>exact absurd ha.1 (by simp)
 |[v,v2],ha=>
  obtain⟨us,rfl,hrow⟩:=(ha.2 0 _ v rfl rfl).2;have h2:PRep w Z (zC 3 (l.map yM)) v2:=(ha.2 1 _ v2 rfl rfl).2.2;obtain⟨ul⟩:=us;have hu:ul=(zQ m).map wE:=iY (zh4 m) hrow;subst hu;refine(zm3 m l hl w hG v2 (nZ hz h2)).mono ?_;rintro e w' ⟨rfl,hb⟩;exact⟨_,_,rfl,rfl,fun _=>rfl,oG hG (xM hb) (fun _=>rfl) (fun _=>⟨rfl,.bool _⟩)⟩
theorem gL {L:List Dmd} {i:Nat} (h:i<L.length):(L.map zQ).getD i []=[.int .i64 (L.getD i yZ).op,.str (L.getD i yZ).doc,.str (L.getD i yZ).fld,.str (L.getD i yZ).oth,.str (L.getD i yZ).sec,.str (L.getD i yZ).txt,.int .i64 (L.getD i yZ).lo,.int .i64 (L.getD i yZ).hi]:=by simp[List.getD,h,zQ]
def oS (L:List Dmd) (p:List Pln) (n:Nat):List Int:=((List.range n).filter fun i=> !wV (L.getD i yZ) p).map fun(i:Nat)=>(i:Int)
theorem zm4 (L:List Dmd) (p:List Pln) (n:Nat):oS L p (n+1)=oS L p n++if wV (L.getD n yZ) p=true then[] else[(n:Int)]:=by
 unfold oS;rw[XL,X2,ZW];congr 1;rw[List.filter_cons,List.filter_nil];cases h:wV (L.getD n yZ) p
 ·simp
 ·simp
theorem zm5 (L:List Dmd) (p:List Pln) (n:Nat):(oS L p n).length<=n:=by
 unfold oS;rw[Zi];exact ZT (YF _ _) (by simp)
def zh5 (L:List Dmd) (p:List Pln):List Int:=(sR L p).map fun(i:Nat)=>(i:Int)
theorem zm6 (L:List Dmd) (p:List Pln):zh5 L p=oS L p L.length:=rfl
theorem c15 (L:List Dmd) (p:List Pln) (hL:L.length<=1000000) (hp:vE p):Spec Tryz.prog 15 [lst 8 (L.map zQ),lst 3 (p.map yM)] (fun v=>v=lst 1 (zM (zh5 L p))):=by
 refine Spec.of_awlP hf15 okf15 (by simp) fun S hS=>?_
 rw[zm6] at hS;simp only[zI,Qs,bne_iff_ne,ne_eq,Zc,Zs,Za,Zi,Ψ15];rw[uu f15l16.eq_1];refine yA (fun x:Nat×Option Bool=>[(1,lst 3 (p.map yM)),(5,.k (.own 5)),(8,lst 8 (L.map zQ)),(9,.int .i64 L.length),(10,.int .i64 x.1)]) (fun x=>[(5,.arr 3 1 x.2 (zM (oS L p x.1)))]) (fun x=>x.1<=L.length) (fun x=>L.length-x.1) (0,some true) rfl rfl (ZA _) ?_;rintro⟨i,nl⟩ hi;simp only[] at hi;have hfl:=zm5 L p i;by_cases hlt:i<L.length
 ·have d1:(i:Int)<L.length:=by omega
  have c4:IntKind.i64.wrap ((i:Int)+1)=(i:Int)+1:=wrap_in (by omega) (by omega);have hat:=gL hlt;have hs:=zm4 L p i;generalize L.getD i yZ=m at hat hs;have g1:=c39 m p hp;unfold zQ at g1;cases hm:wV m p with
  |true=>
   rw[hm] at g1;rw[hm,if_pos rfl,Zk] at hs;simp only[d1,hat,zI,Qs,bne_iff_ne,ne_eq,Zk,Zc,Zs,Za,Zi,Ψ15];refine zF g1 ?_ (ha:=by simp only[Zm,Zq,zB,V.norm,C.norm,yG sQ,C.normRow]<;>rfl);simp only[c4,Qs,Za,Ψ15];exact Next.intro (i+1,nl) rfl (by simp[hs];rfl) (by simp only;omega) (by simp only;omega)
  |false=>
   rw[hm] at g1;rw[hm,if_neg (by simp)] at hs;simp only[d1,hat,zI,Qs,bne_iff_ne,ne_eq,Zk,Zc,Zs,Za,Zi,Ψ15];refine zF g1 ?_ (ha:=by simp only[Zm,Zq,zB,V.norm,C.norm,yG sQ,C.normRow]<;>rfl);simp only[c4,yL,Qs,forall_eq,bne_iff_ne,ne_eq,ZH,Zs,Zl,Z5,Za,Zy,Ψ15];refine⟨by omega,by omega,Next.intro (i+1,some false) rfl (by simp[hs,cU];rfl) (by simp only;omega) (by simp only;omega)⟩
 ·have d1: ¬(i:Int)<L.length:=by omega
  obtain rfl:i=L.length:=by omega
  simp only[d1,Qs,ZY,Za,Zy,Ψ15];refine hS _ ?_;simp only[V.fz,V.fzL,V.nrm,V.nrmL,qB (vC _)]
  try rfl
end Go.Abs
namespace Go.Ex
open Go.Lib Go.Wd Go.Wire Go.Abs
def lkI (m:Dmd) (p:Pln) (i n:Nat):List Plc:=((List.range n).filter (kA m p)).map fun(k:Nat)=>⟨(i:Int),(k:Int)⟩
theorem zm7 (m:Dmd) (p:Pln) (i n:Nat):lkI m p i (n+1)=lkI m p i n++if kA m p n=true then[⟨(i:Int),(n:Int)⟩] else[]:=by
 unfold lkI;rw[XL,X2,ZW,List.filter_cons,List.filter_nil];congr 1;split<;>rfl
theorem zm8 (m:Dmd) (p:Pln) (i n:Nat):(lkI m p i n).length<=n:=by
 unfold lkI;rw[Zi];exact ZT (YF _ _) (by simp)
end Go.Ex
namespace Go.Abs
open Go.Proofs Go.RowKit Go.Lib Go.Wd Go.Wire Go.Ex
def sU (c:Plc):List C:=[.int .i64 c.doc,.int .i64 c.fld]
def pls (l:List Plc):List (List C):=l.map sU
theorem uY (l:List Plc):(pls l).length=l.length:=by simp[pls]
theorem zm9 (l:List Plc) (a b:Int):pls l++[[.int .i64 a,.int .i64 b]]=pls (l++[⟨a,b⟩]):=by simp[pls,sU]
theorem rL (l:List Plc):C.normRows (pls l)=pls l:=zP (fun m=>by simp only[sU,C.normRow,C.norm]) l
theorem c16 (m:Dmd) (l:List Pln) (hl:vE l):Spec Tryz.prog 16 [.agg (zQ m),lst 3 (l.map yM)] (fun v=>v=lst 2 (pls (uX m l))):=by
 refine Spec.of_awlP hf16 okf16 (by simp) fun S hS=>?_
 have hlen:=hl.1;unfold zQ;unfold uX at hS;by_cases ho1:m.op<=0
 ·rw[if_pos (.inl ho1)] at hS
  simp only[ho1,Qs,zeS,bne_iff_ne,ne_eq,BEq.rfl,ZY,Zc,Zs,Zl,Za,Zy,Ψ16];exact hS _ rfl
 by_cases ho2:m.op>=5
 ·rw[if_pos (.inr ho2)] at hS
  simp only[ho1,ho2,Qs,bne_iff_ne,ne_eq,BEq.rfl,ZY,Zc,Zs,Zl,Za,Zy,Ψ16];exact hS _ rfl
 rw[if_neg (by omega)] at hS;simp only[ho1,ho2,zI,Qs,bne_iff_ne,ne_eq,Zc,Zs,Zl,Za,Zi,Ψ16];rw[uu f16l35.eq_1];refine yA (fun x:Nat×List Plc×Option Bool=>[(2,.k (.c (.ro [.int .i64 m.op,.str m.doc,.str m.fld,.str m.oth,.str m.sec,.str m.txt,.int .i64 m.lo,.int .i64 m.hi] 0))),(5,.k (.own 5)),(21,lst 3 (l.map yM)),(22,.int .i64 l.length),(23,.int .i64 x.1)]) (fun x=>[(5,.arr 64 2 x.2.2 (pls x.2.1))]) (fun x=>x.1<=l.length/\x.2.1.length<=x.1*1000000/\x.2.1++tJ m (l.drop x.1) x.1=tJ m l 0) (fun x=>l.length-x.1) (0,[],some true) rfl rfl ⟨ZA _,by simp,by simp⟩ ?_;rintro⟨i,L,nl⟩ ⟨hi,hL,hD⟩;simp only[] at hi hL hD;by_cases hlt:i<l.length
 ·have d1:(i:Int)<l.length:=by omega
  have c4:IntKind.i64.wrap ((i:Int)+1)=(i:Int)+1:=wrap_in (by omega) (by omega);have hat:=zpv hlt;rw[ZE hlt,tJ,<-Yd] at hD;have hp:=hl.2 _ (Zx hlt);generalize l[i]=p at hD hat hp;have hns:=hp.ns;simp only[d1,hat,yB,Qs,bne_iff_ne,ne_eq,Zk,Zc,Zs,Zl,Za,Zi,Ψ16];rw[uu f16l23.eq_1];refine yA (fun x:Nat×Option Bool=>[(2,.k (.c (.ro [.int .i64 m.op,.str m.doc,.str m.fld,.str m.oth,.str m.sec,.str m.txt,.int .i64 m.lo,.int .i64 m.hi] 0))),(5,.k (.own 5)),(6,.int .i64 i),(7,.k (.c (.ro [.str p.kind,zC 1 (zJ p.names),zC 1 (zJ p.texts)] 0))),(21,lst 3 (l.map yM)),(22,.int .i64 l.length),(23,.int .i64 i),(29,lst 1 (zJ p.names)),(30,.int .i64 p.names.length),(31,.int .i64 x.1)]) (fun x=>[(5,.arr 64 2 x.2 (pls (L++lkI m p i x.1)))]) (fun x=>x.1<=p.names.length) (fun x=>p.names.length-x.1) (0,nl) rfl (by simp[lkI];rfl) (ZA _) ?_;rintro⟨k,nl2⟩ hk;simp only[] at hk;have hlk:=zm8 m p i k;by_cases hkl:k<p.names.length
  ·have dk:(k:Int)<p.names.length:=by omega
   have ck:IntKind.i64.wrap ((k:Int)+1)=(k:Int)+1:=wrap_in (by omega) (by omega);have hs:=zm7 m p i k;have hgd:p.names.getD k []=p.names[k]:=by simp[List.getD,hkl]
   have hlB:kA m p k=((decide (fstN (fun x=>decide (p.names[k]=x)) p.names 0=(k:Int))&&decide (k<p.texts.length))&&((decide (p.kind=m.doc)&&decide (p.names[k]=m.fld))||(decide (m.op=3)&&(decide (p.kind=m.oth)&&decide (p.names[k]=m.sec))))):=by unfold kA;rw[hgd]
   have g1:=c40 p.names p.names[k] (big hns);have hsk:=uI hkl;generalize p.names[k]=nm at hlB g1 hsk;generalize fstN (fun x=>decide (nm=x)) p.names 0=j at hlB g1;have bq: ∀a b:Txt,(a==b)=decide (a=b):=fun a b=>by rw[Yp];simp
   have e1:(j==(k:Int))=decide (j=(k:Int)):=rfl;have e3:=bq p.kind m.doc;have e4:=bq nm m.fld;have e5:(m.op==3)=decide (m.op=3):=rfl;have e6:=bq p.kind m.oth;have e7:=bq nm m.sec;have H2:(k:Int)<p.texts.length/\decide (k<p.texts.length)=true\/ ¬(k:Int)<p.texts.length/\decide (k<p.texts.length)=false:=by
    by_cases h:k<p.texts.length
    ·exact .inl ⟨by omega,by simp[h]⟩
    ·exact .inr ⟨by omega,by simp[h]⟩
   generalize decide (k<p.texts.length)=a2 at hlB H2;generalize decide (j=(k:Int))=a1 at hlB e1;generalize decide (p.kind=m.doc)=a3 at hlB e3;generalize decide (nm=m.fld)=a4 at hlB e4;generalize decide (m.op=3)=a5 at hlB e5;generalize decide (p.kind=m.oth)=a6 at hlB e6;generalize decide (nm=m.sec)=a7 at hlB e7;rw[hlB] at hs;have K1:a1=false\/a1=true:=by cases a1<;>simp
   have K3:a3=false\/(a3=true/\a4=false)\/(a3=true/\a4=true):=by cases a3<;>cases a4<;>simp
   have K5:a5=false\/(a5=true/\a6=false)\/(a5=true/\a6=true/\a7=false)\/(a5=true/\a6=true/\a7=true):=by cases a5<;>cases a6<;>cases a7<;>simp
   simp only[dk,yB,hsk,Qs,Zc,Zl,Za,Ψ16];refine zF g1 ?_ (ha:=by simp only[Zm,Zq,zB,V.norm,C.norm,zO,wD]<;>rfl);rcases K1 with rfl|rfl
   ·have hs0:=hs
    simp only[ZP,if_neg Bool.false_ne_true,Zk] at hs0;rcases K3 with rfl|⟨rfl,rfl⟩|⟨rfl,rfl⟩
    all_goals rcases K5 with rfl|⟨rfl,rfl⟩|⟨rfl,rfl,rfl⟩|⟨rfl,rfl,rfl⟩
    all_goals simp only[e1,e3,e4,e5,e6,e7,ck,Qs,Zc,Zl,Za,Ψ16]
    all_goals exact Next.intro (k+1,nl2) rfl (by simp[hs0];rfl) (by simp only;omega) (by simp only;omega)
   rcases H2 with⟨d2,rfl⟩|⟨d2,rfl⟩
   rotate_left
   ·have hs0:=hs
    simp only[YU,ZP,if_neg Bool.false_ne_true,Zk] at hs0;rcases K3 with rfl|⟨rfl,rfl⟩|⟨rfl,rfl⟩
    all_goals rcases K5 with rfl|⟨rfl,rfl⟩|⟨rfl,rfl,rfl⟩|⟨rfl,rfl,rfl⟩
    all_goals simp only[e1,d2,e3,e4,e5,e6,e7,ck,yB,Qs,Zc,Zl,Za,Ψ16]
    all_goals exact Next.intro (k+1,nl2) rfl (by simp[hs0];rfl) (by simp only;omega) (by simp only;omega)
   have hlb:(L++lkI m p i k).length+1<=1000000000001:=by
    rw[Zv];have:i*1000000<=1000000*1000000:=ZX _ (by omega);have h2:L.length<=999999*1000000:=ZT hL (ZX _ (by omega));omega
   rcases K3 with rfl|⟨rfl,rfl⟩|⟨rfl,rfl⟩
   all_goals rcases K5 with rfl|⟨rfl,rfl⟩|⟨rfl,rfl,rfl⟩|⟨rfl,rfl,rfl⟩
   all_goals simp only[YU,ZP,Bool.and_true,ZJ,Bool.or_false,Ym,Bool.or_true,Y7,if_neg Bool.false_ne_true,if_true,Zk] at hs
   all_goals simp only[e1,d2,e3,e4,e5,e6,e7,ck,yB,uY,Qs,zeS,zlq,forall_eq,bne_iff_ne,ne_eq,Zk,ZH,Zc,Zs,Zl,Z5,Za,Zy,Ψ16]
   all_goals first
    |exact Next.intro (k+1,nl2) rfl (by simp[hs];rfl) (by simp only;omega) (by simp only;omega)
    |exact⟨by omega,by omega,Next.intro (k+1,some false) rfl (by rw[hs,zm9,Yd];rfl) (by simp only;omega) (by simp only;omega)⟩
  ·obtain rfl:k=p.names.length:=by omega
   have dk: ¬(p.names.length:Int)<p.names.length:=by omega
   have hq:lkI m p i p.names.length=mE m p i:=rfl;rw[hq] at hlk;simp only[dk,yB,c4,hq,Qs,reduceCtorEq,Za,Ψ16];exact Next.intro (i+1,L++mE m p i,nl2) rfl rfl ⟨by simp only;omega,by simp only[Zv];rw[Xb];omega,hD⟩ (by simp only;omega)
 ·have d1: ¬(i:Int)<l.length:=by omega
  rw[ZC (by omega),tJ,Zk] at hD;rw[<-hD] at hS;simp only[d1,Qs,ZY,Za,Zy,Ψ16];refine hS _ ?_;simp only[V.fz,V.fzL,V.nrm,V.nrmL,rL,qB (rL _)]
  try rfl
end Go.Abs
namespace Go.Ex
open Go.Lib Go.Wd Go.Wire Go.Abs
theorem zh6: ∀{l:List Dcm} {acc:List Int} {n:Nat},(wK l acc n).2.2=0->(wK l acc n).1=acc++l.map (fun d=>(cntD d).1)/\(∀d∈l,(cntD d).2=0)/\(n<=4096->(wK l acc n).2.1<=4096)/\(wK l acc n).2.1=(l.foldl (fun a d=>a*(cntD d).1.toNat) n:Nat)
 |[],acc,n,_=>by simp[wK];omega
 |d::l,acc,n,h=>by
  rw[wK] at h⊢;split at h
  ·cases h
  ·rename_i hd
   rw[if_neg hd];have h2:(cntD d).2=0:=by
    by_cases q:(cntD d).2=0
    ·exact q
    ·exact absurd (.inl q) hd
   have hc:=iX (d:=d);obtain⟨a1,a2,a3,a4⟩:=zh6 h;refine⟨by rw[a1];simp,fun x hx=>?_,fun hn=>a3 ?_,by rw[a4];rfl⟩
   ·rcases ZH.1 hx with rfl|hx
    ·exact h2
    ·exact a2 x hx
   ·have: ¬(n:Int)*(cntD d).1>4096:=fun q=>hd (.inr q)
    obtain⟨c,hc2⟩: ∃c:Nat,(cntD d).1=c:=⟨(cntD d).1.toNat,by omega⟩;rw[hc2] at this⊢;simp only[Z6];have e:((n*c:Nat):Int)=(n:Int)*c:=Yt n c;omega
structure CntOk (D:List Dcm):Prop where
 len:D.length<=8
 l:(cnts D).1=D.map fun d=>(cntD d).1
 e: ∀d∈D,(cntD d).2=0
 n:(cnts D).2.1=(xY D:Nat)
 le:xY D<=4096
 p:xY D=D.foldl (fun a d=>a*(cntD d).1.toNat) 1
theorem rM {D:List Dcm} (h:(cnts D).2.2=0):CntOk D:=by
 unfold cnts at h;split at h
 ·cases h
 ·rename_i h8
  split at h
  ·rename_i hf
   have hc:cnts D=wK D [] 1:=by unfold cnts;rw[if_neg h8,if_pos hf]
   obtain⟨a1,a2,a3,a4⟩:=zh6 h;have hn:(cnts D).2.1=(xY D:Nat):=by unfold xY;rw[hc,a4];simp
   refine⟨by omega,by rw[hc,a1];simp,a2,hn,?_,?_⟩
   ·have:=a3 (by decide);rw[<-hc,hn] at this;omega
   ·have:=a4;rw[<-hc,hn] at this;omega
  ·rename_i hf;exact absurd h hf
theorem zh7 {d:Dcm} (hd:DcmS d) (h:(cntD d).2=0):1<=(cntD d).1:=by
 have h0:=kC h;have hR:=oM hd h0;unfold cntD at h⊢;rw[if_pos h0] at h⊢;have key: ∀(l:List Fld) (n:Nat),1<=n->(∀f∈l,1<=yQ f)->(vD l n).2=0->1<=(vD l n).1:=by
  intro l
  induction l with
  |nil=>intro n hn _ _;simp only[vD];omega
  |cons f l ih=>
   intro n hn hf h;rw[vD] at h⊢;split at h
   ·cases h
   ·rename_i hq
    rw[if_neg hq];exact ih _ (YX hn (hf f (by simp))) (fun x hx=>hf x (Zz _ hx)) h
 exact key d.flds 1 (Zt _) (fun f hf=>zhi (hR.fld hf)) h
theorem zh8 {d:Dcm} {q:Nat} (h:(cntD d).2=0) (hq:(q:Int)<(cntD d).1):rdE d q=0:=by
 unfold rdE;rw[if_neg (by simp[h]),if_neg (by omega)]
theorem zna {d:Dcm} {q:Nat} (h:(cntD d).2=0) (hq:(q:Int)<(cntD d).1):rdR d q=rdD d q:=by
 unfold rdR;rw[if_pos (zh8 h hq)];simp
theorem zh9: ∀(D:List Dcm) (cs:List Nat) (i:Nat),cs.length=D.length->(xN D cs i).1.length=D.length
 |[],[],_,_=>rfl
 |d::D,c::cs,i,h=>by rw[xN,Zo,zh9 D cs i (by simpa using h),Zo]
 |[],_::_,_,h=>by simp at h
 |_::_,[],_,h=>by simp at h
theorem zia: ∀(D:List Dcm) (cs:List Nat) (i:Nat),(xN D cs i).2<=i
 |d::D,c::cs,i=>by rw[xN];exact ZT (Xo _ _) (zia D cs i)
 |[],_,_=>by simp[xN]
 |_::_,[],_=>by simp[xN]
theorem znb {D:List Dcm} {cs:List Nat} {i k:Nat} (hk:k<D.length) (hc:k<cs.length):xN (D.drop k) (cs.drop k) i=(rdD D[k] ((xN (D.drop (k+1)) (cs.drop (k+1)) i).2 % cs.getD k 0)::(xN (D.drop (k+1)) (cs.drop (k+1)) i).1,(xN (D.drop (k+1)) (cs.drop (k+1)) i).2/cs.getD k 0):=by
 have e:cs.getD k 0=cs[k]:=by simp[List.getD,hc]
 rw[ZE hk,ZE hc,xN,e]
end Go.Ex
namespace Go.Abs
open Go.Proofs Go.RowKit Go.Lib Go.Wd Go.Wire Go.Ex
def vF (l:List Pln):List (List C):=l.map yM
theorem znc (l:List Pln):(vF l).length=l.length:=by simp[vF]
theorem oT (l:List Pln):C.normRows (vF l)=vF l:=zP sQ l
theorem c38 (D:List Dcm) (hD:sP D) (hok:CntOk D) (i:Nat) (hi:i<xY D):Spec Tryz.prog 38 [lst 2 (D.map zV),lst 1 (zM (cnts D).1),.int .i64 i] (fun v=>v=lst 3 (vF (rdsD D i))):=by
 refine Spec.of_awlP hf38 okf38 (by simp) fun S hS=>?_
 have h8:=hok.len;have hle:=hok.le;have hcl:(cnts D).1.length=D.length:=by rw[hok.l];simp
 simp only[zI,Qs,zk6,zdH,zln,bne_iff_ne,ne_eq,Zc,Zs,Za,Zi,Ψ38];have w0:IntKind.i64.wrap ((D.length:Int)-1)=(D.length:Int)-1:=wrap_in (by omega) (by omega);rw[w0];refine⟨by omega,by omega,by omega,?_⟩;obtain⟨zr,hzr⟩: ∃zr,[C.str [],C.list 0 (some true) [],C.list 0 (some true) []]=zr:=⟨_,rfl⟩;rw[hzr];have hcs:(vZ D).length=D.length:=by unfold vZ;rw[Zi,hcl]
 rw[uu f38l13.eq_1];refine yA (fun k:Nat=>[(0,lst 2 (D.map zV)),(1,lst 1 (zM (cnts D).1)),(2,.int .i64 ((xN (D.drop k) ((vZ D).drop k) i).2:Nat)),(7,.k (.own 11)),(8,.int .i64 ((k:Int)-1))]) (fun k=>[(11,.arr 53 3 (some false) ((List.replicate D.length zr).take k++vF (xN (D.drop k) ((vZ D).drop k) i).1))]) (fun k=>k<=D.length) (fun k=>k) D.length (by rw[ZC (Zt _)];rfl) (by rw[ZC (Zt _)];simp[xN,vF];rfl) (Zt _) ?_;intro k hk;by_cases hk0:k=0
 ·subst hk0
  have d1: ¬((0:Nat):Int)-1>=0:=by omega
  simp only[d1,Qs,Xm,ZY,Za,Int.reduceGE,Int.reduceSub,Zy,Ψ38];refine hS _ ?_;simp only[V.fz,V.fzL,V.nrm,V.nrmL,oT,qB (oT _)]
  try rfl
 ·obtain⟨m,rfl⟩: ∃m,k=m+1:=⟨k-1,by omega⟩
  have hm:m<D.length:=by omega
  have d1:(m:Int)>=0:=by omega
  have d2:(m:Int)<D.length:=by omega
  have hmc:m<(vZ D).length:=by omega
  have hml:m<(cnts D).1.length:=by omega
  have e6:((m+1:Nat):Int)-1=(m:Int):=by omega
  have hst:=znb (i:=i) hm hmc;have hat:=nX hm;have hce:=hok.e _ (Zx hm);have hds:=hD.2 _ (Zx hm);have hcp:=zh7 hds hce;have hci:(cnts D).1[m]=(cntD D[m]).1:=by simp[hok.l]
  have hia:=zlB hml;rw[hci] at hia;have hcn:((vZ D).getD m 0:Int)=(cntD D[m]).1:=by
   unfold vZ;simp only[List.getD,Zw,Zg hml,hci,Yw,Y1];omega
  have hqle:=zia (D.drop (m+1)) ((vZ D).drop (m+1)) i;have hpl:=zh9 (D.drop (m+1)) ((vZ D).drop (m+1)) i (by rw[List.length_drop,List.length_drop,hcs]);obtain⟨q,hq⟩: ∃q,(xN (D.drop (m+1)) ((vZ D).drop (m+1)) i).2=q:=⟨_,rfl⟩;obtain⟨L,hL⟩: ∃L,(xN (D.drop (m+1)) ((vZ D).drop (m+1)) i).1=L:=⟨_,rfl⟩;rw[hq] at hqle;rw[hL] at hpl;rw[hq,hL,e6];obtain⟨c,hc⟩: ∃c,(vZ D).getD m 0=c:=⟨_,rfl⟩;rw[hc] at hcn;rw[hq,hL,hc] at hst;generalize D[m]=d at hat hce hds hcp hia hcn hst;rw[<-hcn] at hia hcp;have hc0: ¬(c:Int)=0:=by omega
  have hmod:q % c<c:=Xc _ (by omega);have hr1:(q:Int).tmod (c:Int)=((q % c:Nat):Int):=(Int.ofNat_tmod q c).symm;have hr2:(q:Int).tdiv (c:Int)=((q/c:Nat):Int):=(Int.ofNat_tdiv q c).symm;have g1:=c78 d hds ((q % c:Nat):Int);rw[zna hce (by rw[<-hcn];omega),zh8 hce (by rw[<-hcn];omega)] at g1;unfold zV yM at g1;simp only[d1,d2,hat,zI,hia,yL,hml,hc0,hr1,hr2,Qs,zdb,zlc,ne_eq,Za,Zi,Ψ38,vv f38r5o0.eq_1,vv f38r5o1.eq_1,vv f38r5o2.eq_1,vv f38r5o3.eq_1,vv f38r5o4.eq_1,vv f38r5o5.eq_1,vv f38r5o6.eq_1,vv f38r5o7.eq_1,vv f38r5o8.eq_1,vv f38r5o9.eq_1,vv f38r5o10.eq_1,vv f38r5o11.eq_1,vv f38r5o12.eq_1,vv f38r5o13.eq_1,vv f38r5o14.eq_1,vv f38r5o15.eq_1,vv f38r5o16.eq_1,vv f38r5o17.eq_1,zlz,Ψ38];have hrl:((List.replicate D.length zr).take (m+1)++vF L).length=D.length:=by rw[Zv,Yy,List.length_replicate,znc,hpl,List.length_drop];omega
  have w2:IntKind.i64.wrap ((q/c:Nat):Int)=((q/c:Nat):Int):=by
   have hdl:=Xo q c;generalize q/c=t at hdl;exact wrap_in (by omega) (by omega)
  have w3:IntKind.i64.wrap ((m:Int)-1)=(m:Int)-1:=wrap_in (by omega) (by omega);refine⟨by omega,zg6 g1 ?_ (ha:=by simp only[Zm,Zq,zB,V.norm,C.norm,C.normRow,yG wO]<;>rfl)⟩;simp only[d1,d2,hat,zI,hia,yL,hml,hc0,hr1,hr2,hrl,w2,w3,Qs,zcg,zk2,zk3,zk9,cC,zdh,zdq,zdr,zds,zdt,zdu,zdv,zdH,zlb,zd8,zd9,zll,zlm,zls,cJ,cK,cL,ne_eq,Zc,Za];have hset:((List.replicate D.length zr).take (m+1)++vF L).set m [C.str (rdD d (q % c)).kind,zC 1 (zJ (rdD d (q % c)).names),zC 1 (zJ (rdD d (q % c)).texts)]=(List.replicate D.length zr).take m++vF (rdD d (q % c)::L):=by
   rw[List.take_replicate,List.take_replicate,Xx (by omega),Xx (by omega),List.replicate_succ',Yd,List.set_append_right _ _ (by simp),List.length_replicate,Nat.sub_self];rfl
  refine⟨by omega,Next.intro m (by rw[hst];rfl) (by rw[hst,hset];rfl) (by omega) (by omega)⟩
end Go.Abs
namespace Go.Ex
open Go.Lib Go.Wd Go.Wire Go.Abs
def zpf (D:List Dcm) (i:Int):Int:=if (cnts D).2.2≠0 then(cnts D).2.2 else if i<0\/i>=(cnts D).2.1 then 4 else 0
def zpa (D:List Dcm) (i:Int):List Pln:=if zpf D i=0 then rdsD D i.toNat else[]
end Go.Ex
namespace Go.Abs
open Go.Proofs Go.RowKit Go.Lib Go.Wd Go.Wire Go.Ex
theorem c14 (D:List Dcm) (hD:sP D) (i:Int):Spec Tryz.prog 14 [lst 2 (D.map zV),.int .i64 i] (fun v=>v=.tup [lst 3 (vF (zpa D i)),.int .i64 (zpf D i)]):=by
 refine Spec.of_awlP hf14 okf14 (by simp) fun S hS=>?_
 have g1:=c37 D hD;have hE:zpf D i=if (cnts D).2.2≠0 then(cnts D).2.2 else if i<0\/i>=(cnts D).2.1 then 4 else 0:=rfl
 by_cases h0:(cnts D).2.2=0
 ·have hok:=rM h0
  have hn:=hok.n;rw[if_neg (by simp[h0])] at hE;rw[h0] at g1;by_cases hi0:i<0
  ·rw[if_pos (.inl hi0)] at hE
   have hr:zpa D i=[]:=by unfold zpa;rw[hE];rfl
   rw[hr,hE] at hS;simp only[Qs,Zc,Za,Ψ14];refine xI g1 ?_ (ha:=by simp only[Zm,Zq,zB,V.norm,C.norm,yG yU]<;>rfl);simp only[hi0,Qs,zeS,BEq.rfl,Zk,ZY,Zc,Ye,Za,Xn,Zy,Ψ14];exact hS _ rfl
  by_cases hi1:i>=(cnts D).2.1
  ·rw[if_pos (.inr hi1)] at hE
   have hr:zpa D i=[]:=by unfold zpa;rw[hE];rfl
   rw[hr,hE] at hS;simp only[Qs,Zc,Za,Ψ14];refine xI g1 ?_ (ha:=by simp only[Zm,Zq,zB,V.norm,C.norm,yG yU]<;>rfl);simp only[hi0,hi1,Qs,BEq.rfl,Zk,ZY,Zc,Ye,Za,Xn,Zy,Ψ14];exact hS _ rfl
  ·rw[if_neg (by omega)] at hE
   have hr:zpa D i=rdsD D i.toNat:=by unfold zpa;rw[if_pos hE]
   rw[hr,hE] at hS;obtain⟨m,rfl⟩: ∃m:Nat,i=m:=⟨i.toNat,by omega⟩;have g2:=c38 D hD hok m (by omega);simp only[Z6] at hS;simp only[Qs,Zc,Za,Ψ14];refine xI g1 ?_ (ha:=by simp only[Zm,Zq,zB,V.norm,C.norm,yG yU]<;>rfl);simp only[hi0,hi1,Qs,Zk,Zc,Ye,Za,Xn,Ψ14];refine xI g2 ?_ (ha:=by simp only[Zm,Zq,zB,V.norm,C.norm,yG yU,zO,vC]<;>rfl);simp only[Qs,Zk,Za];refine hS _ ?_;simp only[oT,V.fz,V.fzL,V.nrm,V.nrmL,Abs.K.fz,Abs.K.nrm,zO]
   try rfl
 ·rw[if_pos h0] at hE
  have hr:zpa D i=[]:=by unfold zpa;rw[hE,if_neg h0]
  rw[hr,hE] at hS;have h1:((cnts D).2.2 !=0)=true:=by simp[h0]
  simp only[Qs,Zc,Za,Ψ14];refine xI g1 ?_ (ha:=by simp only[Zm,Zq,zB,V.norm,C.norm,yG yU]<;>rfl);simp only[h1,Qs,BEq.rfl,Zk,ZY,Zc,Ye,Za,Zy,Ψ14];exact hS _ rfl
end Go.Abs
namespace Go.Abs
open Go.Sort Go.Proofs Go.Shelf Go.Lib Go.RowKit
def zK (e:TypeId) (k τ:Nat) (rows:List (List C)):Nat->Option O:=fun s=>if s=τ then some (.arr e k none rows) else none
def aC (w:World) (Z:Bk->Prop) (r:List C) (v:List Value):Prop:=v.length=r.length/\ ∀(j:Nat) c u,r[j]?=some c->v[j]?=some u->PRep w Z c u
theorem zib {w:World} {b:Nat} {cur F:Array Value} {e:TypeId} (hb:w.heap[b]?=some (.cells cur e (0,0))) (hF:F.size<=cur.size) (h: ∀j,j<F.size->cur[j]?=some F[j]!):Holds id w b 0 F:=by
 intro j hj;refine⟨?_,by simp[World.frozen?,hb]⟩;simp only[World.cell?,hb,ZV];simp only[YN,Z1,if_false];exact h j hj
theorem zic {w:World} {g n:Nat} {os:Array Obj} {cur:Array Value} {e:TypeId} {fr:Nat×Nat} (d:Array Value) (hb:w.heap[g]?=some (.cells cur e fr)):
  (grow (putRow id (Sort.ahead w n) g 0 d) os).heap[g]?=some (.cells (putCells id 0 d cur) e fr):=by
 have hg:g<w.heap.size:=(Zn.1 hb).1;rw[heap_grow_old _ _ (by simpa using hg)];simp[putRow,mapBlock,Sort.ahead,Xh,hb,onCells]
theorem gM {w:World} {g n:Nat} {os:Array Obj} (d:Array Value):w.grownBy (grow (putRow id (Sort.ahead w n) g 0 d) os) (some g):=by
 refine⟨rfl,rfl,rfl,by simp,fun k hk hne=>?_⟩;rw[heap_grow_old _ _ (by simpa using hk)];have:g≠k:=fun e=>hne (by rw[e])
 simp[putRow,mapBlock,Sort.ahead,Xh,this]
theorem zid {vs:Array Value} (h:vs.size=2): ∃a b,vs= #[a,b]:=by
 obtain⟨l⟩:=vs
 match l,h with
 |[a,b],_=>exact⟨a,b,rfl⟩
theorem zie {τ:Nat} {x y r:V} (o:Nat->Option O) (ob:O) (h: ∀s,s≠τ->o s=none):(((⟨fun s=>[x,y].getD s .any,o⟩:St).scrub τ).setO τ ob).put 0 r=⟨fun s=>if s=0 then r else(([x,y].getD s .any).scrub τ),fun s=>if s=τ then some ob else none⟩:=by
 simp only[St.put,St.setO,St.scrub,St.mk.injEq];refine⟨trivial,?_⟩;funext s;by_cases hs:s=τ
 ·simp[hs]
 ·simp[hs,h s hs]
theorem znd {P:Program} {ρ:Ren} (L:SlLaysF0.n6 P ρ) (hc:sB P (ρ.f 6)) (e:TypeId) (k:Nat) (k0:0<k) (aE: ∀w,(isAgg (ρ.t 24)).run P w=.ok true w) (zE: ∀w,(Go.sizeOf (ρ.t 24)).run P w=.ok k w)
  {β:Type} (encR:β->List C) (hk: ∀x,(encR x).length=k) (cf:β->β->Int) (lt:β->β->Bool) (hlt: ∀x y,decide (cf x y<0)=lt x y) (hO:SWO lt) (g:Nat) (eg: ∀args w,(callFunc g args).run P w=.ok (.enter g args) w)
  (τ:Nat) (ks:List β) (hm:ks.length<4611686018427387904)
  (hcl: ∀x∈ks,∀y∈ks,∀(W:World) (Z:Bk->Prop) (vx vy:List Value),(∀b,Z b->b.2<W.heap.size)->aC W Z (encR x) vx->aC W Z (encR y) vy->
   Calls P g #[.agg vx.toArray,.agg vy.toArray] W fun e w'=>e=.returned (.int .i64 (cf x y))/\ ∃q os',w'=grow (W.drewN q) os'):
  wB P (ρ.f 6) [.k (.own τ),.k (.c (.fn g []))] (zK e k τ (ks.map encR)) [τ] (fun r o'=>r=.tup []/\ ∃out:List β,out.Perm ks/\out.Pairwise (fun x y=>lt y x=false)/\o'=zK e k τ (out.map encR)):=by
 refine⟨hc,fun w0 Z0 κ w vs hsz hi=>?_⟩;obtain⟨v,fv,rfl⟩:=zid hsz;have ho:(zK e k τ (ks.map encR)) τ=some (.arr e k none (ks.map encR)):=by simp[zK]
 have hno: ∀s,s≠τ->zK e k τ (ks.map encR) s=none:=fun s hs=>by simp[zK,hs]
 have hob:=hi.objs τ _ ho;have htm:zD w (Zof w0 Z0 κ (zK e k τ (ks.map encR)) w) κ (zK e k τ (ks.map encR)) (.k (.own τ)) v:=by simpa using hi.tmps 0
 have htf:zD w (Zof w0 Z0 κ (zK e k τ (ks.map encR)) w) κ (zK e k τ (ks.map encR)) (.k (.c (.fn g []))) fv:=by simpa using hi.tmps 1
 have hfv:fv=.func (.func g) #[] #[]:=by
  have:=htf.2;unfold yK at this;cases this with
  |fn f caps us val h1 h2 h3=>
   have:us= #[]:=YR h1;rw[this]
 subst hfv;have none_case: ∀(p:Option Addr) (cap:Nat),ks=[]->v=.slice p 0 cap->Calls P (ρ.f 6) #[v,.func (.func g) #[] #[]] w fun e_1 w'=> ∃v κ' r o',e_1=.returned v/\(r=.tup []/\ ∃out:List β,out.Perm ks/\out.Pairwise (fun x y=>lt y x=false)/\o'=zK e k τ (out.map encR))/\yO (fun τ_1=>τ_1∈[τ]) (zK e k τ (ks.map encR)) o' κ κ' w w'/\Inv w0 Z0 κ' ⟨fun s=>if s=0 then r else .any,o'⟩ #[v] w':=by
  intro p cap hnil hv;subst hnil hv;refine(AnyF.slices_SortFunc_none L p cap _ w).mono ?_;rintro ex w' ⟨rfl,hw⟩;rw[hw];have hI:=hi.moveG (τ:=τ) (d:=0) (ob:=.arr e k none []) (v:=.tup []) (u:=.tuple #[]) (bo:=κ τ) (w':=w) ho (by simp) rfl rfl rfl (Zt _) (fun _ _ _=>rfl) (fun b hb=> .inr hb)
   (fun Z hZ=>?_) ⟨#[],rfl,rfl,trivial⟩
  ·have hI2:=hI.only (T:=[τ]) (r:=.tup []) (v:=.tuple #[]) ⟨#[],rfl,rfl,trivial⟩ rfl (fun t ht ob hob=>by
    simp only[ZU] at ht
    subst ht
    simp[St.put,St.setO] at hob
    subst hob;rfl)
   have htab:yE [τ] ((((⟨fun s=>[V.k (.own τ),.k (.c (.fn g []))].getD s .any,zK e k τ (([]:List β).map encR)⟩:St).scrub τ).setO τ (.arr e k none [])).put 0 (.tup [])).o=zK e k τ (([]:List β).map encR):=by
    funext t;unfold yE zK;by_cases ht:t=τ
    ·subst ht;simp[St.put,St.setO]
    ·simp[ht]
   rw[htab] at hI2;refine⟨.tuple #[],_,.tup [],_,rfl,⟨rfl,[],Xu _,XI,rfl⟩,?_,hI2⟩;intro s hs;simp only[ZU] at hs;subst hs;refine⟨by simp[yC,zK],by simp,fun _ b hb cur e' f hcur=>⟨cur,hcur,rfl⟩⟩
  ·have hZ':=hob
   rcases hZ' with⟨h1,_,_⟩|⟨b,cur,cap',h1,h2,h3,h4,h5,h6,_,h8,_⟩
   ·exact .inl ⟨by simp[h1],rfl,by simp⟩
   ·exact .inr ⟨b,cur,cap',by simp[h1],h2,h3,h4,by simp,h6,by simp,by simp,fun i j r c hr=>by simp at hr⟩
 rcases hob with⟨hκ,hrows,_⟩|⟨b,cur,cap,hκ,hheap,h0,hcs,hlen,hcap,_,hall,hrr⟩
 ·have hl0:ks=[]:=by simpa using hrows
  have hv:v=.slice none 0 0:=by
   rcases htm.2 e k none _ ho with⟨_,hv⟩|⟨b,_,_,hb,_⟩
   ·exact hv
   ·rw[hκ] at hb;cases hb
  exact none_case none 0 hl0 hv
 ·obtain⟨cap',hv,hcap'⟩: ∃cap',v=.slice (some ⟨b,0,none⟩) ks.length cap'/\cur.size=cap'*k:=by
   rcases htm.2 e k none _ ho with⟨hn,_⟩|⟨b',cur',cap',hb,hh,hc2,hv⟩
   ·rw[hκ] at hn;cases hn
   ·rw[hκ] at hb;cases hb
    rw[hheap] at hh;cases hh;exact⟨cap',by simpa using hv,hc2⟩
  by_cases hks:ks=[]
  ·exact none_case _ cap' hks (by rw[hv,hks];rfl)
  have hpos:0<ks.length:=Yh.2 hks;subst hv;have hlt':b<w.heap.size:=xV hheap;rw[Zi] at hlen;have hcsz:ks.length*k<=cur.size:=by rw[hcs];exact ZX k hlen
  haveI:Inhabited (Fin ks.length):=⟨⟨0,hpos⟩⟩
  let enc:Fin ks.length->List Value:=fun i=>(List.range k).map fun j=>cur.getD (i.1*k+j) (.bool true)
  have enck: ∀x,(enc x).length=k:=fun x=>by simp[enc]
  have hcell: ∀(i:Fin ks.length) (j:Nat) c,(encR ks[i.1])[j]?=some c-> ∃u,cur[i.1*k+j]?=some u/\(enc i)[j]?=some u/\PRep w (Zof w0 Z0 κ (zK e k τ (ks.map encR)) w) c u:=by
   intro i j c hcj;have hj:j<k:=by rw[<-hk ks[i.1]];exact(Zr.1 hcj).1
   obtain⟨u,hu,hp⟩:=hrr i.1 j (encR ks[i.1]) c (by rw[Zw,Zg i.2];rfl) hcj;refine⟨u,hu,?_,hp⟩;simp only[enc,Zw,XZ hj,Yw];rw[ZR,hu];rfl
  have henc1: ∀x,∀u∈enc x,u.oneCell'=true:=by
   intro x u hu;obtain⟨j,hj,rfl⟩:=YW hu;have hj':j<k:=by rwa [enck] at hj
   obtain⟨u2,_,h2,h3⟩:=hcell x j _ (Zg (by rw[hk];exact hj'));rw[Zg hj] at h2;cases h2;exact h3.oneCell
  let d:Array (Fin ks.length):=Array.ofFn fun i=>i
  have hds:d.size=ks.length:=by simp[d]
  have hdi: ∀i (h:i<ks.length),d[i]! =⟨i,h⟩:=fun i h=>by simp[d,h]
  have hflat: ∀(d':Array (Fin ks.length)),d'.size=ks.length-> ∀t,t<ks.length*k->(flatK enc k d')[t]! =cur.getD (d'[t/k]!.1*k+t % k) (.bool true):=by
   intro d' hd' t ht;rw[get_flatK _ _ _ _ (by rw[hd'];exact ht)];have hm2:t % k<k:=Xc _ k0;simp only[enc];rw[getElem!_pos _ _ (by simpa using hm2)];simp
  have hH:HoldsK enc k w b 0 d:=by
   refine zib hheap (by simp[hds];exact hcsz) fun t ht=>?_
   rw[size_flatK,hds] at ht;rw[hflat d hds t ht];have hq:t/k<ks.length:=(Nat.div_lt_iff_lt_mul k0).2 ht;rw[hdi _ hq];have e1:t/k*k+t % k=t:=Nat.div_add_mod' t k;show cur[t]?=some (cur.getD (t/k*k+t % k) _);rw[e1,ZR,Yb (by omega)];rfl
  let cfF:Fin ks.length->Fin ks.length->Int:=fun i j=>cf ks[i.1] ks[j.1]
  have hltF: ∀x y,ltOf cfF x y=lt ks[x.1] ks[y.1]:=fun x y=>by unfold ltOf;exact hlt _ _
  have hOF:SWO (ltOf cfF):=⟨fun x=>by rw[hltF];exact hO.irrefl _,fun x y z h1 h2=>by rw[hltF] at*;exact hO.trans _ _ _ h1 h2,fun x y z h1 h2=>by rw[hltF] at*;exact hO.ntrans _ _ _ h1 h2⟩;have hcmp:CmpLays P g #[] enc k cfF b 0 d.size w:=by
   intro m os dk hdk x y;have hsame:yV (Zof w0 Z0 κ (zK e k τ (ks.map encR)) w) w (sortWorldK enc k w b 0 m dk os):=by
    intro bk hbk;have hne:bk.2≠b:=fun e2=>hbk.2.2 τ (by rw[ho];simp) (by rw[hκ,e2])
    exact(gM (flatK enc k dk)).block bk.2 hbk.2.1 (fun e2=>hne (by cases e2;rfl))
   have hrow: ∀i:Fin ks.length,aC (sortWorldK enc k w b 0 m dk os) (Zof w0 Z0 κ (zK e k τ (ks.map encR)) w) (encR ks[i.1]) (enc i):=by
    intro i;refine⟨by rw[enck,hk],fun j c u hcj hu=>?_⟩;obtain⟨u2,_,h2,h3⟩:=hcell i j c hcj;rw[h2] at hu;cases hu;exact h3.mono hsame fun _ h=>h
   have hsz2:w.heap.size<=(sortWorldK enc k w b 0 m dk os).heap.size:=(gM (flatK enc k dk)).size;have:=hcl ks[x.1] (Zx _) ks[y.1] (Zx _) (sortWorldK enc k w b 0 m dk os) (Zof w0 Z0 κ (zK e k τ (ks.map encR)) w) (enc x) (enc y) (fun bk hbk=>ZM hbk.2.1 hsz2) (hrow x) (hrow y);rw[show(#[.agg (enc x).toArray,.agg (enc y).toArray]++ #[]:Array Value)= #[.agg (enc x).toArray,.agg (enc y).toArray] from rfl];exact this
  have hcon:=AnyQ.slices_SortFunc L k aE zE enc enck henc1 cfF hOF g #[] b 0 cap' d w eg hcmp hH hlt' (by rw[hds];exact hm);rw[hds] at hcon;refine hcon.mono ?_;rintro ex w' ⟨rfl,d',n,os,⟨p1,p2,p3⟩,hs,rfl⟩;rw[hds] at p1;have hfull: ∀a:Array (Fin ks.length),a.size=ks.length->a.extract 0 ks.length=a:=fun a ha=>by
   apply Array.ext
   ·simp[ha]
   ·intro i h1 h2;simp
  rw[hfull d' p1,hfull d hds] at p3
  let out:List β:=d'.toList.map fun i=>ks[i.1]
  have hol:out.length=ks.length:=by simp[out,p1]
  have hperm:out.Perm ks:=by
   have h1:(d.toList.map fun i:Fin ks.length=>ks[i.1])=ks:=by
    apply Xj
    ·simp[d]
    ·intro i h1 h2;simp[d]
   have h2:(d'.toList.map fun i:Fin ks.length=>ks[i.1]).Perm (d.toList.map fun i:Fin ks.length=>ks[i.1]):=p3.map _;rw[h1] at h2;exact h2
  have hpw:out.Pairwise fun x y=>lt y x=false:=by
   rw[List.pairwise_iff_getElem];intro i j h1 h2 hij;have hi1:i<d'.size:=by rw[p1,<-hol];exact h1
   have hj1:j<d'.size:=by rw[p1,<-hol];exact h2
   have:=hs i j (ZA _) hij (by rw[<-p1];exact hj1);rw[hltF,getElem!_pos d' i hi1,getElem!_pos d' j hj1] at this;simpa [out] using this
  have hh2:=zic (w:=w) (n:=n) (os:=os) (flatK enc k d') hheap;obtain⟨g1,g2,g3,g4,g5⟩:=gM (w:=w) (g:=b) (n:=n) (os:=os) (flatK enc k d');have hsz2:(putCells id 0 (flatK enc k d') cur).size=cur.size:=by simp[putCells]
  have hzsame:yV (Zof w0 Z0 κ (zK e k τ (ks.map encR)) w) w (sortWorldK enc k w b 0 n d' os):=by
   intro bk hbk;have hne:bk.2≠b:=fun e2=>hbk.2.2 τ (by rw[ho];simp) (by rw[hκ,e2])
   exact g5 bk.2 hbk.2.1 (fun e2=>hne (by cases e2;rfl))
  have hI:=hi.moveG (τ:=τ) (d:=0) (ob:=.arr e k none (out.map encR)) (v:=.tup []) (u:=.tuple #[]) (bo:=some b) (w':=sortWorldK enc k w b 0 n d' os) ho (by simp) g1 g2 g3 g4
   (fun q hq hne=>g5 q hq (by rw[hκ] at hne;exact fun h=>hne (by cases h;rfl))) (fun b' hb=> .inr (by cases hb;exact hκ))
   (fun Z hZ=> .inr ⟨b,_,cap,by simp,hh2,h0,by rw[hsz2];exact hcs,by rw[Zi,hol];exact hlen,hcap,by simp,fun r hr=>by obtain⟨x,_,rfl⟩:=ZB.1 hr;exact hk x,fun i j r c hr hcj=>?_⟩) ⟨#[],rfl,rfl,trivial⟩
  ·rw[zie _ _ hno] at hI
   have hI2:=hI.only (T:=[τ]) (r:=.tup []) (v:=.tuple #[]) ⟨#[],rfl,rfl,trivial⟩ rfl (fun t ht ob hob=>by
    simp only[ZU] at ht
    subst ht
    simp at hob
    subst hob;rfl)
   have htab:yE [τ] (fun s=>if s=τ then some (O.arr e k none (out.map encR)) else none)=zK e k τ (out.map encR):=by
    funext t;unfold yE zK;by_cases ht:t=τ
    ·subst ht;simp
    ·simp[ht]
   rw[htab] at hI2;refine⟨.tuple #[],_,.tup [],_,rfl,⟨rfl,out,hperm,hpw,rfl⟩,?_,hI2⟩;intro s hs;simp only[ZU] at hs;subst hs;refine⟨by simp[zK,yC,hol],by simp[hκ],fun _ b' hb cur0 e0 f0 hc0=>?_⟩;rw[hκ] at hb;cases hb;rw[hheap] at hc0;cases hc0;exact⟨_,hh2,hsz2⟩
  ·
   have hi':i<ks.length:=by have:=(Zr.1 hr).1;rwa [Zi,hol] at this
   have hid:i<d'.size:=by rw[p1];exact hi'
   have hout:out[i]'(by rw[hol];exact hi')=ks[(d'[i]).1]:=by simp[out]
   have hr':r=encR ks[(d'[i]).1]:=by
    rw[Zw,Zg (by rw[hol];exact hi')] at hr;have:=Yv hr;rw[<-this,hout]
   subst hr';have hj:j<k:=by rw[<-hk ks[(d'[i]).1]];exact(Zr.1 hcj).1
   obtain⟨u,hu,_,hp⟩:=hcell d'[i] j c hcj;have hlt2:i*k+j<ks.length*k:=by
    have:=ZX k (show i+1<=ks.length from hi');rw[Yx,Xs] at this;omega
   have e1:(i*k+j)/k=i:=(blk_iff k i _ k0).1 ⟨by omega,by omega⟩;have e2:(i*k+j) % k=j:=by rw[Nat.mod_eq_sub_div_mul,e1];omega
   refine⟨u,?_,hp.mono hzsame hZ⟩;have hf:=hflat d' p1 (i*k+j) hlt2;rw[e1,e2,getElem!_pos d' i hid,ZR,hu] at hf;have hfs:i*k+j<(flatK enc k d').size:=by rw[size_flatK,p1];exact hlt2
   have hcs2:i*k+j<cur.size:=by omega
   simp only[putCells];rw[Array.getElem?_mapIdx,Yb hcs2];simp only[Yw,ZA,true_and,ZV,hfs,if_true,XG,id];rw[hf];rfl
end Go.Abs
namespace Go.Proofs
open Go.Shelf Go.RowKit Go.Lib Go.Sort
def Tryz.laysSortP_ren:Go.Shelf.Ren:=
 {
  f:=fun x=>
   match x with
   |6=>72
   |15=>107
   |14=>109
   |28=>143
   |29=>144
   |20=>146
   |21=>147
   |22=>148
   |23=>149
   |24=>150
   |25=>151
   |26=>152
   |27=>153
   |46=>168
   |47=>164
   |48=>165
   |49=>169
   |50=>170
   |57=>178
   |n=>n,
  t:=fun x=>
   match x with
   |22=>31
   |24=>64
   |25=>125
   |3=>3
   |39=>71
   |0=>0
   |53=>152
   |55=>154
   |4=>4
   |46=>196
   |45=>195
   |50=>200
   |5=>5
   |9=>9
   |66=>215
   |70=>219
   |76=>230
   |77=>231
   |n=>n,
  g:=fun n=>n}
theorem Tryz.laysSortP:SlLaysF0.n6 Tryz.prog Tryz.laysSortP_ren:=
 {mixed:=by kernel_rfl,
  f6:=
   Z8 "slices.SortFunc[[]allonge/api.Place,allonge/api.Place]"
    ⟨of_decide_eq_true (id (ZI true)),
     ZQ Tryz.func72
      (congrArg some
       (ZI
        {SlBodyF.n6 Tryz.laysSortP_ren with name:= "slices.SortFunc[[]allonge/api.Place,allonge/api.Place]" }))⟩,
  f14:=
   Z8 "slices.pdqsortCmpFunc[allonge/api.Place]"
    ⟨of_decide_eq_true (id (ZI true)),
     ZQ Tryz.func109
      (congrArg some
       (ZI
        {SlBodyF.n14 Tryz.laysSortP_ren with name:= "slices.pdqsortCmpFunc[allonge/api.Place]" }))⟩,
  f15:=ZQ Tryz.func107 (congrArg some (ZI (SlBodyF.n15 Tryz.laysSortP_ren))),
  f20:=
   Z8 "slices.insertionSortCmpFunc[allonge/api.Place]"
    ⟨of_decide_eq_true (id (ZI true)),
     ZQ Tryz.func146
      (congrArg some
       (ZI
        {SlBodyF.n20 Tryz.laysSortP_ren with name:= "slices.insertionSortCmpFunc[allonge/api.Place]" }))⟩,
  f21:=
   Z8 "slices.heapSortCmpFunc[allonge/api.Place]"
    ⟨of_decide_eq_true (id (ZI true)),
     ZQ Tryz.func147
      (congrArg some
       (ZI
        {SlBodyF.n21 Tryz.laysSortP_ren with name:= "slices.heapSortCmpFunc[allonge/api.Place]" }))⟩,
  f22:=
   Z8 "slices.breakPatternsCmpFunc[allonge/api.Place]"
    ⟨of_decide_eq_true (id (ZI true)),
     ZQ Tryz.func148
      (congrArg some
       (ZI
        {SlBodyF.n22 Tryz.laysSortP_ren with name:= "slices.breakPatternsCmpFunc[allonge/api.Place]" }))⟩,
  f23:=
   Z8 "slices.choosePivotCmpFunc[allonge/api.Place]"
    ⟨of_decide_eq_true (id (ZI true)),
     ZQ Tryz.func149
      (congrArg some
       (ZI
        {SlBodyF.n23 Tryz.laysSortP_ren with name:= "slices.choosePivotCmpFunc[allonge/api.Place]" }))⟩,
  f24:=
   Z8 "slices.reverseRangeCmpFunc[allonge/api.Place]"
    ⟨of_decide_eq_true (id (ZI true)),
     ZQ Tryz.func150
      (congrArg some
       (ZI
        {SlBodyF.n24 Tryz.laysSortP_ren with name:= "slices.reverseRangeCmpFunc[allonge/api.Place]" }))⟩,
  f25:=
   Z8 "slices.partialInsertionSortCmpFunc[allonge/api.Place]"
    ⟨of_decide_eq_true (id (ZI true)),
     ZQ Tryz.func151
      (congrArg some
       (ZI
        {SlBodyF.n25 Tryz.laysSortP_ren with name:= "slices.partialInsertionSortCmpFunc[allonge/api.Place]" }))⟩,
  f26:=
   Z8 "slices.partitionEqualCmpFunc[allonge/api.Place]"
    ⟨of_decide_eq_true (id (ZI true)),
     ZQ Tryz.func152
      (congrArg some
       (ZI
        {SlBodyF.n26 Tryz.laysSortP_ren with name:= "slices.partitionEqualCmpFunc[allonge/api.Place]" }))⟩,
  f27:=
   Z8 "slices.partitionCmpFunc[allonge/api.Place]"
    ⟨of_decide_eq_true (id (ZI true)),
     ZQ Tryz.func153
      (congrArg some
       (ZI
        {SlBodyF.n27 Tryz.laysSortP_ren with name:= "slices.partitionCmpFunc[allonge/api.Place]" }))⟩,
  f28:=ZQ Tryz.func143 (congrArg some (ZI (SlBodyF.n28 Tryz.laysSortP_ren))),
  f29:=ZQ Tryz.func144 (congrArg some (ZI (SlBodyF.n29 Tryz.laysSortP_ren))),
  f46:=
   Z8 "slices.siftDownCmpFunc[allonge/api.Place]"
    ⟨of_decide_eq_true (id (ZI true)),
     ZQ Tryz.func168
      (congrArg some
       (ZI
        {SlBodyF.n46 Tryz.laysSortP_ren with name:= "slices.siftDownCmpFunc[allonge/api.Place]" }))⟩,
  f47:=ZQ Tryz.func164 (congrArg some (ZI (SlBodyF.n47 Tryz.laysSortP_ren))),
  f48:=ZQ Tryz.func165 (congrArg some (ZI (SlBodyF.n48 Tryz.laysSortP_ren))),
  f49:=
   Z8 "slices.medianAdjacentCmpFunc[allonge/api.Place]"
    ⟨of_decide_eq_true (id (ZI true)),
     ZQ Tryz.func169
      (congrArg some
       (ZI
        {SlBodyF.n49 Tryz.laysSortP_ren with name:= "slices.medianAdjacentCmpFunc[allonge/api.Place]" }))⟩,
  f50:=
   Z8 "slices.medianCmpFunc[allonge/api.Place]"
    ⟨of_decide_eq_true (id (ZI true)),
     ZQ Tryz.func170
      (congrArg some
       (ZI
        {SlBodyF.n50 Tryz.laysSortP_ren with name:= "slices.medianCmpFunc[allonge/api.Place]" }))⟩,
  f57:=
   Z8 "slices.order2CmpFunc[allonge/api.Place]"
    ⟨of_decide_eq_true (id (ZI true)),
     ZQ Tryz.func178
      (congrArg some
       (ZI
        {SlBodyF.n57 Tryz.laysSortP_ren with name:= "slices.order2CmpFunc[allonge/api.Place]" }))⟩,
  t0:=Tryz.underlying0,a0:=Tryz.isAgg0,z0:=Tryz.sizeOf0,v0:=Tryz.zeroValue0,t3:=Tryz.underlying3,
  a3:=Tryz.isAgg3,z3:=Tryz.sizeOf3,v3:=Tryz.zeroValue3,t4:=Tryz.underlying4,a4:=Tryz.isAgg4,
  z4:=Tryz.sizeOf4,v4:=Tryz.zeroValue4,t5:=Tryz.underlying5,a5:=Tryz.isAgg5,z5:=Tryz.sizeOf5,
  v5:=Tryz.zeroValue5,t9:=Tryz.underlying9,a9:=Tryz.isAgg9,z9:=Tryz.sizeOf9,v9:=Tryz.zeroValue9,
  t22:=Tryz.underlying31,a22:=Tryz.isAgg31,z22:=Tryz.sizeOf31,v22:=Tryz.zeroValue31,
  t25:=Tryz.underlying125,a25:=Tryz.isAgg125,z25:=Tryz.sizeOf125,v25:=Tryz.zeroValue125,
  t39:=Tryz.underlying71,a39:=Tryz.isAgg71,z39:=Tryz.sizeOf71,v39:=Tryz.zeroValue71,
  t45:=Tryz.underlying195,a45:=Tryz.isAgg195,z45:=Tryz.sizeOf195,v45:=Tryz.zeroValue195,
  t46:=Tryz.underlying196,a46:=Tryz.isAgg196,z46:=Tryz.sizeOf196,v46:=Tryz.zeroValue196,
  t50:=Tryz.underlying200,a50:=Tryz.isAgg200,z50:=Tryz.sizeOf200,v50:=Tryz.zeroValue200,
  t53:=Tryz.underlying152,a53:=Tryz.isAgg152,z53:=Tryz.sizeOf152,v53:=Tryz.zeroValue152,
  t55:=Tryz.underlying154,a55:=Tryz.isAgg154,z55:=Tryz.sizeOf154,v55:=Tryz.zeroValue154,
  t66:=Tryz.underlying215,a66:=Tryz.isAgg215,z66:=Tryz.sizeOf215,v66:=Tryz.zeroValue215,
  t70:=Tryz.underlying219,a70:=Tryz.isAgg219,z70:=Tryz.sizeOf219,v70:=Tryz.zeroValue219,
  t76:=Tryz.underlying230,a76:=Tryz.isAgg230,z76:=Tryz.sizeOf230,v76:=Tryz.zeroValue230,
  t77:=Tryz.underlying231,a77:=Tryz.isAgg231,z77:=Tryz.sizeOf231,v77:=Tryz.zeroValue231}
def Tryz.laysSortC_ren:Go.Shelf.Ren:=
 {
  f:=fun x=>
   match x with
   |6=>69
   |15=>107
   |14=>106
   |28=>143
   |29=>144
   |20=>135
   |21=>136
   |22=>137
   |23=>138
   |24=>139
   |25=>140
   |26=>141
   |27=>142
   |46=>163
   |47=>164
   |48=>165
   |49=>166
   |50=>167
   |57=>177
   |n=>n,
  t:=fun x=>
   match x with
   |22=>76
   |24=>30
   |25=>123
   |3=>3
   |39=>71
   |0=>0
   |53=>152
   |55=>154
   |4=>4
   |46=>196
   |45=>195
   |50=>200
   |5=>5
   |9=>9
   |66=>215
   |70=>219
   |76=>230
   |77=>231
   |n=>n,
  g:=fun n=>n}
theorem Tryz.laysSortC:SlLaysF.n6 Tryz.prog Tryz.laysSortC_ren:=
 {mixed:=by kernel_rfl,
  f6:=
   Z8 "slices.SortFunc[[][]int,[]int]"
    ⟨of_decide_eq_true (id (ZI true)),
     ZQ Tryz.func69
      (congrArg some
       (ZI
        {SlBodyF.n6 Tryz.laysSortC_ren with name:= "slices.SortFunc[[][]int,[]int]" }))⟩,
  f14:=
   Z8 "slices.pdqsortCmpFunc[[]int]"
    ⟨of_decide_eq_true (id (ZI true)),
     ZQ Tryz.func106
      (congrArg some
       (ZI
        {SlBodyF.n14 Tryz.laysSortC_ren with name:= "slices.pdqsortCmpFunc[[]int]" }))⟩,
  f15:=ZQ Tryz.func107 (congrArg some (ZI (SlBodyF.n15 Tryz.laysSortC_ren))),
  f20:=
   Z8 "slices.insertionSortCmpFunc[[]int]"
    ⟨of_decide_eq_true (id (ZI true)),
     ZQ Tryz.func135
      (congrArg some
       (ZI
        {SlBodyF.n20 Tryz.laysSortC_ren with name:= "slices.insertionSortCmpFunc[[]int]" }))⟩,
  f21:=
   Z8 "slices.heapSortCmpFunc[[]int]"
    ⟨of_decide_eq_true (id (ZI true)),
     ZQ Tryz.func136
      (congrArg some
       (ZI
        {SlBodyF.n21 Tryz.laysSortC_ren with name:= "slices.heapSortCmpFunc[[]int]" }))⟩,
  f22:=
   Z8 "slices.breakPatternsCmpFunc[[]int]"
    ⟨of_decide_eq_true (id (ZI true)),
     ZQ Tryz.func137
      (congrArg some
       (ZI
        {SlBodyF.n22 Tryz.laysSortC_ren with name:= "slices.breakPatternsCmpFunc[[]int]" }))⟩,
  f23:=
   Z8 "slices.choosePivotCmpFunc[[]int]"
    ⟨of_decide_eq_true (id (ZI true)),
     ZQ Tryz.func138
      (congrArg some
       (ZI
        {SlBodyF.n23 Tryz.laysSortC_ren with name:= "slices.choosePivotCmpFunc[[]int]" }))⟩,
  f24:=
   Z8 "slices.reverseRangeCmpFunc[[]int]"
    ⟨of_decide_eq_true (id (ZI true)),
     ZQ Tryz.func139
      (congrArg some
       (ZI
        {SlBodyF.n24 Tryz.laysSortC_ren with name:= "slices.reverseRangeCmpFunc[[]int]" }))⟩,
  f25:=
   Z8 "slices.partialInsertionSortCmpFunc[[]int]"
    ⟨of_decide_eq_true (id (ZI true)),
     ZQ Tryz.func140
      (congrArg some
       (ZI
        {SlBodyF.n25 Tryz.laysSortC_ren with name:= "slices.partialInsertionSortCmpFunc[[]int]" }))⟩,
  f26:=
   Z8 "slices.partitionEqualCmpFunc[[]int]"
    ⟨of_decide_eq_true (id (ZI true)),
     ZQ Tryz.func141
      (congrArg some
       (ZI
        {SlBodyF.n26 Tryz.laysSortC_ren with name:= "slices.partitionEqualCmpFunc[[]int]" }))⟩,
  f27:=
   Z8 "slices.partitionCmpFunc[[]int]"
    ⟨of_decide_eq_true (id (ZI true)),
     ZQ Tryz.func142
      (congrArg some
       (ZI
        {SlBodyF.n27 Tryz.laysSortC_ren with name:= "slices.partitionCmpFunc[[]int]" }))⟩,
  f28:=ZQ Tryz.func143 (congrArg some (ZI (SlBodyF.n28 Tryz.laysSortC_ren))),
  f29:=ZQ Tryz.func144 (congrArg some (ZI (SlBodyF.n29 Tryz.laysSortC_ren))),
  f46:=
   Z8 "slices.siftDownCmpFunc[[]int]"
    ⟨of_decide_eq_true (id (ZI true)),
     ZQ Tryz.func163
      (congrArg some
       (ZI
        {SlBodyF.n46 Tryz.laysSortC_ren with name:= "slices.siftDownCmpFunc[[]int]" }))⟩,
  f47:=ZQ Tryz.func164 (congrArg some (ZI (SlBodyF.n47 Tryz.laysSortC_ren))),
  f48:=ZQ Tryz.func165 (congrArg some (ZI (SlBodyF.n48 Tryz.laysSortC_ren))),
  f49:=
   Z8 "slices.medianAdjacentCmpFunc[[]int]"
    ⟨of_decide_eq_true (id (ZI true)),
     ZQ Tryz.func166
      (congrArg some
       (ZI
        {SlBodyF.n49 Tryz.laysSortC_ren with name:= "slices.medianAdjacentCmpFunc[[]int]" }))⟩,
  f50:=
   Z8 "slices.medianCmpFunc[[]int]"
    ⟨of_decide_eq_true (id (ZI true)),
     ZQ Tryz.func167
      (congrArg some
       (ZI
        {SlBodyF.n50 Tryz.laysSortC_ren with name:= "slices.medianCmpFunc[[]int]" }))⟩,
  f57:=
   Z8 "slices.order2CmpFunc[[]int]"
    ⟨of_decide_eq_true (id (ZI true)),
     ZQ Tryz.func177
      (congrArg some
       (ZI
        {SlBodyF.n57 Tryz.laysSortC_ren with name:= "slices.order2CmpFunc[[]int]" }))⟩,
  t0:=Tryz.underlying0,a0:=Tryz.isAgg0,z0:=Tryz.sizeOf0,v0:=Tryz.zeroValue0,t3:=Tryz.underlying3,
  a3:=Tryz.isAgg3,z3:=Tryz.sizeOf3,v3:=Tryz.zeroValue3,t4:=Tryz.underlying4,a4:=Tryz.isAgg4,
  z4:=Tryz.sizeOf4,v4:=Tryz.zeroValue4,t5:=Tryz.underlying5,a5:=Tryz.isAgg5,z5:=Tryz.sizeOf5,
  v5:=Tryz.zeroValue5,t9:=Tryz.underlying9,a9:=Tryz.isAgg9,z9:=Tryz.sizeOf9,v9:=Tryz.zeroValue9,
  t22:=Tryz.underlying76,a22:=Tryz.isAgg76,z22:=Tryz.sizeOf76,v22:=Tryz.zeroValue76,a24:=Tryz.isAgg30,
  z24:=Tryz.sizeOf30,t25:=Tryz.underlying123,a25:=Tryz.isAgg123,z25:=Tryz.sizeOf123,
  v25:=Tryz.zeroValue123,t39:=Tryz.underlying71,a39:=Tryz.isAgg71,z39:=Tryz.sizeOf71,
  v39:=Tryz.zeroValue71,t45:=Tryz.underlying195,a45:=Tryz.isAgg195,z45:=Tryz.sizeOf195,
  v45:=Tryz.zeroValue195,t46:=Tryz.underlying196,a46:=Tryz.isAgg196,z46:=Tryz.sizeOf196,
  v46:=Tryz.zeroValue196,t50:=Tryz.underlying200,a50:=Tryz.isAgg200,z50:=Tryz.sizeOf200,
  v50:=Tryz.zeroValue200,t53:=Tryz.underlying152,a53:=Tryz.isAgg152,z53:=Tryz.sizeOf152,
  v53:=Tryz.zeroValue152,t55:=Tryz.underlying154,a55:=Tryz.isAgg154,z55:=Tryz.sizeOf154,
  v55:=Tryz.zeroValue154,t66:=Tryz.underlying215,a66:=Tryz.isAgg215,z66:=Tryz.sizeOf215,
  v66:=Tryz.zeroValue215,t70:=Tryz.underlying219,a70:=Tryz.isAgg219,z70:=Tryz.sizeOf219,
  v70:=Tryz.zeroValue219,t76:=Tryz.underlying230,a76:=Tryz.isAgg230,z76:=Tryz.sizeOf230,
  v76:=Tryz.zeroValue230,t77:=Tryz.underlying231,a77:=Tryz.isAgg231,z77:=Tryz.sizeOf231,
  v77:=Tryz.zeroValue231}
def Tryz.laysCmp_ren:Go.Shelf.Ren:=
 {
  f:=fun x=>
   match x with
   |5=>108
   |7=>145
   |n=>n,
  t:=fun x=>
   match x with
   |22=>3
   |3=>3
   |4=>4
   |n=>n,
  g:=fun n=>n}
theorem Tryz.laysCmp:SlLaysC2.n5 Tryz.prog Tryz.laysCmp_ren:=
 {mixed:=by kernel_rfl,
  f5:=
   Z8 "cmp.Compare[int]"
    ⟨of_decide_eq_true (id (ZI true)),
     ZQ Tryz.func108
      (congrArg some
       (ZI
        {SlBodyC2.n5 Tryz.laysCmp_ren with name:= "cmp.Compare[int]" }))⟩,
  f7:=
   Z8 "cmp.isNaN[int]"
    ⟨of_decide_eq_true (id (ZI true)),
     ZQ Tryz.func145
      (congrArg some
       (ZI
        {SlBodyC2.n7 Tryz.laysCmp_ren with name:= "cmp.isNaN[int]" }))⟩,
  t3:=Tryz.underlying3,a3:=Tryz.isAgg3,z3:=Tryz.sizeOf3,v3:=Tryz.zeroValue3,t4:=Tryz.underlying4,
  a4:=Tryz.isAgg4,z4:=Tryz.sizeOf4,v4:=Tryz.zeroValue4,t22:=Tryz.underlying3,a22:=Tryz.isAgg3,
  z22:=Tryz.sizeOf3,v22:=Tryz.zeroValue3}
end Go.Proofs
namespace Go.Abs
open Go.Proofs Go.RowKit Go.Lib Go.Wd Go.Wire Go.Ex
theorem mG (s:Nat):Yc 64 (s:Int)=BitVec.ofNat 64 s:=by
 apply BitVec.eq_of_toNat_eq;rw[BitVec.toNat_ofInt,Xv];omega
theorem oU {n:Nat} (h:n<18446744073709551616):IntKind.u64.wrap (n:Int)=n:=by
 simp only[IntKind.wrap,IntKind.bits,IntKind.signed,ZP,Z1,if_false];omega
theorem kD {s t:Nat} (hs:s<18446744073709551616) (ht:t<18446744073709551616):IntKind.u64.wrap ((Yc IntKind.u64.bits (s:Int)&&&Yc IntKind.u64.bits (t:Int)).toNat:Int)=((s&&&t:Nat):Int):=by
 show IntKind.u64.wrap ((Yc 64 (s:Int)&&&Yc 64 (t:Int)).toNat:Int)=_;rw[mG,mG,BitVec.toNat_and,Xv,Xv,Xt (by omega),Xt (by omega)];exact oU (Nat.lt_of_le_of_lt Nat.and_le_left hs)
theorem c68 (s t:Nat) (hs:s<1024) (ht:t<1024):Spec Tryz.prog 68 [.int .u64 (s:Int),.k (.c (.ro [.int .u64 (t:Int)] 0))] (fun v=>v=.bool (s&&&t==0)):=by
 refine Spec.of_awlS hf68 okf68 (by simp) fun S hS=>?_
 simp only[Qs,Zc,Za,Ψ68];rw[kD (by omega) (by omega)];refine wJ hS ?_;generalize s&&&t=r;simp only[beq_iff_eq];omega
def bW (x:Int):Int:=IntKind.u64.wrap x
def bA (a b:Int):Int:=IntKind.u64.wrap ((Yc IntKind.u64.bits a&&&Yc IntKind.u64.bits b).toNat:Int)
def bH (a:Int) (k:Nat):Int:=a.fdiv (2 ^ min k IntKind.u64.bits)
def b1 (x:Int):Int:=bW (bA (bH x 1) 6148914691236517205+bA x 6148914691236517205)
def b2 (x:Int):Int:=bW (bA (bH x 2) 3689348814741910323+bA x 3689348814741910323)
def b3 (x:Int):Int:=bA (bW (bH x 4+x)) 1085102592571150095
def b4 (k:Nat) (x:Int):Int:=bW (x+bH x k)
def bR (x:Int):Int:=IntKind.i64.wrap ((Yc IntKind.i64.bits (IntKind.i64.wrap x)&&&Yc IntKind.i64.bits 127).toNat:Int)
def zne (x:Int):Int:=bR (b4 32 (b4 16 (b4 8 (b3 (b2 (b1 x))))))
theorem znf: ∀x:Nat,x<256->zne x=((bitsN x).length:Int):=by decide+kernel
theorem zng (x:Nat) (hx:x<256):Spec Tryz.prog 104 [.int .u64 (x:Int)] (fun v=>v=.int .i64 ((bitsN x).length:Int)):=by
 refine Spec.of_awlS hf104 okf104 (by simp) fun S hS=>?_
 rw[<-znf x hx] at hS;simp only[Qs,zcJ,zdE,zdV,Za,Yl,XN,Ψ104];exact hS
theorem c65 (x:Nat) (hx:x<256):Spec Tryz.prog 65 [.int .u64 (x:Int)] (fun v=>v=.int .i64 ((bitsN x).length:Int)):=by
 refine Spec.of_awlS hf65 okf65 (by simp) fun S hS=>?_
 have g:=zng x hx;simp only[Qs,Za,zdp,Ψ65];refine zF g ?_ (ha:=by rfl);simp only[Qs];exact hS
end Go.Abs
namespace Go.Proofs
open Go.RowKit Go.Abs Go.Wd Go.Wire Go.Ex
def tzN (x:Nat):Nat:=(bitsN x).headD 0
def tzI (x:Nat):Int:=IntKind.u64.wrap (bits BinOp.and IntKind.u64 (x:Int) (IntKind.u64.wrap (-(x:Int)))*285870213051353865)/288230376151711744
theorem znh: ∀x,x<256->x≠0->0<=tzI x/\tzI x<64/\gZ[(tzI x).toNat]?=some (tzN x:Int)/\tzN x<64:=by decide+kernel
theorem zni (x:Nat) (hx:x<256) (h0:x≠0) (w:World) {T:TypeId} {F:Nat×Nat} (hg:w.heap[1]?=some (.cells (gZ.map fun z=>Value.int .u8 z).toArray T F)):Calls Tryz.prog 111 #[.int .u64 (x:Int)] w fun e w'=>e=.returned (.int .i64 (tzN x:Int))/\w'=w:=by
 have hx0: ¬(x:Int)=0:=by omega
 obtain⟨k1,k2,k3,k4⟩:=znh x hx h0;obtain⟨j,hj⟩: ∃j:Nat,tzI x=j:=⟨(tzI x).toNat,by omega⟩;rw[hj] at k1 k2 k3;have hj':IntKind.u64.wrap (bits BinOp.and IntKind.u64 (x:Int) (IntKind.u64.wrap (-(x:Int)))*285870213051353865)/288230376151711744=(j:Int):=hj;have hc:w.cell? ⟨1,j,none⟩=some (.int .u8 (tzN x:Int)):=by
  simp only[World.cell?,hg];simp only[Z6] at k3;simp[k3]
 have hw:IntKind.i64.wrap (tzN x:Int)=(tzN x:Int):=Go.Abs.wrap_in (by omega) (by omega);generalize tzN x=z at hc hw k3 k4⊢;clear hj k3
 go_enter Tryz.func111,Tryz.ntmps111
 go_wp2
 go_ret
 exact⟨rfl,rfl⟩
end Go.Proofs
namespace Go.Abs
open Go.Proofs Go.RowKit Go.Lib Go.Wd Go.Wire Go.Ex
theorem znj (x:Nat) (hx:x<256) (h0:x≠0):Spec Tryz.prog 111 [.int .u64 (x:Int)] (fun v=>v=.int .i64 (tzN x:Int)):=by
 refine⟨rH (by kernel_rfl),fun w Z vs hG hz ha=>?_⟩;obtain⟨l⟩:=vs
 match l,ha with
 |[],ha=>exact absurd ha.1 (by simp)
 |_::_::_,ha=>exact absurd ha.1 (by simp)
 |[v1],ha=>
  have e1:=vB (ha.2 0 _ v1 rfl rfl).2.2;subst e1;obtain⟨_,b,hb,hp⟩:=hG.2 1 _ rfl;cases b with
  |cells cs t f=>
   have hp':cs=_:=hp;subst hp';refine(zni x hx h0 w hb).mono ?_;rintro e w' ⟨rfl,rfl⟩;exact⟨_,_,rfl,rfl,fun _=>rfl,oG hG ⟨rfl,rfl,rfl,Zt _,fun _ _=>rfl⟩ (fun _=>rfl) (fun _=>⟨rfl,.int _ _⟩)⟩
  |_=>exact hp.elim
theorem c75 (x:Nat) (hx:x<256) (h0:x≠0):Spec Tryz.prog 75 [.int .u64 (x:Int)] (fun v=>v=.int .i64 (tzN x:Int)):=by
 refine Spec.of_awlS hf75 okf75 (by simp) fun S hS=>?_
 have g:=znj x hx h0;simp only[Qs,Za,zdp,Ψ75];refine zF g ?_ (ha:=by rfl);simp only[Qs];exact hS
def natI (l:List Nat):List Int:=l.map fun(k:Nat)=>(k:Int)
theorem znk: ∀s,s<256->s≠0->bitsN s=tzN s::bitsN (s&&&(s-1))/\s&&&(s-1)<s:=by decide+kernel
theorem pG: ∀s,s<256->(bitsN s).length<=8:=by decide+kernel
theorem zif (l:List Nat) (k:Nat):natI l++[(k:Int)]=natI (l++[k]):=by simp[natI]
theorem uD (l:List Nat):(natI l).length=l.length:=by simp[natI]
theorem c35 (s0:Nat) (hs0:s0<256):Spec Tryz.prog 35 [.int .u64 (s0:Int)] (fun v=>v=lst 1 (zM (natI (bitsN s0)))):=by
 refine Spec.of_awlP hf35 okf35 (by simp) fun S hS=>?_
 have hb0:=pG s0 hs0;simp only[Qs,bne_iff_ne,ne_eq,Zs,Za,Ψ35];rw[uu f35l11.eq_1];refine yA (fun x:Nat×List Nat×Option Bool=>[(0,.int .u64 (x.1:Int)),(3,.k (.own 3))]) (fun x=>[(3,.arr 3 1 x.2.2 (zM (natI x.2.1)))]) (fun x=>x.1<256/\x.2.1++bitsN x.1=bitsN s0) (fun x=>x.1) (s0,[],some true) rfl rfl ⟨hs0,rfl⟩ ?_;rintro⟨s,L,nl⟩ ⟨hs,hL⟩;simp only[] at hs hL;by_cases h0:s=0
 ·subst h0
  have e:bitsN 0=[]:=rfl;rw[e,Zk] at hL;subst hL;simp only[Int.natCast_zero,Qs,ZY,Za,Xn,Zy,Ψ35];refine hS _ ?_;simp only[V.fz,V.fzL,V.nrm,V.nrmL,qB (vC _)]
  try rfl
 ·obtain⟨hb,hlt⟩:=znk s hs h0
  rw[hb] at hL;have hl:L.length+1<=8:=by
   have:=congrArg List.length hL;rw[Zv,Zo] at this;omega
  have n0:((s:Int) !=0)=true:=by
   rw[bne_iff_ne];omega
  have w1:IntKind.u64.wrap ((s:Int)-1)=((s-1:Nat):Int):=by
   rw[show(s:Int)-1=((s-1:Nat):Int) by omega];exact oU (by omega)
  have ha:=kD (s:=s) (t:=s-1) (by omega) (by omega);have g:=c75 s hs h0;generalize tzN s=z at g hL;simp only[n0,Qs,Za,Ψ35];refine zF g ?_ (ha:=by rfl);simp only[w1,ha,yL,uD,Qs,zdH,forall_eq,bne_iff_ne,ne_eq,ZH,Zs,Zl,Z5,Za,Zy];refine⟨by omega,by omega,Next.intro (s&&&(s-1),L++[z],some false) rfl (by simp only[cU,zif];rfl) ⟨by simp only;omega,by simp only[Yd,ZS,Ya];exact hL⟩ (by simp only;omega)⟩
def sets (l:List Nat):List (List C):=l.map fun(s:Nat)=>[.int .u64 (s:Int)]
theorem uZ (l:List Nat):(sets l).length=l.length:=by simp[sets]
theorem aD {l:List Nat} {i:Nat} (h:i<l.length):(sets l).getD i []=[.int .u64 (l[i]:Int)]:=by simp[sets,h]
theorem oV (l:List Nat):C.normRows (sets l)=sets l:=by
 induction l with
 |nil=>rfl
 |cons a l ih=>
  have h:sets (a::l)=[.int .u64 (a:Int)]::sets l:=rfl;rw[h,iR,ih];rfl
theorem zig (l:List Nat) (s:Nat):sets l++[[.int .u64 (s:Int)]]=sets (l++[s]):=by simp[sets]
theorem c76 (l:List Nat) (s:Nat) (hl:l.length<=1000000):Spec Tryz.prog 76 [lst 1 (sets l),.int .u64 (s:Int)] (fun v=>v=.int .i64 (fstN (fun x=>decide (s=x)) l 0)):=by
 refine Spec.of_awlS hf76 okf76 (by simp) fun S hS=>?_
 simp only[uZ,Qs,Zc,Za,Ψ76];rw[uu f76l17.eq_1];refine yA (fun i:Nat=>[(0,lst 1 (sets l)),(1,.int .u64 (s:Int)),(7,.int .i64 l.length),(8,.int .i64 i)]) (fun _=>[]) (fun i=>i<=l.length/\fstN (fun x=>decide (s=x)) (l.drop i) i=fstN (fun x=>decide (s=x)) l 0) (fun i=>l.length-i) 0 rfl rfl ⟨ZA _,by simp⟩ ?_;rintro i ⟨hi,hD⟩;by_cases hlt:i<l.length
 ·have c1:(i:Int)<l.length:=by omega
  have c4:IntKind.i64.wrap ((i:Int)+1)=(i:Int)+1:=wrap_in (by omega) (by omega);have hat:=aD hlt;rw[oJ hlt] at hD;generalize l[i]=y at hD hat;by_cases he:s=y
  ·have e1:((s:Int)==(y:Int))=true:=by rw[beq_iff_eq];omega
   rw[if_pos (decide_eq_true he)] at hD;rw[<-hD] at hS;simp only[c1,e1,uZ,hat,Qs,Za,Ψ76];exact hS
  ·have e1:((s:Int)==(y:Int))=false:=by rw[beq_eq_false_iff_ne];omega
   rw[if_neg (by rw[decide_eq_false he];simp)] at hD;simp only[c1,c4,e1,uZ,hat,Qs,Za,Ψ76];exact Next.intro (i+1) rfl rfl ⟨by omega,hD⟩ (by omega)
 ·have c1: ¬(i:Int)<l.length:=by omega
  rw[ZC (by omega)] at hD;rw[<-hD] at hS;simp only[c1,Qs,Xm,Za,Ψ76];exact hS
theorem c36 (l:List Nat) (s:Nat) (hl:l.length<=1000000):Spec Tryz.prog 36 [lst 1 (sets l),.int .u64 (s:Int)] (fun v=>v=.bool (decide (s∈l))):=by
 refine Spec.of_awlS hf36 okf36 (by simp) fun S hS=>?_
 have g1:=c76 l s hl;have hp:=pE (p:=fun x=>decide (s=x)) l 0;generalize fstN (fun x=>decide (s=x)) l 0=x at g1 hp;simp only[Qs,Zc,Za,Ψ36];refine zF g1 ?_ (ha:=by simp only[Zm,Zq,zB,V.norm,zO,C.norm,oV]<;>rfl);simp only[Qs];refine wJ hS ?_;rw[decide_eq_true_eq,decide_eq_true_eq,hp,Yo];simp
theorem znl (t:Nat) (ht:t<1024) (l:List Nat) (hs: ∀s∈l,s<1024) (hl:l.length<=1000000):Spec Tryz.prog 105 [lst 1 (sets l),.k (.c (.fn 68 [.ro [.int .u64 (t:Int)] 0]))] (fun v=>v=.int .i64 (fstN (fun s=>s&&&t==0) l 0)):=by
 refine Spec.of_awlS hf105 okf105 (by simp) fun S hS=>?_
 simp only[uZ,Qs,Zc,Za,Ψ105];rw[uu f105l17.eq_1];refine yA (fun i:Nat=>[(0,lst 1 (sets l)),(1,.k (.c (.fn 68 [.ro [.int .u64 (t:Int)] 0]))),(7,.int .i64 l.length),(8,.int .i64 i)]) (fun _=>[]) (fun i=>i<=l.length/\fstN (fun s=>s&&&t==0) (l.drop i) i=fstN (fun s=>s&&&t==0) l 0) (fun i=>l.length-i) 0 rfl rfl ⟨ZA _,by simp⟩ ?_;rintro i ⟨hi,hD⟩;by_cases hlt:i<l.length
 ·have c1:(i:Int)<l.length:=by omega
  have c4:IntKind.i64.wrap ((i:Int)+1)=(i:Int)+1:=wrap_in (by omega) (by omega);have hat:=aD hlt;have gi:=c68 l[i] t (hs _ (Zx hlt)) ht;rw[oJ hlt] at hD;simp only[c1,uZ,hat,Qs,Za,Ψ105];refine pC gi ?_ (ha:=by simp only[Zm,Zq,ZS,Ya,zB,V.norm,C.norm,C.normRow]<;>rfl);cases hp:(l[i]&&&t==0) with
  |true=>
   rw[if_pos hp] at hD;rw[<-hD] at hS;simp only[Qs,Za,Ψ105];exact hS
  |false=>
   rw[if_neg (by rw[hp];simp)] at hD;simp only[c4,Qs,Za,Ψ105];exact Next.intro (i+1) rfl rfl ⟨by omega,hD⟩ (by omega)
 ·have c1: ¬(i:Int)<l.length:=by omega
  rw[ZC (by omega)] at hD;rw[<-hD] at hS;simp only[c1,Qs,Xm,Za,Ψ105];exact hS
theorem c67 (t:Nat) (ht:t<1024) (l:List Nat) (hs: ∀s∈l,s<1024) (hl:l.length<=1000000):Spec Tryz.prog 67 [lst 1 (sets l),.k (.c (.fn 68 [.ro [.int .u64 (t:Int)] 0]))] (fun v=>v=.bool (!hitP l t)):=by
 refine Spec.of_awlS hf67 okf67 (by simp) fun S hS=>?_
 have g1:=znl t ht l hs hl;have hp:=pE (p:=fun s=>s&&&t==0) l 0;generalize fstN (fun s=>s&&&t==0) l 0=x at g1 hp;simp only[Qs,Zc,Za,Ψ67];refine zF g1 ?_ (ha:=by simp only[Zm,Zq,zB,V.norm,zO,C.norm,C.normRow,oV]<;>rfl);simp only[Qs];refine wJ hS ?_;rw[decide_eq_true_eq,hp];unfold hitP;rw[Xg,Yo,YD];simp
theorem c66 (t nv db:Nat) (ht:t<1024) (l:List Nat) (hs: ∀s∈l,s<1024) (hl:l.length<=1000000):Spec Tryz.prog 66 [.int .u64 (t:Int),.k (.c (.ro [zC 1 (sets l),.int .u64 (nv:Int),.int .u64 (db:Int)] 0))] (fun v=>v=.bool (hitP l t)):=by
 refine Spec.of_awlS hf66 okf66 (by simp) fun S hS=>?_
 have g:=c67 t ht l hs hl;generalize hitP l t=b at g hS;simp only[Qs,zcK,zes,Zc,Zl,Za,zgI,zgJ,zgK,zgL,zgM,zgN,zgO,Ψ66];refine zF g ?_ (ha:=by simp only[Zm,Zq,zB,V.norm,zO,C.norm,C.normRow,oV]<;>rfl);simp only[Qs,Bool.not_not];cases b<;>exact hS
end Go.Abs
namespace Go.Abs
def tA:List Int->List Int->Int
 |[],[]=>0
 |[],_::_=> -1
 |_::_,[]=>1
 |a::x,b::y=>if Lib.compareInt a b≠0 then Lib.compareInt a b else tA x y
def rN (a b:List Int):Int:=if (a.length:Int)-b.length≠0 then(a.length:Int)-b.length else tA a b
theorem znm (a b:Int):(a<b/\Lib.compareInt a b= -1)\/(a=b/\Lib.compareInt a b=0)\/(b<a/\Lib.compareInt a b=1):=by
 unfold Lib.compareInt;rcases Int.lt_trichotomy a b with h|h|h
 ·exact .inl ⟨h,by simp[h]⟩
 ·exact .inr (.inl ⟨h,by subst h;simp⟩)
 ·refine .inr (.inr ⟨h,?_⟩)
  rw[if_neg (by omega),if_pos h]
end Go.Abs
namespace Go.Proofs
open Go.Shelf Go.RowKit Go.Lib Go.Sort Go.Abs
theorem aG {p:Prop} (h:p):Aside p:=h
def mH (w:World) (p:Option Addr) (b o:Nat) (x:List Int):Prop:=(x.length≠0->p=some ⟨b,o,none⟩)/\ ∀j,j<x.length->w.cell? ⟨b,o+j,none⟩=some (.int .i64 (x.getD j 0))
theorem znn (b1 o1 c1 b2 o2 c2:Nat) (p1 p2:Option Addr) (x y:List Int) (w:World) (hx:x.length<=1000) (hy:y.length<=1000) (I:Aside (mH w p1 b1 o1 x/\mH w p2 b2 o2 y)):
  Calls Tryz.prog 71 #[.slice p1 x.length c1,.slice p2 y.length c2] w fun e w'=>e=.returned (.int .i64 (tA x y))/\w'=w:=by
 have hc108: ∀a b W,Calls Tryz.prog 108 #[.int .i64 a,.int .i64 b] W fun e w'=>e=.returned (.int .i64 (Lib.compareInt a b))/\w'=W:=fun a b W=>AnyG.cmp_Compare_int Tryz.laysCmp a b W
 go_enter Tryz.func71,Tryz.ntmps71
 go_wp2
 go_loopg [11] x.length (fun g i wr=> ∃k,k<=x.length/\g=x.length-k/\i=.int .i64 (k:Nat)/\wr=w/\k<=y.length/\tA (x.drop k) (y.drop k)=tA x y)
 case atStart=>exact⟨0,ZA _,rfl,rfl,rfl,ZA _,rfl⟩
 case round=>
  obtain⟨k,hk,rfl,rfl,rfl,hky,hR⟩:=hrel;by_cases hlt:k<x.length
  ·have hlt':(k:Int)<x.length:=by omega
   obtain rfl:=I.out.1.1 (by omega);have f1:=I.out.1.2 k hlt;by_cases hyt:k<y.length
   ·have hyt':(k:Int)<y.length:=by omega
    obtain rfl:=I.out.2.1 (by omega);have f2:=I.out.2.2 k hyt;have e1:x.getD k 0=x[k]:=by simp[List.getD,hlt]
    have e2:y.getD k 0=y[k]:=by simp[List.getD,hyt]
    rw[ZE hlt,ZE hyt,tA,<-e1,<-e2] at hR;generalize x.getD k 0=a at f1 hR;generalize y.getD k 0=b at f2 hR;have c108:=hc108 a b;generalize Lib.compareInt a b=r at c108 hR;have R:=aG hR;clear hR e1 e2 hc108;by_cases hr:r=0
    ·subst hr
     go_wp2_with (go_at_call 108;refine(c108 _).mono ?_;rintro e w1 ⟨rfl,rfl⟩)
     have wk:IntKind.i64.wrap ((k:Int)+1)=((k+1:Nat):Int):=by rw[Go.Abs.wrap_in (by omega) (by omega)];omega
     go_roundg (x.length-(k+1))
     case rel=>exact⟨k+1,hlt,rfl,by go_num,rfl,hyt,by have:=R.out;rwa [if_neg (by simp)] at this⟩
     case measure=>omega
    ·go_wp2_with (go_at_call 108;refine(c108 _).mono ?_;rintro e w1 ⟨rfl,rfl⟩)
     go_ret
     have:=R.out;rw[if_pos hr] at this;exact⟨by rw[<-this];rfl,rfl⟩
   ·have hyt':(k:Int)>=y.length:=by omega
    have e1:y.drop k=[]:=List.drop_of_length_le (by omega);rw[e1,ZE hlt,tA] at hR;have R:=aG hR;clear hR e1 hc108
    go_wp2
    go_ret
    exact⟨by rw[<-R.out];rfl,rfl⟩
  ·obtain rfl:k=x.length:=by omega
   rw[List.drop_length] at hR;have R:=aG hR;clear hR hc108;by_cases hyt:x.length<y.length
   ·have hyt':(x.length:Int)<y.length:=by omega
    go_wp2
    go_ret
    have:=R.out;rw[ZE hyt,tA] at this;exact⟨by rw[<-this];rfl,rfl⟩
   ·have hyt': ¬(x.length:Int)<y.length:=by omega
    go_wp2
    go_ret
    have:=R.out;rw[List.drop_of_length_le (by omega),tA] at this;exact⟨by rw[<-this];rfl,rfl⟩
theorem zno (b1 o1 c1 b2 o2 c2:Nat) (p1 p2:Option Addr) (x y:List Int) (w:World) (hx:x.length<=1000) (hy:y.length<=1000) (I:Aside (mH w p1 b1 o1 x/\mH w p2 b2 o2 y)):
  Calls Tryz.prog 70 #[.slice p1 x.length c1,.slice p2 y.length c2] w fun e w'=>e=.returned (.int .i64 (rN x y))/\w'=w:=by
 have c71:=znn b1 o1 c1 b2 o2 c2 p1 p2 x y w hx hy I;by_cases hd:(x.length:Int)-y.length=0
 ·have hd':((x.length:Int)-y.length !=0)=false:=by simp[hd]
  have R:Aside (rN x y=tA x y):=by show rN x y=_;unfold rN;rw[if_neg (by simpa using hd)]
  go_enter Tryz.func70,Tryz.ntmps70
  go_wp2_with (go_at_call 71;refine c71.mono ?_;rintro e w1 ⟨rfl,rfl⟩)
  go_ret
  exact⟨by rw[R.out];rfl,rfl⟩
 ·have hd':((x.length:Int)-y.length !=0)=true:=by simp[hd]
  have R:Aside (rN x y=(x.length:Int)-y.length):=by show rN x y=_;unfold rN;rw[if_pos hd]
  clear c71
  go_enter Tryz.func70,Tryz.ntmps70
  go_wp2
  go_ret
  exact⟨by rw[R.out];rfl,rfl⟩
end Go.Proofs
namespace Go.Abs
open Go.Sort Go.Proofs Go.Shelf Go.Lib Go.RowKit
theorem heap_row {α:Type} [Inhabited α] {w:World} {g n:Nat} {os:Array Obj} {cur:Array Value} {e:TypeId} {fr:Nat×Nat} (enc:α->Value) (d:Array α) (hb:w.heap[g]?=some (.cells cur e fr)):
  (grow (putRow enc (Sort.ahead w n) g 0 d) os).heap[g]?=some (.cells (putCells enc 0 d cur) e fr):=by
 have hg:g<w.heap.size:=(Zn.1 hb).1;rw[heap_grow_old _ _ (by simpa using hg)];simp[putRow,mapBlock,Sort.ahead,Xh,hb,onCells]
theorem zpR {α:Type} [Inhabited α] {w:World} {g n:Nat} {os:Array Obj} (enc:α->Value) (d:Array α):w.grownBy (grow (putRow enc (Sort.ahead w n) g 0 d) os) (some g):=by
 refine⟨rfl,rfl,rfl,by simp,fun k hk hne=>?_⟩;rw[heap_grow_old _ _ (by simpa using hk)];have:g≠k:=fun e=>hne (by rw[e])
 simp[putRow,mapBlock,Sort.ahead,Xh,this]
theorem znp {P:Program} {ρ:Ren} (L:SlLaysF.n6 P ρ) (hc:sB P (ρ.f 6)) (e:TypeId)
  {β:Type} (encC:β->C) (cf:β->β->Int) (lt:β->β->Bool) (hlt: ∀x y,decide (cf x y<0)=lt x y) (hO:SWO lt) (g:Nat) (eg: ∀args w,(callFunc g args).run P w=.ok (.enter g args) w)
  (τ:Nat) (ks:List β) (hm:ks.length<4611686018427387904)
  (hcl: ∀x∈ks,∀y∈ks,∀(W:World) (Z:Bk->Prop) (vx vy:Value),(∀b,Z b->b.2<W.heap.size)->PRep W Z (encC x) vx->PRep W Z (encC y) vy->
   Calls P g #[vx,vy] W fun e w'=>e=.returned (.int .i64 (cf x y))/\ ∃q os',w'=grow (W.drewN q) os'):
  wB P (ρ.f 6) [.k (.own τ),.k (.c (.fn g []))] (zK e 1 τ (ks.map fun x=>[encC x])) [τ] (fun r o'=>r=.tup []/\ ∃out:List β,out.Perm ks/\out.Pairwise (fun x y=>lt y x=false)/\o'=zK e 1 τ (out.map fun x=>[encC x])):=by
 obtain⟨encR,hEn⟩: ∃encR:β->List C,encR=fun x=>[encC x]:=⟨_,rfl⟩
 have hk: ∀x,(encR x).length=1:=fun x=>by rw[hEn];rfl
 have k0:0<1:=by decide
 rw[<-hEn];refine⟨hc,fun w0 Z0 κ w vs hsz hi=>?_⟩;obtain⟨v,fv,rfl⟩:=zid hsz;have ho:(zK e 1 τ (ks.map encR)) τ=some (.arr e 1 none (ks.map encR)):=by simp[zK]
 have hno: ∀s,s≠τ->zK e 1 τ (ks.map encR) s=none:=fun s hs=>by simp[zK,hs]
 have hob:=hi.objs τ _ ho;have htm:zD w (Zof w0 Z0 κ (zK e 1 τ (ks.map encR)) w) κ (zK e 1 τ (ks.map encR)) (.k (.own τ)) v:=by simpa using hi.tmps 0
 have htf:zD w (Zof w0 Z0 κ (zK e 1 τ (ks.map encR)) w) κ (zK e 1 τ (ks.map encR)) (.k (.c (.fn g []))) fv:=by simpa using hi.tmps 1
 have hfv:fv=.func (.func g) #[] #[]:=by
  have:=htf.2;unfold yK at this;cases this with
  |fn f caps us val h1 h2 h3=>
   have:us= #[]:=YR h1;rw[this]
 subst hfv;have none_case: ∀(p:Option Addr) (cap:Nat),ks=[]->v=.slice p 0 cap->Calls P (ρ.f 6) #[v,.func (.func g) #[] #[]] w fun e_1 w'=> ∃v κ' r o',e_1=.returned v/\(r=.tup []/\ ∃out:List β,out.Perm ks/\out.Pairwise (fun x y=>lt y x=false)/\o'=zK e 1 τ (out.map encR))/\yO (fun τ_1=>τ_1∈[τ]) (zK e 1 τ (ks.map encR)) o' κ κ' w w'/\Inv w0 Z0 κ' ⟨fun s=>if s=0 then r else .any,o'⟩ #[v] w':=by
  intro p cap hnil hv;subst hnil hv;refine(AnyF.slices_SortFunc_none {L with} p cap _ w).mono ?_;rintro ex w' ⟨rfl,hw⟩;rw[hw];have hI:=hi.moveG (τ:=τ) (d:=0) (ob:=.arr e 1 none []) (v:=.tup []) (u:=.tuple #[]) (bo:=κ τ) (w':=w) ho (by simp) rfl rfl rfl (Zt _) (fun _ _ _=>rfl) (fun b hb=> .inr hb)
   (fun Z hZ=>?_) ⟨#[],rfl,rfl,trivial⟩
  ·have hI2:=hI.only (T:=[τ]) (r:=.tup []) (v:=.tuple #[]) ⟨#[],rfl,rfl,trivial⟩ rfl (fun t ht ob hob=>by
    simp only[ZU] at ht
    subst ht
    simp[St.put,St.setO] at hob
    subst hob;rfl)
   have htab:yE [τ] ((((⟨fun s=>[V.k (.own τ),.k (.c (.fn g []))].getD s .any,zK e 1 τ (([]:List β).map encR)⟩:St).scrub τ).setO τ (.arr e 1 none [])).put 0 (.tup [])).o=zK e 1 τ (([]:List β).map encR):=by
    funext t;unfold yE zK;by_cases ht:t=τ
    ·subst ht;simp[St.put,St.setO]
    ·simp[ht]
   rw[htab] at hI2;refine⟨.tuple #[],_,.tup [],_,rfl,⟨rfl,[],Xu _,XI,rfl⟩,?_,hI2⟩;intro s hs;simp only[ZU] at hs;subst hs;refine⟨by simp[yC,zK],by simp,fun _ b hb cur e' f hcur=>⟨cur,hcur,rfl⟩⟩
  ·have hZ':=hob
   rcases hZ' with⟨h1,_,_⟩|⟨b,cur,cap',h1,h2,h3,h4,h5,h6,_,h8,_⟩
   ·exact .inl ⟨by simp[h1],rfl,by simp⟩
   ·exact .inr ⟨b,cur,cap',by simp[h1],h2,h3,h4,by simp,h6,by simp,by simp,fun i j r c hr=>by simp at hr⟩
 rcases hob with⟨hκ,hrows,_⟩|⟨b,cur,cap,hκ,hheap,h0,hcs,hlen,hcap,_,hall,hrr⟩
 ·have hl0:ks=[]:=by simpa using hrows
  have hv:v=.slice none 0 0:=by
   rcases htm.2 e 1 none _ ho with⟨_,hv⟩|⟨b,_,_,hb,_⟩
   ·exact hv
   ·rw[hκ] at hb;cases hb
  exact none_case none 0 hl0 hv
 ·obtain⟨cap',hv,hcap'⟩: ∃cap',v=.slice (some ⟨b,0,none⟩) ks.length cap'/\cur.size=cap'*1:=by
   rcases htm.2 e 1 none _ ho with⟨hn,_⟩|⟨b',cur',cap',hb,hh,hc2,hv⟩
   ·rw[hκ] at hn;cases hn
   ·rw[hκ] at hb;cases hb
    rw[hheap] at hh;cases hh;exact⟨cap',by simpa using hv,hc2⟩
  by_cases hks:ks=[]
  ·exact none_case _ cap' hks (by rw[hv,hks];rfl)
  have hpos:0<ks.length:=Yh.2 hks;subst hv;have hlt':b<w.heap.size:=xV hheap;rw[Zi] at hlen;have hcsz:ks.length<=cur.size:=by rw[hcs,YS];exact hlen
  haveI:Inhabited (Fin ks.length):=⟨⟨0,hpos⟩⟩
  let enc:Fin ks.length->Value:=fun i=>cur.getD i.1 (.bool true)
  have hcell: ∀i:Fin ks.length,∃u,cur[i.1]?=some u/\enc i=u/\PRep w (Zof w0 Z0 κ (zK e 1 τ (ks.map encR)) w) (encC ks[i.1]) u:=by
   intro i;obtain⟨u,hu,hp⟩:=hrr i.1 0 [encC ks[i.1]] (encC ks[i.1]) (by rw[Zw,Zg i.2,hEn];rfl) rfl;rw[YS,Yq] at hu;exact⟨u,hu,by simp[enc,ZR,hu],hp⟩
  have henc1:OneCell enc:=fun x=>by obtain⟨u,_,h2,h3⟩:=hcell x;rw[h2];exact h3.oneCell
  let d:Array (Fin ks.length):=Array.ofFn fun i=>i
  have hds:d.size=ks.length:=by simp[d]
  have hdi: ∀i (h:i<ks.length),d[i]! =⟨i,h⟩:=fun i h=>by simp[d,h]
  have hH:Holds enc w b 0 d:=by
   intro j hj;rw[hds] at hj;refine⟨?_,by simp[World.frozen?,hheap]⟩;obtain⟨u,hu,h2,_⟩:=hcell ⟨j,hj⟩;rw[hdi j hj,h2];simp only[World.cell?,hheap,ZV];simpa using hu
  let cfF:Fin ks.length->Fin ks.length->Int:=fun i j=>cf ks[i.1] ks[j.1]
  have hltF: ∀x y,ltOf cfF x y=lt ks[x.1] ks[y.1]:=fun x y=>by unfold ltOf;exact hlt _ _
  have hOF:SWO (ltOf cfF):=⟨fun x=>by rw[hltF];exact hO.irrefl _,fun x y z h1 h2=>by rw[hltF] at*;exact hO.trans _ _ _ h1 h2,fun x y z h1 h2=>by rw[hltF] at*;exact hO.ntrans _ _ _ h1 h2⟩;have hcmp:CmpLays1 P g #[] enc cfF b 0 d.size w:=by
   intro m os dk hdk x y;have hsame:yV (Zof w0 Z0 κ (zK e 1 τ (ks.map encR)) w) w (sortWorld enc w b 0 m dk os):=by
    intro bk hbk;have hne:bk.2≠b:=fun e2=>hbk.2.2 τ (by rw[ho];simp) (by rw[hκ,e2])
    exact(zpR enc dk).block bk.2 hbk.2.1 (fun e2=>hne (by cases e2;rfl))
   have hrow: ∀i:Fin ks.length,PRep (sortWorld enc w b 0 m dk os) (Zof w0 Z0 κ (zK e 1 τ (ks.map encR)) w) (encC ks[i.1]) (enc i):=by
    intro i;obtain⟨u2,_,h2,h3⟩:=hcell i;rw[h2];exact h3.mono hsame fun _ h=>h
   have hsz2:w.heap.size<=(sortWorld enc w b 0 m dk os).heap.size:=(zpR enc dk).size;have:=hcl ks[x.1] (Zx _) ks[y.1] (Zx _) (sortWorld enc w b 0 m dk os) (Zof w0 Z0 κ (zK e 1 τ (ks.map encR)) w) (enc x) (enc y) (fun bk hbk=>ZM hbk.2.1 hsz2) (hrow x) (hrow y);rw[show(#[enc x,enc y]++ #[]:Array Value)= #[enc x,enc y] from rfl];exact this
  have hcon:=Any.slices_SortFunc L enc henc1 cfF hOF g #[] b 0 cap' d w eg hcmp hH hlt' (by rw[hds];exact hm);rw[hds] at hcon;refine hcon.mono ?_;rintro ex w' ⟨rfl,d',n,os,⟨p1,p2,p3⟩,hs,rfl⟩;rw[hds] at p1;have hfull: ∀a:Array (Fin ks.length),a.size=ks.length->a.extract 0 ks.length=a:=fun a ha=>by
   apply Array.ext
   ·simp[ha]
   ·intro i h1 h2;simp
  rw[hfull d' p1,hfull d hds] at p3
  let out:List β:=d'.toList.map fun i=>ks[i.1]
  have hol:out.length=ks.length:=by simp[out,p1]
  have hperm:out.Perm ks:=by
   have h1:(d.toList.map fun i:Fin ks.length=>ks[i.1])=ks:=by
    apply Xj
    ·simp[d]
    ·intro i h1 h2;simp[d]
   have h2:(d'.toList.map fun i:Fin ks.length=>ks[i.1]).Perm (d.toList.map fun i:Fin ks.length=>ks[i.1]):=p3.map _;rw[h1] at h2;exact h2
  have hpw:out.Pairwise fun x y=>lt y x=false:=by
   rw[List.pairwise_iff_getElem];intro i j h1 h2 hij;have hi1:i<d'.size:=by rw[p1,<-hol];exact h1
   have hj1:j<d'.size:=by rw[p1,<-hol];exact h2
   have:=hs i j (ZA _) hij (by rw[<-p1];exact hj1);rw[hltF,getElem!_pos d' i hi1,getElem!_pos d' j hj1] at this;simpa [out] using this
  have hh2:=heap_row (w:=w) (n:=n) (os:=os) enc d' hheap;obtain⟨g1,g2,g3,g4,g5⟩:=zpR (w:=w) (g:=b) (n:=n) (os:=os) enc d';have hsz2:(putCells enc 0 d' cur).size=cur.size:=by simp[putCells]
  have hzsame:yV (Zof w0 Z0 κ (zK e 1 τ (ks.map encR)) w) w (sortWorld enc w b 0 n d' os):=by
   intro bk hbk;have hne:bk.2≠b:=fun e2=>hbk.2.2 τ (by rw[ho];simp) (by rw[hκ,e2])
   exact g5 bk.2 hbk.2.1 (fun e2=>hne (by cases e2;rfl))
  have hI:=hi.moveG (τ:=τ) (d:=0) (ob:=.arr e 1 none (out.map encR)) (v:=.tup []) (u:=.tuple #[]) (bo:=some b) (w':=sortWorld enc w b 0 n d' os) ho (by simp) g1 g2 g3 g4
   (fun q hq hne=>g5 q hq (by rw[hκ] at hne;exact fun h=>hne (by cases h;rfl))) (fun b' hb=> .inr (by cases hb;exact hκ))
   (fun Z hZ=> .inr ⟨b,_,cap,by simp,hh2,h0,by rw[hsz2];exact hcs,by rw[Zi,hol];exact hlen,hcap,by simp,fun r hr=>by obtain⟨x,_,rfl⟩:=ZB.1 hr;exact hk x,fun i j r c hr hcj=>?_⟩) ⟨#[],rfl,rfl,trivial⟩
  ·rw[zie _ _ hno] at hI
   have hI2:=hI.only (T:=[τ]) (r:=.tup []) (v:=.tuple #[]) ⟨#[],rfl,rfl,trivial⟩ rfl (fun t ht ob hob=>by
    simp only[ZU] at ht
    subst ht
    simp at hob
    subst hob;rfl)
   have htab:yE [τ] (fun s=>if s=τ then some (O.arr e 1 none (out.map encR)) else none)=zK e 1 τ (out.map encR):=by
    funext t;unfold yE zK;by_cases ht:t=τ
    ·subst ht;simp
    ·simp[ht]
   rw[htab] at hI2;refine⟨.tuple #[],_,.tup [],_,rfl,⟨rfl,out,hperm,hpw,rfl⟩,?_,hI2⟩;intro s hs;simp only[ZU] at hs;subst hs;refine⟨by simp[zK,yC,hol],by simp[hκ],fun _ b' hb cur0 e0 f0 hc0=>?_⟩;rw[hκ] at hb;cases hb;rw[hheap] at hc0;cases hc0;exact⟨_,hh2,hsz2⟩
  ·
   have hi':i<ks.length:=by have:=(Zr.1 hr).1;rwa [Zi,hol] at this
   have hid:i<d'.size:=by rw[p1];exact hi'
   have hout:out[i]'(by rw[hol];exact hi')=ks[(d'[i]).1]:=by simp[out]
   have hr':r=encR ks[(d'[i]).1]:=by
    rw[Zw,Zg (by rw[hol];exact hi')] at hr;have:=Yv hr;rw[<-this,hout]
   subst hr';have hj:j<1:=by rw[<-hk ks[(d'[i]).1]];exact(Zr.1 hcj).1
   obtain rfl:j=0:=by omega
   have hc1:c=encC ks[(d'[i]).1]:=by rw[hEn] at hcj;cases hcj;rfl
   subst hc1;obtain⟨u,hu,he,hp⟩:=hcell d'[i];refine⟨u,?_,hp.mono hzsame hZ⟩;have hcs2:i<cur.size:=by omega
   simp only[putCells,YS,Yq];rw[Array.getElem?_mapIdx,Yb hcs2];simp only[Yw,ZA,true_and,ZV,hid,if_true,XG];rw[getElem!_pos d' i hid,he]
end Go.Abs
namespace Go.Abs
open Go.Sort Go.Proofs Go.Shelf Go.Lib Go.RowKit Go.Ex
theorem zih: ∀x y:List Nat,x.length=y.length->(tA (natI x) (natI y)<0 ↔ uJ x y=true)
 |[],[],_=>by simp[tA,uJ,natI]
 |[],_::_,h=>by simp at h
 |_::_,[],h=>by simp at h
 |a::x,b::y,h=>by
  have e1:natI (a::x)=(a:Int)::natI x:=rfl;have e2:natI (b::y)=(b:Int)::natI y:=rfl;rw[e1,e2,tA,uJ];rcases znm (a:Int) b with⟨h1,h2⟩|⟨h1,h2⟩|⟨h1,h2⟩
  ·rw[h2,if_pos (by decide),if_neg (by omega)];simp;omega
  ·rw[h2,if_neg (by decide),if_pos (by omega)]
   exact zih x y (by simpa using h)
  ·rw[h2,if_pos (by decide),if_neg (by omega)];simp;omega
theorem znq (x y:List Nat):decide (rN (natI x) (natI y)<0)=ltC x y:=by
 unfold rN ltC;rw[uD,uD];by_cases h:x.length=y.length
 ·rw[if_neg (by omega),if_pos h,Yp,decide_eq_true_eq,zih _ _ h]
 ·rw[if_pos (by omega),if_neg h,Yp,decide_eq_true_eq,decide_eq_true_eq];omega
theorem zii {α:Type} {lt:α->α->Bool} (h:Strict lt):SWO lt where
 irrefl:=h.irr
 trans:=h.tr
 ntrans x y z h1 h2:=by
  cases q:lt x z with
  |false=>rfl
  |true=>
   exfalso;cases q2:lt z y with
   |true=>have:=h.tr _ _ _ q q2;rw[h1] at this;cases this
   |false=>
    have e:=h.tot y z h2 q2;subst e;rw[h1] at q;cases q
theorem aH {w:World} {Z:Bk->Prop} {x:List Nat} {v:Value} (h:PRep w Z (zC 1 (zM (natI x))) v): ∃p b o cap,v=.slice p (natI x).length cap/\mH w p b o (natI x):=by
 obtain⟨p,cap,rfl,hq,_⟩:=(zlJ (natI x)).slice h;rw[yL] at hq;by_cases h0:(natI x).length=0
 ·exact⟨p,0,0,cap,by rw[yL],fun hk=>absurd h0 hk,fun j hj=>absurd hj (by omega)⟩
 ·obtain⟨b,o,rfl,hc⟩:=hq (by omega)
  refine⟨_,b,o,cap,by rw[yL],fun _=>rfl,fun j hj=>hc j _ ?_⟩;have:qA (zM (natI x))=(natI x).map fun n=>Value.int .i64 n:=by
   generalize natI x=l
   induction l with
   |nil=>rfl
   |cons a l ih=>simp only[qA,zM,Zm,YL,ZW] at ih⊢;rw[ih];rfl
  rw[this,Zw,Zg hj];simp[List.getD,hj]
def cfs (L:List (List Nat)):List (List C):=L.map fun x=>[zC 1 (zM (natI x))]
theorem c69 (τ:Nat) (L:List (List Nat)) (hm:L.length<=1000000) (hk: ∀x∈L,x.length<=1000):wB Tryz.prog 69 [.k (.own τ),.k (.c (.fn 70 []))] (zK 30 1 τ (cfs L)) [τ] (fun r o'=>r=.tup []/\o'=zK 30 1 τ (cfs (sortO ltC L))):=by
 refine(znp Tryz.laysSortC (rH (by kernel_rfl)) 30 (fun x=>zC 1 (zM (natI x))) (fun x y=>rN (natI x) (natI y)) ltC znq (zii zhQ) 70 (enters_of Tryz.func70 (by kernel_rfl) rfl) τ L (by omega) ?_).mono ?_
 ·intro x hx y hy W Z vx vy hZ hvx hvy
  obtain⟨p1,b1,o1,c1,rfl,q1⟩:=aH hvx;obtain⟨p2,b2,o2,c2,rfl,q2⟩:=aH hvy;have hx':=hk x hx;have hy':=hk y hy;refine(zno b1 o1 c1 b2 o2 c2 p1 p2 (natI x) (natI y) W (by rw[uD];exact hx') (by rw[uD];exact hy') ⟨q1,q2⟩).mono ?_;rintro e w' ⟨rfl,rfl⟩;exact⟨rfl,0,#[],by rw[grow_empty];rfl⟩
 ·rintro r o' ⟨rfl,out,hp,hs,rfl⟩
  rw[zhM zhQ hp hs];exact⟨rfl,rfl⟩
end Go.Abs
