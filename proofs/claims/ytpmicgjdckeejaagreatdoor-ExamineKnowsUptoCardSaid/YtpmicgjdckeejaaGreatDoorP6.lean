/- A part of the proof; the last text states what is proved. -/
import Derived.Test.YtpmicgjdckeejaaGreatDoorP5
import Derived.DataShut
import Derived.Test.YtpmicgjdckeejaaGreatDoorRows
import Derived.Test.YtpmicgjdckeejaaGreatDoorCards
import Derived.Test.YtpmicgjdckeejaaGreatDoorTie
import Derived.ProofKit
import Derived.LaidMore
import Derived.Lib.LaidTab
import Derived.Lib.LaidU8
import Derived.OpenShut
import Derived.SevenTiedAt
import Derived.Deep.DeepHandedRow
import Derived.Deep.DeepWitnessRowRef
import Derived.Shelf.Vars
set_option linter.unusedVariables false
set_option linter.unusedSimpArgs false
set_option maxRecDepth 100000
set_option maxHeartbeats 8000000
open Array renaming getElem?_eq_some_iff → Zn,getElem?_toList → Ys,replicate_succ → YB,replicate_zero → YA
open Bool renaming and_assoc → XM,eq_false_iff → YE,eq_iff_iff → Yp,false_and → ZP,false_eq_true → Z1,false_or → Ym,not_eq_true' → Xg,true_and → ZJ,true_or → Y7
open Int renaming reduceBNe → Xn,reduceLE → Yl,reduceLT → XJ,toNat_natCast → Z6
open List renaming all_cons → Yz,all_eq_true → Zu,any_eq_true → Yo,append_nil → Zk,append_toArray → YC,cons_append → ZS,drop_eq_getElem_cons → ZE,eq_nil_of_length_eq_zero → ZZ,filter_append → X2,getD_eq_getElem?_getD → Zh,getElem?_eq_getElem → Zg,getElem?_eq_some_iff → Zr,getElem?_map → Zw,getElem?_range → XZ,getElem?_replicate → XR,getElem_mem → Zx,length_append → Zv,length_cons → Zo,length_filter_le → YF,length_map → Zi,length_nil → ZG,length_set → YP,length_take → Yy,map_append → ZW,map_cons → Zm,map_nil → Zq,map_set → XU,mem_cons → ZH,mem_cons_of_mem → Zz,mem_filter → Yj,mem_map → ZB,mem_of_mem_take → Xy,nil_append → Ya,nodup_cons → ZY,not_mem_nil → Zy,push_toArray → YK,range_succ → XL,size_toArray → Yu,take_length → Yk,take_of_length_le → Z9,take_succ_eq_append_getElem → ZK
open Nat renaming add_zero → Yq,le_mul_of_pos_right → Xd,le_refl → Zt,le_trans → ZT,lt_of_lt_of_le → ZM,mod_lt → Xc,mul_le_mul → YX,mul_le_mul_right → ZX,mul_one → YS,reduceAdd → Zc,reduceBEq → Za,reduceEqDiff → Zs,reduceLT → Z5,reduceLeDiff → Zl,reduceMul → Ye,reduceSub → YV,succ_mul → Xb,zero_add → ZV,zero_le → ZA
open Option renaming bind_some → Y2,isSome_none → YN,map_some → Yw
open Option.some renaming inj → Yv
namespace Go.Abs
open Go.Proofs Go.RowKit Go.Lib Go.Wd Go.Wire Go.Ex
theorem c60 (l:List Txt) (hl:l.length<=1000000):Spec Tryz.prog 60 [lst 1 (zJ l)] (fun r=>r=.k (.newl 9 1 none (zJ l))):=s60 l hl
theorem zrJ (l:List Txt):(zC 1 (zJ l)).norm=zC 1 (zJ l):=yG (f:=fun s:Txt=>[C.str s]) (fun _=>rfl) 1 l
theorem zrK {l:List Txt} (h:l≠[]):C.list 1 none (zJ l)=zC 1 (zJ l):=by
 cases l with
 |nil=>exact absurd rfl h
 |cons a l=>rfl
theorem zqU: ∀R:List (List C),(C.normRows R).length=R.length
 |[]=>rfl
 |a::R=>by rw[C.normRows,Zo,zqU R,Zo]
theorem zp4 (r:List C): ∀R:List (List C),C.normRows (R++[r])=C.normRows R++[C.normRow r]
 |[]=>rfl
 |a::R=>by rw[ZS,C.normRows,zp4 r R,C.normRows,ZS]
theorem zrL {n:Txt} {W:List (List Txt)} {R:List (List C)} {b:Bool} (h:C.normRows R=W.map xX):C.normRow [.str n,.list 1 (some b) R]=zR ⟨n,W⟩:=by
 have e:R.isEmpty=(W.map xX).isEmpty:=by
  rw[<-h];cases R<;>rfl
 simp only[C.normRow,C.norm,h,e];rfl
theorem zrM (s:Txt):C.normRow [C.list 1 (some false) [[C.str s]]]=xX [s]:=rfl
theorem zrN {d:Dcm} {k i:Nat} {ws:List Txt} (hi:i<d.flds.length) (hi2:i<(setW d k ws).flds.length):(setW d k ws).flds[i]=if i=k then⟨d.flds[i].name,zo4 ws⟩ else d.flds[i]:=by
 have hl:(d.flds.set k ⟨(d.flds.getD k yT).name,zo4 ws⟩).length=d.flds.length:=YP;refine(List.getElem_of_eq (show(setW d k ws).flds=d.flds.set k ⟨(d.flds.getD k yT).name,zo4 ws⟩ from rfl) hi2).trans ?_;rw[List.getElem_set];by_cases e:k=i
 ·subst e
  rw[if_pos rfl,if_pos rfl,Zh,Zg hi];rfl
 ·rw[if_neg e,if_neg (Ne.symm e)]
theorem zrO {d:Dcm} {k:Int} {t:Txt} (h:docE d≠0):setE d k t=docE d:=by unfold setE;rw[if_pos h]
theorem zrP {d:Dcm} {k:Int} {t:Txt} (h:docE d=0) (hk: ¬(0<=k/\k<d.flds.length)):setE d k t=4:=by unfold setE;rw[if_neg (fun q=>q h),if_neg hk]
theorem zrQ {d:Dcm} {k:Int} {t:Txt} (h:docE d=0) (hk:0<=k/\k<d.flds.length) (hw:(splitW t).length>8\/(splitW t).all vM=false):setE d k t=2:=by unfold setE;rw[if_neg (fun q=>q h),if_pos hk,if_pos hw]
theorem zqV {d:Dcm} {k:Int} {t:Txt} (h:docE d=0) (hk:0<=k/\k<d.flds.length) (hw: ¬((splitW t).length>8\/(splitW t).all vM=false)):setE d k t=0:=by unfold setE;rw[if_neg (fun q=>q h),if_pos hk,if_neg hw]
theorem zrR (W:List Txt):(W.any fun s=> !vM s)= !W.all vM:=by
 induction W with
 |nil=>rfl
 |cons a W ih=>rw[List.any_cons,Yz,ih,Bool.not_and]
theorem c26 (d:Dcm) (hd:DcmS d) (k:Int) (t:Txt) (ht:t.length<4294967281):Spec Tryz.prog 26 [.agg (zV d),.int .i64 k,.str t] (fun v=>v=.tup [.agg (zV (zpb d k t)),.int .i64 (setE d k t)]):=by
 refine Spec.of_awlP hf26 okf26 (by simp) fun S hS=>?_
 have g54:=c54 t ht;have g55:=c55 d hd;have g56:=c56 d hd k;have hbad: ∀e,setE d k t=e->e≠0->S (.tup [.agg [.str [],.list 0 none []],.int .i64 e]):=fun e he h0=>hS _ (by unfold zpb;rw[he,if_neg h0];rfl)
 have hgood:setE d k t=0-> ∀r:V,r.fz.nrm=.tup [.agg (zV (setW d k.toNat (splitW t))),.int .i64 0]->S r:=fun he r hr=>hS r (by unfold zpb;rw[he,if_pos rfl];exact hr)
 have eD:=zrO (d:=d) (k:=k) (t:=t);have eN:=zrP (d:=d) (k:=k) (t:=t);have eF:=zrQ (d:=d) (k:=k) (t:=t);have eO:=zqV (d:=d) (k:=k) (t:=t);clear hS;generalize setE d k t=E at hbad hgood eD eN eF eO;have g57:=fun(h8:(splitW t).length<=8)=>c57 (g:=58) (p:=fun s=> !vM s) (splitW t) (fun s _=>c58 s) (by omega)
 simp only[zrR] at g57;have hn:[C.str d.kind,zC 2 (d.flds.map zR)]=zV d:=rfl;generalize splitW t=W at g54 g57 hgood eF eO;rw[<-hn] at g55 g56⊢;have hfl:=hd.fs;simp only[Qs,bne_iff_ne,ne_eq,Zc,Zs,Za,Ψ26];refine xI g54 ?_ (ha:=by rfl);simp only[Qs,Zc,Za,Ψ26];refine zF g55 ?_ (ha:=by simp only[Zm,Zq,zB,V.norm,C.norm,C.normRow,yG wO]<;>rfl);by_cases h0:docE d=0
 ·simp only[h0,Qs,Zc,Za,Xn,Ψ26]
  refine zF g56 ?_ (ha:=by simp only[Zm,Zq,zB,V.norm,C.norm,C.normRow,yG wO]<;>rfl);by_cases hk:0<=k/\k<d.flds.length
  ·have e1:decide (docE d=0/\0<=k/\k<d.flds.length)=true:=decide_eq_true ⟨h0,hk⟩
   by_cases h8:W.length<=8
   ·have c8: ¬(W.length:Int)>8:=by omega
    simp only[e1,c8,yB,Qs,Za,Ψ26];refine pC (g57 h8) ?_ (ha:=by simp only[Zm,Zq,zB,V.norm,zO,C.norm,wD]<;>rfl);cases hv:W.all vM with
    |false=>
     simp only[Qs,zlt,Zk,Zc,Z5,Za,Ψ26];exact hbad 2 (eF h0 hk (.inr hv)) (by decide)
    |true=>
     have he:=eO h0 hk (by rw[hv];simp;omega);simp only[zI,Qs,bne_iff_ne,ne_eq,Zk,Zc,Zs,Zl,Za,Zi,zqa,zqb,zp7,Ψ26];obtain⟨n,rfl⟩: ∃n:Nat,k=(n:Int):=⟨k.toNat,by omega⟩;rw[Z6] at hgood;have hnk:n<d.flds.length:=by omega
     obtain⟨D',hD'⟩: ∃D',setW d n W=D':=⟨_,rfl⟩;have hDl:D'.flds.length=d.flds.length:=by rw[<-hD'];exact YP
     have hDk:D'.kind=d.kind:=by rw[<-hD'];rfl
     have hat': ∀i (hi:i<d.flds.length) (hi2:i<D'.flds.length),D'.flds[i]=if i=n then⟨d.flds[i].name,zo4 W⟩ else d.flds[i]:=fun i hi hi2=>by
      subst hD';exact zrN hi hi2
     rw[hD'] at hgood;rw[uu f26l52.eq_1];refine yA (fun x:Nat×List (List C)=>[(1,.int .i64 n),(6,.k (.ptr 6 0)),(8,lst 1 (zJ W)),(10,.k (.ptr 10 0)),(46,lst 2 (d.flds.map zR)),(47,.int .i64 d.flds.length),(48,.int .i64 x.1)]) (fun x=>[(6,.var 58 [.c (.str []),.c (.list 0 (some true) [])]),(10,.var 58 [.c (.str d.kind),.own 26010]),(26010,.arr 107 2 (some x.2.isEmpty) x.2)]) (fun x=>x.1<=d.flds.length/\x.2.length=x.1/\C.normRows x.2=(D'.flds.take x.1).map zR) (fun x=>d.flds.length-x.1) (0,[]) rfl rfl ⟨ZA _,rfl,rfl⟩ ?_;rintro⟨i,R⟩ ⟨hi,hRl,hRn⟩;simp only[] at hi hRl hRn;by_cases hlt:i<d.flds.length
     ·have d1:(i:Int)<d.flds.length:=by omega
      have c4:IntKind.i64.wrap ((i:Int)+1)=(i:Int)+1:=wrap_in (by omega) (by omega);have hat:=oL hlt;have hF:=(oM hd h0).fld (Zx hlt);have hf12:=(oM hd h0).fs;have hw8:=hF.ws;have hwE:(D'.flds.take (i+1)).map zR=(D'.flds.take i).map zR++[zR ⟨d.flds[i].name,if i=n then zo4 W else d.flds[i].words⟩]:=by
       have hi2:i<D'.flds.length:=by omega
       have e:D'.flds[i]=⟨d.flds[i].name,if i=n then zo4 W else d.flds[i].words⟩:=by rw[hat' i hlt hi2];split<;>rfl
       rw[ZK hi2,ZW,e];rfl
      have hsp:=hF.sp;clear hF;simp only[d1,hat,zI,Qs,bne_iff_ne,ne_eq,Zk,Zc,Zs,Zl,Za,Zi,zqa,zqb,zp7,Ψ26];generalize d.flds[i]=f at hw8 hwE hsp;rw[uu f26l37.eq_1];refine yA (fun j:Nat=>[(1,.int .i64 n),(6,.k (.ptr 6 0)),(8,lst 1 (zJ W)),(10,.k (.ptr 10 0)),(11,.int .i64 i),(13,.k (.ptr 13 0)),(46,lst 2 (d.flds.map zR)),(47,.int .i64 d.flds.length),(48,.int .i64 i),(57,lst 1 (f.words.map xX)),(58,.int .i64 f.words.length),(59,.int .i64 j)]) (fun j=>[(6,.var 58 [.c (.str []),.c (.list 0 (some true) [])]),(10,.var 58 [.c (.str d.kind),.own 26010]),(13,.var 107 [.c (.str f.name),.own 26013]),(26010,.arr 107 2 (some R.isEmpty) R),(26013,.arr 109 1 (some (if i=n then([]:List (List Txt)) else f.words.take j).isEmpty) ((if i=n then([]:List (List Txt)) else f.words.take j).map xX))]) (fun j=>j<=f.words.length) (fun j=>f.words.length-j) 0 rfl (by simp;rfl) (ZA _) ?_;intro j hj;by_cases hjt:j<f.words.length
      ·have k1:(j:Int)<f.words.length:=by omega
       have k4:IntKind.i64.wrap ((j:Int)+1)=(j:Int)+1:=wrap_in (by omega) (by omega);have hws:=lX hjt;have hwj:=hsp _ (Zx hjt);have g60:=c60 f.words[j] (by omega);by_cases hin:i=n
       ·subst hin
        simp only[k1,k4,hws,zI,Qs,zlg,zpm,zlk,zlt,forall_const,bne_iff_ne,ne_eq,Zk,Zc,Zs,Za,Zi,Ψ26];exact Next.intro (j+1) rfl (by first|rfl|(simp;rfl)) (by omega) (by omega)
       ·have m1: ¬(i:Int)=(n:Int):=by omega
        simp only[k1,k4,hws,hin,m1,zI,Qs,zlg,zpm,zlk,forall_const,bne_iff_ne,ne_eq,Zk,Zc,Zs,Za,Zi,Ψ26];refine zg6 g60 ?_ (ha:=by simp only[Zm,Zq,zB,V.norm,zrJ]<;>rfl);simp only[k1,k4,hws,hin,m1,zI,Qs,zk7,cA,zk9,zla,zlg,zlk,cI,zlo,zpL,zpM,zq6,reduceCtorEq,forall_eq,Zk,ZH,Zc,Zs,Zl,Z5,Za,Zi,Zy];have hsn:(f.words.take (j+1)).map xX=(f.words.take j).map xX++[[.list 1 none (zJ f.words[j])]]:=by
         rw[ZK hjt,ZW,zrK (by intro e;rw[e] at hwj;simp at hwj)];rfl
        have hem:(f.words.take (j+1)).isEmpty=false:=by
         have hl:(f.words.take (j+1)).length=j+1:=by rw[Yy];omega
         cases hq:f.words.take (j+1) with
         |nil=>rw[hq] at hl;simp at hl
         |cons=>rfl
        exact⟨by simp;omega,by simp;omega,Next.intro (j+1) rfl (by simp only[hsn,hem];rfl) (by omega) (by omega)⟩
      ·obtain rfl:j=f.words.length:=by omega
       have k1: ¬(f.words.length:Int)<f.words.length:=by omega
       rw[Yk];simp only[k1,yB,Qs,Zs,Za,Ψ26];rw[uu f26l19.eq_1];refine yA (fun x:Nat×List (List C)=>[(1,.int .i64 n),(6,.k (.ptr 6 0)),(8,lst 1 (zJ W)),(10,.k (.ptr 10 0)),(11,.int .i64 i),(13,.k (.ptr 13 0)),(46,lst 2 (d.flds.map zR)),(47,.int .i64 d.flds.length),(48,.int .i64 i),(76,lst 1 (zJ W)),(77,.int .i64 W.length),(78,.int .i64 x.1)]) (fun x=>[(6,.var 58 [.c (.str []),.c (.list 0 (some true) [])]),(10,.var 58 [.c (.str d.kind),.own 26010]),(13,.var 107 [.c (.str f.name),.own 26013]),(26010,.arr 107 2 (some R.isEmpty) R),(26013,.arr 109 1 (some x.2.isEmpty) x.2)]) (fun x=>x.1<=W.length/\x.2.length<=8/\C.normRows x.2=(if i=n then zo4 (W.take x.1) else f.words).map xX) (fun x=>W.length-x.1) (0,(if i=n then([]:List (List Txt)) else f.words).map xX) rfl (by first|rfl|(simp;rfl)) ⟨ZA _,by show((if i=n then([]:List (List Txt)) else f.words).map xX).length<=8;rw[Zi];split;exact ZA _;exact hw8,by show C.normRows ((if i=n then([]:List (List Txt)) else f.words).map xX)=(if i=n then zo4 (W.take 0) else f.words).map xX;split<;>first|rfl|exact zP oK _⟩ ?_;rintro⟨j,Q⟩ ⟨hj,hQl,hQn⟩;simp only[] at hj hQl hQn;by_cases hjt:j<W.length
       ·have k1:(j:Int)<W.length:=by omega
        have k4:IntKind.i64.wrap ((j:Int)+1)=(j:Int)+1:=wrap_in (by omega) (by omega);by_cases hin:i=n
        ·subst hin
         rw[if_pos rfl] at hQn hwE;have hq:Q.length=j:=by
          have:=congrArg List.length hQn;rw[zqU,Zi] at this;rw[this];unfold zo4;rw[Zi,Yy];omega
         simp only[k1,k4,uI hjt,yB,Qs,zlg,zpm,zlk,zpL,zpM,forall_eq,bne_iff_ne,ne_eq,BEq.rfl,Zk,ZH,Zc,Zs,Zl,Z5,Za,Zy,zqc,Ψ26,tY,tP,tQ];have hne:(Q++[[C.list 1 (some false) [[C.str W[j]]]]]).isEmpty=false:=by simp
         refine⟨by omega,by omega,Next.intro (j+1,Q++[[C.list 1 (some false) [[C.str W[j]]]]]) rfl (by simp only[hne];rfl) ⟨by simp only[];omega,by simp;omega,?_⟩ (by simp only[];omega)⟩;show C.normRows (Q++[[C.list 1 (some false) [[C.str W[j]]]]])=(zo4 (W.take (j+1))).map xX;rw[zp4,hQn,zrM,ZK hjt];unfold zo4;rw[ZW,ZW];rfl
        ·have m1: ¬(i:Int)=(n:Int):=by omega
         rw[if_neg hin] at hQn;simp only[k1,k4,uI hjt,m1,yB,Qs,forall_const,Za,Ψ26];exact Next.intro (j+1,Q) rfl rfl ⟨by simp only[];omega,hQl,by show C.normRows Q=(if i=n then zo4 (W.take (j+1)) else f.words).map xX;rw[if_neg hin];exact hQn⟩ (by simp only[];omega)
       ·obtain rfl:j=W.length:=by omega
        have k1: ¬(W.length:Int)<W.length:=by omega
        rw[Yk] at hQn;simp only[k1,c4,Qs,zlg,zpm,zlk,zpL,zpM,forall_eq,bne_iff_ne,ne_eq,Zk,ZH,Zc,Zs,Zl,Z5,Za,Zy,zqc,Ψ26];have hn2:C.normRows (R++[[C.str f.name,C.list 1 (some Q.isEmpty) Q]])=(D'.flds.take (i+1)).map zR:=by
         rw[zp4,hRn,hwE,zrL (W:=if i=n then zo4 W else f.words) hQn]
        have hne:(R++[[C.str f.name,C.list 1 (some Q.isEmpty) Q]]).isEmpty=false:=by simp
        exact⟨by omega,by omega,Next.intro (i+1,R++[[C.str f.name,C.list 1 (some Q.isEmpty) Q]]) rfl (by simp only[hne];rfl) ⟨by simp only[];omega,by simp only[Zv,Zo,ZG];omega,hn2⟩ (by simp only[];omega)⟩
     ·obtain rfl:i=d.flds.length:=by omega
      have d1: ¬(d.flds.length:Int)<d.flds.length:=by omega
      rw[Z9 (by omega)] at hRn;simp only[d1,Qs,zpm,zq2,zq3,zq4,zq5,lO,zq7,zq8,zlt,Zk,ZY,Zc,Z5,Za,Zy,Ψ26];refine hgood he _ ?_;rw[hRn];unfold zV;rw[hDk];show V.tup [(V.agg [C.str d.kind,C.list 2 none (D'.flds.map zR)]).nrm,_]=_;simp only[V.nrm,C.normRow,C.norm,zP wO];rfl
   ·have c8:(W.length:Int)>8:=by omega
    simp only[e1,c8,yB,Qs,zlt,Zk,Zc,Z5,Za,Ψ26];exact hbad 2 (eF h0 hk (.inl (by omega))) (by decide)
  ·have e1:decide (docE d=0/\0<=k/\k<d.flds.length)=false:=decide_eq_false fun q=>hk q.2
   simp only[e1,Qs,zlt,Zk,Zc,Z5,Za,Ψ26];exact hbad 4 (eN h0 hk) (by decide)
 ·simp only[h0,Qs,zlt,forall_const,Zk,Zc,Z5,Za,Ψ26]
  exact hbad _ (eD h0) h0
theorem zrS {l:List Txt} {i:Nat} (h:i<l.length):(zJ l).getD i []=[.str (l.getD i [])]:=by simp[zJ,h]
theorem zrT {l:List Dcm} {i:Nat} (h:i<l.length):(l.map zV).getD i []=zV (l.getD i zo3):=by simp[h]
theorem zqW: ∀ys:List (List C),nlApp (some false) ys=some false
 |[]=>rfl
 |_::_=>rfl
theorem zpr {rows:List (List C)} (h:C.normRows rows=rows) (sz:Nat) (b:Bool):(C.list sz (some b) rows).norm=zC sz rows:=by
 simp[C.norm,h,zC]
end Go.Abs
namespace Go.Abs
open Go.RowKit Go.Proofs Go.Wd Go.Wire Go.Ex
theorem zi3 {α:Type} {S:List C->Prop} (enc:α->List C) (Q:α->Prop) (hS: ∀r,S r-> ∃a,r=enc a/\Q a): ∀(rows:List (List C)),(∀r∈rows,S r)-> ∃l:List α,rows=l.map enc/\ ∀a∈l,Q a
 |[],_=>⟨[],rfl,fun _ h=>by cases h⟩
 |r::rows,h=>by
  obtain⟨a,ha,hq⟩:=hS r (h r (by simp));obtain⟨l,hl,hQ⟩:=zi3 enc Q hS rows (fun x hx=>h x (by simp[hx]));refine⟨a::l,by rw[ha,hl];rfl,fun x hx=>?_⟩;rcases ZH.1 hx with rfl|hx
  ·exact hq
  ·exact hQ x hx
theorem zi4 {m:Int} (h:(Lit.int .i64 m).wf=true): -9223372036854775808<=m/\m<=9223372036854775807:=by
 have:=(Lit.wf_int_iff _ _).1 h;simpa [IntKind.min,IntKind.max,IntKind.signed,IntKind.bits] using this
theorem zoz {n:Nat} {r:List C} (hr:yS Tryz.prog n 46 r): ∃x:Dmd,r=zQ x/\DmdI x:=by
 obtain⟨m,rs,_,rfl,h⟩:=iT Tryz.underlying46 hr
 match rs,h with
 |[x0,x1,x2,x3,x4,x5,x6,x7],⟨h0,h1,h2,h3,h4,h5,h6,h7,_⟩=>
  obtain⟨a0,rfl,_⟩:=iS Tryz.underlying3 h0;obtain⟨a1,rfl,_⟩:=pD Tryz.underlying9 h1;obtain⟨a2,rfl,_⟩:=pD Tryz.underlying9 h2;obtain⟨a3,rfl,_⟩:=pD Tryz.underlying9 h3;obtain⟨a4,rfl,_⟩:=pD Tryz.underlying9 h4;obtain⟨a5,rfl,_⟩:=pD Tryz.underlying9 h5;obtain⟨a6,rfl,q6⟩:=iS Tryz.underlying3 h6;obtain⟨a7,rfl,q7⟩:=iS Tryz.underlying3 h7;have w6:=zi4 q6;have w7:=zi4 q7;exact⟨⟨a0,a1,a2,a3,a4,a5,a6,a7⟩,rfl,w6.1,w6.2,w7.1,w7.2⟩
theorem zoA {n:Nat} {r:List C} (hr:yS Tryz.prog n 22 r): ∃l:List Dmd,uT Tryz.prog 22 r=lst 8 (l.map zQ)/\ ∀m∈l,DmdI m:=by
 obtain⟨m,rows,rfl,rfl,_,h⟩:=lV Tryz.underlying22 hr;obtain⟨l,rfl,hq⟩:=zi3 zQ DmdI (fun r hr=>zoz hr) rows h;exact⟨l,by simp only[uT,Tryz.underlying22,show Tryz.prog.cellsOf 46=8 by kernel_rfl],hq⟩
theorem zrU {n:Nat} {r:List C} (hr:yS Tryz.prog n 109 r): ∃x:List Txt,r=xX x/\x.length<=9223372036854775807/\ ∀s∈x,s.length<=9223372036854775807:=by
 obtain⟨m,rs,_,rfl,h⟩:=iT Tryz.underlying109 hr
 match rs,h with
 |[x0],⟨h0,_⟩=>
  obtain⟨_,rows,_,rfl,hl,h⟩:=lV Tryz.underlying51 h0;obtain⟨l,rfl,hq⟩:=zi3 (fun s:Txt=>[C.str s]) (fun s=>s.length<=9223372036854775807) (fun r hr=>by obtain⟨x,rfl,hx⟩:=pD Tryz.underlying9 hr;exact⟨x,rfl,hx⟩) rows h;exact⟨l,by rw[show Tryz.prog.cellsOf 9=1 by kernel_rfl];rfl,by simpa using hl,hq⟩
theorem zrV {n:Nat} {r:List C} (hr:yS Tryz.prog n 107 r): ∃x:Fld,r=zR x/\FldS x:=by
 obtain⟨m,rs,_,rfl,h⟩:=iT Tryz.underlying107 hr
 match rs,h with
 |[x0,x1],⟨h0,h1,_⟩=>
  obtain⟨a0,rfl,ha⟩:=pD Tryz.underlying9 h0;obtain⟨_,rows,_,rfl,hl,h⟩:=lV Tryz.underlying105 h1;obtain⟨l,rfl,hq⟩:=zi3 xX (fun x=>x.length<=9223372036854775807/\ ∀s∈x,s.length<=9223372036854775807) (fun r hr=>zrU hr) rows h;exact⟨⟨a0,l⟩,by rw[show Tryz.prog.cellsOf 109=1 by kernel_rfl];rfl,ha,by simpa using hl,hq⟩
theorem zrW {n:Nat} {r:List C} (hr:yS Tryz.prog n 58 r): ∃x:Dcm,r=zV x/\DcmS x:=by
 obtain⟨m,rs,_,rfl,h⟩:=iT Tryz.underlying58 hr
 match rs,h with
 |[x0,x1],⟨h0,h1,_⟩=>
  obtain⟨a0,rfl,ha⟩:=pD Tryz.underlying9 h0;obtain⟨_,rows,_,rfl,hl,h⟩:=lV Tryz.underlying56 h1;obtain⟨l,rfl,hq⟩:=zi3 zR FldS (fun r hr=>zrV hr) rows h;exact⟨⟨a0,l⟩,by rw[show Tryz.prog.cellsOf 107=2 by kernel_rfl];rfl,ha,by simpa using hl,hq⟩
theorem zrX {n:Nat} {r:List C} (hr:yS Tryz.prog n 23 r): ∃l:List Dcm,uT Tryz.prog 23 r=lst 2 (l.map zV)/\sP l:=by
 obtain⟨m,rows,rfl,rfl,hl,h⟩:=lV Tryz.underlying23 hr;obtain⟨l,rfl,hq⟩:=zi3 zV DcmS (fun r hr=>zrW hr) rows h;exact⟨l,by simp only[uT,Tryz.underlying23,show Tryz.prog.cellsOf 58=2 by kernel_rfl],by simpa using hl,hq⟩
theorem zoF {n:Nat} {t:TypeId} {r:List C} {k:IntKind} (ht:Tryz.prog.underlying t=some (.int k)) (hk:k.signed=false) (hr:yS Tryz.prog n t r): ∃m:Nat,uT Tryz.prog t r=.int k (m:Int)/\m<2 ^ k.bits:=by
 obtain⟨m,rfl,h⟩:=iS ht hr;have:=(Lit.wf_int_iff _ _).1 h;simp[IntKind.min,IntKind.max,hk] at this;obtain⟨j,rfl⟩: ∃j:Nat,m=j:=⟨m.toNat,by omega⟩;refine⟨j,by simp only[uT,ht],?_⟩;have h2:((2 ^ k.bits:Nat):Int)=(2:Int) ^ k.bits:=by simp
 omega
end Go.Abs
namespace Go.Abs
section
variable {P : Program}
theorem zrY {n:Nat} {t:TypeId} {r:List C} (ht:P.underlying t=some .string) (hr:yS P n t r): ∃s:List UInt8,uT P t r=.str s/\s.length<=9223372036854775807:=by
 obtain⟨s,rfl,h⟩:=pD ht hr;exact⟨s,by simp only[uT,ht],h⟩
end
end Go.Abs
namespace Go.Proofs.YtpmicgjdckeejaaGreatDoor
open Go.Abs Go.RowKit Go.ChangeShapes Go.WideShapes Go.ChangeAt Go.WideMaps Go.WideElems Go.Ex
theorem own:ownKnob Tryz.prog.godebug=none:=by kernel_rfl
theorem kids:Kids Tryz.prog (· <Tryz.prog.types.size):=kids_rows (by kernel_rfl) (by kernel_rfl)
theorem full: ∀t e,t<Tryz.prog.types.size->Tryz.prog.underlying t=some (.slice e)->0<Tryz.prog.cellsOf e:=slices_full_of Tryz.prog (by kernel_rfl)
def gX:List TypeId:=[3,4,5,9,22,23,36,46,51,56,58,105,107,109]
theorem zoG:oH Tryz.prog gX=true:=by kernel_rfl
theorem zoH: ∀t∈gX,t<Tryz.prog.types.size:=by
 have:gX.all (fun t=>decide (t<Tryz.prog.types.size))=true:=by kernel_rfl
 simpa using this
abbrev gY:List (String×DataW Unit):=Rows.examineKnowsUptoRow.laid
theorem zoI {W:World} {name:String} {g:Nat} {cs:Array Value} (hn:Tryz.prog.globalNamed name=some g) (hv:W.var? Tryz.prog name=some cs): ∃t f,W.heap[g]?=some (.cells cs t f):=by
 unfold World.var? at hv;rw[hn,Y2] at hv;split at hv
 ·rename_i h
  cases hv;exact⟨_,_,h⟩
 ·cases hv
theorem zoJ {P:Program} {w:World} {g n:Nat} {t tE:TypeId} {zero:Array Value} {k:IntKind}
  (h:w.ShapedOpen P) (hg:g<P.globals.size) (h0:((begin P (fun _ _=>0) default).world.heap[g]?).bind Obj.row?=some (zero,t)) (hz:zero.size=n)
  (hb:P.buildable t=true) (hc:P.cellTypes P.depth t=some (List.replicate n tE)) (hu:P.underlying tE=some (.int k)):
  ∃cs T f,w.heap[g]?=some (.cells cs T f)/\ ∀i,i<n-> ∃z:Int,cs[i]?=some (.int k z):=by
 obtain⟨cs,hh,hs,hr⟩:=h.1 g zero t hg h0;obtain⟨ts,hts,_,hall⟩:=hr hb;rw[hc] at hts;cases hts;refine⟨cs,_,_,hh,fun i hi=>?_⟩;have h1:i<cs.size:=by omega
 obtain⟨u,hu',hok⟩:=hall i cs[i] (by simp[h1]);have:u=tE:=by simp[XR,hi] at hu';exact hu'.2.symm
 subst this;have hcell:cs[i]?=some cs[i]:=by simp[h1]
 rw[hcell];unfold Cell.ok at hok;rw[hu] at hok;cases hv:cs[i]<;>rw[hv] at hok<;>simp at hok
 case int k' n=>exact⟨n,by rw[hok.1]⟩
theorem zi5 {W:World} (hL:laidMet Tryz.prog gY W) {name:String} {g n:Nat} {T:TypeId} {zs:List Int} {d:DataW Unit} (hm:(name,d)∈gY) (hd0:d=Lib.tabData .u8 zs) (hn:Tryz.prog.globalNamed name=some g)
  (hT:(Tryz.prog.globals[g]?).map (·.type)=some T) (ht:Tryz.prog.underlying T=some (.array n 5)) (hct:Tryz.prog.cellsOf T=n):g<W.heap.size/\ ∃b,W.heap[g]?=some b/\uN (zs.map fun z=>Value.int .u8 z).toArray b:=by
 obtain⟨g',t',cs,fuel,p,hg',hty,hvar,hd⟩:=Lib.laidMet.reads hL (n:=name) hm;obtain rfl:=Yv (hn.symm.trans hg');obtain rfl:=Yv (hT.symm.trans hty);obtain⟨t,f,hb⟩:=zoI hn hvar;refine⟨(Zn.1 hb).1,_,hb,?_⟩;subst hd0;have e:=Lib.cells_of_tab ht Tryz.underlying5 (by kernel_rfl) hct hd;show cs=_;rw[<-e]
theorem zoK {W:World} (hL:laidMetH Tryz.prog gY W) (hsh:W.ShapedOpen Tryz.prog):yI (Go.Abs.base W):=by
 rw[MakeChecks.laidMetH_plain _ _ _ (by kernel_rfl)] at hL;refine⟨(fun _ _ h=>nomatch h),fun g p hg=>?_⟩
 match g,hg with
 |2,hg=>
  cases hg;obtain⟨m,hm⟩:=cell_of_shapedOpen_int (zero:= #[.int .i64 0]) (t:=3) (k:=.i64) (g:=2) hsh (of_decide_eq_true (by kernel_rfl)) (by kernel_rfl) rfl (by kernel_rfl) (by kernel_rfl) Tryz.underlying3;unfold World.cell? at hm;cases hb:W.heap[2]? with
  |none=>rw[hb] at hm;simp at hm
  |some ob=>
   refine⟨(Zn.1 hb).1,ob,rfl,?_⟩;rw[hb] at hm;cases ob with
   |cells cs t f=>exact⟨_,by simpa using hm,m,rfl⟩
   |_=>simp at hm
 |0,hg=>cases hg;exact zi5 hL (name:= "math/bits.deBruijn32tab") (T:=208) (.head _) rfl (by kernel_rfl) (by kernel_rfl) Tryz.underlying208 (by kernel_rfl)
 |1,hg=>cases hg;exact zi5 hL (name:= "math/bits.deBruijn64tab") (T:=209) (.tail _ (.head _)) rfl (by kernel_rfl) (by kernel_rfl) Tryz.underlying209 (by kernel_rfl)
 |5,hg=>
  cases hg;obtain⟨cs,T,f,hb,hc⟩:=zoJ (zero:=(List.replicate 20 (Value.int .u64 0)).toArray) (t:=267) (tE:=154) (k:=.u64) (g:=5) (n:=20) hsh (of_decide_eq_true (by kernel_rfl)) (by kernel_rfl) rfl (by kernel_rfl) (by kernel_rfl) Tryz.underlying154;exact⟨(Zn.1 hb).1,_,hb,hc⟩
theorem zrZ (H:Type):Bulk (H:=H) Rows.uptoBulk Rows.uptoBulkAll where
 one d:=by
  cases d with
  |lit l=>cases l<;>simp[Rows.uptoBulk]
  |nil=>simp[Rows.uptoBulk]
  |ptr d=>simp[Rows.uptoBulk]
  |slice elems spare=>simp[Rows.uptoBulk]
  |agg parts=>simp[Rows.uptoBulk]
  |iface t d=>simp[Rows.uptoBulk]
  |map entries=>simp[Rows.uptoBulk]
  |held h=>simp[Rows.uptoBulk]
 str s:=by simp[Rows.uptoBulk]
 slice es sp:=by simp only[Rows.uptoBulk];omega
 agg ps:=by simp[Rows.uptoBulk]
 cons d l:=by simp[Rows.uptoBulkAll]
noncomputable def zp5 (os:Os):World:=
 {World.doorLaid Tryz.prog 400 os with heap:=(World.doorLaid Tryz.prog 400 os).heap.modify 3 fun
  | .cells _ t frozen=> .cells (Lib.firstTab.map fun z=>Value.int .u8 z).toArray t frozen
  |o=>o}
theorem zoL (os:Os) (args:Array Value):laidMetH Tryz.prog gY ((zp5 os).forCall (fun _ _=>0) ⟨#[],args,[]⟩).memory:=
 laidMetH_of_parts3 (fuel:=8) (laidMet_of_run' 8 (by kernel_rfl) (by kernel_rfl)) (by kernel_rfl) (by kernel_rfl)
end Go.Proofs.YtpmicgjdckeejaaGreatDoor
namespace Go.Proofs
open Go.RowKit Go.Shelf Go.Abs Go.Wd Go.Wire Go.Ex
attribute [local go_sem] Oper.semAt_some
def zp6 (s:Txt):Array Value:= #[tV s]
structure FldB (f:Fld) (b:Nat) (vw:Value) (W:World):Prop where
 c0:W.cell? ⟨b,0,none⟩=some (tV f.name)
 c1:W.cell? ⟨b,1,none⟩=some vw
 pw:yD W (zW W) (zR f) [tV f.name,vw]
 gl:yI (base W)
theorem FldB.later {f:Fld} {b:Nat} {vw:Value} {W W':World} (h:FldB f b vw W) (hb:Below W.heap.size W W'):FldB f b vw W':=by
 have k: ∀(j:Nat) v,W.cell? ⟨b,j,none⟩=some v->W'.cell? ⟨b,j,none⟩=some v:=fun j v h0=>(hb.cell (p:=⟨b,j,none⟩) (World.block_lt_of_cell? _ _ h0)).trans h0
 exact⟨k _ _ h.c0,k _ _ h.c1,aA h.pw hb,h.gl.later (xM hb)⟩
theorem zr0 (f:Fld) (k:Nat):(List.range (k+1)).map (textF f)=(List.range k).map (textF f)++[textF f k]:=by
 rw[XL,ZW];rfl
theorem zr1 (n:Nat) (hn:3<=n) (f:Fld) (hf:FldR f) (hsw: ∀w∈f.words,∀s∈w,s.length<=100) (b:Nat) (vw:Value) (w:World)
  (Kp:World->World->Prop) (hKt: ∀A B C,Kp A B->Kp B C->Kp A C) (hKb: ∀A B,Kp w A->Below A.heap.size A B->Kp w B) (hW: ∀W,Kp w W->FldB f b vw W) (o1:vw.oneCell'=true):
  bG Fence.wide n Tryz.prog 99 #[.pointer (some ⟨b,0,none⟩)] zp6 Kp (fun xs=>xs=(List.range (yQ f)).map (textF f)) (yQ f) w:=by
 intro l J W hKW hJ hY h0;have h1n:1<=n:=by omega
 have mixed:Tryz.prog.follows Departure.mixedOrders=true:=by kernel_rfl
 have hle:=bF hf;obtain⟨N,hN⟩: ∃N,yQ f=N:=⟨_,rfl⟩;have hF0:=hW W hKW;have k61: ∀W',FldB f b vw W'->Calls Tryz.prog 61 #[.agg #[tV f.name,vw]] W' fun e W''=>e=.returned (.int .i64 (N:Int))/\Below W'.heap.size W' W'':=fun W' h=>by
  have:=(c61 f hf).intC h.gl (Z:=zW W') (fun _ h=>h) (vs:= #[.agg #[tV f.name,vw]]) (iZ h.pw (xS _ _))
  rwa [hN] at this
 have k100: ∀(k:Nat) W',k<N->FldB f b vw W'->Calls Tryz.prog 100 #[.agg #[tV f.name,vw],.int .i64 k] W' fun e W''=>e=.returned (.string ⟨(textF f k).toArray⟩)/\Below W'.heap.size W' W'':=fun k W' hk h=>
  (zmz f hf hsw k (by omega)).strC h.gl (Z:=zW W') (fun _ h=>h) (vs:= #[.agg #[tV f.name,vw],.int .i64 k]) (iZ h.pw (vH (.int .i64 (k:Int)) (xS _ _)))
 rw[hN] at hY hle⊢;have c0:=hF0.c0;have c1:=hF0.c1;have k61W:=k61 W hF0;have A1:Aside _:=hY;have A2:Aside _:=hJ;have A4:Aside _:=hW;clear hY hW k61;refine callsIn_of_wp Tryz.func99 rfl trivial ?_ rfl;simp only[Tryz.ntmps99,Yu,Zo,ZG,Zc,YV,YB,YA,YK,YC,Ya,ZS]
 gi_wp2_with (refine⟨trivial,?_⟩;gi_at_call 61;refine(callsIn_wide.2 k61W).mono ?_;rintro e w1 ⟨rfl,hb1⟩)
 have hK1:Kp w w1:=hKb _ _ hKW hb1;have hJ1:J [] w1:=A2.out _ _ _ h0 hb1;clear h0 hJ c0 c1 hF0 k61W hb1
 gi_loopw [6] (fun q wr=> ∃(k:Nat) (pre:List Txt),k<=N/\q=.int .i64 k/\pre=(List.range k).map (textF f)/\J pre wr/\Kp w wr)
  (fun q wr=>match q with| .int _ z=>N-z.toNat|_=>0)
 case atStart=>exact⟨0,[],ZA _,rfl,rfl,hJ1,hK1⟩
 case round=>
  obtain⟨k,pre,hk,rfl,hpre,hJw,hKp⟩:=hrel;have hpl:pre.length=k:=by rw[hpre];simp
  by_cases hlt:k<N
  ·have hlti:(k:Int)<N:=by omega
   have c4:IntKind.i64.wrap ((k:Int)+1)=(k:Int)+1:=wrap_in (by omega) (by omega);have hF:=A4.out wr hKp;have c0:=hF.c0;have c1:=hF.c1;have k1:=k100 k wr hlt hF;have A5:Aside _:=hJw;have A6:Aside _:=hKp;clear hF hJw hKp hJ1 hK1 k100
   gi_wp2_with (refine⟨trivial,?_⟩;gi_at_call 100;refine(callsIn_wide.2 k1).mono ?_;rintro e w2 ⟨rfl,hb2⟩;obtain⟨fn,tmps,assign,body,hy,hR⟩:=A1.out pre (textF f k) w2 (A2.out _ _ _ A5.out hb2) (by rw[hpl];exact hlt);simp only[zp6,tV] at hy)
   gi_wp2
   refine hR.mono ?_;rintro e W3 ⟨rfl,hJ3,hk3⟩
   gi_wp2
   exact⟨⟨k+1,_,hlt,by rw[Int.natCast_add];rfl,rfl,by rw[zr0,<-hpre];exact hJ3,hKt _ _ _ (hKb _ _ A6.out hb2) hk3⟩,by simp only[];omega⟩
  ·obtain rfl:k=N:=by omega
   have hkk: ¬(k:Int)<k:=by omega
   clear k100 hJ1 hK1
   gi_wp2
   go_end0
   rw[hpre] at hJw;exact⟨⟨_,rfl⟩,hJw⟩
attribute [local go_sem] Oper.semAt_some
theorem zr2 (x y:Value) (w:World) (h1:x.oneCell'=true) (h2:y.oneCell'=true):Calls Tryz.prog 62 #[.agg #[x,y]] w fun e w'=>e=.returned (.func (.func 99) #[] #[.pointer (some ⟨w.heap.size,0,none⟩)])/\w'=w.alloc (.cells #[x,y] 107):=by
 go_enter Tryz.func62,Tryz.ntmps62
 go_wp2
 go_ret
 exact⟨rfl,rfl⟩
theorem zr3 {fn:Func} {p u:Tmp} (h:fn.results= #[.tmp p,.tmp u]) (tmps:Array Value) (w:World):(results fn tmps).run Tryz.prog w=.ok (.tuple #[tmps.getD p undef,tmps.getD u undef]) w:=by
 simp[results,h,go_sem]
structure TxI (w W0:World) (N bo:Nat) (pre:List Txt) (W:World):Prop where
 v: ∃vs:Value,W.heap[bo]?=some (.cells #[vs] 51 (0,0))/\W.ownsRow N 9 1 vs pre.length (pre.map tV)
 kp:KpR N bo bo bo W0 W
 bl:Below w.heap.size w W
theorem TxI.own {w W0:World} {N bo:Nat} (hv:bo<N) (hw:w.heap.size<=N) (hW:N<=W0.heap.size):OwnFrom N (TxI w W0 N bo):=by
 rintro pre A B row ⟨⟨vs,k1,k2⟩,k6,k7⟩ hg hr;have hsz:N<=A.heap.size:=ZT hW k6.1;have hb: ∀j,j<N->B.heap[j]?=A.heap[j]?:=fun j hj=>hg.block j (by omega) (fun e=>by have:=(hr j e.symm).1;omega)
 refine⟨⟨vs,(hb _ hv).trans k1,k2.kept hg ?_⟩,k6.trans (KpR.grown hsz hg fun r e=>(hr r e).1),k7.grown hg (ZT hw hsz) fun r e=>by have:=(hr r e).1;omega⟩;cases q:vs.ownBlock with
 |none=>exact .inl rfl
 |some g=>
  right;intro e;obtain⟨cur,hc,_⟩:=ziL k2 q;obtain⟨_,o,ho,hno⟩:=hr g e.symm;rw[hc] at ho;cases ho;cases hno
theorem zr4 (d:Dcm) (hd:DcmS d) (h0:docE d=0) (k:Nat) (hk:k<d.flds.length) (h4:yQ (d.flds.getD k yT)<=4096) (w:World) (hG:yI (base w)) (p:Option Addr) (cap b o:Nat) (fv:Nat->Value×Value) (hf:FldAt w d.flds p b o fv)
  (k55: ∀W,Below w.heap.size w W->Calls Tryz.prog 55 #[.agg #[.string ⟨d.kind.toArray⟩,.slice p d.flds.length cap]] W fun e W'=>e=.returned (.int .i64 0)/\Below W.heap.size W W')
  (k56: ∀W,Below w.heap.size w W->Calls Tryz.prog 56 #[.agg #[.string ⟨d.kind.toArray⟩,.slice p d.flds.length cap],.int .i64 k] W fun e W'=>e=.returned (.bool true)/\Below W.heap.size W W'):
  Calls Tryz.prog 27 #[.agg #[.string ⟨d.kind.toArray⟩,.slice p d.flds.length cap],.int .i64 k] w fun e w'=> ∃vs,e=.returned (.tuple #[vs,.int .i64 0])/\Below w.heap.size w w'/\
   w'.ownsRow w.heap.size 9 1 vs (yQ (d.flds.getD k yT)) (((List.range (yQ (d.flds.getD k yT))).map (textF (d.flds.getD k yT))).map tV):=by
 refine(callsIn_wide (n:=8)).1 ?_;have hn1:1<=8:=by decide
 have hR:DcmR d:=oM hd h0;have hn12:=hR.fs;have hFm:d.flds.getD k yT∈d.flds:=by rw[Zh,Zg hk];exact Zx hk
 have hFR:=hR.fld hFm;have hsw: ∀w∈(d.flds.getD k yT).words,∀s∈w,s.length<=100:=fun w hw s hs=>ZT (zm1 hd h0 _ hFm w hw s hs) (by decide)
 obtain⟨rfl,hbw⟩:=hf.ad (by omega);obtain⟨hc0,hc1⟩:=hf.cl k hk;have hrp:=hf.rp k hk;have ho2:=hf.o2 k;have hx:(fv k).1=tV (d.flds.getD k yT).name:=uQ (hrp.2 0 _ _ rfl rfl);rw[hx] at hc0 hrp;generalize (fv k).2=vw at hc1 hrp ho2;obtain⟨F,hFe⟩: ∃F,d.flds.getD k yT=F:=⟨_,rfl⟩;rw[hFe] at hFR hsw hc0 hrp h4⊢;obtain⟨m,hm⟩: ∃m,d.flds.length=m:=⟨_,rfl⟩;rw[hm] at hk hn12 k55 k56⊢;have k61: ∀W,Below w.heap.size w W->Calls Tryz.prog 61 #[.agg #[tV F.name,vw]] W fun e W'=>e=.returned (.int .i64 (yQ F:Nat))/\Below W.heap.size W W':=fun W hb=>
  (c61 F hFR).intC (hG.later (xM hb)) (Z:=zW W) (fun _ h=>h) (vs:= #[.agg #[tV F.name,vw]]) (iZ (aA hrp hb) (xS _ _))
 have kc: ∀W,Below w.heap.size w W->W.cell? ⟨b,o+k*2,none⟩=some (tV F.name)/\W.cell? ⟨b,o+k*2+1,none⟩=some vw:=fun W hb=>⟨(hb.cell (p:=⟨b,o+k*2,none⟩) hbw).trans hc0,(hb.cell (p:=⟨b,o+k*2+1,none⟩) hbw).trans hc1⟩
 have hB0: ∀a,Below w.heap.size w (w.alloc a):=fun a=>(Below.refl _ w).alloc (Zt _) _
 obtain⟨N,hN⟩: ∃N,yQ F=N:=⟨_,rfl⟩;rw[hN] at h4 k61⊢;have A4:Aside (yI (base w)):=hG;have A5:Aside (yD w (zW w) (zR F) [tV F.name,vw]):=hrp;have hki0:(0:Int)<=k:=by omega
 have hkm:(k:Int)<m:=by omega
 have hNle: ¬(N:Int)>4096:=by omega
 clear hd h0 hR hFm hf hx hc0 hc1 hG hrp;refine callsIn_of_wp_marks Tryz.func27 rfl trivial ?_;simp only[Tryz.ntmps27,Yu,Zo,ZG,Zc,YV,YB,YA,YK,YC,Ya,ZS];have hB0':=hB0 (.cells #[.string ⟨d.kind.toArray⟩,.slice (some ⟨b,o,none⟩) m cap] 58);have qb:(w.alloc (.cells #[.string ⟨d.kind.toArray⟩,.slice (some ⟨b,o,none⟩) m cap] 58)).heap[w.heap.size]?=some (.cells #[.string ⟨d.kind.toArray⟩,.slice (some ⟨b,o,none⟩) m cap] 58 (0,0)):=World.alloc_heap_new w _;have hsz0:(w.alloc (.cells #[.string ⟨d.kind.toArray⟩,.slice (some ⟨b,o,none⟩) m cap] 58)).heap.size=w.heap.size+1:=World.size_alloc ..
 gi_wp2_with (first
  |(refine⟨trivial,?_⟩;gi_at_call 55;refine(callsIn_wide.2 (k55 _ hB0')).mono ?_;rintro e w1 ⟨rfl,hb1⟩;have q2:=(hb1.block w.heap.size (by omega)).trans qb;obtain⟨c20,c21⟩:=oP q2;have hB1:=hB0'.trans (hb1.mono hB0'.size);have z1:=(Zn.1 q2).1)
  |(refine⟨trivial,?_⟩;gi_at_call 56;refine(callsIn_wide.2 (k56 _ hB1)).mono ?_;rintro e w2 ⟨rfl,hb2⟩;have q3:=(hb2.block w.heap.size z1).trans q2;obtain⟨c30,c31⟩:=oP q3;have hB2:=hB1.trans (hb2.mono hB1.size);have z2:=(Zn.1 q3).1;obtain⟨c32,c33⟩:=kc w2 hB2)
  |(refine⟨trivial,?_⟩;gi_at_call 61;refine(callsIn_wide.2 (k61 _ hB2)).mono ?_;rintro e w3 ⟨rfl,hb3⟩;have q4:=(hb3.block w.heap.size z2).trans q3;have hB3:=hB2.trans (hb3.mono hB2.size);have z3:=(Zn.1 q4).1;have hB4:Below w.heap.size w (w3.alloc (.cells #[.slice none 0 0] 51)):=hB3.alloc hB3.size _;have q5:(w3.alloc (.cells #[.slice none 0 0] 51)).heap[w.heap.size]?=_:=(Below.heap_alloc _ _ _ (by omega)).trans q4;obtain⟨c50,c51⟩:=oP q5;obtain⟨c52,c53⟩:=kc _ hB4)
  |(refine⟨trivial,?_⟩;gi_at_call 62;refine(callsIn_wide.2 (zr2 (tV F.name) vw _ rfl ho2)).mono ?_;rintro e w5 ⟨rfl,hw5⟩))
 have hz5:((w3.alloc (.cells #[.slice none 0 0] 51)).alloc (.cells #[tV F.name,vw] 107)).heap.size=w3.heap.size+2:=by rw[World.size_alloc,World.size_alloc]
 have hB5:Below w.heap.size w ((w3.alloc (.cells #[.slice none 0 0] 51)).alloc (.cells #[tV F.name,vw] 107)):=hB4.alloc hB4.size _;have a0:((w3.alloc (.cells #[.slice none 0 0] 51)).alloc (.cells #[tV F.name,vw] 107)).heap[w3.heap.size]?=some (.cells #[.slice none 0 0] 51 (0,0)):=(Below.heap_alloc _ _ _ (by rw[World.size_alloc];omega)).trans (World.alloc_heap_new w3 _);have a1:((w3.alloc (.cells #[.slice none 0 0] 51)).alloc (.cells #[tV F.name,vw] 107)).heap[w3.heap.size+1]?=some (.cells #[tV F.name,vw] 107 (0,0)):=by
  have:=World.alloc_heap_new (w3.alloc (.cells #[.slice none 0 0] 51)) (.cells #[tV F.name,vw] 107)
  rwa [World.size_alloc] at this
 generalize (w3.alloc (.cells #[.slice none 0 0] 51)).alloc (.cells #[tV F.name,vw] 107)=W5 at hz5 hB5 a0 a1⊢;have hz3:w.heap.size<=w3.heap.size:=hB3.size;have hFA: ∀W,KpR W5.heap.size w3.heap.size w3.heap.size w3.heap.size W5 W->FldB F (w3.heap.size+1) vw W:=by
  intro W hK;have h5:=(hK.2 (w3.heap.size+1) (by omega) (by omega) (by omega) (by omega)).trans a1;obtain⟨u0,u1⟩:=oP h5;have hlow: ∀j,j<w.heap.size->W.heap[j]?=w.heap[j]?:=fun j hj=>(hK.2 j (by omega) (by omega) (by omega) (by omega)).trans (hB5.block j hj)
  have hwz:w.heap.size<=W.heap.size:=by have:=hK.1;omega
  have hr:=A5.out;exact⟨u0,u1,⟨hr.1,fun j c v hc hv=>(hr.2 j c v hc hv).mono (fun b hb=>hlow b.2 hb) fun b hb=>ZM hb hwz⟩,zof A4.out hwz hlow⟩
 have hseq:=zr1 7 (by decide) F hFR hsw (w3.heap.size+1) vw W5 (KpR W5.heap.size w3.heap.size w3.heap.size w3.heap.size) (fun _ _ _=>KpR.trans) (fun A B hA hb=>hA.trans (KpR.grown hA.1 (nY hb) (fun r e=>by cases e))) hFA ho2;rw[hN] at hseq;refine zhj (α:=Txt) rfl (by decide) (gf:=99) (lb:= #[.pointer (some ⟨w3.heap.size+1,0,none⟩)]) rfl trivial (enters_of Tryz.func99 (by kernel_rfl) rfl) hseq
  (fun _ _ _=>KpR.trans) (fun A B row hs hg hr=>KpR.grown hs hg hr) (fun _=>rfl) (TxI w W5 W5.heap.size w3.heap.size) (TxI.own (by omega) hB5.size (Zt _)) ?h0
  (fun x a' W'=>a'={tmps:= #[Value.agg #[Value.string ⟨d.kind.toArray⟩,Value.slice (some ⟨b,o,none⟩) m cap],.int .i64 k,.pointer (some ⟨w.heap.size,0,none⟩),undef,.slice none 0 0,.int .i64 0,.int .i64 0,.pointer (some ⟨w3.heap.size,0,none⟩),Value.string ⟨x.toArray⟩,Value.agg #[Value.string ⟨d.kind.toArray⟩,Value.slice (some ⟨b,o,none⟩) m cap],.int .i64 0,.bool false,.int .i64 0,.bool false,undef,.bool false,Value.agg #[Value.string ⟨d.kind.toArray⟩,Value.slice (some ⟨b,o,none⟩) m cap],.int .i64 k,.bool true,.bool false,.bool (decide (4096<(N:Int))),.pointer (some ⟨w.heap.size,1,none⟩),.slice (some ⟨b,o,none⟩) m cap,.int .i64 k,.pointer (some ⟨b,o+k*2,none⟩),.agg #[tV F.name,vw],.int .i64 (N:Int),.bool (decide (4096<(N:Int))),.pointer (some ⟨w.heap.size,1,none⟩),.slice (some ⟨b,o,none⟩) m cap,.int .i64 k,.pointer (some ⟨b,o+k*2,none⟩),.agg #[tV F.name,vw],.func (.func 99) #[] #[.pointer (some ⟨w3.heap.size+1,0,none⟩)],Value.string ⟨x.toArray⟩,undef,undef,undef,undef,undef],defers:=[]}) (fun x a' W l o o' h _ _ _=>h) ?assign ?body ?done
 case h0=>exact⟨⟨.slice none 0 0,a0,World.ownsRow_nil _ _ _ _⟩,⟨Zt _,fun _ _ _ _ _=>rfl⟩,hB5⟩
 case assign=>
  intro l pre x W' K hI hsz' hK;simp only[zp6,tV]
  gi_wp2
  exact hK _ _ rfl hI (KeepsFrom.refl _ _) ⟨Zt _,fun _ _ _ _ _=>rfl⟩ hsz'
 case body=>
  rintro l pre x a' W rfl hI hlen hsz2;obtain⟨⟨vs,hv,hr⟩,hkp,hbl⟩:=hI;have e0:=sS hv;have hown: ∀g,vs.ownBlock=some g->W5.heap.size<=g/\ ∃cur,W.heap[g]?=some (.cells cur 9 (0,0)):=fun g hg=>by
   obtain⟨cur,hc,hb⟩:=ziL hr hg;exact⟨hb,cur,hc⟩
  have hrow2: ∀(W2:World),(W.alloc (.cells #[.string ⟨x.toArray⟩] 9)).grownBy W2 vs.ownBlock->(∀j,j<W.heap.size->vs.ownBlock≠some j->W2.heap[j]?=W.heap[j]?)/\W.heap.size<=W2.heap.size:=fun W2 hg2=>by
   have hsz2:=hg2.size;rw[World.size_alloc] at hsz2;refine⟨fun j h1 h3=>?_,by omega⟩;rw[hg2.block j (by rw[World.size_alloc];omega) (fun e=>h3 e.symm)];rw[Below.heap_alloc _ _ _ (by omega)]
  have nlow: ∀j,j<W5.heap.size->vs.ownBlock≠some j:=fun j hj e=>by have:=(hown j e).1;omega
  have hfin:Aside (∀(W2:World) (v':Value),W2.ownsRow W5.heap.size 9 1 v' (pre.length+1) (pre.map tV++[.string ⟨x.toArray⟩])->(W.alloc (.cells #[.string ⟨x.toArray⟩] 9)).grownBy W2 vs.ownBlock->KeepsFrom W5.heap.size W (W2.setCell ⟨w3.heap.size,0,none⟩ v')/\KpR W5.heap.size w3.heap.size w3.heap.size w3.heap.size W (W2.setCell ⟨w3.heap.size,0,none⟩ v')/\TxI w W5 W5.heap.size w3.heap.size (pre++[x]) (W2.setCell ⟨w3.heap.size,0,none⟩ v')):=by
   rintro W2 v' ho' hg2;obtain⟨hold,hsz⟩:=hrow2 W2 hg2;have hv2:=(hold _ (xV hv) (nlow _ (by omega))).trans hv;have oX: ∀j,j≠w3.heap.size->(W2.setCell ⟨w3.heap.size,0,none⟩ v').heap[j]?=W2.heap[j]?:=fun j hj=>uB _ _ _ _ hj
   have szX:(W2.setCell ⟨w3.heap.size,0,none⟩ v').heap.size=W2.heap.size:=by simp
   have keep: ∀j,j<W.heap.size->j≠w3.heap.size->vs.ownBlock≠some j->(W2.setCell ⟨w3.heap.size,0,none⟩ v').heap[j]?=W.heap[j]?:=fun j h1 h2 h4=>(oX j h2).trans (hold j h1 h4)
   have hbl2:Below w.heap.size w W2:=(hbl.alloc (by omega) _).grown hg2 (by rw[World.size_alloc];omega) (fun k e=>by have:=(hown k e).1;omega);have kpX:KpR W5.heap.size w3.heap.size w3.heap.size w3.heap.size W (W2.setCell ⟨w3.heap.size,0,none⟩ v'):=⟨by omega,fun j h1 h2 h3 h4=>keep j (by omega) h2 (nlow j h1)⟩;refine⟨⟨by omega,fun j o h1 h2 h3=>(keep j (ziP h2) (by omega) (fun e=>by obtain⟨_,cur,hc⟩:=hown j e;rw[hc] at h2;cases h2;cases h3)).trans h2⟩,kpX,⟨⟨v',vO W2 _ 0 _ 51 (0,0) v' hv2,?_⟩,hkp.trans kpX,hbl2.setCell (p:=⟨w3.heap.size,0,none⟩) (by omega) _⟩⟩;rw[Zv,ZW];exact ownsRow_setCell_below ho' (by show w3.heap.size<_;omega) _
  have hfac:Aside (∀(W2:World),(W.alloc (.cells #[.string ⟨x.toArray⟩] 9)).grownBy W2 vs.ownBlock->W2.heap[w3.heap.size]?=some (.cells #[vs] 51 (0,0))):=by
   intro W2 hg2;obtain⟨hold,hsz⟩:=hrow2 W2 hg2;exact(hold _ (xV hv) (nlow _ (by omega))).trans hv
  obtain⟨i0,hif,hz0,hz1,hz2⟩:=info_parts (show(Tryz.prog.info? 9).map (fun i=>(i.zero,i.size,i.bytes))=some (some (.string ⟨#[]⟩),1,16) by kernel_rfl);have hSl:pre.length<=4096:=by omega
  clear hv hkp hbl hown hrow2 nlow hFA hseq k61 k55 k56 kc
  gi_wp2_with (gi_at_builtin;refine wpListIn_append_own _ rfl _ _ 51 rfl W5.heap.size 9 i0 (.string ⟨#[]⟩) 1 16 Tryz.underlying51 hif hz0 hz1 hz2 rfl (by decide) _ _ _ rfl (hr.alloc _) ⟨W.heap.size,0,none⟩ 1 1 [.string ⟨x.toArray⟩] rfl rfl (cell_one_new _ _ _) (by simp[Value.oneCell']) (by unfold maxLen;omega) (by omega) (by simp;omega) ?_;intro v' W2 hown' hgrow _;obtain⟨g',cap',rfl⟩:=ownsRow_succ hown';have t1:=hfac.out W2 hgrow;have u0:=sS t1;have v0:W2.frozen? ⟨w3.heap.size,0,none⟩=false:=(by simp[World.frozen?,t1]))
  exact hfin.out _ _ hown' hgrow
 case done=>
  rintro D2 xs W3 hD2 hxs hI hK;obtain⟨⟨vs,hv,hr⟩,hkp,hbl⟩:=hI;obtain⟨sa,sk,sc,rfl⟩: ∃a k c,vs=.slice a k c:=by
   rcases hr with⟨_,⟨hv,_⟩|⟨g2,cap,cur,hv,_⟩⟩
   ·exact⟨_,_,_,hv⟩
   ·exact⟨_,_,_,hv⟩
  have hxs':xs=(List.range N).map (textF F):=hxs;have hxl:xs.length=N:=by rw[hxs'];simp
  rw[hxl,hxs'] at hr;have e0:=sS hv;refine(‹∀(a:Act) (w:World),Code.wpIn Fence.wide 8 Tryz.prog _ _ a w->_›) _ _ ?_;clear hv hkp hFA hseq k61 k55 k56 kc hxs hxs'
  gi_wp2
  refine⟨by simp,.inl ⟨_,_,rfl,run_takeDeferred hK,?_⟩⟩;refine⟨_,zr3 rfl _ _,_,rfl,hbl.grown (grownBy_putObj' _ D2 _) hbl.size (fun k e=>by cases e;omega),(ownsRow_putObj hr _ hK rfl).mono (by omega)⟩
end Go.Proofs
namespace Go.Abs
open Go.Proofs Go.RowKit Go.Lib Go.Wd Go.Wire Go.Ex
theorem zr5 {W:World} {B:Nat} {l:List Txt} {v:Value} (h:W.ownsRow B 9 1 v l.length (l.map tV)):PRep W (fun b=>B<=b.2/\b.2<W.heap.size/\sA W b.2) (zC 1 (zJ l)) v:=by
 rcases h with⟨_,⟨hv,h0⟩|⟨g,cap,cur,hv,hg,hh,h5,h6,h7,h8⟩⟩
 ·obtain rfl:=ZZ h0
  subst hv;exact .nil 0 none (by simp)
 ·subst hv
  by_cases h0:l=[]
  ·subst h0
   exact .list g 0 cap 0 none [] (fun _ _=>undef) (by simp) h5 h6 (fun h=>absurd rfl h) (by simp) (by simp) (by simp)
  ·have e:zC 1 (zJ l)=.list 1 none (zJ l):=by
    unfold zC;rw[if_neg];cases l with|nil=>exact absurd rfl h0|cons a L=>simp[zJ]
   have hat: ∀(i j:Nat) r c,(zJ l)[i]?=some r->r[j]?=some c->j=0/\ ∃s:Txt,l[i]?=some s/\c=.str s:=fun i j r c hr hc=>by
    rw[zJ,Zw] at hr;cases hs:l[i]? with
    |none=>rw[hs] at hr;cases hr
    |some s=>
     rw[hs] at hr;cases hr;cases j with
     |zero=>cases hc;exact⟨rfl,s,rfl,rfl⟩
     |succ j=>simp at hc
   have hcell: ∀j s,l[j]?=some s->W.cell? ⟨g,j,none⟩=some (tV s):=by
    intro j s hs;have hj:=(Zr.1 hs).1;have h9:=congrArg (fun x:List Value=>x[j]?) h8;simp only[YS,List.getElem?_take_of_lt hj,Zw,hs,Yw] at h9;rw[Ys] at h9;simp only[World.cell?,hh];simp only[YN,Z1,if_false];exact h9
   rw[e];have key:PRep W (fun b=>B<=b.2/\b.2<W.heap.size/\sA W b.2) (.list 1 none (zJ l)) (.slice (some ⟨g,0,none⟩) (zJ l).length cap):=by
    refine .list g 0 cap 1 none (zJ l) (fun i _=>tV (l.getD i [])) (by simp) (by rw[yB];exact h5) h6 (fun _=>⟨hg,(Zn.1 hh).1,fun c e f h=>by rw[hh] at h;cases h;rfl⟩) (fun r hr=>by obtain⟨s,_,rfl⟩:=ZB.1 hr;rfl) (fun i j r c hr hcj=>?_) fun i j r c hr hcj=>?_
    ·obtain⟨rfl,s,hs,rfl⟩:=hat i j r c hr hcj
     rw[YS,Yq,ZV,hcell i s hs];simp[List.getD,hs]
    ·obtain⟨rfl,s,hs,rfl⟩:=hat i j r c hr hcj
     have:l.getD i []=s:=by simp[List.getD,hs]
     rw[this];exact .str s
   rw[yB] at key;exact key
def textsF (f:Fld):List Txt:=(List.range (yQ f)).map (textF f)
theorem c27 (d:Dcm) (hd:DcmS d) (h0:docE d=0) (k:Nat) (hk:k<d.flds.length) (h4:yQ (d.flds.getD k yT)<=4096):Spec Tryz.prog 27 [.agg (zV d),.int .i64 k] (fun v=>v=.tup [lst 1 (zJ (textsF (d.flds.getD k yT))),.int .i64 0]):=by
 refine⟨rH (by kernel_rfl),fun w Z vs hG hz ha=>?_⟩;obtain⟨vl⟩:=vs
 match vl,ha with
 |[],ha=>exact absurd ha.1 (by simp)
 |[_],ha=>exact absurd ha.1 (by simp)
 |_::_::_::_,ha=>exact absurd ha.1 (by simp)
 |[v,v2],ha=>
  have e2:=vB (ha.2 1 _ v2 rfl rfl).2.2;subst e2;obtain⟨us,rfl,hrow⟩:=(ha.2 0 _ v rfl rfl).2;obtain⟨ul⟩:=us
  match ul,hrow with
  |[],hrow=>exact absurd hrow.1 (by simp[zV])
  |[_],hrow=>exact absurd hrow.1 (by simp[zV])
  |_::_::_::_,hrow=>exact absurd hrow.1 (by simp[zV])
  |[u0,u1],hrow=>
   have e0:=uQ (hrow.2 0 (.str d.kind) u0 rfl rfl);subst e0;have h1:PRep w Z (zC 2 (d.flds.map zR)) u1:=hrow.2 1 _ u1 rfl rfl;obtain⟨p,cap,b,o,fv,rfl,hf⟩:=zmO hz h1;have hrow':yD w (zW w) (zV d) [.string ⟨d.kind.toArray⟩,.slice p d.flds.length cap]:=⟨hrow.1,fun j c v hc hv=>nZ hz (hrow.2 j c v hc hv)⟩;have g56:=c56 d hd (k:Int);have e1:decide (docE d=0/\0<=(k:Int)/\(k:Int)<d.flds.length)=true:=decide_eq_true ⟨h0,by omega,by omega⟩;rw[e1] at g56;have g55:=c55 d hd;rw[h0] at g55;refine(zr4 d hd h0 k hk h4 w hG p cap b o fv hf (fun W hb=>g55.intC (hG.later (xM hb)) (Z:=zW W) (fun _ h=>h) (iZ (aA hrow' hb) (xS _ _)))
    (fun W hb=>g56.boolC (hG.later (xM hb)) (Z:=zW W) (fun _ h=>h) (iZ (aA hrow' hb) (vH (.int .i64 (k:Int)) (xS _ _))))).mono ?_
   rintro e w' ⟨vs,rfl,hb,hr⟩;have hr':w'.ownsRow w.heap.size 9 1 vs (textsF (d.flds.getD k yT)).length ((textsF (d.flds.getD k yT)).map tV):=by
    unfold textsF;rw[Zi,List.length_range];exact hr
   have hp:=zr5 hr';exact⟨_,_,rfl,rfl,fun _=>rfl,zh1 hG (xM hb) (fun _=>rfl) ⟨_,rfl,rfl,⟨hp.oneCell,hp⟩,⟨rfl,.int _ _⟩,trivial⟩ (fun _=>rfl)⟩
def zps (x:Flw) (z:Int):Bool:=x.dem.any fun m=>decide (m=z)
def zpd (x y:Flw):Bool:=y.sure&&y.dem.all fun z=>zps x z
theorem zr6 (A B:List Flw):zpk A B=A.all fun x=> !x.sure||B.any (zpd x):=rfl
theorem zpF {α:Type} (p:α->Bool) (d:α) {l:List α} {k:Nat} (h:k<l.length):(l.take (k+1)).any p=((l.take k).any p||p (l.getD k d)):=by
 rw[ZK h,List.any_append];simp[h]
theorem zqX {α:Type} (p:α->Bool) (d:α) {l:List α} {k:Nat} (h:k<l.length):(l.take (k+1)).all p=((l.take k).all p&&p (l.getD k d)):=by
 rw[ZK h,List.all_append];simp[h]
theorem c28 (A B:List Flw) (hA:A.length<=1000000) (hB:B.length<=1000000) (hAd: ∀x∈A,x.dem.length<=1000000) (hBd: ∀x∈B,x.dem.length<=1000000):Spec Tryz.prog 28 [lst 3 (xF A),lst 3 (xF B)] (fun v=>v=.bool (zpk A B)):=by
 refine Spec.of_awlS hf28 okf28 (by simp) fun S hS=>?_
 rw[zr6] at hS;simp only[Qs,Zc,Ψ28];rw[uu f28l60.eq_1];refine yA (fun i:Nat=>[(0,lst 3 (xF A)),(1,lst 3 (xF B)),(5,.int .i64 i)]) (fun _=>[]) (fun i=>i<=A.length/\(A.take i).all (fun x=> !x.sure||B.any (zpd x))=true) (fun i=>A.length-i) 0 rfl rfl ⟨ZA _,rfl⟩ ?_;rintro i ⟨hi,hall⟩;by_cases hlt:i<A.length
 ·have d1:(i:Int)<A.length:=by omega
  have c4:IntKind.i64.wrap ((i:Int)+1)=(i:Int)+1:=wrap_in (by omega) (by omega);have hfa:=zac hlt;have hsu:=zqX (fun x=> !x.sure||B.any (zpd x)) vG hlt;have hal:A.all (fun x=> !x.sure||B.any (zpd x))=((A.take i).all (fun x=> !x.sure||B.any (zpd x))&&(A.drop i).all (fun x=> !x.sure||B.any (zpd x))):=by rw[<-List.all_append,List.take_append_drop]
  have hdr:A.drop i=A.getD i vG::A.drop (i+1):=by rw[ZE hlt,Zh,Zg hlt];rfl
  have hxd:=hAd (A.getD i vG) (by rw[Zh,Zg hlt];exact Zx hlt);rw[hall,ZJ] at hsu hal;rw[hdr,Yz] at hal;generalize A.getD i vG=x at hfa hsu hal hxd;obtain⟨fk,hfk⟩: ∃fk:Nat->Bool,fk=fun k=> !x.sure||(B.take k).any (zpd x):=⟨_,rfl⟩
  have hf0:fk 0= !x.sure:=by rw[hfk];simp
  have hfS: ∀k,k<B.length->fk (k+1)=(fk k||zpd x (B.getD k vG)):=fun k hk=>by rw[hfk];simp only[zpF (zpd x) vG hk,Bool.or_assoc]
  have hfl:fk B.length=(!x.sure||B.any (zpd x)):=by rw[hfk];simp only[Yk]
  clear hfk;simp only[d1,hfa,uM,Qs,Zc,Za,Ψ28];rw[uu f28l47.eq_1];refine yA (fun k:Nat=>[(0,lst 3 (xF A)),(1,lst 3 (xF B)),(5,.int .i64 i),(6,.bool (fk k)),(7,.int .i64 k)]) (fun _=>[]) (fun k=>k<=B.length) (fun k=>B.length-k) 0 (by rw[hf0];rfl) rfl (ZA _) ?_;intro k hk;by_cases hkt:k<B.length
  ·have k1:(k:Int)<B.length:=by omega
   have k4:IntKind.i64.wrap ((k:Int)+1)=(k:Int)+1:=wrap_in (by omega) (by omega);have hfb:=zac hkt;have hyd:=hBd (B.getD k vG) (by rw[Zh,Zg hkt];exact Zx hkt);have hka:=hfS k hkt;generalize B.getD k vG=y at hfb hyd hka;obtain⟨gn,hgn⟩: ∃gn:Nat->Bool,gn=fun n=>y.sure&&(y.dem.take n).all (zps x):=⟨_,rfl⟩
   have hg0:gn 0=y.sure:=by rw[hgn];simp
   have hgS: ∀n,n<y.dem.length->gn (n+1)=(gn n&&zps x (y.dem.getD n 0)):=fun n hn=>by rw[hgn];simp only[zqX (zps x) 0 hn,XM]
   have hgl:gn y.dem.length=zpd x y:=by rw[hgn];simp only[Yk];rfl
   clear hgn;simp only[k1,hfb,uM,Qs,Zc,Za,Ψ28];rw[uu f28l34.eq_1];refine yA (fun n:Nat=>[(0,lst 3 (xF A)),(1,lst 3 (xF B)),(5,.int .i64 i),(6,.bool (fk k)),(7,.int .i64 k),(8,.bool (gn n)),(9,.int .i64 n)]) (fun _=>[]) (fun n=>n<=y.dem.length) (fun n=>y.dem.length-n) 0 (by rw[hg0];rfl) rfl (ZA _) ?_;intro n hn;by_cases hnt:n<y.dem.length
   ·have n1:(n:Int)<y.dem.length:=by omega
    have n4:IntKind.i64.wrap ((n:Int)+1)=(n:Int)+1:=wrap_in (by omega) (by omega);have hna:=hgS n hnt;have hyn:=zab hnt;generalize y.dem.getD n 0=z at hna hyn;obtain⟨hm,hhm⟩: ∃hm:Nat->Bool,hm=fun m=>(x.dem.take m).any fun q=>decide (q=z):=⟨_,rfl⟩
    have hm0:hm 0=false:=by rw[hhm];simp
    have hmS: ∀m,m<x.dem.length->hm (m+1)=(hm m||decide (x.dem.getD m 0=z)):=fun m hmt=>by rw[hhm];simp only[zpF (fun q=>decide (q=z)) 0 hmt]
    have hml:hm x.dem.length=zps x z:=by rw[hhm];simp only[Yk];rfl
    clear hhm;simp only[n1,hfb,k1,uM,yL,Qs,Zl,Za,Ψ28];rw[uu f28l21.eq_1];refine yA (fun m:Nat=>[(0,lst 3 (xF A)),(1,lst 3 (xF B)),(5,.int .i64 i),(6,.bool (fk k)),(7,.int .i64 k),(8,.bool (gn n)),(9,.int .i64 n),(10,.bool (hm m)),(11,.int .i64 m)]) (fun _=>[]) (fun m=>m<=x.dem.length) (fun m=>x.dem.length-m) 0 (by rw[hm0];rfl) rfl (ZA _) ?_;intro m hmle;by_cases hmt:m<x.dem.length
    ·have m1:(m:Int)<x.dem.length:=by omega
     have m4:IntKind.i64.wrap ((m:Int)+1)=(m:Int)+1:=wrap_in (by omega) (by omega);have hms:=hmS m hmt;have hxm:=zab hmt;generalize x.dem.getD m 0=q at hms hxm;cases hh:hm m with
     |true=>
      rw[hh,Y7] at hms;simp only[m1,m4,hfa,d1,uM,yL,Qs,Zl,Za,Ψ28];exact Next.intro (m+1) (by rw[hms];rfl) rfl (by omega) (by omega)
     |false=>
      rw[hh,Ym] at hms;simp only[m1,m4,n1,k1,d1,hfa,hfb,hxm,hyn,uM,yL,Qs,Zl,Za,Ψ28];have hqz:(q==z)=decide (q=z):=by rw[Yp];simp
      exact Next.intro (m+1) (by rw[hms,<-hqz];rfl) rfl (by omega) (by omega)
    ·obtain rfl:m=x.dem.length:=by omega
     have m1: ¬(x.dem.length:Int)<x.dem.length:=by omega
     rw[hml];cases hg:gn n with
     |true=>
      rw[hg,ZJ] at hna;simp only[m1,hfa,d1,n4,uM,yL,Qs,reduceCtorEq,Zs,Zl,Za,Ψ28];exact Next.intro (n+1) (by rw[hna];rfl) rfl (by omega) (by omega)
     |false=>
      rw[hg,ZP] at hna;simp only[m1,hfa,d1,n4,uM,yL,Qs,reduceCtorEq,Zs,Zl,Za,Ψ28];exact Next.intro (n+1) (by rw[hna];rfl) rfl (by omega) (by omega)
   ·obtain rfl:n=y.dem.length:=by omega
    have n1: ¬(y.dem.length:Int)<y.dem.length:=by omega
    rw[hgl];cases hf:fk k with
    |true=>
     rw[hf,Y7] at hka;simp only[n1,hfb,k1,uM,yL,k4,Qs,reduceCtorEq,Zs,Zl,Za,Ψ28];exact Next.intro (k+1) (by rw[hka];rfl) rfl (by omega) (by omega)
    |false=>
     rw[hf,Ym] at hka;simp only[n1,hfb,k1,uM,yL,k4,Qs,reduceCtorEq,Zs,Zl,Za,Ψ28];exact Next.intro (k+1) (by rw[hka];rfl) rfl (by omega) (by omega)
  ·obtain rfl:k=B.length:=by omega
   have k1: ¬(B.length:Int)<B.length:=by omega
   rw[hfl];cases hf:(!x.sure||B.any (zpd x)) with
   |true=>
    rw[hf] at hsu;simp only[k1,uM,c4,Qs,reduceCtorEq,Za,Ψ28];exact Next.intro (i+1) rfl rfl ⟨by omega,hsu⟩ (by omega)
   |false=>
    rw[hf,ZP] at hal;rw[hal] at hS;simp only[k1,uM,c4,Qs,reduceCtorEq,Za,Ψ28];exact hS
 ·obtain rfl:i=A.length:=by omega
  have d1: ¬(A.length:Int)<A.length:=by omega
  rw[Yk] at hall;rw[hall] at hS;simp only[d1,uM,Qs,Za,Ψ28];exact hS
end Go.Abs
namespace Go.Ex
open Go.Lib Go.Wd Go.Wire Go.Abs
def zpl (d k:Int) (A:List Flw):List Flw:=A.filter fun x=> !x.pls.any fun z=>decide (z=⟨d,k⟩)
def zpt (y x:Flw):Bool:= !x.sure&&(decide (x.dem.length=1)&&(decide (y.dem.length=1)&&decide (x.dem.getD 0 0=y.dem.getD 0 0)))
end Go.Ex
namespace Go.Abs
open Go.Proofs Go.RowKit Go.Lib Go.Wd Go.Wire Go.Ex
theorem zqY {S:V->Prop} (hS:S (.bool true)) (L:List Dmd) (D:List Dcm) (d k:Nat) (hd:d<D.length) (hD8:D.length<=8) (hk:k<=12) (t:Txt) (A B CC:List Flw) (E eC:Int) (X:Dcm) (hAl:A.length<=1000) (hAd: ∀x∈A,x.dem.length<=8) (hAp: ∀x∈A,x.pls.length<=8000000000000) (hBl:B.length<=1000) (hBd: ∀x∈B,x.dem.length<=8)
  (hCl:CC.length<=1000) (hCd: ∀x∈CC,x.dem.length<=8) (hDb:zpZ A B=true) (hWF:E=0->eC=0->zpk (zpl (d:Int) (k:Int) A) CC=true)
  (hat:(D.map zV).getD d []=[.str (D.getD d zo3).kind,zC 2 ((D.getD d zo3).flds.map zR)])
  (hmF:(D.map zV).set d [.str X.kind,zC 2 (X.flds.map zR)]=(D.set d X).map zV)
  (g26b:Spec Tryz.prog 26 [.agg [.str (D.getD d zo3).kind,zC 2 ((D.getD d zo3).flds.map zR)],.int .i64 k,.str t] (fun v=>v=.tup [.agg [.str X.kind,zC 2 (X.flds.map zR)],.int .i64 E]))
  (gC:Spec Tryz.prog 10 [lst 8 (L.map zQ),lst 2 ((D.set d X).map zV)] (fun r=>r=.tup [lst 3 (xF CC),.int .i64 eC]))
  (ts:TS) (hts:keepT ts [0,1,5,13,14,15,19,21,27]=[(0,lst 8 (L.map zQ)),(1,lst 2 (D.map zV)),(5,.str t),(13,.bool true),(14,.int .i64 d),(15,.int .i64 k),(19,lst 3 (xF A)),(21,lst 3 (xF B)),(27,.int .i64 0)]):
  awl Tryz.prog f7l77 (AE.inBlockL 0 (AE.thenL (awl Tryz.prog f7b49 (endK [RX.t 12] S)) (endK [RX.t 12] S))) ts []:=by
 rw[uu f7l77.eq_1];refine yA (fun i:Nat=>[(0,lst 8 (L.map zQ)),(1,lst 2 (D.map zV)),(5,.str t),(13,.bool true),(14,.int .i64 d),(15,.int .i64 k),(19,lst 3 (xF A)),(21,lst 3 (xF B)),(27,.int .i64 i)]) (fun _=>[]) (fun i=>i<=B.length) (fun i=>B.length-i) 0 hts rfl (ZA _) ?_;intro i hi;by_cases hlt:i<B.length
 ·have d1:(i:Int)<B.length:=by omega
  have c4:IntKind.i64.wrap ((i:Int)+1)=(i:Int)+1:=wrap_in (by omega) (by omega);have hfb:=zac hlt;have hyB:B.getD i vG∈B:=by rw[Zh,Zg hlt];exact Zx hlt
  have hyd:=hBd _ hyB;have hall:((B.getD i vG).sure||A.any (zpt (B.getD i vG)))=true:=Zu.1 hDb _ hyB;generalize B.getD i vG=y at hfb hyd hall;obtain⟨fm,hfm⟩: ∃fm:Nat->Bool,fm=fun m=>y.sure||(A.take m).any (zpt y):=⟨_,rfl⟩
  have hf0:fm 0=y.sure:=by rw[hfm];simp
  have hfS: ∀m,m<A.length->fm (m+1)=(fm m||zpt y (A.getD m vG)):=fun m hm=>by rw[hfm];simp only[zpF (zpt y) vG hm,Bool.or_assoc]
  have hfl:fm A.length=true:=by rw[hfm];simp only[Yk];exact hall
  clear hfm hall;simp only[d1,hfb,uM,Qs,Zc,Za,Ψ7];rw[uu f7l64.eq_1];refine yA (fun m:Nat=>[(0,lst 8 (L.map zQ)),(1,lst 2 (D.map zV)),(5,.str t),(13,.bool true),(14,.int .i64 d),(15,.int .i64 k),(19,lst 3 (xF A)),(21,lst 3 (xF B)),(27,.int .i64 i),(28,.bool (fm m)),(29,.int .i64 m)]) (fun _=>[]) (fun m=>m<=A.length) (fun m=>A.length-m) 0 (by rw[hf0];rfl) rfl (ZA _) ?_;intro m hm;by_cases hmt:m<A.length
  ·have m1:(m:Int)<A.length:=by omega
   have m4:IntKind.i64.wrap ((m:Int)+1)=(m:Int)+1:=wrap_in (by omega) (by omega);have hfa:=zac hmt;have hxA:A.getD m vG∈A:=by rw[Zh,Zg hmt];exact Zx hmt
   have hxd:=hAd _ hxA;have hms:=hfS m hmt;generalize A.getD m vG=x at hfa hxd hms;cases hh:fm m with
   |true=>
    rw[hh,Y7] at hms;simp only[m1,m4,d1,uM,Qs,Za,Ψ7];exact Next.intro (m+1) (by rw[hms];rfl) rfl (by omega) (by omega)
   |false=>
    rw[hh,Ym] at hms;unfold zpt at hms;cases hxs:x.sure with
    |true=>
     rw[hxs] at hfa hms;simp only[m1,m4,d1,hfa,hfb,uM,yL,Qs,Zc,Za,Ψ7];exact Next.intro (m+1) (by rw[hms];rfl) rfl (by omega) (by omega)
    |false=>
     rw[hxs] at hfa hms;by_cases h1:x.dem.length=1
     ·rw[decide_eq_true h1] at hms
      by_cases h2:y.dem.length=1
      ·rw[decide_eq_true h2] at hms
       have hx0:=zab (w:=x.dem) (k:=0) (by omega);have hy0:=zab (w:=y.dem) (k:=0) (by omega);have i1:(x.dem.length:Int)=1:=by omega
       have i2:(y.dem.length:Int)=1:=by omega
       simp only[m1,m4,d1,hfa,hfb,i1,i2,hx0,hy0,uM,yL,Qs,zpu,BEq.rfl,Zc,Zl,Za,XJ,Yl,Ψ7];have hqz:(x.dem.getD 0 0==y.dem.getD 0 0)=decide (x.dem.getD 0 0=y.dem.getD 0 0):=by rw[Yp];simp
       exact Next.intro (m+1) (by rw[hms,<-hqz];rfl) rfl (by omega) (by omega)
      ·rw[decide_eq_false h2] at hms
       have i1:(x.dem.length:Int)=1:=by omega
       have i2: ¬(y.dem.length:Int)=1:=by omega
       simp only[m1,m4,d1,hfa,hfb,i1,i2,uM,yL,Qs,zpu,forall_const,BEq.rfl,Zc,Zl,Za,XJ,Yl,Ψ7];exact Next.intro (m+1) (by rw[hms];rfl) rfl (by omega) (by omega)
     ·rw[decide_eq_false h1] at hms
      have i1: ¬(x.dem.length:Int)=1:=by omega
      simp only[m1,m4,d1,hfa,hfb,i1,uM,yL,Qs,zpu,forall_const,Zc,Zl,Za,Yl,Ψ7];exact Next.intro (m+1) (by rw[hms];rfl) rfl (by omega) (by omega)
  ·obtain rfl:m=A.length:=by omega
   have m1: ¬(A.length:Int)<A.length:=by omega
   rw[hfl];simp only[m1,uM,c4,Qs,reduceCtorEq,Za,Ψ7];exact Next.intro (i+1) rfl rfl (by omega) (by omega)
 ·obtain rfl:i=B.length:=by omega
  have d1: ¬(B.length:Int)<B.length:=by omega
  simp only[d1,uM,zI,hat,zqW,Qs,implies_true,Zc,Za,zlC,Zi,Zy,implies_true,Ψ7];refine⟨by omega,by omega,by omega,?_⟩;refine xI g26b ?_ (ha:=by simp only[Zm,Zq,zB,V.norm,C.normRow,C.norm,yG wO]<;>rfl);simp only[zI,hmF,Qs,zd8,zd9,zll,zlm,zp9,bne_iff_ne,ne_eq,Zk,Zc,Ye,Zs,Za,Zi,zgz,zq9,zra,Ψ7];refine⟨by omega,?_⟩;refine xI gC ?_ (ha:=by simp only[Zm,Zq,zB,V.norm,yG xO,zpr (zP yU (D.set d X))]<;>rfl);by_cases hE:E=0
  ·by_cases hC:eC=0
   ·have hW:=hWF hE hC
    obtain⟨gap,hgap⟩: ∃gap:Nat->List Flw,gap=fun i=>zpl (d:Int) (k:Int) (A.take i):=⟨_,rfl⟩
    have hg0:gap 0=[]:=by rw[hgap];rfl
    have hgS: ∀i,i<A.length->gap (i+1)=gap i++(if (A.getD i vG).pls.any (fun z=>decide (z=⟨(d:Int),(k:Int)⟩))=true then[] else[A.getD i vG]):=fun i hi=>by
     rw[hgap];unfold zpl;simp only[];rw[ZK hi,X2];have e:A.getD i vG=A[i]:=by rw[Zh,Zg hi];rfl
     rw[e];cases hq:A[i].pls.any (fun z=>decide (z=⟨(d:Int),(k:Int)⟩))<;>simp[List.filter_cons,hq]
    have hgl:gap A.length=zpl (d:Int) (k:Int) A:=by rw[hgap];simp only[Yk]
    have hgn: ∀i,(gap i).length<=1000:=fun i=>by
     rw[hgap];exact ZT (YF _ _) (by rw[Yy];omega)
    have hgd: ∀i,∀x∈gap i,x.dem.length<=8:=fun i x hx=>by
     rw[hgap] at hx;exact hAd x (Xy (Yj.1 hx).1)
    clear hgap;have g28:=c28 (gap A.length) CC (by have:=hgn A.length;omega) (by omega) (fun x hx=>by have:=hgd _ x hx;omega) (fun x hx=>by have:=hCd x hx;omega);rw[hgl,hW,<-hgl] at g28;simp only[hE,hC,show((0:Int) !=0)=false from rfl,Qs,iO,zp9,implies_true,Zk,Zc,Ye,Za,Zy,implies_true,Ψ7];rw[uu f7l29.eq_1];refine yA (fun i:Nat=>[(13,.bool true),(14,.int .i64 d),(15,.int .i64 k),(19,lst 3 (xF A)),(33,lst 3 (xF CC)),(35,.k (.own 267)),(36,.int .i64 i)]) (fun i=>[(267,.arr 33 3 (some false) (xF (gap i)))]) (fun i=>i<=A.length) (fun i=>A.length-i) 0 rfl (by rw[hg0];rfl) (ZA _) ?_;intro i hi;by_cases hlt:i<A.length
    ·have i1:(i:Int)<A.length:=by omega
     have i4:IntKind.i64.wrap ((i:Int)+1)=(i:Int)+1:=wrap_in (by omega) (by omega);have hfa:=zac hlt;have hxp:=hAp (A.getD i vG) (by rw[Zh,Zg hlt];exact Zx hlt);have hgs:=hgS i hlt;have hgi:=hgn i;generalize A.getD i vG=x at hfa hxp hgs;obtain⟨fj,hfj⟩: ∃fj:Nat->Bool,fj=fun j=>(x.pls.take j).any (fun z=>decide (z=⟨(d:Int),(k:Int)⟩)):=⟨_,rfl⟩
     have hf0:fj 0=false:=by rw[hfj];simp
     have hfS: ∀j,j<x.pls.length->fj (j+1)=(fj j||decide (x.pls.getD j qH=⟨(d:Int),(k:Int)⟩)):=fun j hj=>by rw[hfj];simp only[zpF (fun z=>decide (z=⟨(d:Int),(k:Int)⟩)) qH hj]
     have hfl:fj x.pls.length=x.pls.any (fun z=>decide (z=⟨(d:Int),(k:Int)⟩)):=by rw[hfj];simp only[Yk]
     clear hfj;rw[<-hfl] at hgs;simp only[i1,hfa,uM,Qs,Za,Ψ7];rw[uu f7l16.eq_1];refine yA (fun j:Nat=>[(13,.bool true),(14,.int .i64 d),(15,.int .i64 k),(19,lst 3 (xF A)),(33,lst 3 (xF CC)),(35,.k (.own 267)),(36,.int .i64 i),(37,.bool (fj j)),(38,.int .i64 j)]) (fun _=>[(267,.arr 33 3 (some false) (xF (gap i)))]) (fun j=>j<=x.pls.length) (fun j=>x.pls.length-j) 0 (by rw[hf0];rfl) rfl (ZA _) ?_;intro j hj;by_cases hjt:j<x.pls.length
     ·have j1:(j:Int)<x.pls.length:=by omega
      have j4:IntKind.i64.wrap ((j:Int)+1)=(j:Int)+1:=wrap_in (by omega) (by omega);have hpj:=ziY hjt;have hjs:=hfS j hjt;generalize x.pls.getD j qH=z at hpj hjs;cases hh:fj j with
      |true=>
       rw[hh,Y7] at hjs;simp only[i1,j1,j4,hfa,uM,uY,Qs,zcm,zp8,Zc,Zl,Za,Ψ7];exact Next.intro (j+1) (by rw[hjs];rfl) rfl (by omega) (by omega)
      |false=>
       rw[hh,Ym] at hjs;simp only[i1,j1,j4,hfa,hpj,uM,uY,Qs,zcm,zp8,zq0,cD,cE,cF,cG,cH,Zk,Zc,Zl,Za,Y2,Ψ7];have hzz:(z.doc==(d:Int)&&z.fld==(k:Int))=decide (z=⟨(d:Int),(k:Int)⟩):=by
        obtain⟨z1,z2⟩:=z;rw[Yp];simp
       exact Next.intro (j+1) (by rw[hjs,<-hzz];rfl) rfl (by omega) (by omega)
     ·obtain rfl:j=x.pls.length:=by omega
      have j1: ¬(x.pls.length:Int)<x.pls.length:=by omega
      cases hh:fj x.pls.length with
      |true=>
       rw[if_pos hh,Zk] at hgs;simp only[i1,i4,j1,hfa,uM,uY,Qs,Zc,Zs,Zl,Za,Ψ7];exact Next.intro (i+1) rfl (by rw[hgs];rfl) (by omega) (by omega)
      |false=>
       rw[if_neg (by rw[hh];simp)] at hgs;simp only[i1,i4,j1,hfa,uM,uY,Qs,forall_eq,bne_iff_ne,ne_eq,ZH,Zc,Zs,Zl,Z5,Za,Zy,Ψ7];have hap:xF (gap i)++[[zC 1 (zM x.dem),zC 2 (pls x.pls),.bool x.sure]]=xF (gap i++[x]):=by unfold xF;rw[ZW];rfl
       exact⟨by omega,by omega,Next.intro (i+1) rfl (by rw[hgs,<-hap];rfl) (by omega) (by omega)⟩
    ·obtain rfl:i=A.length:=by omega
     have i1: ¬(A.length:Int)<A.length:=by omega
     simp only[i1,uM,Qs,Za,Ψ7];refine zF g28 ?_ (ha:=by simp only[Zm,Zq,zB,V.norm,vU,zO,ziR]<;>rfl);simp only[Qs,Za];exact hS
   ·have h2:(eC !=0)=true:=by rw[bne_iff_ne];exact hC
    simp only[hE,h2,show((0:Int) !=0)=false from rfl,Qs,Zk,Zc,Ye,Za,Ψ7];exact hS
  ·have h2:(E !=0)=true:=by rw[bne_iff_ne];exact hE
   simp only[h2,Qs,Zk,Zc,Ye,Za,Ψ7];exact hS
end Go.Abs
namespace Go.Ex
open Go.Lib Go.Wd Go.Wire Go.Abs
theorem zr7 {l:List Fld} (hp: ∀f∈l,0<yQ f) {f:Fld} (hf:f∈l):yQ f<=zo5 (zo6 l):=by
 induction l with
 |nil=>cases hf
 |cons g l ih=>
  have hp': ∀x∈l,0<yQ x:=fun x hx=>hp x (Zz _ hx)
  show yQ f<=yQ g*zo5 (zo6 l);rcases ZH.1 hf with rfl|hf
  ·exact Xd _ (zpi (zpo hp'))
  ·exact ZT (ih hp' hf) (Nat.le_mul_of_pos_left _ (hp g (by simp)))
theorem zr8 {D:List Dcm} (h:GoodD D) {d:Dcm} (hd:d∈D):prD d<=4096:=by
 have key: ∀{D:List Dcm},(∀d∈D,DcmS d/\docE d=0)->d∈D->prD d<=prL D:=by
  intro D
  induction D with
  |nil=>intro _ h;cases h
  |cons e D ih=>
   intro hD hm;have hD': ∀x∈D,DcmS x/\docE x=0:=fun x hx=>hD x (Zz _ hx)
   show prD d<=prD e*prL D;rcases ZH.1 hm with rfl|hm
   ·exact Xd _ (zpi fun s hs=>by obtain⟨x,hx,rfl⟩:=ZB.1 hs;exact zpp (hD' x hx).1 (hD' x hx).2)
   ·exact ZT (ih hD' hm) (Nat.le_mul_of_pos_left _ (zpp (hD e (by simp)).1 (hD e (by simp)).2))
 exact ZT (key h.docs hd) h.pr
theorem zr9:docE zo3=2:=rfl
theorem zsa {L:List Dmd} {D:List Dcm} (hA:AskS L D) {d:Nat} (hd:d<D.length):AskS L (D.set d zo3)/\lookE L (D.set d zo3)≠0:=by
 have hm:zo3∈D.set d zo3:=List.mem_set hd _;have hne:(cnts (D.set d zo3)).2.2≠0:=fun q=>by
  have:=kC ((rM q).e _ hm);rw[zr9] at this;cases this
 refine⟨⟨hA.l8,hA.dm,⟨by rw[YP];exact hA.dc.1,fun x hx=>?_⟩,fun q=>absurd q hne⟩,fun q=>hne (kJ q)⟩;rcases List.mem_or_eq_of_mem_set hx with hx|rfl
 ·exact hA.dc.2 x hx
 ·exact⟨by simp[zo3],by simp[zo3],fun f hf=>by simp[zo3] at hf⟩
theorem zqZ (B:Nat): ∀(l:List Nat),(∀x∈l,x<=B)->l.sum<=l.length*B
 |[],_=>by simp
 |a::l,h=>by
  have h1:=h a (by simp);have h2:=zqZ B l fun x hx=>h x (Zz _ hx)
  rw[List.sum_cons,Zo,Xb];omega
theorem zsb {L:List Dmd} {D:List Dcm} (hA:AskS L D) (h0:lookE L D=0): ∀x∈flawsE L D,x.pls.length<=8000000000000:=fun x hx=>by
 have hcn:=kJ h0;have hO:=l4F hA h0 0 x hx;have hp:=hA.rd hcn 0 (ziQ hA.dc hcn);have h1:=zqZ 1000000000000 (x.dem.map fun k=>(uX (L.getD k.toNat yZ) (rdsD D 0)).length) fun y hy=>by
  obtain⟨k,_,rfl⟩:=ZB.1 hy;exact Go.Abs.looksP_len _ _ hp
 rw[Zi] at h1;have h2:=ZX 1000000000000 hO.len;have h3:=hO.m1;unfold zpj at h3;omega
end Go.Ex
namespace Go.Abs
open Go.Proofs Go.RowKit Go.Lib Go.Wd Go.Wire Go.Ex
theorem zsc (L:List Dmd) (D:List Dcm) (hI: ∀m∈L,DmdI m) (a b c:Nat) (ha:a<256) (hb:b<256) (hc:c<256) (t:Txt) (ht:t.length<4294967281):
  Spec Tryz.prog 7 [lst 8 (L.map zQ),lst 2 (D.map zV),.int .u8 (a:Int),.int .u8 (b:Int),.int .u8 (c:Int),.str t] (fun v=>v=.bool true):=by
 refine Spec.of_awlS hf7 okf7 (by simp) fun S hS=>?_
 have g9:=c9 L D;by_cases hF:mI L D=true
 ·obtain⟨hA,h128⟩:=gU hI hF
  have hL:=hA.l8;rw[hF] at g9;have g20:=c20 L D hA;by_cases hD0:D.length=0
  ·have e1:(D.length:Int)=0:=by omega
   simp only[Qs,Zc,Ψ7];refine zF c8 ?_ (ha:=by rfl);simp only[Qs,Za,Ψ7];refine zF g9 ?_ (ha:=by simp only[Zm,Zq,zB,V.norm,zO,zP yU,zP xO,C.norm]<;>rfl);simp only[zI,e1,Qs,BEq.rfl,Za,Zi,Ψ7];exact hS
  ·have e1: ¬(D.length:Int)=0:=by omega
   by_cases h0:lookE L D=0
   ·have hG:GoodD D:=⟨hA.dc,kJ h0⟩
    have hD8:=hG.ok.len;rw[h0] at g20;have hd:a % D.length<D.length:=Xc _ (by omega);have hrem:(a:Int).tmod (D.length:Int)=((a % D.length:Nat):Int):=by rw[Int.tmod_eq_emod_of_nonneg (by omega)];exact(Int.natCast_emod a D.length).symm
    have hw1:IntKind.i64.wrap (a:Int)=(a:Int):=wrap_in (by omega) (by omega);have hw2:IntKind.i64.wrap (b:Int)=(b:Int):=wrap_in (by omega) (by omega);have hw3:IntKind.i64.wrap (c:Int)=(c:Int):=wrap_in (by omega) (by omega);generalize a % D.length=d at hd hrem;have hat:(D.map zV).getD d []=[.str (D.getD d zo3).kind,zC 2 ((D.getD d zo3).flds.map zR)]:=zrT hd;by_cases hf0:(D.getD d zo3).flds.length=0
    ·have e2:((D.getD d zo3).flds.length:Int)=0:=by omega
     simp only[Qs,Zc,Ψ7];refine zF c8 ?_ (ha:=by rfl);simp only[Qs,Za,Ψ7];refine zF g9 ?_ (ha:=by simp only[Zm,Zq,zB,V.norm,zO,zP yU,zP xO,C.norm]<;>rfl);simp only[zI,e1,Qs,forall_const,Za,Zi,Ψ7];refine zF g20 ?_ (ha:=by simp only[Zm,Zq,zB,V.norm,zO,zP yU,zP xO,C.norm]<;>rfl);simp only[zI,e1,hw1,hrem,hat,e2,show((0:Int) !=0)=false from rfl,Qs,zcJ,zlc,zdV,ne_eq,BEq.rfl,Zc,Za,Zi,Ψ7];exact⟨by omega,hS⟩
    ·have e2: ¬((D.getD d zo3).flds.length:Int)=0:=by omega
     obtain⟨u1,u2⟩:=hG.docs _ (zpq hd);have hpr:=zr8 hG (zpq hd);have hf12:=(oM u1 u2).fs;have hk:b % (D.getD d zo3).flds.length<(D.getD d zo3).flds.length:=Xc _ (by omega);have hrem2:(b:Int).tmod ((D.getD d zo3).flds.length:Int)=((b % (D.getD d zo3).flds.length:Nat):Int):=by rw[Int.tmod_eq_emod_of_nonneg (by omega)];exact(Int.natCast_emod b (D.getD d zo3).flds.length).symm
     generalize b % (D.getD d zo3).flds.length=k at hk hrem2;have hfm:=zp1 hk;have hsz:yQ ((D.getD d zo3).flds.getD k yT)<=4096:=ZT (zr7 (zph u1 u2) hfm) hpr;have hsp:=zph u1 u2 _ hfm;have g27:=c27 _ u1 u2 k hk hsz;have hTl:(textsF ((D.getD d zo3).flds.getD k yT)).length=yQ ((D.getD d zo3).flds.getD k yT):=by unfold textsF;rw[Zi,List.length_range]
     have hj:c % (textsF ((D.getD d zo3).flds.getD k yT)).length<(textsF ((D.getD d zo3).flds.getD k yT)).length:=Xc _ (by omega);have hrem3:(c:Int).tmod ((textsF ((D.getD d zo3).flds.getD k yT)).length:Int)=((c % (textsF ((D.getD d zo3).flds.getD k yT)).length:Nat):Int):=by rw[Int.tmod_eq_emod_of_nonneg (by omega)];exact(Int.natCast_emod c _).symm
     generalize c % (textsF ((D.getD d zo3).flds.getD k yT)).length=j at hj hrem3;have hrd:zpc ((D.getD d zo3).flds.getD k yT) ((textsF ((D.getD d zo3).flds.getD k yT)).getD j []):=⟨j,by omega,by unfold textsF;rw[Zh,Zw,XZ (by omega)];rfl⟩;have hst:=zrS hj;have hTpos: ¬((textsF ((D.getD d zo3).flds.getD k yT)).length:Int)=0:=by omega
     have hT4:(textsF ((D.getD d zo3).flds.getD k yT)).length<=4096:=by omega
     generalize (textsF ((D.getD d zo3).flds.getD k yT)).getD j []=t0 at hrd hst;generalize textsF ((D.getD d zo3).flds.getD k yT)=T at g27 hTl hj hrem3 hst hTpos hT4;obtain⟨w1,w2⟩:=zro u1 u2 hfm hrd;have w3:=Zu.1 w2;have ht0:t0.length<=1000:=by
      rw[<-zqy t0];have:=zp3 (splitW t0) fun w hw=>zm0 (w3 w hw)
      have h3:(splitW t0).length*(20+1)<=8*21:=YX w1 (Zt _);omega
     have hse:setE (D.getD d zo3) (k:Int) t0=0:=zqV u2 (by omega) (fun q=>q.elim (fun z=>by omega) (fun z=>by rw[w2] at z;cases z));have hsd:zpb (D.getD d zo3) (k:Int) t0=setW (D.getD d zo3) k (splitW t0):=by unfold zpb;rw[if_pos hse,Z6]
     have g26:=c26 _ u1 (k:Int) t0 (by omega);rw[hse,hsd] at g26;have hAN:=zqS hA hG hd hk w1 w3;have hGN:=zqO hG hd hk w1 w3;have hsub:=zrE (L:=L) hG hd hk hrd hGN;have hlN:lookE L (setN' D d k (splitW t0))=0:=by
      unfold lookE at h0⊢;split at h0
      ·rename_i hf;rw[if_pos hf];exact hGN.c
      ·cases h0
     have hmN:(D.map zV).set d (zV (setW (D.getD d zo3) k (splitW t0)))=(setN' D d k (splitW t0)).map zV:=by unfold setN';rw[XU]
     have hWi:=l7A hA hAN h0 hlN hsub;have hDb:=l7B hA hAN h0 hlN hsub;have hSt:=l7S (L:=L) hAN h0 hlN hsub;have gA:=c10 L D hA;have gB:=c10 L _ hAN;have gx:=c12 L D hA;have gy:=c12 L _ hAN;rw[h0] at gA gx;rw[hlN] at gB gy;obtain⟨hAl,hAd⟩:=zot hA;have hAp:=zsb hA h0;obtain⟨hBl,hBd⟩:=zot hAN;have g28:=c28 (flawsE L D) _ (by omega) (by omega) (fun x hx=>by have:=hAd x hx;omega) (fun x hx=>by have:=hBd x hx;omega: ∀x∈flawsE L (setN' D d k (splitW t0)),x.dem.length<=1000000);rw[hWi] at g28;have g26b:=c26 _ u1 (k:Int) t ht;have hmF:(D.map zV).set d (zV (zpb (D.getD d zo3) (k:Int) t))=(D.set d (zpb (D.getD d zo3) (k:Int) t)).map zV:=by rw[XU]
     have hAF:AskS L (D.set d (zpb (D.getD d zo3) (k:Int) t))/\(setE (D.getD d zo3) (k:Int) t=0->lookE L (D.set d (zpb (D.getD d zo3) (k:Int) t))=0->zpk (zpl (d:Int) (k:Int) (flawsE L D)) (flawsE L (D.set d (zpb (D.getD d zo3) (k:Int) t)))=true):=by
      by_cases hE:setE (D.getD d zo3) (k:Int) t=0
      ·have hsd2:zpb (D.getD d zo3) (k:Int) t=setW (D.getD d zo3) k (splitW t):=by unfold zpb;rw[if_pos hE,Z6]
       have hw8:(splitW t).length<=8/\(splitW t).all vM=true:=by
        unfold setE at hE;rw[if_neg (by rw[u2];decide),if_pos (by omega)] at hE;split at hE
        ·cases hE
        ·rename_i hq
         refine⟨by omega,?_⟩;cases hz:(splitW t).all vM with
         |true=>rfl
         |false=>exact absurd (.inr hz) hq
       have hq:=zqS hA hG hd hk hw8.1 (Zu.1 hw8.2);rw[hsd2];exact⟨hq,fun _ hl=>l7C hA h0 hd hk hq hl fun x hx=>by
        unfold zpl at hx
        rw[Yj] at hx
        refine⟨hx.1,fun hm=>?_⟩
        have:=hx.2
        rw[Xg,YE] at this
        exact this (Yo.2 ⟨_,hm,by simp⟩)⟩
      ·have hsd2:zpb (D.getD d zo3) (k:Int) t=zo3:=by unfold zpb;rw[if_neg hE]
       rw[hsd2];exact⟨(zsa hA hd).1,fun q=>absurd q hE⟩
     obtain⟨hAF,hWF⟩:=hAF;have gC:=c10 L _ hAF;obtain⟨hCl,hCd⟩:=zot hAF;generalize setE (D.getD d zo3) (k:Int) t=E at g26b hWF;generalize hX:zpb (D.getD d zo3) (k:Int) t=X at g26b hmF gC hWF hCl hCd;generalize lookE L (D.set d X)=eC at gC hWF;generalize flawsE L (D.set d X)=CC at gC hWF hCl hCd;generalize setN' D d k (splitW t0)=N at hmN gB gy hBl hBd g28 hDb hSt;generalize flawsE L N=B at gB hBl hBd g28 hDb;generalize flawsE L D=A at gA hAl hAd hAp g28 hDb hWF;generalize setW (D.getD d zo3) k (splitW t0)=X0 at g26 hmN;generalize stateE L D=x at gx hSt;generalize stateE L N=y at gy hSt;clear hX hAF hsub hAN hGN hlN hWi hsd hse w1 w2 w3 hpr hG h128 hrd;simp only[Qs,Zc,Ψ7];refine zF c8 ?_ (ha:=by rfl);simp only[Qs,Za,Ψ7];refine zF g9 ?_ (ha:=by simp only[Zm,Zq,zB,V.norm,zO,zP yU,zP xO,C.norm]<;>rfl);simp only[zI,e1,Qs,forall_const,Za,Zi,Ψ7];refine zF g20 ?_ (ha:=by simp only[Zm,Zq,zB,V.norm,zO,zP yU,zP xO,C.norm]<;>rfl);simp only[zI,e1,hw1,hrem,hat,e2,hw2,hrem2,show((0:Int) !=0)=false from rfl,Qs,zcJ,zlc,zdV,forall_const,ne_eq,Zc,Za,Zi,Ψ7];refine⟨by omega,by omega,by omega,?_⟩;rw[show zV (D.getD d zo3)=[.str (D.getD d zo3).kind,zC 2 ((D.getD d zo3).flds.map zR)] from rfl] at g27 g26 g26b;refine xI g27 ?_ (ha:=by simp only[Zm,Zq,zB,V.norm,C.norm,C.normRow,yG wO,zO,zP yU,zP xO]<;>rfl);simp only[zI,hat,yB,hTpos,hw3,hrem3,hst,Z6,show((0:Int) !=0)=false from rfl,zqW,Qs,zq1,zpu,zdb,zlc,zdV,ze3,implies_true,forall_const,ne_eq,Zk,Zc,Ye,Za,zlC,Zi,Zy,implies_true,vv f7r96o0.eq_1,vv f7r96o1.eq_1,vv f7r96o2.eq_1,vv f7r96o3.eq_1,vv f7r96o4.eq_1,vv f7r96o5.eq_1,vv f7r96o6.eq_1,vv f7r96o7.eq_1,vv f7r96o8.eq_1,vv f7r96o9.eq_1,vv f7r96o10.eq_1,vv f7r96o11.eq_1,vv f7r96o12.eq_1,vv f7r96o13.eq_1,vv f7r96o14.eq_1,vv f7r96o15.eq_1,vv f7r96o16.eq_1,vv f7r96o17.eq_1,vv f7r96o18.eq_1,vv f7r96o19.eq_1,vv f7r96o20.eq_1,vv f7r96o21.eq_1,zrb,Ψ7];refine⟨by omega,by omega,by omega,by omega,?_⟩;rw[show zV X0=[.str X0.kind,zC 2 (X0.flds.map zR)] from rfl] at g26 hmN;rw[show zV X=[.str X.kind,zC 2 (X.flds.map zR)] from rfl] at g26b hmF;refine zg6 g26 ?_ (ha:=by simp only[Zm,Zq,zB,V.norm,C.normRow,C.norm,yG wO]<;>rfl);simp only[zI,hmN,Qs,zcg,zk2,zk3,zk9,cC,zdh,zdq,zdr,zds,zdt,zdu,zdv,zd8,zd9,zll,zlm,zls,cJ,cK,cL,Zc,Za,Zi,Ψ7];refine⟨by omega,?_⟩;refine xI gA ?_ (ha:=by simp only[Zm,Zq,zB,V.norm,yG xO,yG yU,zpr (zP yU N)]<;>rfl);simp only[Qs,Zk,Zc,Ye,Za,Ψ7];refine xI gB ?_ (ha:=by simp only[Zm,Zq,zB,V.norm,yG xO,yG yU,zpr (zP yU N)]<;>rfl);simp only[Qs,Zk,Zc,Ye,Za,Ψ7];refine zF gx ?_ (ha:=by simp only[Zm,Zq,zB,V.norm,yG xO,yG yU,zpr (zP yU N)]<;>rfl);simp only[Qs,Za,Ψ7];refine zF gy ?_ (ha:=by simp only[Zm,Zq,zB,V.norm,yG xO,yG yU,zpr (zP yU N)]<;>rfl);by_cases q2:x=2
     ·simp only[q2,show((0:Int) !=0)=false from rfl,Qs,Za,Xn,Ψ7]
      refine zF g28 ?_ (ha:=by simp only[Zm,Zq,zB,V.norm,zO,ziR,C.norm]<;>rfl);simp only[Qs,Za,Ψ7];exact zqY hS L D d k hd hD8 (by omega) t A B CC E eC X hAl hAd hAp hBl hBd hCl hCd hDb hWF hat hmF g26b gC _ rfl
     ·have q3:=hSt q2
      simp only[q2,<-q3,show((0:Int) !=0)=false from rfl,Qs,forall_const,Za,Ψ7];refine zF g28 ?_ (ha:=by simp only[Zm,Zq,zB,V.norm,zO,ziR,C.norm]<;>rfl);simp only[Qs,Za,Ψ7];exact zqY hS L D d k hd hD8 (by omega) t A B CC E eC X hAl hAd hAp hBl hBd hCl hCd hDb hWF hat hmF g26b gC _ rfl
   ·have hE:(lookE L D !=0)=true:=by rw[bne_iff_ne];exact h0
    simp only[Qs,Zc,Ψ7];refine zF c8 ?_ (ha:=by rfl);simp only[Qs,Za,Ψ7];refine zF g9 ?_ (ha:=by simp only[Zm,Zq,zB,V.norm,zO,zP yU,zP xO,C.norm]<;>rfl);simp only[zI,e1,Qs,forall_const,Za,Zi,Ψ7];refine zF g20 ?_ (ha:=by simp only[Zm,Zq,zB,V.norm,zO,zP yU,zP xO,C.norm]<;>rfl);simp only[zI,e1,hE,Qs,Za,Ψ7];exact hS
 ·have hF:mI L D=false:=by simpa using hF
  rw[hF] at g9;simp only[Qs,Zc,Ψ7];refine zF c8 ?_ (ha:=by rfl);simp only[Qs,Za,Ψ7];refine zF g9 ?_ (ha:=by simp only[Zm,Zq,zB,V.norm,zO,zP yU,zP xO,C.norm]<;>rfl);simp only[Qs,Za,Ψ7];exact hS
end Go.Abs
namespace Go.Proofs.YtpmicgjdckeejaaGreatDoor
open Go.Abs Go.RowKit Go.ChangeShapes Go.WideShapes Go.ChangeAt Go.WideMaps Go.WideElems Go.Ex
theorem zsd (xs:List V) (h:lT Tryz.prog [22,23,5,5,5,9] xs) (hb:lS xs<=1048576):Go.Abs.Spec Tryz.prog 7 xs (fun r=>r=.bool true):=by
 match xs,h,hb with
 |[a0,a1,a2,a3,a4,a5],⟨⟨_,_,h0,q0⟩,⟨_,_,h1,q1⟩,⟨_,_,h2,q2⟩,⟨_,_,h3,q3⟩,⟨_,_,h4,q4⟩,⟨_,_,h5,q5⟩,_⟩,hb=>
  obtain⟨x0,e0,w0⟩:=zoA h0;obtain⟨x1,e1,w1⟩:=zrX h1;obtain⟨x2,e2,w2⟩:=zoF Tryz.underlying5 rfl h2;obtain⟨x3,e3,w3⟩:=zoF Tryz.underlying5 rfl h3;obtain⟨x4,e4,w4⟩:=zoF Tryz.underlying5 rfl h4;obtain⟨x5,e5,w5⟩:=zrY Tryz.underlying9 h5;rw[q0,q1,q2,q3,q4,q5,e0,e1,e2,e3,e4,e5];rw[q0,q1,q2,q3,q4,q5,e0,e1,e2,e3,e4,e5] at hb;have hl:x5.length+1<=1048576:=by
   have h6:V.bulk (.str x5)=x5.length+1:=rfl;simp only[lS,h6] at hb;omega
  exact zsc x0 x1 w0 x2 x3 x4 w2 w3 w4 x5 (by omega)
theorem zse (os:Os) {H:Type} (enc:TypeId×Value->H): ∃jH,DataW.whole enc Tryz.prog ((zp5 os).forCall (fun _ _=>0) ⟨#[],#[Value.slice none 0 0,.slice none 0 0,.int .u8 0,.int .u8 0,.int .u8 0,.string ⟨#[]⟩],[]⟩).memory Tryz.f7.params.toList Rows.examineKnowsSpec.vars false #[Value.slice none 0 0,.slice none 0 0,.int .u8 0,.int .u8 0,.int .u8 0,.string ⟨#[]⟩].toList 8=some ([.nil,.nil,.lit (.int .u8 0),.lit (.int .u8 0),.lit (.int .u8 0),.lit (.string [])],[],jH):=
 ⟨[],by kernel_rfl⟩
theorem zsf (os:Os) (started:os.Started) (H:Type) (enc:TypeId×Value->H) (F:Stop.Interp):
  ReturnsInHanded {} Tryz.checked os 7 .any ((Rows.OpenSpec.upto Rows.examineKnowsSpec).preRow enc Tryz.prog Tryz.f7 Rows.examineKnowsUptoRow.domain false Rows.examineKnowsUptoRow.laid) (((Rows.OpenSpec.upto Rows.examineKnowsSpec).at F).post enc Tryz.prog Tryz.f7 false true false false):=by
 obtain⟨jH,hx⟩:=zse os enc;refine returnsInHanded_of_row (C:=Tryz.checked) (s:=Rows.OpenSpec.upto Rows.examineKnowsSpec) own started (by kernel_rfl) Tryz.func7
  (witness_row_atRef (enc:=enc) (C:=Tryz.checked) false (zp5 os) #[Value.slice none 0 0,.slice none 0 0,.int .u8 0,.int .u8 0,.int .u8 0,.string ⟨#[]⟩] rfl (by kernel_rfl) (by kernel_rfl) (by kernel_rfl)
   (OpenSpec.preRow_of_cond 8 hx (by kernel_rfl) (fun k hk=>by cases hk;kernel_rfl) (by kernel_rfl) (zoL os _))) ?_
 intro W base args ds gs before hval hW _ hcond _ hL hsh _;have hk:Rows.uptoBulkAll (ds++gs)<=1048576:=of_decide_eq_true (hcond _ rfl);refine zlx (C:=Tryz.checked) (T:=gX) (tb:=4) (s:=Rows.examineKnowsSpec) zoG zoH ?_ kids full rfl ?_ ?_ Tryz.underlying4 W base args ds gs before (N:=1048576) ?_ hval hW (zoK hL hsh)
 ·rw[Tryz.params7];decide
 ·intro ds hds
  rw[Tryz.params7] at hds
  match ds,hds with
  |[a0,a1,a2,a3,a4,a5],_=>rfl
 ·kernel_rfl
 ·intro xs hxs hb
  rw[Tryz.params7] at hxs;exact zsd xs hxs (hb ⟨_,_,zrZ H,hk⟩)
theorem ExamineKnows_row:Rows.ExamineKnowsUptoSaid:=
 OpenClaim.holds_of_cond 7 Tryz.f7 rfl rfl rfl rfl rfl rfl rfl ⟨rfl,rfl,rfl,rfl,rfl⟩ rfl rfl rfl rfl rfl (by kernel_rfl) Tryz.func7 (by kernel_rfl)
  (of_decide_eq_true (by kernel_rfl)) (by unfold Func.isWrapper;first|(rw[if_pos (by decide+kernel)];kernel_rfl)|(rw[if_neg (by decide+kernel)];exact⟨rfl,rfl⟩))
  (fun os started H enc _ F=>by rw[OpenClaim.pre_eq_preRow];exact zsf os started H enc F)
theorem ExamineKnows_holds:Rows.ExamineKnowsUptoCardSaid:=
 Claim7.holds_tied_plain_at .later [] _ _ _ _ ExamineKnows_row (fun _ h=>by cases h) (by kernel_rfl) (fun _ h=>by cases h) examineKnowsUpto_row_tie rfl ⟨rfl,rfl⟩ (by kernel_rfl) rfl
  (fun f fn hf hfn=>by
   obtain rfl:f=7:=Yv ((show Tryz.prog.funcNamed "allonge/allongelaw34.ExamineKnows" =some 7 by kernel_rfl).symm.trans hf)|>.symm
   obtain rfl:fn=Tryz.f7:=(Yv (Tryz.func7.symm.trans hfn)).symm
   exact⟨by kernel_rfl,fun j t ht=>by
    rw[Tryz.params7] at ht
    have hm:t∈[22,23,5,5,5,9]:=by simpa using Array.mem_of_getElem? ht
    have hall:([22,23,5,5,5,9].all fun u=> !Tryz.prog.wantsStandIn u)=true:=by kernel_rfl
    exact(show Tryz.prog.wantsStandIn t=false by simpa using Zu.1 hall t hm)⟩)
  (by kernel_rfl)
end Go.Proofs.YtpmicgjdckeejaaGreatDoor
