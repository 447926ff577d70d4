/- A part of the proof; the last text states what is proved. -/
import Derived.Test.YtpmicgjdckeejaaGreatDoorP7
import Derived.Test.YtpmicgjdckeejaaGreatDoorProg
import Derived.Shelf.Slices.Clone
import Derived.Laws.CopyOwn
import Derived.DataShut
import Derived.Test.YtpmicgjdckeejaaGreatDoorRows
import Derived.Test.YtpmicgjdckeejaaGreatDoorCards
import Derived.Test.YtpmicgjdckeejaaGreatDoorTie
import Derived.ProofKit
import Derived.LaidMore
import Derived.Lib.LaidTab
import Derived.Lib.LaidU8
import Derived.OpenShut
import Derived.SevenTiedAt
import Derived.Deep.DeepHandedRow
import Derived.Deep.DeepWitnessRowRef
import Derived.Shelf.Vars
set_option linter.unusedVariables false
set_option linter.unusedSimpArgs false
set_option maxRecDepth 100000
set_option maxHeartbeats 8000000
open Array renaming getElem?_eq_some_iff → Zo,toArray_toList → ZK
open Bool renaming and_eq_true → Zp,eq_false_iff → YS,eq_iff_iff → Yn,false_and → ZO,true_and → ZJ
open Eq renaming refl → ZG,trans → ZN
open Int renaming reduceBNe → Y6,reduceLE → Ym,toNat_natCast → Yf
open List renaming all_cons → Ys,all_eq_true → Zw,all_nil → Xa,append_nil → Zk,cons_append → ZR,drop_eq_getElem_cons → ZE,drop_eq_nil_of_le → ZA,eq_nil_of_length_eq_zero → Yb,ext_getElem → Xc,getD_eq_getElem?_getD → Zi,getElem?_eq_getElem → Zh,getElem?_map → Zv,getElem_mem → Zy,length_append → Zu,length_cons → Zn,length_map → Zg,length_nil → ZF,length_pos_iff → Yd,length_set → YY,length_take → Yt,map_append → ZW,map_congr_left → Y4,map_cons → Zl,map_map → Y9,map_nil → Zq,mem_cons → ZH,mem_cons_of_mem → Zz,mem_range → Yc,mem_singleton → ZX,nil_append → Ya,nodup_cons → ZV,not_mem_nil → Zx,range_succ → XI,take_length → YN,take_of_length_le → Z6,take_succ_eq_append_getElem → ZQ
open List.Perm renaming refl → Xb
open Nat renaming add_assoc → Yy,add_zero → Yk,eq_of_testBit_eq → Xo,le_refl → Zs,lt_of_lt_of_le → ZL,mod_lt → Xj,one_shiftLeft → Xr,reduceAdd → Zd,reduceBEq → Za,reduceEqDiff → Zt,reduceLT → Z5,reduceLeDiff → Zm,reduceMul → Yg,zero_le → ZB,zero_testBit → YV
open Option renaming bind_some → Y8
open Option.some renaming inj → Yj
namespace Go.Ex
open Go.Lib Go.Wd Go.Wire Go.Abs
def kL {α:Type} [DecidableEq α] (d:α) (A B:List α):Bool:=decide (A.length=B.length)&&(List.range A.length).all fun i=>decide (A.getD i d=B.getD i d)
theorem aZ {α:Type} [DecidableEq α] (d:α) (A B:List α):kL d A B=decide (A=B):=by
 rw[Yn];unfold kL;rw[Zp,decide_eq_true_eq,Zw,decide_eq_true_eq];constructor
 ·rintro⟨h1,h2⟩
  refine Xc h1 fun i ha hb=>?_
  have:=h2 i (by simpa using ha);simpa [List.getD,ha,hb] using this
 ·rintro rfl
  exact⟨rfl,fun _ _=>by simp⟩
theorem zaa {n k:Nat} (h:k<n) (p:Nat->Bool):((List.range n).drop k).all p=(p k&&((List.range n).drop (k+1)).all p):=by
 rw[ZE (by simpa using h),Ys,List.getElem_range]
deriving instance DecidableEq for Flw
def qH:Plc:=⟨0,0⟩
def vG:Flw:=⟨[],[],false⟩
end Go.Ex
namespace Go.Abs
open Go.Proofs Go.RowKit Go.Lib Go.Wd Go.Wire Go.Ex
theorem zab {w:List Int} {k:Nat} (h:k<w.length):(zM w).getD k []=[.int .i64 (w.getD k 0)]:=by simp[zM,h]
theorem c52 (A B:List Int) (hA:A.length<=1000000):Spec Tryz.prog 52 [lst 1 (zM A),lst 1 (zM B)] (fun v=>v=.bool (decide (A=B))):=by
 refine Spec.of_awlS hf52 okf52 (by simp) fun S hS=>?_
 rw[<-aZ 0] at hS;unfold kL at hS;by_cases hl:A.length=B.length
 ·rw[decide_eq_true hl,ZJ] at hS
  have e1:(A.length:Int)=B.length:=by omega
  simp only[yL,e1,Qs,forall_const,Zd,Za,Ψ52];rw[uu f52l15.eq_1];refine yA (fun k:Nat=>[(0,lst 1 (zM A)),(1,lst 1 (zM B)),(5,.int .i64 k)]) (fun _=>[]) (fun k=>k<=A.length/\((List.range A.length).drop k).all (fun i=>decide (A.getD i 0=B.getD i 0))=(List.range A.length).all (fun i=>decide (A.getD i 0=B.getD i 0))) (fun k=>A.length-k) 0 rfl rfl ⟨ZB _,rfl⟩ ?_;rintro k ⟨hk,hD⟩;by_cases hlt:k<A.length
  ·have d1:(k:Int)<A.length:=by omega
   have c4:IntKind.i64.wrap ((k:Int)+1)=(k:Int)+1:=wrap_in (by omega) (by omega);have h1:=zab hlt;have h2:=zab (w:=B) (k:=k) (by omega);have d2:(k:Int)<B.length:=by omega
   rw[zaa hlt] at hD;generalize A.getD k 0=a at h1 hD;generalize B.getD k 0=b at h2 hD;by_cases q:a=b
   ·rw[decide_eq_true q,ZJ] at hD
    simp only[d1,d2,h1,h2,c4,q,yL,Qs,forall_const,Za,Ψ52];exact Next.intro (k+1) rfl rfl ⟨by omega,hD⟩ (by omega)
   ·rw[decide_eq_false q,ZO] at hD
    rw[<-hD] at hS;simp only[d1,d2,h1,h2,q,yL,Qs,forall_const,Za,Ψ52];exact hS
  ·have d1: ¬(k:Int)<A.length:=by omega
   rw[ZA (by simp;omega),Xa] at hD;rw[<-hD] at hS;simp only[d1,yL,Qs,Za,Ψ52];exact hS
 ·rw[decide_eq_false hl,ZO] at hS
  have e1: ¬(A.length:Int)=B.length:=by omega
  simp only[yL,e1,Qs,forall_const,Zd,Za,Ψ52];exact hS
theorem ziY {w:List Plc} {k:Nat} (h:k<w.length):(pls w).getD k []=[.int .i64 (w.getD k qH).doc,.int .i64 (w.getD k qH).fld]:=by simp[pls,sU,h]
theorem c53 (A B:List Plc) (hA:A.length<=1000000):Spec Tryz.prog 53 [lst 2 (pls A),lst 2 (pls B)] (fun v=>v=.bool (decide (A=B))):=by
 refine Spec.of_awlS hf53 okf53 (by simp) fun S hS=>?_
 rw[<-aZ qH] at hS;unfold kL at hS;by_cases hl:A.length=B.length
 ·rw[decide_eq_true hl,ZJ] at hS
  have e1:(A.length:Int)=B.length:=by omega
  simp only[uY,e1,Qs,forall_const,Zd,Za,Ψ53];rw[uu f53l15.eq_1];refine yA (fun k:Nat=>[(0,lst 2 (pls A)),(1,lst 2 (pls B)),(5,.int .i64 k)]) (fun _=>[]) (fun k=>k<=A.length/\((List.range A.length).drop k).all (fun i=>decide (A.getD i qH=B.getD i qH))=(List.range A.length).all (fun i=>decide (A.getD i qH=B.getD i qH))) (fun k=>A.length-k) 0 rfl rfl ⟨ZB _,rfl⟩ ?_;rintro k ⟨hk,hD⟩;by_cases hlt:k<A.length
  ·have d1:(k:Int)<A.length:=by omega
   have c4:IntKind.i64.wrap ((k:Int)+1)=(k:Int)+1:=wrap_in (by omega) (by omega);have h1:=ziY hlt;have h2:=ziY (w:=B) (k:=k) (by omega);have d2:(k:Int)<B.length:=by omega
   rw[zaa hlt] at hD;generalize A.getD k qH=a at h1 hD;generalize B.getD k qH=b at h2 hD;obtain⟨a1,a2⟩:=a;obtain⟨b1,b2⟩:=b;simp only[] at h1 h2;have hI:(Plc.mk a1 a2=⟨b1,b2⟩) ↔ (a1=b1/\a2=b2):=by rw[Plc.mk.injEq]
   by_cases q1:a1=b1
   ·by_cases q2:a2=b2
    ·rw[decide_eq_true (hI.2 ⟨q1,q2⟩),ZJ] at hD
     simp only[d1,d2,h1,h2,c4,q1,q2,uY,Qs,cB,cD,cE,cF,cG,cH,BEq.rfl,Za,Y8,Ψ53];exact Next.intro (k+1) rfl rfl ⟨by omega,hD⟩ (by omega)
    ·rw[decide_eq_false (fun h=>q2 (hI.1 h).2),ZO] at hD
     rw[<-hD] at hS;have e:(a1==b1&&a2==b2)=false:=by simp[q2]
     simp only[d1,d2,h1,h2,e,uY,Qs,cB,cD,cE,cF,cG,cH,Za,Y8,Ψ53];exact hS
   ·rw[decide_eq_false (fun h=>q1 (hI.1 h).1),ZO] at hD
    rw[<-hD] at hS;have e:(a1==b1&&a2==b2)=false:=by simp[q1]
    simp only[d1,d2,h1,h2,e,uY,Qs,cB,cD,cE,cF,cG,cH,Za,Y8,Ψ53];exact hS
  ·have d1: ¬(k:Int)<A.length:=by omega
   rw[ZA (by simp;omega),Xa] at hD;rw[<-hD] at hS;simp only[d1,uY,Qs,Za,Ψ53];exact hS
 ·rw[decide_eq_false hl,ZO] at hS
  have e1: ¬(A.length:Int)=B.length:=by omega
  simp only[uY,e1,Qs,forall_const,Zd,Za,Ψ53];exact hS
theorem zac {w:List Flw} {k:Nat} (h:k<w.length):(xF w).getD k []=[zC 1 (zM (w.getD k vG).dem),zC 2 (pls (w.getD k vG).pls),.bool (w.getD k vG).sure]:=by simp[xF,pJ,h]
theorem c25 (A B:List Flw) (hA:A.length<=1000000) (hd: ∀x∈A,x.dem.length<=1000000/\x.pls.length<=1000000):Spec Tryz.prog 25 [lst 3 (xF A),lst 3 (xF B)] (fun v=>v=.bool (decide (A=B))):=by
 refine Spec.of_awlS hf25 okf25 (by simp) fun S hS=>?_
 rw[<-aZ vG] at hS;unfold kL at hS;by_cases hl:A.length=B.length
 ·rw[decide_eq_true hl,ZJ] at hS
  have e1:(A.length:Int)=B.length:=by omega
  simp only[uM,e1,Qs,forall_const,Zd,Za,Ψ25];rw[uu f25l15.eq_1];refine yA (fun k:Nat=>[(0,lst 3 (xF A)),(1,lst 3 (xF B)),(5,.int .i64 k)]) (fun _=>[]) (fun k=>k<=A.length/\((List.range A.length).drop k).all (fun i=>decide (A.getD i vG=B.getD i vG))=(List.range A.length).all (fun i=>decide (A.getD i vG=B.getD i vG))) (fun k=>A.length-k) 0 rfl rfl ⟨ZB _,rfl⟩ ?_;rintro k ⟨hk,hD⟩;by_cases hlt:k<A.length
  ·have d1:(k:Int)<A.length:=by omega
   have c4:IntKind.i64.wrap ((k:Int)+1)=(k:Int)+1:=wrap_in (by omega) (by omega);have h1:=zac hlt;have h2:=zac (w:=B) (k:=k) (by omega);have d2:(k:Int)<B.length:=by omega
   have hx:(A.getD k vG).dem.length<=1000000/\(A.getD k vG).pls.length<=1000000:=by
    have:A.getD k vG=A[k]:=by simp[hlt]
    rw[this];exact hd _ (Zy hlt)
   rw[zaa hlt] at hD;generalize A.getD k vG=a at h1 hD hx;generalize B.getD k vG=b at h2 hD;obtain⟨a1,a2,a3⟩:=a;obtain⟨b1,b2,b3⟩:=b;simp only[] at h1 h2 hx;have g1:=c52 a1 b1 hx.1;have g2:=c53 a2 b2 hx.2;have hI:(Flw.mk a1 a2 a3=⟨b1,b2,b3⟩) ↔ (a1=b1/\a2=b2/\a3=b3):=by rw[Flw.mk.injEq]
   by_cases q3:a3=b3
   ·by_cases q1:a1=b1
    ·rw[decide_eq_true q1] at g1
     by_cases q2:a2=b2
     ·rw[decide_eq_true q2] at g2
      rw[decide_eq_true (hI.2 ⟨q1,q2,q3⟩),ZJ] at hD;simp only[d1,d2,h1,h2,q3,uM,bne_self_eq_false,Qs,iN,lH,BEq.rfl,Zd,Zm,Za,Ψ25];refine rG g1 ?_ (ha:=by simp only[Zl,Zq,zB,V.norm,zO,vC,C.norm]<;>rfl);simp only[d1,d2,h1,h2,uM,Qs,zcY,Zd,Zm,Za];refine rG g2 ?_ (ha:=by simp only[Zl,Zq,zB,V.norm,zO,rL,C.norm]<;>rfl);simp only[c4,Qs,zcY,Za,Ψ25];exact Next.intro (k+1) rfl rfl ⟨by omega,hD⟩ (by omega)
     ·rw[decide_eq_false q2] at g2
      rw[decide_eq_false (fun h=>q2 (hI.1 h).2.1),ZO] at hD;rw[<-hD] at hS;simp only[d1,d2,h1,h2,q3,uM,bne_self_eq_false,Qs,iN,lH,BEq.rfl,Zd,Zm,Za,Ψ25];refine rG g1 ?_ (ha:=by simp only[Zl,Zq,zB,V.norm,zO,vC,C.norm]<;>rfl);simp only[d1,d2,h1,h2,uM,Qs,zcY,Zd,Zm,Za];refine rG g2 ?_ (ha:=by simp only[Zl,Zq,zB,V.norm,zO,rL,C.norm]<;>rfl);simp only[Qs,zcY,Za,Ψ25];exact hS
    ·rw[decide_eq_false q1] at g1
     rw[decide_eq_false (fun h=>q1 (hI.1 h).1),ZO] at hD;rw[<-hD] at hS;simp only[d1,d2,h1,h2,q3,uM,bne_self_eq_false,Qs,iN,lH,BEq.rfl,Zd,Zm,Za,Ψ25];refine rG g1 ?_ (ha:=by simp only[Zl,Zq,zB,V.norm,zO,vC,C.norm]<;>rfl);simp only[Qs,zcY,Za,Ψ25];exact hS
   ·rw[decide_eq_false (fun h=>q3 (hI.1 h).2.2),ZO] at hD
    rw[<-hD] at hS;simp only[d1,d2,h1,h2,q3,uM,Qs,iN,lH,forall_const,Zd,Zm,Za,Ψ25];exact hS
  ·have d1: ¬(k:Int)<A.length:=by omega
   rw[ZA (by simp;omega),Xa] at hD;rw[<-hD] at hS;simp only[d1,uM,Qs,Za,Ψ25];exact hS
 ·rw[decide_eq_false hl,ZO] at hS
  have e1: ¬(A.length:Int)=B.length:=by omega
  simp only[uM,e1,Qs,forall_const,Zd,Za,Ψ25];exact hS
end Go.Abs
set_option maxRecDepth 100000
set_option maxHeartbeats 8000000
namespace Go.Ex
open Go.Lib Go.Wd Go.Wire Go.Abs
def qI:Txt:=[105,110,118,111,105,99,101]
def mJ:Txt:=[115,117,109]
def mK:Txt:=[112,111,114,116]
def pM:Txt:=[71,101,110,111,97]
def xmL:List Dmd:=[⟨2,qI,mJ,[],[],[],50,150⟩,⟨2,qI,mJ,[],[],[],600,800⟩,⟨1,qI,mK,[],[],pM,0,0⟩,⟨0,[112,97,99,107,105,110,103],[],[],[],[],0,0⟩]
def xmD:List Dcm:=[⟨qI,[⟨mJ,[[[49,48,48],[55,48,48]]]⟩,⟨mK,[[pM]]⟩]⟩]
end Go.Ex
namespace Go.Abs
open Go.Proofs Go.RowKit Go.Lib Go.Wd Go.Wire Go.Ex
theorem tP (K:KK) (ts:TS) (os:OS):rV [] K ts os=K ts os:=id rfl
theorem tQ (τ:Nat) (l:List Nat) (K:KK) (ts:TS) (os:OS):rV (τ::l) K ts os=rV l K (uS τ ts os (lookO τ os)) (tG τ os (lookO τ os)):=id rfl
theorem tU (P:Program) (K:KK) (ts:TS) (os:OS):oF P [] K ts os=K ts os:=id rfl
theorem tW (P:Program) (l:List AI) (τs:List Nat) (r:List (List AI×List Nat)) (K:KK) (ts:TS) (os:OS):oF P ((l,τs)::r) K ts os=wpLs P l (rV τs (oF P r K)) ts os:=id rfl
theorem tX (P:Program) (ps:List (List AI×List Nat)) (Q:AE->KK) (ts:TS) (os:OS):awl P (.regs ps) Q ts os=oF P ps (Q .normal) ts os:=id rfl
theorem tY (P:Program) (l1 l2:List AI) (τs:List Nat) (Q:AE->KK) (ts:TS) (os:OS):awl P (.regf l1 τs l2) Q ts os=wpLs P l1 (rV τs (wpLs P l2 (Q .normal))) ts os:=id rfl
theorem c29:Spec Tryz.prog 29 [] (fun v=>v=.tup [lst 8 (xmL.map zQ),lst 2 (xmD.map zV)]):=by
 refine Spec.of_awlP hf29 okf29 (by simp) fun S hS=>?_
 simp only[tX,tY,tU,tW,tP,tQ,Qs,zk7,cA,cI,zfM,iP,zgk,reduceCtorEq,forall_eq_or_imp,forall_eq,bne_iff_ne,ne_eq,Zk,ZH,Zd,Zt,Zm,Z5,Za,Nat.zero_ne_one,Zx,Ψ29];refine hS _ ?_;rfl
end Go.Abs
set_option maxRecDepth 100000
set_option maxHeartbeats 8000000
namespace Go.Ex
open Go.Lib Go.Wd Go.Wire Go.Abs Go.Proofs
def xm1:List Dmd:=[⟨1,qI,mK,[],[],pM,0,0⟩]
def xm2:List Dmd:=[⟨2,qI,mJ,[],[],[],50,150⟩,⟨1,qI,mK,[],[],pM,0,0⟩]
theorem gW:AskS xm1 xmD:=(gU (by intro m hm;simp[xm1] at hm;subst hm;constructor<;>decide) (by kernel_rfl)).1
theorem ziZ:AskS xm2 xmD:=(gU (by intro m hm;simp[xm2] at hm;rcases hm with rfl|rfl<;>constructor<;>decide) (by kernel_rfl)).1
theorem zi0:AskS xmL xmD:=(gU (by intro m hm;simp[xmL] at hm;rcases hm with rfl|rfl|rfl|rfl<;>constructor<;>decide) (by kernel_rfl)).1
def xA2:List Flw:=[⟨[0],[⟨0,0⟩],false⟩]
def xA3:List Flw:=[⟨[3],[],true⟩,⟨[0,1],[⟨0,0⟩],true⟩,⟨[0],[⟨0,0⟩],false⟩,⟨[1],[⟨0,0⟩],false⟩]
theorem fl1:zpf xm1 xmD=[]:=by kernel_rfl
theorem fl2:zpf xm2 xmD=xA2:=by kernel_rfl
theorem fl3:zpf xmL xmD=xA3:=by kernel_rfl
theorem lk1:lookE xm1 xmD=0:=by kernel_rfl
theorem lk2:lookE xm2 xmD=0:=by kernel_rfl
theorem lk3:lookE xmL xmD=0:=by kernel_rfl
theorem st1:kI xm1 xmD=1:=by kernel_rfl
theorem st2:kI xm2 xmD=2:=by kernel_rfl
theorem st3:kI xmL xmD=0:=by kernel_rfl
theorem ct1:(cnts xmD).2.1=2:=by kernel_rfl
theorem ct2:(cnts xmD).2.2=0:=by kernel_rfl
def xP:List Pln:=[⟨qI,[mJ,mK],[[55,48,48],pM]⟩]
theorem rp1:zo9 xmD 1=xP:=by kernel_rfl
theorem re1:zpd xmD 1=0:=by kernel_rfl
end Go.Ex
namespace Go.Abs
open Go.Proofs Go.RowKit Go.Lib Go.Wd Go.Wire Go.Ex
theorem c8:Spec Tryz.prog 8 [] (fun v=>v=.bool true):=by
 refine Spec.of_awlS hf8 okf8 (by simp) fun S hS=>?_
 have f1:=c10 xm1 xmD gW;have f2:=c10 xm2 xmD ziZ;have f3:=c10 xmL xmD zi0;rw[fl1,lk1] at f1;rw[fl2,lk2] at f2;rw[fl3,lk3] at f3;have s1:=c12 xm1 xmD gW;have s2:=c12 xm2 xmD ziZ;have s3:=c12 xmL xmD zi0;rw[st1,lk1] at s1;rw[st2,lk2] at s2;rw[st3,lk3] at s3;have n1:=c13 xmD gW.dc;rw[ct1,ct2] at n1;have r1:=c14 xmD gW.dc 1;rw[rp1,re1] at r1;have hp1:((vF xP).length:Int)=1:=rfl;have hp2:(vF xP).getD 0 []=[.str qI,zC 1 (zJ [mJ,mK]),zC 1 (zJ [[55,48,48],pM])]:=rfl;have hp3:((zJ [[55,48,48],pM]).length:Int)=2:=rfl;have hp4:((xF []).length:Int)=0:=rfl;have hp5:(zJ [[55,48,48],pM]).getD 0 []=[.str [55,48,48]]:=rfl;have g2:=c25 xA2 xA2 (by decide) (by intro x hx;simp[xA2] at hx;subst hx;decide);have g3:=c25 xA3 xA3 (by decide) (by intro x hx;simp[xA3] at hx;rcases hx with rfl|rfl|rfl|rfl<;>decide);rw[decide_eq_true rfl] at g2 g3;have hr1:List.drop 2 (List.take 3 (List.map zQ xmL))=List.map zQ xm1:=rfl;simp only[Qs,Ψ8];refine xI c29 ?_;simp only[hr1,tX,tY,tU,tW,tP,tQ,Qs,lF,forall_eq,Zk,ZH,Zd,Yg,Zm,Z5,Za,Zg,Ym,Int.reduceToNat,Zx,zgA,Ψ8];refine⟨by decide,?_⟩;refine xI f1 ?_ (ha:=by simp only[Zl,Zq,zB,V.norm,zO,vU,hr1,zP yU,zP xO,C.norm]<;>rfl);simp only[hr1,tX,tY,tU,tW,tP,tQ,Qs,cA,cI,iP,forall_eq_or_imp,forall_eq,Zk,ZH,Zd,Yg,Z5,Za,Zg,Ym,Int.reduceToNat,Zx,Ψ8];refine⟨by decide,by decide,⟨rfl,rfl⟩,?_⟩;refine zg6 f2 ?_ (ha:=by rfl);simp only[hr1,tX,tY,tU,tW,tP,tQ,Qs,cC,cJ,cK,cL,Za,Ψ8];refine xI f3 ?_ (ha:=by simp only[Zl,Zq,zB,V.norm,zO,vU,hr1,zP yU,zP xO,C.norm]<;>rfl);simp only[hr1,tX,tY,tU,tW,tP,tQ,Qs,lF,Zk,Zd,Yg,Za,Zg,Ym,Int.reduceToNat,Ψ8];refine⟨by decide,?_⟩;refine zF s1 ?_ (ha:=by simp only[Zl,Zq,zB,V.norm,zO,vU,hr1,zP yU,zP xO,C.norm]<;>rfl);simp only[hr1,tX,tY,tU,tW,tP,tQ,Qs,cA,cI,iP,forall_eq_or_imp,forall_eq,ZH,Zd,Z5,Za,Zg,Ym,Int.reduceToNat,Zx,Ψ8];refine⟨by decide,by decide,⟨rfl,rfl⟩,?_⟩;refine rG s2 ?_ (ha:=by rfl);simp only[hr1,tX,tY,tU,tW,tP,tQ,Qs,cC,cJ,cK,cL,Za,Ψ8];refine zF s3 ?_ (ha:=by simp only[Zl,Zq,zB,V.norm,zO,vU,hr1,zP yU,zP xO,C.norm]<;>rfl);simp only[hr1,tX,tY,tU,tW,tP,tQ,Qs,Za,Ψ8];refine zF n1 ?_ (ha:=by simp only[Zl,Zq,zB,V.norm,zO,vU,hr1,zP yU,zP xO,C.norm]<;>rfl);simp only[hr1,tX,tY,tU,tW,tP,tQ,Qs,Za,Ψ8];refine xI r1 ?_ (ha:=by simp only[Zl,Zq,zB,V.norm,zO,vU,hr1,zP yU,zP xO,C.norm]<;>rfl);simp only[hp1,hp2,hp3,hp4,hp5,hr1,tX,tY,tU,tW,tP,tQ,Qs,zcm,zcn,iO,forall_eq,BEq.rfl,Zk,ZH,Zd,Yg,Zm,Z5,Za,Int.reduceLT,Ym,Y6,Zx,zgz,zgA,Ψ8];refine zF g2 ?_ (ha:=by rfl);simp only[hp1,hp2,hp3,hp4,hp5,hr1,tX,tY,tU,tW,tP,tQ,Qs,zcm,zcn,iO,iP,forall_eq_or_imp,forall_eq,BEq.rfl,Zk,ZH,Zd,Zm,Z5,Za,Int.reduceLT,Ym,Zx,zgz,Ψ8];refine zF g3 ?_ (ha:=by rfl);simp only[hp1,hp2,hp3,hp4,hp5,hr1,tX,tY,tU,tW,tP,tQ,Qs,zfM,zlt,zgk,Za];exact hS
end Go.Abs
set_option maxRecDepth 100000
set_option maxHeartbeats 8000000
namespace Go.Ex
open Go.Lib Go.Wd Go.Wire Go.Abs
end Go.Ex
namespace Go.Abs
open Go.Proofs Go.RowKit Go.Lib Go.Wd Go.Wire Go.Ex
end Go.Abs
set_option maxRecDepth 100000
set_option maxHeartbeats 4000000
namespace Go.Ex
open Go.Lib Go.Wd Go.Wire Go.Abs
theorem zqT: ∀s,s<256-> ∀k,k<8->(decide (bitsN s=[k]))=decide (s=1<<<k):=by decide+kernel
theorem zqU (d:Dcm) (k:Nat) (ws:List Txt):zo3 (zo8 d k ws).flds=(zo3 d.flds).set k 1:=by
 show(d.flds.set k _).map yQ=_;rw[List.map_set,zpI];rfl
theorem zqj {D:List Dcm} {d:Nat} (h:d<D.length):D.getD d zpa∈D:=by
 rw[Zi,Zh h];exact Zy h
theorem zqV {p:Pln} {k:Nat} {t:Txt} (h:p.texts.getD k []=t):zpJ p k t=p:=by
 obtain⟨a,b,c⟩:=p;unfold zpJ;simp only at h⊢;by_cases hk:k<c.length
 ·rw[Zi,Zh hk] at h
  have h:c[k]=t:=h;rw[<-h,List.set_getElem_self]
 ·rw[List.set_eq_of_length_le (by omega)]
def zo5 (d:Dcm) (ts:List Txt):Nat->Dcm
 |0=>d
 |k+1=>zo8 (zo5 d ts k) k (splitW (ts.getD k []))
theorem zpq (d:Dcm) (ts:List Txt): ∀k,(zo5 d ts k).flds.length=d.flds.length
 |0=>rfl
 |k+1=>by
  show((zo5 d ts k).flds.set k _).length=_;rw[YY,zpq d ts k]
structure PartOk (d:Dcm) (p:Pln) (k:Nat):Prop where
 s:DcmS (zo5 d p.texts k)
 e:docE (zo5 d p.texts k)=0
 z: ∀j,j<d.flds.length->(zo3 (zo5 d p.texts k).flds).getD j 0=if j<k then 1 else(zo3 d.flds).getD j 0
 r:posP (zo5 d p.texts k) p
theorem zqk {d:Dcm} (hd:DcmS d) (h:docE d=0) {p:Pln} (hp:posP d p) {k:Nat} (hk:k<d.flds.length):(splitW (p.texts.getD k [])).length<=8/\(splitW (p.texts.getD k [])).all vM=true:=
 zqO hd h (by rw[Zi,Zh hk];exact Zy hk) (zqg k hp.ts hk)
theorem zpr {d:Dcm} (hd:DcmS d) (h:docE d=0) {p:Pln} (hp:posP d p): ∀k,k<=d.flds.length->PartOk d p k
 |0,_=>⟨hd,h,fun j _=>by rw[if_neg (by omega)];rfl,hp⟩
 |k+1,hk=>by
  have ih:=zpr hd h hp k (by omega);obtain⟨w1,w2⟩:=zqk hd h hp (k:=k) (by omega);have hlen:=zpq d p.texts k;obtain⟨s1,s2⟩:=zqR ih.s ih.e (k:=k) (by omega) w1 (Zw.1 w2);refine⟨s1,s2,fun j hj=>?_,?_⟩
  rotate_left
  ·have:=zqS (k:=k) ih.r (splitW (p.texts.getD k []))
   rw[zqM,zqV rfl] at this;exact this
  ·show(zo3 (zo8 (zo5 d p.texts k) k _).flds).getD j 0=_
   rw[zqU];have hz:=ih.z j hj;have hl2:(zo3 (zo5 d p.texts k).flds).length=d.flds.length:=by unfold zo3;rw[Zg,hlen]
   by_cases e:k=j
   ·subst e
    rw[Zi,List.getElem?_set_self (by omega),if_pos (by omega)];rfl
   ·rw[Zi,List.getElem?_set_ne e,<-Zi,hz]
    by_cases q:j<k
    ·rw[if_pos q,if_pos (by omega)]
    ·rw[if_neg q,if_neg (by omega)]
theorem zpM: ∀{l:List Nat},(∀j,j<l.length->l.getD j 0=1)->zo6 l=1
 |[],_=>rfl
 |a::l,h=>by
  have h0:a=1:=h 0 (by simp);have h1:=zpM (l:=l) fun j hj=>h (j+1) (by simpa using hj)
  rw[zo6,h0,h1]
def zpk (d:Dcm) (p:Pln):Dcm:=zo5 d p.texts d.flds.length
theorem zqW {d:Dcm} (hd:DcmS d) (h:docE d=0) {p:Pln} (hp:posP d p):prD (zpk d p)=1:=by
 have hO:=zpr hd h hp _ (Zs _);refine zpM fun j hj=>?_
 have hj:j<d.flds.length:=by
  have e:(zo3 (zpk d p).flds).length=d.flds.length:=by unfold zo3 zpk;rw[Zg,zpq]
  omega
 have:=hO.z j hj;rw[if_pos hj] at this;exact this
def certN (D:List Dcm) (P:List Pln):Nat->List Dcm
 |0=>D
 |n+1=>(certN D P n).set n (zpk (D.getD n zpa) (P.getD n zmZ))
structure CertOk (D:List Dcm) (P:List Pln) (n:Nat):Prop where
 l:(certN D P n).length=D.length
 d: ∀x∈certN D P n,DcmS x/\docE x=0
 p:zpb (certN D P n) P
 o: ∀j,n<=j->(certN D P n).getD j zpa=D.getD j zpa
 z: ∀j,j<D.length->((certN D P n).map prD).getD j 0=if j<n then 1 else(D.map prD).getD j 0
theorem zps {D:List Dcm} (hD: ∀d∈D,DcmS d/\docE d=0) {P:List Pln} (hP:zpb D P): ∀n,n<=D.length->CertOk D P n
 |0,_=>⟨rfl,hD,hP,fun _ _=>rfl,fun j _=>by rw[if_neg (by omega)];rfl⟩
 |n+1,hn=>by
  have ih:=zps hD hP n (by omega);obtain⟨g1,g2⟩:=hD _ (zqj (d:=n) (by omega));have hp:=zpK n hP (by omega);have hO:=zpr g1 g2 hp _ (Zs _);have hl:=ih.l;refine⟨by rw[certN,YY];exact hl,fun x hx=>?_,?_,fun j hj=>?_,fun j hj=>?_⟩
  ·rcases List.mem_or_eq_of_mem_set hx with hx|rfl
   ·exact ih.d x hx
   ·exact⟨hO.s,hO.e⟩
  ·have:=zqi n ih.p hO.r
   rwa [show P.set n (P.getD n ⟨[],[],[]⟩)=P by
    rw[Zi,Zh (by rw[zpL hP];omega)];exact List.set_getElem_self _] at this
  ·rw[certN,Zi,List.getElem?_set_ne (by omega),<-Zi]
   exact ih.o j (by omega)
  ·rw[certN,List.map_set,show prD (zpk (D.getD n zpa) (P.getD n zmZ))=1 from zqW g1 g2 hp]
   have hz:=ih.z j hj;have hl2:((certN D P n).map prD).length=D.length:=by rw[Zg,hl]
   by_cases e:n=j
   ·subst e
    rw[Zi,List.getElem?_set_self (by omega),if_pos (by omega)];rfl
   ·rw[Zi,List.getElem?_set_ne e,<-Zi,hz]
    by_cases q:j<n
    ·rw[if_pos q,if_pos (by omega)]
    ·rw[if_neg q,if_neg (by omega)]
def zpc (D:List Dcm) (P:List Pln):List Dcm:=certN D P D.length
theorem zqX {D:List Dcm} (hD: ∀d∈D,DcmS d/\docE d=0) {P:List Pln} (hP:zpb D P):prL (zpc D P)=1:=by
 have hO:=zps hD hP _ (Zs _);refine zpM fun j hj=>?_
 unfold zpc at hj⊢;rw[Zg,hO.l] at hj;have:=hO.z j hj
 rwa [if_pos hj] at this
theorem zql {D:List Dcm} (h:GoodD D) {P:List Pln} (hP:zpb D P):GoodD (zpc D P)/\xY (zpc D P)=1/\rdsD (zpc D P) 0=P:=by
 have hO:=zps h.docs hP _ (Zs _);have h1:=zqX h.docs hP;have hG:GoodD (zpc D P):=zqJ (by unfold zpc;rw[hO.l];exact h.ok.len) hO.d (by omega);have hn:xY (zpc D P)=1:=by rw[zpG hG.ok];exact h1
 obtain⟨i,hi,e⟩:=zqK hG hO.p;have:i=0:=by omega
 subst this;exact⟨hG,hn,e⟩
theorem zqY {L:List Dmd} {D:List Dcm} (hA:AskS L D) (h:GoodD D) {i:Nat} (hi:i<xY D):AskS L (zpc D (rdsD D i)):=by
 obtain⟨h1,h2,h3⟩:=zql h (zp8 h i);refine⟨hA.l8,hA.dm,h1.s,fun _ j hj=>?_⟩;have:j=0:=by omega
 subst this;rw[h3];exact hA.rd h.c i hi
theorem zqm (q:Nat->Bool) (m:Nat) (h: ∀k,q k=true->k<m): ∀n,(List.range (m+n)).filter q=(List.range m).filter q
 |0=>rfl
 |n+1=>by
  rw[<-Yy,XI,List.filter_append,zqm q m h n];have:q (m+n)=false:=by
   cases e:q (m+n) with
   |false=>rfl
   |true=>exact absurd (h _ e) (by omega)
  rw[List.filter_cons,this];simp
theorem l6F {L:List Dmd} {S:List Dcm} (hA:AskS L S) (h0:lookE L S=0) {P:List Pln} (h1:xY S=1) (hP:rdsD S 0=P):zpf L S=(sR L P).map fun k=>⟨[(k:Int)],xU L [k] P,true⟩:=by
 have h8:=hA.l8;have hF:yN L S=[wL (sR L P)]:=by unfold yN;rw[h1,<-hP];rfl
 have hlt:wL (sR L P)<2 ^ L.length:=gH fun k hk=>(gF.1 hk).1
 have hvn:(viewD L S).never=wL (sR L P):=by
  apply Xo;intro k;rw[Yn,show(viewD L S)=pF L.length (yN L S) from rfl,bS (aY hA (kJ h0)) (mD L S),hF];simp
 have hvd:(viewD L S).doubt=0:=by
  apply Xo;intro k;rw[YV,YS,ne_eq,show(viewD L S)=pF L.length (yN L S) from rfl,zmC (aY hA (kJ h0)) (mD L S),hF];rintro⟨⟨f,hf,b1⟩,g,hg,b2⟩;rw[ZX.1 hf] at b1;rw[ZX.1 hg,b1] at b2;cases b2
 have hb1: ∀k∈sR L P,bitsN (1<<<k)=[k]:=fun k hk=>by
  have hk8:k<8:=by have:=(gF.1 hk).1;omega
  have hs:(1:Nat)<<<k<256:=by
   rw[Xr];exact ZL (Nat.pow_lt_pow_right (by decide) hk8) (by decide)
  have:=zqT _ hs k hk8;rw[decide_eq_true rfl] at this;exact of_decide_eq_true this
 have hr:(List.range 64).filter (fun k=>(wL (sR L P)).testBit k)=sR L P:=by
  have e:64=L.length+(64-L.length):=by omega
  rw[e,zqm _ L.length fun k hk=>xT.1 hlt k hk];unfold sR;refine List.filter_congr fun k hk=>?_
  rw[gG,Yn,decide_eq_true_eq];show k∈sR L P ↔ _;rw[gF];have:=Yc.1 hk;constructor
  ·intro h;rw[h.2];rfl
  ·intro h;exact⟨this,by simpa using h⟩
 have hc:(conflP (viewD L S)).map bitsN=(sR L P).map fun k=>[k]:=by
  unfold conflP;rw[hvn,hvd,hr,show vY 0 256 0=[] from rfl,List.filter_nil,Zk,Y9];exact Y4 hb1
 have hso:sortO ltC ((sR L P).map fun k=>[k])=(sR L P).map fun k=>[k]:=by
  refine(zhM zhQ (Xb _) ?_).symm;rw[List.pairwise_map];have:(sR L P).Pairwise (· < ·):=List.pairwise_lt_range.filter _;refine this.imp fun{a b} hab=>?_
  simp only[ltC,uJ,Zn,ZF];simp;omega
 have:zpf L S=kB L (viewD L S) (rdsD S 0):=by unfold zpf;rw[if_pos h0];rfl
 rw[this];unfold kB;rw[hc,hso,hvd,show bitsN 0=[] from rfl,Zq,Zk,Y9,hP];rfl
end Go.Ex
set_option maxRecDepth 100000
namespace Go.Proofs
open Go.Shelf Go.RowKit
def Tryz.laysClone_ren:Go.Shelf.Ren:=
 {
  f:=fun x=>
   match x with
   |16=>60
   |n=>n,
  t:=fun x=>
   match x with
   |24=>51
   |9=>9
   |4=>4
   |n=>n,
  g:=fun n=>n}
theorem Tryz.laysClone:Lays2.n16 Tryz.prog Tryz.laysClone_ren:=
 {mixed:=by kernel_rfl,f16:=ZN Tryz.func60 (congrArg some (ZG (Body2.n16 Tryz.laysClone_ren))),
  t4:=Tryz.underlying4,a4:=Tryz.isAgg4,z4:=Tryz.sizeOf4,v4:=Tryz.zeroValue4,t9:=Tryz.underlying9,
  a9:=Tryz.isAgg9,z9:=Tryz.sizeOf9,v9:=Tryz.zeroValue9,t24:=Tryz.underlying51,a24:=Tryz.isAgg51,
  z24:=Tryz.sizeOf51,v24:=Tryz.zeroValue51,i9:=by kernel_rfl}
end Go.Proofs
set_option maxRecDepth 100000
set_option maxHeartbeats 8000000
namespace Go.Proofs
open Go.Shelf Go.RowKit Go.Lib Go.Abs Go.Ex Go.Wire Go.Wd
theorem zqn {c:UInt8} (t:Txt): ∀{w:Txt},c ∉ w->indexByte (w++c::t) c=w.length
 |[],_=>by
  show indexByte (c::t) c=0;unfold indexByte;rw[if_pos (by simp)]
 |b::w,h=>by
  have h1:(b==c)=false:=by rw[beq_eq_false_iff_ne];exact fun e=>h (by simp[e])
  have ih:=zqn t (w:=w) (fun e=>h (Zz _ e));rw[ZR];unfold indexByte;rw[h1,ih,if_neg (by simp),if_neg (by simp)];simp
theorem zqZ (c:UInt8): ∀(n:Nat) (s:Txt),s.length<=n->splitK [c] 0 (s.count c) s=Go.Wd.cutC c s:=by
 intro n
 induction n with
 |zero=>
  intro s hs;obtain rfl:s=[]:=Yb (by omega);rfl
 |succ n ih=>
  intro s hs;by_cases hm:c∈s
  ·obtain⟨w,t,rfl,hw⟩:=List.eq_append_cons_of_mem hm
   have hc:(w++c::t).count c=t.count c+1:=by
    rw[List.count_append,List.count_cons_self,List.count_eq_zero.2 hw];omega
   have hi:index (w++c::t) [c]=w.length:=by rw[index_one,zqn t hw]
   rw[hc,Go.Wd.cutC_app t hw,splitK,hi,if_neg (by simp)];rw[Yf,Yk,List.take_left,show w.length+[c].length=w.length+1 from rfl,List.drop_append,ZA (by omega),show w.length+1-w.length=1 by omega];rw[Ya,List.drop_succ_cons,List.drop_zero,ih t (by simp at hs;omega)]
  ·rw[List.count_eq_zero.2 hm,Go.Wd.cutC_word hm];rfl
end Go.Proofs
namespace Go.Abs
open Go.Proofs Go.Shelf Go.RowKit Go.Lib Go.Wd Go.Wire Go.Ex
theorem cell_of {w:World} {g:Nat} {p:Value->Prop} (hG:yI (base w)) (h:zi8 g=some (cell0 p)): ∃v,w.cell? ⟨g,0,none⟩=some v/\p v:=by
 obtain⟨_,b,hb,hp⟩:=hG.2 g _ h;have hb':w.heap[g]?=some b:=hb;cases b with
 |cells cs t f=>
  obtain⟨v,h1,h2⟩:=hp;exact⟨v,by simp only[World.cell?,hb'];exact h1,h2⟩
 |_=>exact hp.elim
theorem zq0 (s:Txt) (c:UInt8) (hs:s.length<4294967281) {w:World} (hG:yI (base w)):
  Calls Tryz.prog 91 #[.string ⟨s.toArray⟩,.string ⟨[c].toArray⟩] w fun e w'=> ∃v,e=.returned v/\w'.ownsRow w.heap.size 9 1 v (Go.Wd.cutC c s).length (qA (zJ (Go.Wd.cutC c s)))/\Below w.heap.size w w':=by
 obtain⟨m,hm,z,rfl⟩:=cell_of hG (g:=2) (p:=fun v=> ∃m,v=.int .i64 m) rfl;refine(Any.strings_Split Tryz.laysSplit (by kernel_rfl) ⟨s.toArray⟩ ⟨[c].toArray⟩ z w (by show s.toArray.size<_;simpa using hs) hm (Zs 1)).mono ?_;rintro e w' ⟨rfl,rfl⟩;have hsp:(splitB (⟨[c].toArray⟩:ByteArray) 0 (countB ⟨s.toArray⟩ ⟨[c].toArray⟩) ⟨s.toArray⟩).map (·.data.toList)=Go.Wd.cutC c s:=by
  rw[splitB_data];show splitK [c] 0 (count s [c]) s=_;rw[count_one];exact zqZ c s.length s (Zs _)
 have hlen:=splitB_all (⟨[c].toArray⟩:ByteArray) (Zs 1) 0 _ ⟨s.toArray⟩ rfl;generalize hSB:splitB (⟨[c].toArray⟩:ByteArray) 0 (countB ⟨s.toArray⟩ ⟨[c].toArray⟩) ⟨s.toArray⟩=SB at hsp hlen;have hcv:qA (zJ (Go.Wd.cutC c s))=SB.map Value.string:=by
  rw[zmw,<-hsp,Y9];refine Y4 fun x _=>?_
  show Value.string ⟨x.data.toList.toArray⟩=Value.string x;rw[ZK]
 have hl2:(Go.Wd.cutC c s).length=SB.length:=by rw[<-hsp,Zg]
 have hcl:(countB (⟨s.toArray⟩:ByteArray) ⟨[c].toArray⟩)<=s.length:=by
  have:=countB_le (⟨[c].toArray⟩:ByteArray) (Zs 1) s.length ⟨s.toArray⟩ (by show s.toArray.size<=_;simp);have h2:(⟨s.toArray⟩:ByteArray).size=s.length:=by show s.toArray.size=_;simp
  omega
 refine⟨_,rfl,⟨by rw[(zmv _).clen,yB],.inr ⟨w.heap.size,SB.length,(SB.map Value.string).toArray,?_,Zs _,alloc_get _ _,by omega,?_,by simp,?_⟩⟩,?_⟩
 ·rw[hl2,hlen]
 ·unfold maxLen;omega
 ·rw[hcv,hl2];simp;rw[Z6 (by simp)]
 ·exact(Below.refl _ w).alloc (Zs _) _
theorem c91 (s:Txt) (c:UInt8) (hs:s.length<4294967281):Spec Tryz.prog 91 [.str s,.str [c]] (fun r=>r=.k (.newl 9 1 none (zJ (Go.Wd.cutC c s)))):=by
 refine⟨rH (by kernel_rfl),fun w Z vs hG hz ha=>?_⟩;obtain⟨vl⟩:=vs
 match vl,ha with
 |[],ha=>exact absurd ha.1 (by simp)
 |[_],ha=>exact absurd ha.1 (by simp)
 |_::_::_::_,ha=>exact absurd ha.1 (by simp)
 |[v,v2],ha=>
  have e1:=uQ (ha.2 0 _ v rfl rfl).2.2;have e2:=uQ (ha.2 1 _ v2 rfl rfl).2.2;subst e1 e2;refine(zq0 s c hs hG).mono ?_;rintro e w' ⟨v,rfl,ho,hb⟩;exact⟨_,_,rfl,rfl,fun τ=>rfl,zpA hG (xM hb) (zpB (zmv _) ho (by rw[yB]))⟩
theorem c54 (s:Txt) (hs:s.length<4294967281):Spec Tryz.prog 54 [.str s] (fun v=>v=lst 1 (zJ (splitW s))):=by
 refine Spec.of_awlP hf54 okf54 (by simp) fun S hS=>?_
 unfold splitW at hS;by_cases h0:s=[]
 ·subst h0
  rw[if_pos rfl] at hS;simp only[Qs,BEq.rfl,ZV,Za,Zx,Ψ54];exact hS _ rfl
 ·rw[if_neg h0] at hS
  simp only[h0,Qs,forall_const,BEq.rfl,ZV,Za,Zx,Ψ54];refine zqC (c91 s 32 hs) ?_ (ha:=by rfl);simp only[Qs,ZV,Zx];exact hS _ (by rw[wD];exact congrArg V.k (qB (wD _) 1 9))
theorem s60 (l:List Txt) (hl:l.length<=1000000):Spec Tryz.prog 60 [lst 1 (zJ l)] (fun r=>r=.k (.newl 9 1 none (zJ l))):=by
 refine⟨rH (by kernel_rfl),fun w Z vs hG hz ha=>?_⟩;obtain⟨vl⟩:=vs
 match vl,ha with
 |[],ha=>exact absurd ha.1 (by simp)
 |_::_::_,ha=>exact absurd ha.1 (by simp)
 |[v],ha=>
  obtain⟨p,k,rfl,q,m⟩:=(zmv l).slice (ha.2 0 _ v rfl rfl).2.2;have hcl:=(zmv l).clen;by_cases h0:l=[]
  ·subst h0
   have conc: ∀v' w',w'.ownsRow w.heap.size 9 1 v' 0 []->Below w.heap.size w w'-> ∃v_1 r,Ending.returned v'=.returned v_1/\r=V.k (.newl 9 1 none (zJ []))/\(∀τ,r.noRef τ=true)/\mN (base w) Z r v_1 w':=fun v' w' ho hb=>
    ⟨_,_,rfl,rfl,fun τ=>rfl,zpA hG (xM hb) (zpB (rows:=zJ []) (zmv []) ho rfl)⟩
   cases p with
   |none=>
    refine(Any.slices_Clone_string_nil Tryz.laysClone 0 k w).mono ?_;rintro e w' ⟨rfl,rfl⟩;exact conc _ _ ⟨rfl,.inl ⟨rfl,rfl⟩⟩ (Below.refl _ _)
   |some a=>
    refine(Any.slices_Clone_string_zero Tryz.laysClone a k w).mono ?_;rintro e w' ⟨v',rfl,ho,_,hb⟩;exact conc _ _ ho hb
  ·have hpos:0<(zJ l).length:=by rw[yB];exact Yd.2 h0
   obtain⟨b,o,rfl,g⟩:=q hpos;have hcs:qA (zJ l)=(l.map fun s=>(⟨s.toArray⟩:ByteArray)).map Value.string:=by rw[zmw,Y9];rfl
   refine(Any.slices_Clone_string Tryz.laysClone b o (zJ l).length k (l.map fun s=>(⟨s.toArray⟩:ByteArray)) w (by rw[yB,Zg];exact Zs _) (by rw[yB];omega) ?_).mono ?_
   ·intro j hj
    refine g j _ ?_;rw[hcs,Zv,Zi,Zh hj];rfl
   ·rintro e w' ⟨v',rfl,ho,_,hb⟩
    refine⟨_,_,rfl,rfl,fun τ=>rfl,zpA hG (xM hb) (zpB (n:=(zJ l).length) (zmv l) ?_ rfl)⟩;rw[hcs];rw[Z6 (by rw[yB,Zg];exact Zs _)] at ho;exact ho
end Go.Abs
set_option maxRecDepth 100000
set_option maxHeartbeats 8000000
namespace Go.Abs
open Go.Proofs Go.RowKit Go.Lib Go.Wd Go.Wire Go.Ex
theorem c60 (l:List Txt) (hl:l.length<=1000000):Spec Tryz.prog 60 [lst 1 (zJ l)] (fun r=>r=.k (.newl 9 1 none (zJ l))):=s60 l hl
theorem zq1 (l:List Txt):(zC 1 (zJ l)).norm=zC 1 (zJ l):=yG (f:=fun s:Txt=>[C.str s]) (fun _=>rfl) 1 l
theorem zq2 {l:List Txt} (h:l≠[]):C.list 1 none (zJ l)=zC 1 (zJ l):=by
 cases l with
 |nil=>exact absurd rfl h
 |cons a l=>rfl
theorem zqo: ∀R:List (List C),(C.normRows R).length=R.length
 |[]=>rfl
 |a::R=>by rw[C.normRows,Zn,zqo R,Zn]
theorem zpN (r:List C): ∀R:List (List C),C.normRows (R++[r])=C.normRows R++[C.normRow r]
 |[]=>rfl
 |a::R=>by rw[ZR,C.normRows,zpN r R,C.normRows,ZR]
theorem zq3 {n:Txt} {W:List (List Txt)} {R:List (List C)} {b:Bool} (h:C.normRows R=W.map xX):C.normRow [.str n,.list 1 (some b) R]=zR ⟨n,W⟩:=by
 have e:R.isEmpty=(W.map xX).isEmpty:=by
  rw[<-h];cases R<;>rfl
 simp only[C.normRow,C.norm,h,e];rfl
theorem zq4 (s:Txt):C.normRow [C.list 1 (some false) [[C.str s]]]=xX [s]:=rfl
theorem zq5 {d:Dcm} {k i:Nat} {ws:List Txt} (hi:i<d.flds.length) (hi2:i<(zo8 d k ws).flds.length):(zo8 d k ws).flds[i]=if i=k then⟨d.flds[i].name,zo4 ws⟩ else d.flds[i]:=by
 have hl:(d.flds.set k ⟨(d.flds.getD k yT).name,zo4 ws⟩).length=d.flds.length:=YY;refine(List.getElem_of_eq (show(zo8 d k ws).flds=d.flds.set k ⟨(d.flds.getD k yT).name,zo4 ws⟩ from rfl) hi2).trans ?_;rw[List.getElem_set];by_cases e:k=i
 ·subst e
  rw[if_pos rfl,if_pos rfl,Zi,Zh hi];rfl
 ·rw[if_neg e,if_neg (Ne.symm e)]
theorem zq6 {d:Dcm} {k:Int} {t:Txt} (h:docE d≠0):setE d k t=docE d:=by unfold setE;rw[if_pos h]
theorem zq7 {d:Dcm} {k:Int} {t:Txt} (h:docE d=0) (hk: ¬(0<=k/\k<d.flds.length)):setE d k t=4:=by unfold setE;rw[if_neg (fun q=>q h),if_neg hk]
theorem zq8 {d:Dcm} {k:Int} {t:Txt} (h:docE d=0) (hk:0<=k/\k<d.flds.length) (hw:(splitW t).length>8\/(splitW t).all vM=false):setE d k t=2:=by unfold setE;rw[if_neg (fun q=>q h),if_pos hk,if_pos hw]
theorem zqp {d:Dcm} {k:Int} {t:Txt} (h:docE d=0) (hk:0<=k/\k<d.flds.length) (hw: ¬((splitW t).length>8\/(splitW t).all vM=false)):setE d k t=0:=by unfold setE;rw[if_neg (fun q=>q h),if_pos hk,if_neg hw]
theorem zq9 (W:List Txt):(W.any fun s=> !vM s)= !W.all vM:=by
 induction W with
 |nil=>rfl
 |cons a W ih=>rw[List.any_cons,Ys,ih,Bool.not_and]
theorem c26 (d:Dcm) (hd:DcmS d) (k:Int) (t:Txt) (ht:t.length<4294967281):Spec Tryz.prog 26 [.agg (zV d),.int .i64 k,.str t] (fun v=>v=.tup [.agg (zV (zpj d k t)),.int .i64 (setE d k t)]):=by
 refine Spec.of_awlP hf26 okf26 (by simp) fun S hS=>?_
 have g54:=c54 t ht;have g55:=c55 d hd;have g56:=c56 d hd k;have hbad: ∀e,setE d k t=e->e≠0->S (.tup [.agg [.str [],.list 0 none []],.int .i64 e]):=fun e he h0=>hS _ (by unfold zpj;rw[he,if_neg h0];rfl)
 have hgood:setE d k t=0-> ∀r:V,r.fz.nrm=.tup [.agg (zV (zo8 d k.toNat (splitW t))),.int .i64 0]->S r:=fun he r hr=>hS r (by unfold zpj;rw[he,if_pos rfl];exact hr)
 have eD:=zq6 (d:=d) (k:=k) (t:=t);have eN:=zq7 (d:=d) (k:=k) (t:=t);have eF:=zq8 (d:=d) (k:=k) (t:=t);have eO:=zqp (d:=d) (k:=k) (t:=t);clear hS;generalize setE d k t=E at hbad hgood eD eN eF eO;have g57:=fun(h8:(splitW t).length<=8)=>c57 (g:=58) (p:=fun s=> !vM s) (splitW t) (fun s _=>c58 s) (by omega)
 simp only[zq9] at g57;have hn:[C.str d.kind,zC 2 (d.flds.map zR)]=zV d:=rfl;generalize splitW t=W at g54 g57 hgood eF eO;rw[<-hn] at g55 g56⊢;have hfl:=hd.fs;simp only[Qs,bne_iff_ne,ne_eq,Zd,Zt,Za,Ψ26];refine xI g54 ?_ (ha:=by rfl);simp only[Qs,Zd,Za,Ψ26];refine zF g55 ?_ (ha:=by simp only[Zl,Zq,zB,V.norm,C.norm,C.normRow,yG wO]<;>rfl);by_cases h0:docE d=0
 ·simp only[h0,Qs,Zd,Za,Y6,Ψ26]
  refine zF g56 ?_ (ha:=by simp only[Zl,Zq,zB,V.norm,C.norm,C.normRow,yG wO]<;>rfl);by_cases hk:0<=k/\k<d.flds.length
  ·have e1:decide (docE d=0/\0<=k/\k<d.flds.length)=true:=decide_eq_true ⟨h0,hk⟩
   by_cases h8:W.length<=8
   ·have c8: ¬(W.length:Int)>8:=by omega
    simp only[e1,c8,yB,Qs,Za,Ψ26];refine pC (g57 h8) ?_ (ha:=by simp only[Zl,Zq,zB,V.norm,zO,C.norm,wD]<;>rfl);cases hv:W.all vM with
    |false=>
     simp only[Qs,zlt,Zk,Zd,Z5,Za,Ψ26];exact hbad 2 (eF h0 hk (.inr hv)) (by decide)
    |true=>
     have he:=eO h0 hk (by rw[hv];simp;omega);simp only[zI,Qs,bne_iff_ne,ne_eq,Zk,Zd,Zt,Zm,Za,Zg,zpQ,zpR,zpP,Ψ26];obtain⟨n,rfl⟩: ∃n:Nat,k=(n:Int):=⟨k.toNat,by omega⟩;rw[Yf] at hgood;have hnk:n<d.flds.length:=by omega
     obtain⟨D',hD'⟩: ∃D',zo8 d n W=D':=⟨_,rfl⟩;have hDl:D'.flds.length=d.flds.length:=by rw[<-hD'];exact YY
     have hDk:D'.kind=d.kind:=by rw[<-hD'];rfl
     have hat': ∀i (hi:i<d.flds.length) (hi2:i<D'.flds.length),D'.flds[i]=if i=n then⟨d.flds[i].name,zo4 W⟩ else d.flds[i]:=fun i hi hi2=>by
      subst hD';exact zq5 hi hi2
     rw[hD'] at hgood;rw[uu f26l52.eq_1];refine yA (fun x:Nat×List (List C)=>[(1,.int .i64 n),(6,.k (.ptr 6 0)),(8,lst 1 (zJ W)),(10,.k (.ptr 10 0)),(46,lst 2 (d.flds.map zR)),(47,.int .i64 d.flds.length),(48,.int .i64 x.1)]) (fun x=>[(6,.var 58 [.c (.str []),.c (.list 0 (some true) [])]),(10,.var 58 [.c (.str d.kind),.own 26010]),(26010,.arr 107 2 (some x.2.isEmpty) x.2)]) (fun x=>x.1<=d.flds.length/\x.2.length=x.1/\C.normRows x.2=(D'.flds.take x.1).map zR) (fun x=>d.flds.length-x.1) (0,[]) rfl rfl ⟨ZB _,rfl,rfl⟩ ?_;rintro⟨i,R⟩ ⟨hi,hRl,hRn⟩;simp only[] at hi hRl hRn;by_cases hlt:i<d.flds.length
     ·have d1:(i:Int)<d.flds.length:=by omega
      have c4:IntKind.i64.wrap ((i:Int)+1)=(i:Int)+1:=wrap_in (by omega) (by omega);have hat:=oL hlt;have hF:=(oM hd h0).fld (Zy hlt);have hf12:=(oM hd h0).fs;have hw8:=hF.ws;have hwE:(D'.flds.take (i+1)).map zR=(D'.flds.take i).map zR++[zR ⟨d.flds[i].name,if i=n then zo4 W else d.flds[i].words⟩]:=by
       have hi2:i<D'.flds.length:=by omega
       have e:D'.flds[i]=⟨d.flds[i].name,if i=n then zo4 W else d.flds[i].words⟩:=by rw[hat' i hlt hi2];split<;>rfl
       rw[ZQ hi2,ZW,e];rfl
      have hsp:=hF.sp;clear hF;simp only[d1,hat,zI,Qs,bne_iff_ne,ne_eq,Zk,Zd,Zt,Zm,Za,Zg,zpQ,zpR,zpP,Ψ26];generalize d.flds[i]=f at hw8 hwE hsp;rw[uu f26l37.eq_1];refine yA (fun j:Nat=>[(1,.int .i64 n),(6,.k (.ptr 6 0)),(8,lst 1 (zJ W)),(10,.k (.ptr 10 0)),(11,.int .i64 i),(13,.k (.ptr 13 0)),(46,lst 2 (d.flds.map zR)),(47,.int .i64 d.flds.length),(48,.int .i64 i),(57,lst 1 (f.words.map xX)),(58,.int .i64 f.words.length),(59,.int .i64 j)]) (fun j=>[(6,.var 58 [.c (.str []),.c (.list 0 (some true) [])]),(10,.var 58 [.c (.str d.kind),.own 26010]),(13,.var 107 [.c (.str f.name),.own 26013]),(26010,.arr 107 2 (some R.isEmpty) R),(26013,.arr 109 1 (some (if i=n then([]:List (List Txt)) else f.words.take j).isEmpty) ((if i=n then([]:List (List Txt)) else f.words.take j).map xX))]) (fun j=>j<=f.words.length) (fun j=>f.words.length-j) 0 rfl (by simp;rfl) (ZB _) ?_;intro j hj;by_cases hjt:j<f.words.length
      ·have k1:(j:Int)<f.words.length:=by omega
       have k4:IntKind.i64.wrap ((j:Int)+1)=(j:Int)+1:=wrap_in (by omega) (by omega);have hws:=lX hjt;have hwj:=hsp _ (Zy hjt);have g60:=c60 f.words[j] (by omega);by_cases hin:i=n
       ·subst hin
        simp only[k1,k4,hws,zI,Qs,zlg,zpi,zlk,zlt,forall_const,bne_iff_ne,ne_eq,Zk,Zd,Zt,Za,Zg,Ψ26];exact Next.intro (j+1) rfl (by first|rfl|(simp;rfl)) (by omega) (by omega)
       ·have m1: ¬(i:Int)=(n:Int):=by omega
        simp only[k1,k4,hws,hin,m1,zI,Qs,zlg,zpi,zlk,forall_const,bne_iff_ne,ne_eq,Zk,Zd,Zt,Za,Zg,Ψ26];refine zg6 g60 ?_ (ha:=by simp only[Zl,Zq,zB,V.norm,zq1]<;>rfl);simp only[k1,k4,hws,hin,m1,zI,Qs,zk7,cA,zk9,zla,zlg,zlk,cI,zlo,zpx,zpy,zqx,reduceCtorEq,forall_eq,Zk,ZH,Zd,Zt,Zm,Z5,Za,Zg,Zx];have hsn:(f.words.take (j+1)).map xX=(f.words.take j).map xX++[[.list 1 none (zJ f.words[j])]]:=by
         rw[ZQ hjt,ZW,zq2 (by intro e;rw[e] at hwj;simp at hwj)];rfl
        have hem:(f.words.take (j+1)).isEmpty=false:=by
         have hl:(f.words.take (j+1)).length=j+1:=by rw[Yt];omega
         cases hq:f.words.take (j+1) with
         |nil=>rw[hq] at hl;simp at hl
         |cons=>rfl
        exact⟨by simp;omega,by simp;omega,Next.intro (j+1) rfl (by simp only[hsn,hem];rfl) (by omega) (by omega)⟩
      ·obtain rfl:j=f.words.length:=by omega
       have k1: ¬(f.words.length:Int)<f.words.length:=by omega
       rw[YN];simp only[k1,yB,Qs,Zt,Za,Ψ26];rw[uu f26l19.eq_1];refine yA (fun x:Nat×List (List C)=>[(1,.int .i64 n),(6,.k (.ptr 6 0)),(8,lst 1 (zJ W)),(10,.k (.ptr 10 0)),(11,.int .i64 i),(13,.k (.ptr 13 0)),(46,lst 2 (d.flds.map zR)),(47,.int .i64 d.flds.length),(48,.int .i64 i),(76,lst 1 (zJ W)),(77,.int .i64 W.length),(78,.int .i64 x.1)]) (fun x=>[(6,.var 58 [.c (.str []),.c (.list 0 (some true) [])]),(10,.var 58 [.c (.str d.kind),.own 26010]),(13,.var 107 [.c (.str f.name),.own 26013]),(26010,.arr 107 2 (some R.isEmpty) R),(26013,.arr 109 1 (some x.2.isEmpty) x.2)]) (fun x=>x.1<=W.length/\x.2.length<=8/\C.normRows x.2=(if i=n then zo4 (W.take x.1) else f.words).map xX) (fun x=>W.length-x.1) (0,(if i=n then([]:List (List Txt)) else f.words).map xX) rfl (by first|rfl|(simp;rfl)) ⟨ZB _,by show((if i=n then([]:List (List Txt)) else f.words).map xX).length<=8;rw[Zg];split;exact ZB _;exact hw8,by show C.normRows ((if i=n then([]:List (List Txt)) else f.words).map xX)=(if i=n then zo4 (W.take 0) else f.words).map xX;split<;>first|rfl|exact zP oK _⟩ ?_;rintro⟨j,Q⟩ ⟨hj,hQl,hQn⟩;simp only[] at hj hQl hQn;by_cases hjt:j<W.length
       ·have k1:(j:Int)<W.length:=by omega
        have k4:IntKind.i64.wrap ((j:Int)+1)=(j:Int)+1:=wrap_in (by omega) (by omega);by_cases hin:i=n
        ·subst hin
         rw[if_pos rfl] at hQn hwE;have hq:Q.length=j:=by
          have:=congrArg List.length hQn;rw[zqo,Zg] at this;rw[this];unfold zo4;rw[Zg,Yt];omega
         simp only[k1,k4,uI hjt,yB,Qs,zlg,zpi,zlk,zpx,zpy,forall_eq,bne_iff_ne,ne_eq,BEq.rfl,Zk,ZH,Zd,Zt,Zm,Z5,Za,Zx,zpS,Ψ26,tY,tP,tQ];have hne:(Q++[[C.list 1 (some false) [[C.str W[j]]]]]).isEmpty=false:=by simp
         refine⟨by omega,by omega,Next.intro (j+1,Q++[[C.list 1 (some false) [[C.str W[j]]]]]) rfl (by simp only[hne];rfl) ⟨by simp only[];omega,by simp;omega,?_⟩ (by simp only[];omega)⟩;show C.normRows (Q++[[C.list 1 (some false) [[C.str W[j]]]]])=(zo4 (W.take (j+1))).map xX;rw[zpN,hQn,zq4,ZQ hjt];unfold zo4;rw[ZW,ZW];rfl
        ·have m1: ¬(i:Int)=(n:Int):=by omega
         rw[if_neg hin] at hQn;simp only[k1,k4,uI hjt,m1,yB,Qs,forall_const,Za,Ψ26];exact Next.intro (j+1,Q) rfl rfl ⟨by simp only[];omega,hQl,by show C.normRows Q=(if i=n then zo4 (W.take (j+1)) else f.words).map xX;rw[if_neg hin];exact hQn⟩ (by simp only[];omega)
       ·obtain rfl:j=W.length:=by omega
        have k1: ¬(W.length:Int)<W.length:=by omega
        rw[YN] at hQn;simp only[k1,c4,Qs,zlg,zpi,zlk,zpx,zpy,forall_eq,bne_iff_ne,ne_eq,Zk,ZH,Zd,Zt,Zm,Z5,Za,Zx,zpS,Ψ26];have hn2:C.normRows (R++[[C.str f.name,C.list 1 (some Q.isEmpty) Q]])=(D'.flds.take (i+1)).map zR:=by
         rw[zpN,hRn,hwE,zq3 (W:=if i=n then zo4 W else f.words) hQn]
        have hne:(R++[[C.str f.name,C.list 1 (some Q.isEmpty) Q]]).isEmpty=false:=by simp
        exact⟨by omega,by omega,Next.intro (i+1,R++[[C.str f.name,C.list 1 (some Q.isEmpty) Q]]) rfl (by simp only[hne];rfl) ⟨by simp only[];omega,by simp only[Zu,Zn,ZF];omega,hn2⟩ (by simp only[];omega)⟩
     ·obtain rfl:i=d.flds.length:=by omega
      have d1: ¬(d.flds.length:Int)<d.flds.length:=by omega
      rw[Z6 (by omega)] at hRn;simp only[d1,Qs,zpi,zqt,zqu,zqv,zqw,lO,zqy,zqz,zlt,Zk,ZV,Zd,Z5,Za,Zx,Ψ26];refine hgood he _ ?_;rw[hRn];unfold zV;rw[hDk];show V.tup [(V.agg [C.str d.kind,C.list 2 none (D'.flds.map zR)]).nrm,_]=_;simp only[V.nrm,C.normRow,C.norm,zP wO];rfl
   ·have c8:(W.length:Int)>8:=by omega
    simp only[e1,c8,yB,Qs,zlt,Zk,Zd,Z5,Za,Ψ26];exact hbad 2 (eF h0 hk (.inl (by omega))) (by decide)
  ·have e1:decide (docE d=0/\0<=k/\k<d.flds.length)=false:=decide_eq_false fun q=>hk q.2
   simp only[e1,Qs,zlt,Zk,Zd,Z5,Za,Ψ26];exact hbad 4 (eN h0 hk) (by decide)
 ·simp only[h0,Qs,zlt,forall_const,Zk,Zd,Z5,Za,Ψ26]
  exact hbad _ (eD h0) h0
theorem zra {l:List Pln} {i:Nat} (h:i<l.length):(vF l).getD i []=[.str (l.getD i zmZ).kind,zC 1 (zJ (l.getD i zmZ).names),zC 1 (zJ (l.getD i zmZ).texts)]:=by
 simp[vF,yM,h]
theorem zrb {l:List Txt} {i:Nat} (h:i<l.length):(zJ l).getD i []=[.str (l.getD i [])]:=by simp[zJ,h]
theorem zrc: ∀ys:List (List C),nlApp (some false) ys=some false
 |[]=>rfl
 |_::_=>rfl
theorem zqq {rows:List (List C)} (h:C.normRows rows=rows) (sz:Nat) (b:Bool):(C.list sz (some b) rows).norm=zC sz rows:=by
 simp[C.norm,h,zC]
theorem zrd {E:List Dcm} {i:Nat} {x:Dcm} (h:i<E.length):((E.set i x).map zV).getD i []=zV x:=by
 have h2:i<((E.set i x).map zV).length:=by rw[Zg,YY];exact h
 rw[Zi,Zh h2,List.getElem_map,List.getElem_set_self];rfl
theorem zre (L:List Dmd) (D:List Dcm) (hI: ∀m∈L,DmdI m) (hD:sP D) (a:Nat) (ha:a<65536):Spec Tryz.prog 6 [lst 8 (L.map zQ),lst 2 (D.map zV),.int .u16 (a:Int)] (fun v=>v=.bool true):=by
 refine Spec.of_awlS hf6 okf6 (by simp) fun S hS=>?_
 have g9:=c9 L D;have g13:=c13 D hD;by_cases hF:mI L D=true
 ·obtain⟨hA,h128⟩:=gU hI hF
  have hL:=hA.l8;rw[hF] at g9;have g20:=c20 L D hA;by_cases h0:lookE L D=0
  ·have hcn:=kJ h0
   have hG:GoodD D:=⟨hA.dc,hcn⟩;have hpos:=ziQ hA.dc hcn;have h128:=h128 hcn;have hn:=(rM hcn).n;have hD8:=(rM hcn).len;have hir:a % xY D<xY D:=Xj _ hpos;have hp:=zol hA ((a % xY D:Nat):Int);have g14:=c14 D hA.dc ((a % xY D:Nat):Int);obtain⟨r1,r2⟩:=zoq hcn hir;rw[r1,r2] at g14;rw[r2] at hp;have hPos:=zp8 hG (a % xY D);have hSA:=zqY hA hG hir;obtain⟨hSG,hSn,hSr⟩:=zql hG hPos;have g15:=c15 L (rdsD D (a % xY D)) (by omega) hp;have hfs:(zh5 L (rdsD D (a % xY D))).length<=8:=by
    have:=zm5 L (rdsD D (a % xY D)) L.length;rw[zm6];omega
   have hrem:(a:Int).tmod ((xY D:Nat):Int)=((a % xY D:Nat):Int):=by rw[Int.tmod_eq_emod_of_nonneg (by omega)];exact(Int.natCast_emod a (xY D)).symm
   rw[hn,hcn] at g13;rw[h0] at g20;generalize rdsD D (a % xY D)=p at g14 hp g15 hfs hPos hSA hSG hSn hSr;have hlS:lookE L (zpc D p)=0:=by
    unfold lookE at h0⊢;split at h0
    ·rename_i hf;rw[if_pos hf];exact hSG.c
    ·cases h0
   have g10:=c10 L (zpc D p) hSA;have g13b:=c13 (zpc D p) hSG.s;rw[(rM hSG.c).n,hSG.c,hSn] at g13b;have hFL:=l6F hSA hlS hSn hSr;rw[hlS] at g10;have hpl:=zpL hPos;have hw64:IntKind.i64.wrap ((a:Int))=(a:Int):=wrap_in (by omega) (by omega);have hw65:IntKind.i64.wrap (((a % xY D:Nat)):Int)=((a % xY D:Nat):Int):=wrap_in (by omega) (by omega);generalize a % xY D=ix at g14 hrem hir hw65;generalize hnR:xY D=n at g13 hpos h128 hir hrem;have e1: ¬(n:Int)<1:=by omega
   have e2: ¬(n:Int)=0:=by omega
   have e3:((p.length:Int) !=(D.length:Int))=false:=by rw[hpl];simp
   simp only[Qs,Zd,Ψ6];refine zF c8 ?_ (ha:=by rfl);simp only[Qs,Za,Ψ6];refine zF g13 ?_ (ha:=by simp only[Zl,Zq,zB,V.norm,zO,zP yU,zP xO,C.norm]<;>rfl);simp only[Qs,Za,Ψ6];refine zF g9 ?_ (ha:=by simp only[Zl,Zq,zB,V.norm,zO,zP yU,zP xO,C.norm]<;>rfl);simp only[show((0:Int) !=0)=false from rfl,Qs,Za];refine zF g20 ?_ (ha:=by simp only[Zl,Zq,zB,V.norm,zO,zP yU,zP xO,C.norm]<;>rfl);simp only[show((0:Int) !=0)=false from rfl,e1,e2,hw64,hrem,Qs,zcJ,zlc,zdV,ne_eq,Za,Ψ6];refine xI g14 ?_ (ha:=by simp only[Zl,Zq,zB,V.norm,zO,zP yU,zP xO,C.norm]<;>rfl);simp only[show((0:Int) !=0)=false from rfl,e3,znc,zI,zrc,Qs,ze3,implies_true,Zk,Zd,Yg,Za,zlC,Zg,Zx,implies_true,Ψ6];refine⟨by omega,by omega,?_⟩;rw[uu f6l59.eq_1];refine yA (fun i:Nat=>[(0,lst 8 (L.map zQ)),(7,.bool true),(10,lst 3 (vF p)),(12,.k (.own 66)),(13,.int .i64 i)]) (fun i=>[(66,.arr 58 2 (some false) ((certN D p i).map zV))]) (fun i=>i<=D.length) (fun i=>D.length-i) 0 rfl rfl (ZB _) ?_;intro i hi;have hO:=zps hG.docs hPos i hi;have hEl:=hO.l;by_cases hlt:i<D.length
   ·have d1:(i:Int)<D.length:=by omega
    have c4:IntKind.i64.wrap ((i:Int)+1)=(i:Int)+1:=wrap_in (by omega) (by omega);have hgd:=hO.o i (Zs _);obtain⟨u1,u2⟩:=hG.docs _ (zqj hlt);have hpp:=zpK i hPos hlt;have hsucc:certN D p (i+1)=(certN D p i).set i (zo5 (D.getD i zpa) (p.getD i zmZ).texts (D.getD i zpa).flds.length):=rfl;have hself:(certN D p i).set i (D.getD i zpa)=certN D p i:=by
     rw[<-hgd,Zi,Zh (by omega)];exact List.set_getElem_self (by omega)
    have hpt:=zqh hpp.ts;have hwd:=fun k (hk:k<(D.getD i zpa).flds.length)=>zqk u1 u2 hpp hk
    have hpo:=zpr u1 u2 hpp;have hpln:=zra (l:=p) (i:=i) (by omega);have htx: ∀s∈(p.getD i zmZ).texts,s.length<=1000000:=(hp.2 _ (by rw[Zi,Zh (by omega)];exact Zy _)).tx;have hf12:(D.getD i zpa).flds.length<=12:=(oM u1 u2).fs;change ((p.getD i zmZ).texts).length=_ at hpt;clear hO;generalize certN D p i=E at hEl hgd hself hsucc;generalize hd:D.getD i zpa=d at hgd hpp u1 u2 hsucc hself hpt hwd hpo hf12;change posP d (p.getD i zmZ) at hpp;change∀k,k<d.flds.length->(splitW ((p.getD i zmZ).texts.getD k [])).length<=8/\(splitW ((p.getD i zmZ).texts.getD k [])).all vM=true at hwd;change∀k,k<=d.flds.length->PartOk d (p.getD i zmZ) k at hpo;generalize p.getD i zmZ=q at hpln hpp hpt hwd hpo hsucc htx;simp only[d1,zI,hEl,Qs,zle,zlf,Za,Zg,Ψ6];rw[uu f6l49.eq_1];refine yA (fun k:Nat=>[(0,lst 8 (L.map zQ)),(7,.bool true),(10,lst 3 (vF p)),(12,.k (.own 66)),(13,.int .i64 i),(14,.int .i64 k)]) (fun k=>[(66,.arr 58 2 (some false) ((E.set i (zo5 d q.texts k)).map zV))]) (fun k=>k<=d.flds.length) (fun k=>d.flds.length-k) 0 rfl (by rw[show zo5 d q.texts 0=d from rfl,hself];rfl) (ZB _) ?_;intro k hk;have hset:=zrd (E:=E) (i:=i) (x:=zo5 d q.texts k) (by omega);have hidx:((i:Int)<((E.set i (zo5 d q.texts k)).map zV).length):=by rw[Zg,YY];omega
    by_cases hkt:k<d.flds.length
    ·have k1:(k:Int)<q.texts.length:=by omega
     have k4:IntKind.i64.wrap ((k:Int)+1)=(k:Int)+1:=wrap_in (by omega) (by omega);have hPk:=hpo k (by omega);obtain⟨w1,w2⟩:=hwd k hkt;have hmem:q.texts.getD k []∈q.texts:=by rw[Zi,Zh (by omega)];exact Zy _
     have ht6:=htx _ hmem;have hse:setE (zo5 d q.texts k) (k:Int) (q.texts.getD k [])=0:=zqp hPk.e (by rw[zpq];omega) (fun q=>q.elim (fun z=>by omega) (fun z=>by rw[w2] at z;cases z));have g26:=c26 (zo5 d q.texts k) hPk.s (k:Int) (q.texts.getD k []) (by omega);have hsd:zpj (zo5 d q.texts k) (k:Int) (q.texts.getD k [])=zo5 d q.texts (k+1):=by unfold zpj;rw[if_pos hse,Yf];rfl
     rw[hse,hsd] at g26;have hen:zV (zo5 d q.texts (k+1))=[.str (zo5 d q.texts (k+1)).kind,zC 2 ((zo5 d q.texts (k+1)).flds.map zR)]:=rfl;rw[hen] at g26;have hss:(E.set i (zo5 d q.texts k)).set i (zo5 d q.texts (k+1))=E.set i (zo5 d q.texts (k+1)):=List.set_set _;simp only[k1,d1,hpln,znc,yB,zrb (show k<q.texts.length by omega),hset,Qs,iL,zqr,zdb,zlh,zli,zlj,zd8,zd9,bne_iff_ne,ne_eq,Zd,Zt,Za,Zg,Ψ6,vv f6r41o0.eq_1,vv f6r41o1.eq_1,vv f6r41o2.eq_1,vv f6r41o3.eq_1,vv f6r41o4.eq_1,vv f6r41o5.eq_1,vv f6r41o6.eq_1,vv f6r41o7.eq_1,vv f6r41o8.eq_1,vv f6r41o9.eq_1,vv f6r41o10.eq_1,vv f6r41o11.eq_1,vv f6r41o12.eq_1,vv f6r41o13.eq_1,vv f6r41o14.eq_1,vv f6r41o15.eq_1,vv f6r41o16.eq_1,vv f6r41o17.eq_1,vv f6r41o18.eq_1,vv f6r41o19.eq_1,zqA,Ψ6];refine⟨by omega,by rw[YY];omega,by omega,?_⟩;refine zg6 g26 ?_ (ha:=by simp only[Zl,Zq,zB,V.norm,yU,C.norm]<;>rfl);simp only[k1,k4,d1,hpln,znc,yB,hset,show((0:Int) !=0)=false from rfl,Qs,zcg,zk2,iL,zk3,zk9,cC,zdh,zdq,zdr,zds,zdt,zdu,zdv,zd8,zd9,zll,zlm,zls,cJ,cK,cL,Zk,Zd,Za,Zg,Ψ6];refine⟨by rw[YY];omega,?_⟩;have hob:((E.set i (zo5 d q.texts k)).map zV).set i [.str (zo5 d q.texts (k+1)).kind,zC 2 ((zo5 d q.texts (k+1)).flds.map zR)]=(E.set i (zo5 d q.texts (k+1))).map zV:=by
      rw[<-hen,<-List.map_set,hss]
     exact Next.intro (k+1) rfl (by simp only[hob];rfl) (by omega) (by omega)
    ·obtain rfl:k=d.flds.length:=by omega
     have k1: ¬(d.flds.length:Int)<q.texts.length:=by omega
     simp only[k1,d1,hpln,znc,yB,c4,Qs,reduceCtorEq,Zd,Za,Ψ6];exact⟨by omega,Next.intro (i+1) rfl (by rw[hsucc];rfl) (by omega) (by omega)⟩
   ·obtain rfl:i=D.length:=by omega
    have d1: ¬(D.length:Int)<D.length:=by omega
    rw[show zpc D p=certN D p D.length from rfl] at g10 g13b hFL;rw[hFL] at g10;generalize certN D p D.length=E at hEl g10 g13b;clear hFL;generalize hFs:sR L p=F at g10;have hfi:zh5 L p=F.map fun(k:Nat)=>(k:Int):=by rw[<-hFs];rfl
    rw[hfi] at g15 hfs;rw[Zg] at hfs;simp only[d1,zI,hEl,Qs,zle,zlf,Za,Zg,Ψ6];refine xI g10 ?_ (ha:=by simp only[Zl,Zq,zB,V.norm,yG xO,zqq (zP yU E)]<;>rfl);simp only[Qs,Zk,Zd,Yg,Za,Ψ6];refine zF g13b ?_ (ha:=by simp only[Zl,Zq,zB,V.norm,zqq (zP yU E)]<;>rfl);simp only[Qs,Za,Ψ6];refine xI g15 ?_ (ha:=by simp only[Zl,Zq,zB,V.norm,zO,zP yU,zP xO,oT,C.norm]<;>rfl);simp only[uM,yL,Zg,show((0:Int) !=0)=false from rfl,Qs,forall_const,Za,Zg,Y6,Ψ6];have e8:((F.length:Int) !=(F.length:Int))=false:=by simp
    rw[uu f6l15.eq_1];refine yA (fun i:Nat=>[(7,.bool true),(17,lst 3 (xF (F.map fun(k:Nat)=>(⟨[(k:Int)],xU L [k] p,true⟩:Flw)))),(21,lst 1 (zM (F.map fun(k:Nat)=>(k:Int)))),(22,.int .i64 i)]) (fun _=>[]) (fun i=>i<=F.length) (fun i=>F.length-i) 0 rfl rfl (ZB _) ?_;intro i hi;by_cases hlt:i<F.length
    ·have k1:(i:Int)<F.length:=by omega
     have k4:IntKind.i64.wrap ((i:Int)+1)=(i:Int)+1:=wrap_in (by omega) (by omega);have h1:=zac (w:=F.map fun(k:Nat)=>(⟨[(k:Int)],xU L [k] p,true⟩:Flw)) (k:=i) (by rw[Zg];exact hlt);have h2:(F.map fun(k:Nat)=>(⟨[(k:Int)],xU L [k] p,true⟩:Flw)).getD i vG=⟨[(F[i]:Int)],xU L [F[i]] p,true⟩:=by simp[hlt]
     have h3:=zab (w:=F.map fun(k:Nat)=>(k:Int)) (k:=i) (by rw[Zg];exact hlt);have h4:(F.map fun(k:Nat)=>(k:Int)).getD i 0=(F[i]:Int):=by simp[hlt]
     rw[h2] at h1;rw[h4] at h3;have h5:(zM [(F[i]:Int)]).getD 0 []=[.int .i64 (F[i]:Int)]:=rfl;simp only[k1,k4,h1,h3,h5,uM,yL,Zg,Zn,ZF,Qs,zcY,zqs,forall_const,Zd,Zm,Za,Zg,Int.reduceLT,Ym,Y6,Ψ6];exact Next.intro (i+1) rfl rfl (by omega) (by omega)
    ·obtain rfl:i=F.length:=by omega
     have k1: ¬(F.length:Int)<F.length:=by omega
     simp only[k1,uM,Zg,Qs,Za,Zg,Ψ6];exact hS
  ·have hE:(lookE L D !=0)=true:=by rw[bne_iff_ne];exact h0
   by_cases hc:(cnts D).2.2=0
   ·have e1:((cnts D).2.2 !=0)=false:=by simp[hc]
    simp only[Qs,Zd,Ψ6];refine zF c8 ?_ (ha:=by rfl);simp only[Qs,Za,Ψ6];refine zF g13 ?_ (ha:=by simp only[Zl,Zq,zB,V.norm,zO,zP yU,zP xO,C.norm]<;>rfl);simp only[Qs,Za,Ψ6];refine zF g9 ?_ (ha:=by simp only[Zl,Zq,zB,V.norm,zO,zP yU,zP xO,C.norm]<;>rfl);simp only[e1,Qs,Za];refine zF g20 ?_ (ha:=by simp only[Zl,Zq,zB,V.norm,zO,zP yU,zP xO,C.norm]<;>rfl);simp only[hE,e1,Qs,Za,Ψ6];exact hS
   ·have e1:((cnts D).2.2 !=0)=true:=by rw[bne_iff_ne];exact hc
    simp only[Qs,Zd,Ψ6];refine zF c8 ?_ (ha:=by rfl);simp only[Qs,Za,Ψ6];refine zF g13 ?_ (ha:=by simp only[Zl,Zq,zB,V.norm,zO,zP yU,zP xO,C.norm]<;>rfl);simp only[Qs,Za,Ψ6];refine zF g9 ?_ (ha:=by simp only[Zl,Zq,zB,V.norm,zO,zP yU,zP xO,C.norm]<;>rfl);simp only[e1,Qs,Za,Ψ6];exact hS
 ·have hF:mI L D=false:=by simpa using hF
  rw[hF] at g9;simp only[Qs,Zd,Ψ6];refine zF c8 ?_ (ha:=by rfl);simp only[Qs,Za,Ψ6];refine zF g13 ?_ (ha:=by simp only[Zl,Zq,zB,V.norm,zO,zP yU,zP xO,C.norm]<;>rfl);simp only[Qs,Za,Ψ6];refine zF g9 ?_ (ha:=by simp only[Zl,Zq,zB,V.norm,zO,zP yU,zP xO,C.norm]<;>rfl);simp only[Qs,Za,Ψ6];exact hS
end Go.Abs
set_option maxRecDepth 100000
namespace Go.Abs
open Go.RowKit Go.Proofs Go.Wd Go.Wire Go.Ex
theorem zi3 {α:Type} {S:List C->Prop} (enc:α->List C) (Q:α->Prop) (hS: ∀r,S r-> ∃a,r=enc a/\Q a): ∀(rows:List (List C)),(∀r∈rows,S r)-> ∃l:List α,rows=l.map enc/\ ∀a∈l,Q a
 |[],_=>⟨[],rfl,fun _ h=>by cases h⟩
 |r::rows,h=>by
  obtain⟨a,ha,hq⟩:=hS r (h r (by simp));obtain⟨l,hl,hQ⟩:=zi3 enc Q hS rows (fun x hx=>h x (by simp[hx]));refine⟨a::l,by rw[ha,hl];rfl,fun x hx=>?_⟩;rcases ZH.1 hx with rfl|hx
  ·exact hq
  ·exact hQ x hx
theorem zi4 {m:Int} (h:(Lit.int .i64 m).wf=true): -9223372036854775808<=m/\m<=9223372036854775807:=by
 have:=(Lit.wf_int_iff _ _).1 h;simpa [IntKind.min,IntKind.max,IntKind.signed,IntKind.bits] using this
theorem zoz {n:Nat} {r:List C} (hr:yS Tryz.prog n 46 r): ∃x:Dmd,r=zQ x/\DmdI x:=by
 obtain⟨m,rs,_,rfl,h⟩:=iT Tryz.underlying46 hr
 match rs,h with
 |[x0,x1,x2,x3,x4,x5,x6,x7],⟨h0,h1,h2,h3,h4,h5,h6,h7,_⟩=>
  obtain⟨a0,rfl,_⟩:=iS Tryz.underlying3 h0;obtain⟨a1,rfl,_⟩:=pD Tryz.underlying9 h1;obtain⟨a2,rfl,_⟩:=pD Tryz.underlying9 h2;obtain⟨a3,rfl,_⟩:=pD Tryz.underlying9 h3;obtain⟨a4,rfl,_⟩:=pD Tryz.underlying9 h4;obtain⟨a5,rfl,_⟩:=pD Tryz.underlying9 h5;obtain⟨a6,rfl,q6⟩:=iS Tryz.underlying3 h6;obtain⟨a7,rfl,q7⟩:=iS Tryz.underlying3 h7;have w6:=zi4 q6;have w7:=zi4 q7;exact⟨⟨a0,a1,a2,a3,a4,a5,a6,a7⟩,rfl,w6.1,w6.2,w7.1,w7.2⟩
theorem zoA {n:Nat} {r:List C} (hr:yS Tryz.prog n 22 r): ∃l:List Dmd,uT Tryz.prog 22 r=lst 8 (l.map zQ)/\ ∀m∈l,DmdI m:=by
 obtain⟨m,rows,rfl,rfl,_,h⟩:=lV Tryz.underlying22 hr;obtain⟨l,rfl,hq⟩:=zi3 zQ DmdI (fun r hr=>zoz hr) rows h;exact⟨l,by simp only[uT,Tryz.underlying22,show Tryz.prog.cellsOf 46=8 by kernel_rfl],hq⟩
theorem zrf {n:Nat} {r:List C} (hr:yS Tryz.prog n 109 r): ∃x:List Txt,r=xX x/\x.length<=9223372036854775807/\ ∀s∈x,s.length<=9223372036854775807:=by
 obtain⟨m,rs,_,rfl,h⟩:=iT Tryz.underlying109 hr
 match rs,h with
 |[x0],⟨h0,_⟩=>
  obtain⟨_,rows,_,rfl,hl,h⟩:=lV Tryz.underlying51 h0;obtain⟨l,rfl,hq⟩:=zi3 (fun s:Txt=>[C.str s]) (fun s=>s.length<=9223372036854775807) (fun r hr=>by obtain⟨x,rfl,hx⟩:=pD Tryz.underlying9 hr;exact⟨x,rfl,hx⟩) rows h;exact⟨l,by rw[show Tryz.prog.cellsOf 9=1 by kernel_rfl];rfl,by simpa using hl,hq⟩
theorem zrg {n:Nat} {r:List C} (hr:yS Tryz.prog n 107 r): ∃x:Fld,r=zR x/\FldS x:=by
 obtain⟨m,rs,_,rfl,h⟩:=iT Tryz.underlying107 hr
 match rs,h with
 |[x0,x1],⟨h0,h1,_⟩=>
  obtain⟨a0,rfl,ha⟩:=pD Tryz.underlying9 h0;obtain⟨_,rows,_,rfl,hl,h⟩:=lV Tryz.underlying105 h1;obtain⟨l,rfl,hq⟩:=zi3 xX (fun x=>x.length<=9223372036854775807/\ ∀s∈x,s.length<=9223372036854775807) (fun r hr=>zrf hr) rows h;exact⟨⟨a0,l⟩,by rw[show Tryz.prog.cellsOf 109=1 by kernel_rfl];rfl,ha,by simpa using hl,hq⟩
theorem zrh {n:Nat} {r:List C} (hr:yS Tryz.prog n 58 r): ∃x:Dcm,r=zV x/\DcmS x:=by
 obtain⟨m,rs,_,rfl,h⟩:=iT Tryz.underlying58 hr
 match rs,h with
 |[x0,x1],⟨h0,h1,_⟩=>
  obtain⟨a0,rfl,ha⟩:=pD Tryz.underlying9 h0;obtain⟨_,rows,_,rfl,hl,h⟩:=lV Tryz.underlying56 h1;obtain⟨l,rfl,hq⟩:=zi3 zR FldS (fun r hr=>zrg hr) rows h;exact⟨⟨a0,l⟩,by rw[show Tryz.prog.cellsOf 107=2 by kernel_rfl];rfl,ha,by simpa using hl,hq⟩
theorem zri {n:Nat} {r:List C} (hr:yS Tryz.prog n 23 r): ∃l:List Dcm,uT Tryz.prog 23 r=lst 2 (l.map zV)/\sP l:=by
 obtain⟨m,rows,rfl,rfl,hl,h⟩:=lV Tryz.underlying23 hr;obtain⟨l,rfl,hq⟩:=zi3 zV DcmS (fun r hr=>zrh hr) rows h;exact⟨l,by simp only[uT,Tryz.underlying23,show Tryz.prog.cellsOf 58=2 by kernel_rfl],by simpa using hl,hq⟩
theorem zoF {n:Nat} {t:TypeId} {r:List C} {k:IntKind} (ht:Tryz.prog.underlying t=some (.int k)) (hk:k.signed=false) (hr:yS Tryz.prog n t r): ∃m:Nat,uT Tryz.prog t r=.int k (m:Int)/\m<2 ^ k.bits:=by
 obtain⟨m,rfl,h⟩:=iS ht hr;have:=(Lit.wf_int_iff _ _).1 h;simp[IntKind.min,IntKind.max,hk] at this;obtain⟨j,rfl⟩: ∃j:Nat,m=j:=⟨m.toNat,by omega⟩;refine⟨j,by simp only[uT,ht],?_⟩;have h2:((2 ^ k.bits:Nat):Int)=(2:Int) ^ k.bits:=by simp
 omega
end Go.Abs
set_option maxRecDepth 100000
namespace Go.Abs
section
variable {P : Program}
end
end Go.Abs
namespace Go.Proofs.YtpmicgjdckeejaaGreatDoor
open Go.Abs Go.RowKit Go.ChangeShapes Go.WideShapes Go.ChangeAt Go.WideMaps Go.WideElems Go.Ex
theorem own:ownKnob Tryz.prog.godebug=none:=by kernel_rfl
theorem kids:Kids Tryz.prog (· <Tryz.prog.types.size):=kids_rows (by kernel_rfl) (by kernel_rfl)
theorem full: ∀t e,t<Tryz.prog.types.size->Tryz.prog.underlying t=some (.slice e)->0<Tryz.prog.cellsOf e:=slices_full_of Tryz.prog (by kernel_rfl)
def gX:List TypeId:=[3,4,5,9,22,23,36,46,51,56,58,105,107,109]
theorem zoG:oH Tryz.prog gX=true:=by kernel_rfl
theorem zoH: ∀t∈gX,t<Tryz.prog.types.size:=by
 have:gX.all (fun t=>decide (t<Tryz.prog.types.size))=true:=by kernel_rfl
 simpa using this
abbrev gY:List (String×DataW Unit):=Rows.examineCertainRow.laid
theorem zoI {W:World} {name:String} {g:Nat} {cs:Array Value} (hn:Tryz.prog.globalNamed name=some g) (hv:W.var? Tryz.prog name=some cs): ∃t f,W.heap[g]?=some (.cells cs t f):=by
 unfold World.var? at hv;rw[hn,Y8] at hv;split at hv
 ·rename_i h
  cases hv;exact⟨_,_,h⟩
 ·cases hv
theorem zoJ {P:Program} {w:World} {g n:Nat} {t tE:TypeId} {zero:Array Value} {k:IntKind}
  (h:w.ShapedOpen P) (hg:g<P.globals.size) (h0:((begin P (fun _ _=>0) default).world.heap[g]?).bind Obj.row?=some (zero,t)) (hz:zero.size=n)
  (hb:P.buildable t=true) (hc:P.cellTypes P.depth t=some (List.replicate n tE)) (hu:P.underlying tE=some (.int k)):
  ∃cs T f,w.heap[g]?=some (.cells cs T f)/\ ∀i,i<n-> ∃z:Int,cs[i]?=some (.int k z):=by
 obtain⟨cs,hh,hs,hr⟩:=h.1 g zero t hg h0;obtain⟨ts,hts,_,hall⟩:=hr hb;rw[hc] at hts;cases hts;refine⟨cs,_,_,hh,fun i hi=>?_⟩;have h1:i<cs.size:=by omega
 obtain⟨u,hu',hok⟩:=hall i cs[i] (by simp[h1]);have:u=tE:=by simp[List.getElem?_replicate,hi] at hu';exact hu'.2.symm
 subst this;have hcell:cs[i]?=some cs[i]:=by simp[h1]
 rw[hcell];unfold Cell.ok at hok;rw[hu] at hok;cases hv:cs[i]<;>rw[hv] at hok<;>simp at hok
 case int k' n=>exact⟨n,by rw[hok.1]⟩
theorem zi5 {W:World} (hL:laidMet Tryz.prog gY W) {name:String} {g n:Nat} {T:TypeId} {zs:List Int} {d:DataW Unit} (hm:(name,d)∈gY) (hd0:d=Lib.tabData .u8 zs) (hn:Tryz.prog.globalNamed name=some g)
  (hT:(Tryz.prog.globals[g]?).map (·.type)=some T) (ht:Tryz.prog.underlying T=some (.array n 5)) (hct:Tryz.prog.cellsOf T=n):g<W.heap.size/\ ∃b,W.heap[g]?=some b/\uN (zs.map fun z=>Value.int .u8 z).toArray b:=by
 obtain⟨g',t',cs,fuel,p,hg',hty,hvar,hd⟩:=Lib.laidMet.reads hL (n:=name) hm;obtain rfl:=Yj (hn.symm.trans hg');obtain rfl:=Yj (hT.symm.trans hty);obtain⟨t,f,hb⟩:=zoI hn hvar;refine⟨(Zo.1 hb).1,_,hb,?_⟩;subst hd0;have e:=Lib.cells_of_tab ht Tryz.underlying5 (by kernel_rfl) hct hd;show cs=_;rw[<-e]
theorem zoK {W:World} (hL:laidMetH Tryz.prog gY W) (hsh:W.ShapedOpen Tryz.prog):yI (Go.Abs.base W):=by
 rw[MakeChecks.laidMetH_plain _ _ _ (by kernel_rfl)] at hL;refine⟨(fun _ _ h=>nomatch h),fun g p hg=>?_⟩
 match g,hg with
 |2,hg=>
  cases hg;obtain⟨m,hm⟩:=cell_of_shapedOpen_int (zero:= #[.int .i64 0]) (t:=3) (k:=.i64) (g:=2) hsh (of_decide_eq_true (by kernel_rfl)) (by kernel_rfl) rfl (by kernel_rfl) (by kernel_rfl) Tryz.underlying3;unfold World.cell? at hm;cases hb:W.heap[2]? with
  |none=>rw[hb] at hm;simp at hm
  |some ob=>
   refine⟨(Zo.1 hb).1,ob,rfl,?_⟩;rw[hb] at hm;cases ob with
   |cells cs t f=>exact⟨_,by simpa using hm,m,rfl⟩
   |_=>simp at hm
 |0,hg=>cases hg;exact zi5 hL (name:= "math/bits.deBruijn32tab") (T:=208) (.head _) rfl (by kernel_rfl) (by kernel_rfl) Tryz.underlying208 (by kernel_rfl)
 |1,hg=>cases hg;exact zi5 hL (name:= "math/bits.deBruijn64tab") (T:=209) (.tail _ (.head _)) rfl (by kernel_rfl) (by kernel_rfl) Tryz.underlying209 (by kernel_rfl)
 |5,hg=>
  cases hg;obtain⟨cs,T,f,hb,hc⟩:=zoJ (zero:=(List.replicate 20 (Value.int .u64 0)).toArray) (t:=267) (tE:=154) (k:=.u64) (g:=5) (n:=20) hsh (of_decide_eq_true (by kernel_rfl)) (by kernel_rfl) rfl (by kernel_rfl) (by kernel_rfl) Tryz.underlying154;exact⟨(Zo.1 hb).1,_,hb,hc⟩
noncomputable def zpO (os:Os):World:=
 {World.doorLaid Tryz.prog 400 os with heap:=(World.doorLaid Tryz.prog 400 os).heap.modify 3 fun
  | .cells _ t frozen=> .cells (Lib.firstTab.map fun z=>Value.int .u8 z).toArray t frozen
  |o=>o}
theorem zoL (os:Os) (args:Array Value):laidMetH Tryz.prog gY ((zpO os).forCall (fun _ _=>0) ⟨#[],args,[]⟩).memory:=
 laidMetH_of_parts3 (fuel:=8) (laidMet_of_run' 8 (by kernel_rfl) (by kernel_rfl)) (by kernel_rfl) (by kernel_rfl)
end Go.Proofs.YtpmicgjdckeejaaGreatDoor
set_option maxRecDepth 100000
namespace Go.Proofs.YtpmicgjdckeejaaGreatDoor
open Go.Abs Go.RowKit Go.ChangeShapes Go.WideShapes Go.ChangeAt Go.WideMaps Go.WideElems Go.Ex
theorem zrj (xs:List V) (h:lT Tryz.prog [22,23,36] xs):Go.Abs.Spec Tryz.prog 6 xs (fun r=>r=.bool true):=by
 match xs,h with
 |[a0,a1,a2],⟨⟨_,_,h0,q0⟩,⟨_,_,h1,q1⟩,⟨_,_,h2,q2⟩,_⟩=>
  obtain⟨x0,e0,w0⟩:=zoA h0;obtain⟨x1,e1,w1⟩:=zri h1;obtain⟨x2,e2,w2⟩:=zoF Tryz.underlying36 rfl h2;rw[q0,q1,q2,e0,e1,e2];exact zre x0 x1 w0 w1 x2 w2
theorem zrk (os:Os) {H:Type} (enc:TypeId×Value->H): ∃jH,DataW.whole enc Tryz.prog ((zpO os).forCall (fun _ _=>0) ⟨#[],#[Value.slice none 0 0,.slice none 0 0,.int .u16 0],[]⟩).memory Tryz.f6.params.toList Rows.examineCertainSpec.vars false #[Value.slice none 0 0,.slice none 0 0,.int .u16 0].toList 8=some ([.nil,.nil,.lit (.int .u16 0)],[],jH):=
 ⟨[],by kernel_rfl⟩
theorem zrl (os:Os) (started:os.Started) (H:Type) (enc:TypeId×Value->H) (F:Stop.Interp):
  ReturnsInHanded {} Tryz.checked os 6 .any ((OpenSpec.ofChange Rows.examineCertainSpec).preRow enc Tryz.prog Tryz.f6 Rows.examineCertainRow.domain false Rows.examineCertainRow.laid) (((OpenSpec.ofChange Rows.examineCertainSpec).at F).post enc Tryz.prog Tryz.f6 false true false false):=by
 obtain⟨jH,hx⟩:=zrk os enc;refine returnsInHanded_of_row (C:=Tryz.checked) (s:=OpenSpec.ofChange Rows.examineCertainSpec) own started (by kernel_rfl) Tryz.func6
  (witness_row_atRef (enc:=enc) (C:=Tryz.checked) false (zpO os) #[Value.slice none 0 0,.slice none 0 0,.int .u16 0] rfl (by kernel_rfl) (by kernel_rfl) (by kernel_rfl)
   (OpenSpec.preRow_of_cond 8 hx (by kernel_rfl) (fun k hk=>by cases hk) (by kernel_rfl) (zoL os _))) ?_
 intro W base args ds gs before hval hW _ hcond _ hL hsh _;refine zly (C:=Tryz.checked) (T:=gX) (tb:=4) (s:=Rows.examineCertainSpec) zoG zoH ?_ kids full rfl ?_ ?_ Tryz.underlying4 ?_ W base args ds gs before hval hW (zoK hL hsh)
 ·rw[Tryz.params6];decide
 ·intro ds hds
  rw[Tryz.params6] at hds
  match ds,hds with
  |[a0,a1,a2],_=>rfl
 ·kernel_rfl
 ·intro xs hxs
  rw[Tryz.params6] at hxs;exact zrj xs hxs
theorem ExamineCertain_row:Rows.ExamineCertainSaid:=
 OpenClaim.holds_of_cond 6 Tryz.f6 rfl rfl rfl rfl rfl rfl rfl ⟨rfl,rfl,rfl,rfl,rfl⟩ rfl rfl rfl rfl rfl (by kernel_rfl) Tryz.func6 (by kernel_rfl)
  (of_decide_eq_true (by kernel_rfl)) (by unfold Func.isWrapper;first|(rw[if_pos (by decide+kernel)];kernel_rfl)|(rw[if_neg (by decide+kernel)];exact⟨rfl,rfl⟩))
  (fun os started H enc _ F=>by rw[OpenClaim.pre_eq_preRow];exact zrl os started H enc F)
theorem ExamineCertain_holds:Rows.ExamineCertainCardSaid:=
 Claim7.holds_tied_plain_at .later [] _ _ _ _ ExamineCertain_row (fun _ h=>by cases h) (by kernel_rfl) (fun _ h=>by cases h) examineCertain_row_tie rfl ⟨rfl,rfl⟩ (by kernel_rfl) rfl
  (fun f fn hf hfn=>by
   obtain rfl:f=6:=Yj ((show Tryz.prog.funcNamed "allonge/allongelaw34.ExamineCertain" =some 6 by kernel_rfl).symm.trans hf)|>.symm
   obtain rfl:fn=Tryz.f6:=(Yj (Tryz.func6.symm.trans hfn)).symm
   exact⟨by kernel_rfl,fun j t ht=>by
    rw[Tryz.params6] at ht
    have hm:t∈[22,23,36]:=by simpa using Array.mem_of_getElem? ht
    have hall:([22,23,36].all fun u=> !Tryz.prog.wantsStandIn u)=true:=by kernel_rfl
    exact(show Tryz.prog.wantsStandIn t=false by simpa using Zw.1 hall t hm)⟩)
  (by kernel_rfl)
end Go.Proofs.YtpmicgjdckeejaaGreatDoor
