/- A part of the proof; the last text states what is proved. -/
import Derived.Test.YtlepbngfdpifjaaGreatDoorP5
import Derived.Test.YtlepbngfdpifjaaGreatDoorProg
import Derived.Shelf.Strconv.Itoa3
import Derived.Shelf.Strconv.AtoiAll
import Derived.Shelf.Strings.BuilderK
import Derived.Shelf.Strings.Builder2
import Derived.Shelf.Strings.Split
import Derived.Shelf.Strings.Count
import Derived.Shelf.Strings.Builder1
import Derived.WalkKit
import Derived.BigCall
import Derived.Deep.QuietTactic
import Derived.BigQuiet
import Derived.Deep.LoopGhost
import Derived.Lib.ConvBytes
import Derived.Below
import Derived.Shelf.Abstract
import Derived.Deep.OwnRows
import Derived.RangeFuncBox
import Derived.RangeFuncLeaves
import Derived.OwnWalkIn
import Derived.TacticsInMore
import Derived.LoopNIn
import Derived.LoopIn
set_option linter.unusedVariables false
set_option linter.unusedSimpArgs false
set_option maxRecDepth 100000
set_option maxHeartbeats 4000000
namespace Go.Abs
open Go.Proofs Go.RowKit
def okM (n:Int):Bool:=decide (1≤n.tmod 100∧n.tmod 100≤31)
theorem zli (l:List Int):(l.all okM&&risG l 101 1231)=(l.all okF&&risG l 0 2000):=by
 rw[Bool.eq_iff_iff,Bool.and_eq_true,Bool.and_eq_true,List.all_eq_true,List.all_eq_true]
 unfold risG
 rw[List.all_eq_true,List.all_eq_true]
 have hk: ∀n,101≤n→n≤1231→(okM n=true ↔ okF n=true):=fun n h1 h2=>by
  unfold okM okF
  rw[decide_eq_true_eq,decide_eq_true_eq,cS,if_pos (by omega)]
  omega
 have hm: ∀i,i∈List.range l.length→l.getD i 0∈l:=fun i hi=>by
  have:=List.mem_range.1 hi
  simp[List.getD,this]
 have hi': ∀n∈l,∃i,i∈List.range l.length∧l.getD i 0=n:=fun n hn=>by
  obtain⟨i,hi,rfl⟩:=List.getElem_of_mem hn
  exact⟨i,List.mem_range.2 hi,by simp[List.getD,hi]⟩
 constructor
 ·rintro⟨h1,h2⟩
  have hb: ∀n∈l,101≤n∧n≤1231:=fun n hn=>by
   obtain⟨i,hi,rfl⟩:=hi' n hn
   have:=h2 i hi
   unfold okR at this
   rw[Bool.and_eq_true,decide_eq_true_eq] at this
   exact this.1
  refine⟨fun n hn=>(hk n (hb n hn).1 (hb n hn).2).1 (h1 n hn),fun i hi=>?_⟩
  have h3:=h2 i hi
  have h4:=hb _ (hm i hi)
  unfold okR at h3⊢
  rw[Bool.and_eq_true,decide_eq_true_eq] at h3⊢
  exact⟨by omega,h3.2⟩
 ·rintro⟨h1,h2⟩
  have hb: ∀n∈l,101≤n∧n≤1231:=fun n hn=>by
   have:=h1 n hn
   unfold okF at this
   rw[decide_eq_true_eq] at this
   omega
  refine⟨fun n hn=>(hk n (hb n hn).1 (hb n hn).2).2 (h1 n hn),fun i hi=>?_⟩
  have h3:=h2 i hi
  have h4:=hb _ (hm i hi)
  unfold okR at h3⊢
  rw[Bool.and_eq_true,decide_eq_true_eq] at h3⊢
  exact⟨by omega,h3.2⟩
theorem c78 (r:Rlm) (c:Cty) (hf: ∀n∈c.feasts,xM n):Spec Tryz.prog 78 [.agg (zS r),.agg (xL c)] (fun v=>v=.bool (vX r.orders.length r.cur.length c)):=by
 refine Spec.of_len hf78 fun hlen=>?_
 have hl:c.feasts.length≤9223372036854775807:=by
  have:=hlen (.agg (xL c)) (by simp) (zB 1 (zN c.feasts)) (by simp[V.topC,xL]) _ _ _ rfl
  rwa [zU] at this
 clear hlen
 refine Spec.of_awlS hf78 okf78 (by simp) fun S hS=>?_
 have hno:=xY r
 have hnc:=rN c
 have hL:=xZ r
 have hC:xL c=[.str c.name,.int .i64 c.ord,.int .i64 c.cur,zB 1 (zN c.rest),zB 1 (zN c.feasts),zB 1 (zN c.shut)]:=rfl
 rw[hL] at hno⊢
 rw[hC] at hnc⊢
 have hfe:=zli c.feasts
 have hG:vX r.orders.length r.cur.length c=(c.feasts.all okM&&((decide (c.feasts.length≤60)&&decide (c.shut.length≤200))&&((inB c.ord r.orders.length&&inB c.cur r.cur.length)&&(risG c.rest 0 6&&(risG c.feasts 101 1231&&risG c.shut 0 100000))))):=by
  unfold vX inB
  generalize risG c.feasts 101 1231=a1 at hfe⊢
  generalize risG c.feasts 0 2000=a2 at hfe⊢
  generalize c.feasts.all okM=a3 at hfe⊢
  generalize c.feasts.all okF=a4 at hfe⊢
  generalize decide (0≤c.ord∧c.ord<(r.orders.length:Int))=a5
  generalize decide (0≤c.cur∧c.cur<(r.cur.length:Int))=a6
  generalize decide (c.feasts.length≤60)=a7
  generalize decide (c.shut.length≤200)=a8
  generalize risG c.rest 0 6=a9
  generalize risG c.shut 0 100000=a0
  revert hfe
  cases a1<;>cases a2<;>cases a3<;>cases a4<;>cases a5<;>cases a6<;>cases a7<;>cases a8<;>cases a9<;>cases a0<;>simp
 rw[hG] at hS
 simp only[hno,hnc,zU,Qs,bne_iff_ne,ne_eq,Nat.reduceAdd,Nat.reduceEqDiff,Nat.reduceLeDiff,Nat.reduceBEq,Q78]
 rw[uu f78l23.eq_1]
 refine yY (fun i:Nat=>[(2,.k (.ptr 2 0)),(3,.k (.ptr 3 0)),(8,lst 1 (zN c.feasts)),(9,.int .i64 c.feasts.length),(10,.int .i64 i)]) (fun _=>[(2,.var 31 ((zS r).map K.c)),(3,.var 91 ((xL c).map K.c))]) (fun i=>i≤c.feasts.length∧(c.feasts.take i).all okM=true) (fun i=>c.feasts.length-i) 0 rfl rfl ⟨Nat.zero_le _,rfl⟩ ?_
 rintro i ⟨hi,hd⟩
 rw[hL,hC]
 by_cases hlt:i<c.feasts.length
 ·have c1:(i:Int)<c.feasts.length:=by omega
  have i0:(0:Int)≤(i:Int):=by omega
  have c4:IntKind.i64.wrap ((i:Int)+1)=(i:Int)+1:=wrap_in (by omega) (by omega)
  have hat:=qS hlt
  have hbad:=cQ (f:=okM) hlt
  have hnx:=cR (f:=okM) hlt hd
  have hin:=hf c.feasts[i] (List.getElem_mem hlt)
  rw[show c.feasts[i]=c.feasts.getD i 0 by simp[List.getD,hlt]] at hin
  have h2:=cS (c.feasts.getD i 0)
  have v2:IntKind.i64.wrap ((c.feasts.getD i 0).tmod 100)=(c.feasts.getD i 0).tmod 100:=wrap_in (by rw[h2];unfold xM at hin;split<;>omega) (by rw[h2];unfold xM at hin;split<;>omega)
  have hk:okM (c.feasts.getD i 0)=decide (1≤(c.feasts.getD i 0).tmod 100∧(c.feasts.getD i 0).tmod 100≤31):=rfl
  have hno2:okM (c.feasts.getD i 0)=false→S (.bool false):=fun h=>by rw[hbad h,Bool.false_and] at hS;exact hS
  by_cases x1:(c.feasts.getD i 0).tmod 100<1
  ·simp only[c1,i0,hat,v2,x1,zU,Int.toNat_natCast,Qs,ne_eq,Nat.reduceBEq,Int.reduceEq,Q78]
   exact hno2 (by rw[hk,decide_eq_false (by omega)])
  by_cases x2:(c.feasts.getD i 0).tmod 100>31
  ·simp only[c1,i0,hat,v2,x1,x2,zU,Int.toNat_natCast,Qs,ne_eq,Nat.reduceBEq,Int.reduceEq,Q78]
   exact hno2 (by rw[hk,decide_eq_false (by omega)])
  simp only[c1,i0,c4,hat,v2,x1,x2,zU,Int.toNat_natCast,Qs,ne_eq,Nat.reduceBEq,Int.reduceEq,Q78]
  exact Next.intro (i+1) rfl rfl ⟨by omega,hnx (by rw[hk,decide_eq_true (by omega)])⟩ (by omega)
 ·obtain rfl:i=c.feasts.length:=by omega
  have c1: ¬(c.feasts.length:Int)<c.feasts.length:=by omega
  rw[List.take_length] at hd
  rw[hd,Bool.true_and] at hS
  by_cases l1:(c.feasts.length:Int)>60
  ·rw[decide_eq_false (by omega),Bool.false_and,Bool.false_and] at hS
   simp only[c1,l1,zU,Qs,Nat.reduceAdd,Nat.reduceLeDiff,Nat.reduceBEq,Q78];exact hS
  by_cases l2:(c.shut.length:Int)>200
  ·rw[decide_eq_false (show¬c.shut.length≤200 by omega),Bool.and_false,Bool.false_and] at hS
   simp only[c1,l1,l2,zU,Qs,Nat.reduceAdd,Nat.reduceLeDiff,Nat.reduceBEq,Q78];exact hS
  rw[decide_eq_true (show c.feasts.length≤60 by omega),decide_eq_true (show c.shut.length≤200 by omega),Bool.and_self,Bool.true_and] at hS
  have g1:=c79 c.ord r.orders.length
  have g2:=c79 c.cur r.cur.length
  unfold inB at hS
  generalize decide (0≤c.ord∧c.ord<(r.orders.length:Int))=b1 at hS g1
  generalize decide (0≤c.cur∧c.cur<(r.cur.length:Int))=b2 at hS g2
  simp only[c1,l1,l2,zU,xH,Qs,Nat.reduceAdd,Nat.reduceLeDiff,Nat.reduceBEq,Q78]
  refine zC g1 ?_
  cases b1 with
  |false=>simp only[Qs,Nat.reduceBEq,Q78];exact hS
  |true=>
  simp only[zK,Qs,Nat.reduceAdd,Nat.reduceLeDiff,Nat.reduceBEq]
  refine zC g2 ?_
  cases b2 with
  |false=>simp only[Qs,Nat.reduceBEq,Q78];exact hS
  |true=>
  rw[Bool.and_self,Bool.true_and] at hS
  simp only[Qs,Nat.reduceAdd,Nat.reduceLeDiff,Nat.reduceBEq,Q78]
  refine zC (mP c.rest 0 6) ?_ (ha:=by simp[zD,V.norm,zW,lst,vA])
  cases h1:risG c.rest 0 6 with
  |false=>rw[h1] at hS;simp only[Qs,Nat.reduceBEq];exact hS
  |true=>
  rw[h1,Bool.true_and] at hS
  simp only[Qs,Nat.reduceAdd,Nat.reduceLeDiff,Nat.reduceBEq]
  refine zC (mP c.feasts 101 1231) ?_ (ha:=by simp[zD,V.norm,zW,lst,vA])
  cases h2:risG c.feasts 101 1231 with
  |false=>rw[h2] at hS;simp only[Qs,Nat.reduceBEq];exact hS
  |true=>
  rw[h2,Bool.true_and] at hS
  simp only[Qs,Nat.reduceAdd,Nat.reduceBEq]
  refine zC (mP c.shut 0 100000) ?_ (ha:=by simp[zD,V.norm,zW,lst,vA])
  simp only[Qs,Nat.reduceBEq]
  exact hS
end Go.Abs
set_option maxRecDepth 100000
set_option maxHeartbeats 4000000
namespace Go.Abs
open Go.Proofs Go.RowKit
theorem zlj (l:List T3) (i:Nat):(t3s l).take i=t3s (l.take i):=by unfold t3s;rw[List.map_take]
theorem c83 (r:Rlm) (hr:RlmIn r):Spec Tryz.prog 83 [.agg (zS r)] (fun v=>v=.int .i64 (usE r)):=by
 refine Spec.of_awlS hf83 okf83 (by simp) fun S hS=>?_
 have hno:=xY r
 have hL:=xZ r
 rw[hL] at hno⊢
 have h2:=hr.us
 have h3:=hr.ci
 unfold usE at hS
 by_cases l2:(r.usances.length:Int)>100
 ·rw[if_pos l2] at hS
  simp only[hno,l2,xB,Qs,Nat.reduceAdd,Nat.reduceLeDiff,Nat.reduceBEq,Q83]
  exact hS
 rw[if_neg l2] at hS
 generalize htg2:xC (usF r) (r.usances.length-0) 0=tg2 at hS
 simp only[hno,l2,xB,Qs,Nat.reduceAdd,Nat.reduceLeDiff,Nat.reduceBEq,Q83]
 rw[uu f83l36.eq_1]
 refine yY (fun i:Nat=>[(1,.k (.ptr 1 0)),(12,lst 3 (t3s r.usances)),(13,.int .i64 r.usances.length),(14,.int .i64 i)]) (fun _=>[(1,.var 31 ((zS r).map K.c))]) (fun i=>i≤r.usances.length∧xC (usF r) (r.usances.length-i) i=tg2) (fun i=>r.usances.length-i) 0 rfl rfl ⟨Nat.zero_le _,htg2⟩ ?_
 rintro i ⟨hi,hd⟩
 rw[hL]
 by_cases hlt:i<r.usances.length
 ·have c1:(i:Int)<r.usances.length:=by omega
  have i0:(0:Int)≤(i:Int):=by omega
  have c4:IntKind.i64.wrap ((i:Int)+1)=(i:Int)+1:=wrap_in (by omega) (by omega)
  have hat:=zht hlt
  have hF:usF r i=if usB r.cities.length (r.usances.getD i t3D)=true then(if (r.usances.take i).any (rP (r.usances.getD i t3D))=true then 5 else 0) else 1:=rfl
  generalize r.usances.getD i t3D=u at hat hF
  have ga:=c79 u.a r.cities.length
  have gb:=c79 u.b r.cities.length
  unfold usB at hF
  generalize decide (0≤u.a∧u.a<(r.cities.length:Int))=p1 at ga hF
  generalize decide (0≤u.b∧u.b<(r.cities.length:Int))=p2 at gb hF
  simp only[c1,i0,hat,xB,yE,Int.toNat_natCast,Qs,bne_iff_ne,ne_eq,List.append_nil,Nat.reduceAdd,Nat.reduceEqDiff,Nat.reduceLeDiff,Nat.reduceBEq,Q83]
  refine zC ga ?_
  cases p1 with
  |false=>
   rw[if_neg (by simp)] at hF
   rw[tV hlt (by rw[hF];decide),hF] at hd
   simp only[Qs,Nat.reduceBEq,Q83]
   exact fin hS (by rw[←hd])
  |true=>
  simp only[yE,Qs,Nat.reduceAdd,Nat.reduceLeDiff,Nat.reduceBEq]
  refine zC gb ?_
  cases p2 with
  |false=>
   rw[if_neg (by simp)] at hF
   rw[tV hlt (by rw[hF];decide),hF] at hd
   simp only[Qs,Nat.reduceBEq,Q83]
   exact fin hS (by rw[←hd])
  |true=>
  rw[Bool.true_and,Bool.true_and] at hF
  by_cases x1:u.c<1
  ·rw[if_neg (by simp;omega)] at hF
   rw[tV hlt (by rw[hF];decide),hF] at hd
   simp only[x1,Qs,Nat.reduceAdd,Nat.reduceBEq,Q83]
   exact fin hS (by rw[←hd])
  by_cases x2:u.c>20000
  ·rw[if_neg (by simp;omega)] at hF
   rw[tV hlt (by rw[hF];decide),hF] at hd
   simp only[x1,x2,Qs,Nat.reduceAdd,Nat.reduceBEq,Q83]
   exact fin hS (by rw[←hd])
  rw[if_pos (by simp;omega)] at hF
  have s1:(i:Int)≤r.usances.length:=by omega
  have htl:(r.usances.take i).length=i:=by rw[List.length_take];omega
  simp only[x1,x2,i0,s1,xB,zlj,htl,Int.toNat_natCast,Qs,zcH,zdV,dS,dT,Nat.reduceAdd,Nat.reduceLeDiff,Nat.reduceBEq,cB,cC,Int.reduceLE,Q83]
  rw[uu f83l18.eq_1]
  refine yY (fun k:Nat=>[(1,.k (.ptr 1 0)),(4,.k (.ptr 4 0)),(12,lst 3 (t3s r.usances)),(13,.int .i64 r.usances.length),(14,.int .i64 i),(48,.list 3 none (t3s (r.usances.take i))),(49,.int .i64 i),(50,.int .i64 k)]) (fun _=>[(1,.var 31 ((zS r).map K.c)),(4,.var 116 ((tU u).map K.c))]) (fun k=>k≤i∧(r.usances.take k).any (rP u)=false) (fun k=>i-k) 0 rfl rfl ⟨Nat.zero_le _,rfl⟩ ?_
  rintro k ⟨hk,he⟩
  rw[hL]
  have hE:tU u=[.int .i64 u.a,.int .i64 u.b,.int .i64 u.c]:=rfl
  rw[hE]
  by_cases hkt:k<i
  ·have d1:(k:Int)<i:=by omega
   have d0:(0:Int)≤(k:Int):=by omega
   have d4:IntKind.i64.wrap ((k:Int)+1)=(k:Int)+1:=wrap_in (by omega) (by omega)
   have hkl:k<r.usances.length:=by omega
   have hbt:=zht (l:=r.usances.take i) (i:=k) (by omega)
   have hge:(r.usances.take i).getD k t3D=r.usances.getD k t3D:=by
    rw[List.getD_eq_getElem?_getD,List.getD_eq_getElem?_getD,List.getElem?_take,if_pos hkt]
   rw[hge] at hbt
   have hnk:(r.usances.take (k+1)).any (rP u)=rP u (r.usances.getD k t3D):=by
    rw[List.take_succ_eq_append_getElem hkl,List.any_append,he];simp[List.getD,hkl]
   have hyes:rP u (r.usances.getD k t3D)=true→(r.usances.take i).any (rP u)=true:=fun h=>by
    rw[show i=k+1+(i-(k+1)) by omega,List.take_add,List.any_append,hnk,h];rfl
   have hS2:rP u (r.usances.getD k t3D)=(((r.usances.getD k t3D).a==u.a)&&((r.usances.getD k t3D).b==u.b)):=rfl
   generalize r.usances.getD k t3D=x at hbt hnk hyes hS2
   cases x1:(x.a==u.a) with
   |false=>
    rw[x1,Bool.false_and] at hS2
    simp only[d1,d0,d4,hbt,x1,htl,xB,Int.toNat_natCast,Qs,jI,bne_iff_ne,ne_eq,List.append_nil,Nat.reduceAdd,Nat.reduceEqDiff,Nat.reduceLeDiff,Nat.reduceBEq,Q83]
    exact Next.intro (k+1) rfl rfl ⟨by omega,by rw[hnk,hS2]⟩ (by omega)
   |true=>
   cases x2:(x.b==u.b) with
   |false=>
    rw[x1,x2,Bool.true_and] at hS2
    simp only[d1,d0,d4,hbt,x1,x2,htl,xB,Int.toNat_natCast,Qs,jI,bne_iff_ne,ne_eq,List.append_nil,Nat.reduceAdd,Nat.reduceEqDiff,Nat.reduceLeDiff,Nat.reduceBEq,Q83]
    exact Next.intro (k+1) rfl rfl ⟨by omega,by rw[hnk,hS2]⟩ (by omega)
   |true=>
    rw[x1,x2,Bool.true_and] at hS2
    rw[hyes hS2,if_pos rfl] at hF
    rw[tV hlt (by rw[hF];decide),hF] at hd
    simp only[d1,d0,hbt,x1,x2,htl,xB,Int.toNat_natCast,Qs,jI,jK,bne_iff_ne,ne_eq,List.append_nil,Nat.reduceAdd,Nat.reduceEqDiff,Nat.reduceLeDiff,Nat.reduceBEq,Q83]
    exact fin hS (by rw[←hd])
  ·obtain rfl:k=i:=by omega
   have d1: ¬(k:Int)<k:=by omega
   rw[he,if_neg (by simp)] at hF
   rw[jU hlt hF] at hd
   simp only[d1,c4,Qs,reduceCtorEq,Nat.reduceBEq,Nat.succ_ne_self,Q83]
   exact Next.intro (k+1) rfl rfl ⟨by omega,hd⟩ (by omega)
 ·obtain rfl:i=r.usances.length:=by omega
  have c1: ¬(r.usances.length:Int)<r.usances.length:=by omega
  rw[Nat.sub_self,xC] at hd
  rw[←hd] at hS
  simp only[c1,xB,Qs,Nat.reduceBEq,Q83]
  exact hS
theorem zhu {c:Int} (h:xM c):decide (0≤IntKind.i64.wrap (c-1)∧IntKind.i64.wrap (c-1)<1073741824)=decide (1≤c∧c≤1073741824):=by
 unfold xM at h
 by_cases e:c= -9223372036854775808
 ·subst e;decide
 ·rw[wrap_in (by omega) (by omega)]
  exact decide_eq_decide.2 (by omega)
theorem c84 (r:Rlm) (hr:RlmIn r):Spec Tryz.prog 84 [.agg (zS r)] (fun v=>v=.int .i64 (resE r)):=by
 refine Spec.of_awlS hf84 okf84 (by simp) fun S hS=>?_
 have hno:=xY r
 have hL:=xZ r
 rw[hL] at hno⊢
 have h1:=hr.ra
 have h2:=hr.ha
 unfold resE at hS
 by_cases l1:(r.rates.length:Int)>100
 ·rw[if_pos l1] at hS
  simp only[hno,l1,vW,Qs,Nat.reduceAdd,Nat.reduceLeDiff,Nat.reduceBEq,Q84]
  exact hS
 rw[if_neg l1] at hS
 simp only[hno,l1,vW,Qs,Nat.reduceAdd,Nat.reduceLeDiff,Nat.reduceBEq,Q84]
 rw[uu f84l42.eq_1]
 refine yY (fun i:Nat=>[(1,.k (.ptr 1 0)),(12,lst 5 (t5s r.rates)),(13,.int .i64 r.rates.length),(14,.int .i64 i)]) (fun _=>[(1,.var 31 ((zS r).map K.c))]) (fun i=>i≤r.rates.length∧(r.rates.take i).all (raB r.cur.length)=true) (fun i=>r.rates.length-i) 0 rfl rfl ⟨Nat.zero_le _,rfl⟩ ?_
 rintro i ⟨hi,hd⟩
 rw[hL]
 by_cases hlt:i<r.rates.length
 ·have c1:(i:Int)<r.rates.length:=by omega
  have i0:(0:Int)≤(i:Int):=by omega
  have c4:IntKind.i64.wrap ((i:Int)+1)=(i:Int)+1:=wrap_in (by omega) (by omega)
  have hat:=zlh hlt
  have hbad:=cV (f:=raB r.cur.length) hlt
  have hnx:=cW (f:=raB r.cur.length) hlt hd
  have hB:raB r.cur.length r.rates[i]=(inB r.rates[i].a r.cur.length&&(inB r.rates[i].b r.cur.length&&(!(r.rates[i].a==r.rates[i].b)&&(decide (1≤r.rates[i].c∧r.rates[i].c≤1073741824)&&(decide (1≤r.rates[i].d∧r.rates[i].d≤1073741824)&&decide (0≤r.rates[i].e∧r.rates[i].e≤100000)))))):=rfl
  have hin:=hr.rt _ (List.getElem_mem hlt)
  generalize raB r.cur.length r.rates[i]=B at hbad hnx hB
  generalize r.rates[i]=x at hat hB hin
  have ga:=c79 x.a r.cur.length
  have gb:=c79 x.b r.cur.length
  have gc:=c79 (IntKind.i64.wrap (x.c-1)) 1073741824
  have gd:=c79 (IntKind.i64.wrap (x.d-1)) 1073741824
  have ge:=c79 x.e 100001
  rw[zhu hin.1] at gc
  rw[zhu hin.2] at gd
  rw[show decide (0≤x.e∧x.e<100001)=decide (0≤x.e∧x.e≤100000) from decide_eq_decide.2 (by omega)] at ge
  unfold inB at hB
  generalize decide (0≤x.a∧x.a<(r.cur.length:Int))=p1 at ga hB
  generalize decide (0≤x.b∧x.b<(r.cur.length:Int))=p2 at gb hB
  generalize decide (1≤x.c∧x.c≤1073741824)=p3 at gc hB
  generalize decide (1≤x.d∧x.d≤1073741824)=p4 at gd hB
  generalize decide (0≤x.e∧x.e≤100000)=p5 at ge hB
  have hno2:B=false→S (.int .i64 1):=fun h=>by rw[hbad h,if_neg (by decide)] at hS;exact hS
  simp only[c1,i0,hat,zK,vW,Int.toNat_natCast,Qs,bne_iff_ne,ne_eq,List.append_nil,Nat.reduceAdd,Nat.reduceEqDiff,Nat.reduceLeDiff,Nat.reduceBEq,Q84]
  refine zC ga ?_
  cases p1 with
  |false=>simp only[Qs,Nat.reduceBEq,Q84];exact hno2 hB
  |true=>
  rw[Bool.true_and] at hB
  simp only[zK,Qs,Nat.reduceAdd,Nat.reduceLeDiff,Nat.reduceBEq]
  refine zC gb ?_
  cases p2 with
  |false=>simp only[Qs,Nat.reduceBEq,Q84];exact hno2 hB
  |true=>
  rw[Bool.true_and] at hB
  cases q:(x.a==x.b) with
  |true=>rw[q] at hB;simp only[q,Qs,Nat.reduceAdd,Nat.reduceLeDiff,Nat.reduceBEq,Q84];exact hno2 hB
  |false=>
  rw[q,Bool.not_false,Bool.true_and] at hB
  simp only[q,Qs,Nat.reduceAdd,Nat.reduceLeDiff,Nat.reduceBEq]
  refine zC gc ?_
  cases p3 with
  |false=>simp only[Qs,Nat.reduceBEq,Q84];exact hno2 hB
  |true=>
  rw[Bool.true_and] at hB
  simp only[Qs,Nat.reduceAdd,Nat.reduceLeDiff,Nat.reduceBEq]
  refine zC gd ?_
  cases p4 with
  |false=>simp only[Qs,Nat.reduceBEq,Q84];exact hno2 hB
  |true=>
  rw[Bool.true_and] at hB
  simp only[Qs,Nat.reduceAdd,Nat.reduceBEq]
  refine zC ge ?_
  cases p5 with
  |false=>simp only[Qs,Nat.reduceBEq,Q84];exact hno2 hB
  |true=>
  simp only[c4,Qs,Nat.reduceBEq,Q84]
  exact Next.intro (i+1) rfl rfl ⟨by omega,hnx hB⟩ (by omega)
 ·obtain rfl:i=r.rates.length:=by omega
  have c1: ¬(r.rates.length:Int)<r.rates.length:=by omega
  rw[List.take_length] at hd
  rw[if_pos hd] at hS
  by_cases l2:(r.halts.length:Int)>20
  ·rw[if_pos l2] at hS
   simp only[c1,l2,vW,xB,Qs,Nat.reduceAdd,Nat.reduceBEq,Q84]
   exact hS
  rw[if_neg l2] at hS
  simp only[c1,l2,vW,xB,Qs,Nat.reduceAdd,Nat.reduceBEq,Q84]
  rw[uu f84l17.eq_1]
  refine yY (fun i:Nat=>[(1,.k (.ptr 1 0)),(67,lst 3 (t3s r.halts)),(68,.int .i64 r.halts.length),(69,.int .i64 i)]) (fun _=>[(1,.var 31 ((zS r).map K.c))]) (fun i=>i≤r.halts.length∧(r.halts.take i).all (haB r.orders.length)=true) (fun i=>r.halts.length-i) 0 rfl rfl ⟨Nat.zero_le _,rfl⟩ ?_
  rintro i ⟨hi,hd⟩
  rw[hL]
  by_cases hlt:i<r.halts.length
  ·have c1:(i:Int)<r.halts.length:=by omega
   have i0:(0:Int)≤(i:Int):=by omega
   have c4:IntKind.i64.wrap ((i:Int)+1)=(i:Int)+1:=wrap_in (by omega) (by omega)
   have hat:=cZ hlt
   have hbad:=cV (f:=haB r.orders.length) hlt
   have hnx:=cW (f:=haB r.orders.length) hlt hd
   have hB:haB r.orders.length r.halts[i]=(inB r.halts[i].a r.orders.length&&(decide (0≤r.halts[i].b∧r.halts[i].b≤r.halts[i].c)&&decide (r.halts[i].c≤100000))):=rfl
   generalize haB r.orders.length r.halts[i]=B at hbad hnx hB
   generalize r.halts[i]=x at hat hB
   have ga:=c79 x.a r.orders.length
   unfold inB at hB
   generalize decide (0≤x.a∧x.a<(r.orders.length:Int))=p1 at ga hB
   have hno2:B=false→S (.int .i64 1):=fun h=>by rw[hbad h,if_neg (by decide)] at hS;exact hS
   simp only[c1,i0,hat,xH,xB,Int.toNat_natCast,Qs,bne_iff_ne,ne_eq,List.append_nil,Nat.reduceAdd,Nat.reduceEqDiff,Nat.reduceLeDiff,Nat.reduceBEq,Q84]
   refine zC ga ?_
   cases p1 with
   |false=>simp only[Qs,Nat.reduceBEq,Q84];exact hno2 hB
   |true=>
   rw[Bool.true_and] at hB
   by_cases y1:x.b<0
   ·simp only[y1,Qs,Nat.reduceAdd,Nat.reduceLeDiff,Nat.reduceBEq,Q84];exact hno2 (by rw[hB,decide_eq_false (by omega)];rfl)
   by_cases y2:x.b>x.c
   ·simp only[y1,y2,Qs,Nat.reduceAdd,Nat.reduceLeDiff,Nat.reduceBEq,Q84];exact hno2 (by rw[hB,decide_eq_false (by omega)];rfl)
   by_cases z:x.c>100000
   ·simp only[y1,y2,z,Qs,Nat.reduceAdd,Nat.reduceLeDiff,Nat.reduceBEq,Q84];exact hno2 (by rw[hB,decide_eq_false (show¬x.c≤100000 by omega),Bool.and_false])
   ·simp only[y1,y2,z,c4,Qs,Nat.reduceAdd,Nat.reduceLeDiff,Nat.reduceBEq,Q84]
    exact Next.intro (i+1) rfl rfl ⟨by omega,hnx (by rw[hB,decide_eq_true (by omega),decide_eq_true (by omega)];rfl)⟩ (by omega)
  ·obtain rfl:i=r.halts.length:=by omega
   have c1: ¬(r.halts.length:Int)<r.halts.length:=by omega
   rw[List.take_length] at hd
   rw[if_pos hd] at hS
   simp only[c1,xB,Qs,Nat.reduceBEq,Q84]
   exact hS
theorem bA {l:List Int} {i:Nat} (h:i<l.length):zN (l.take i)++[[.int .i64 (l.getD i 0)]]=zN (l.take (i+1)):=by
 rw[List.take_succ_eq_append_getElem h]
 unfold zN
 rw[List.map_append]
 congr 1
 simp[List.getD,h]
theorem zhv {l:List Int} {i:Nat} (h:i<l.length):nlApp (some true) (zN (l.take (i+1)))=some false:=by
 rw[←bA h];cases zN (l.take i)<;>rfl
theorem c82 (o:Order) (hc:o.choices.length≤1000000) (hru:o.rules.length≤1000000):Spec Tryz.prog 82 [.agg (wF o)] (fun v=>v=.bool (sI o)):=by
 refine Spec.of_awlS hf82 okf82 (by simp) fun S hS=>?_
 have hno:=oR o
 have hL:wF o=[.str o.name,.bool o.accepts,zB 3 (chs o.choices),zB 4 (rls o.rules)]:=rfl
 rw[hL] at hno⊢
 have hal:=zld o.choices
 have hrl:=zle o.rules
 simp only[hno,cT,Qs,zcx,bne_iff_ne,ne_eq,Nat.reduceAdd,Nat.reduceEqDiff,Nat.reduceLeDiff,Nat.reduceBEq,Q82]
 rw[uu f82l34.eq_1]
 refine yY (fun i:Nat=>[(1,.k (.ptr 1 0)),(3,.k (.own 3)),(4,.k (.own 4)),(10,lst 3 (chs o.choices)),(11,.int .i64 o.choices.length),(12,.int .i64 i)])
  (fun i=>[(1,.var 102 ((wF o).map K.c)),(3,.arr 3 1 (nlApp (some true) (zN ((vB o.choices).take i))) (zN ((vB o.choices).take i))),(4,.arr 3 1 (some true) [])])
  (fun i=>i≤o.choices.length∧(o.choices.take i).all byB=true) (fun i=>o.choices.length-i) 0 rfl rfl ⟨Nat.zero_le _,rfl⟩ ?_
 rintro i ⟨hi,hd⟩
 rw[hL]
 by_cases hlt:i<o.choices.length
 ·have c1:(i:Int)<o.choices.length:=by omega
  have i0:(0:Int)≤(i:Int):=by omega
  have c4:IntKind.i64.wrap ((i:Int)+1)=(i:Int)+1:=wrap_in (by omega) (by omega)
  have hat:=zlb hlt
  have htl:((vB o.choices).take i).length=i:=by rw[List.length_take];omega
  have hsn:=bA (l:=vB o.choices) (i:=i) (by omega)
  have hnl:=zhv (l:=vB o.choices) (i:=i) (by omega)
  have q1:i≤9223372036854775807:=by omega
  have q2:i*8≤140737488355328:=by omega
  have q3:i+1≤9223372036854775807:=by omega
  have q4:(i+1)*8≤140737488355328:=by omega
  have hby:byB o.choices[i]=decide (0≤o.choices[i].by_∧o.choices[i].by_≤4):=rfl
  have hbad2:byB o.choices[i]=false→sI o=false:=fun h=>by unfold sI;rw[cV hlt h,Bool.false_and]
  have hnx:=cW (f:=byB) hlt hd
  have gb:=c79 o.choices[i].by_ 5
  rw[show decide (0≤o.choices[i].by_∧o.choices[i].by_<5)=decide (0≤o.choices[i].by_∧o.choices[i].by_≤4) from decide_eq_decide.2 (by omega),←hby] at gb
  generalize byB o.choices[i]=p2 at gb hbad2 hnx
  simp only[c1,i0,hat,htl,hsn,q1,q2,q3,q4,cT,zU,Int.toNat_natCast,Qs,forall_eq,bne_iff_ne,ne_eq,List.append_nil,List.mem_cons,Nat.reduceAdd,Nat.reduceEqDiff,Nat.reduceLeDiff,Nat.reduceLT,Nat.reduceBEq,Nat.succ_ne_self,List.not_mem_nil,Q82]
  refine zC gb ?_
  cases p2 with
  |false=>simp only[Qs,Q82];exact fin hS (by rw[hbad2 rfl])
  |true=>
  simp only[c4,Qs,Nat.reduceBEq,Q82]
  exact Next.intro (i+1) rfl (by rw[hnl];rfl) ⟨by omega,hnx rfl⟩ (by omega)
 ·obtain rfl:i=o.choices.length:=by omega
  have c1: ¬(o.choices.length:Int)<o.choices.length:=by omega
  rw[List.take_length] at hd
  have hta:(vB o.choices).take o.choices.length=vB o.choices:=List.take_of_length_le (by omega)
  rw[hta]
  have hg:sI o=(risG (vB o.choices) 0 21&&risG (vO o.rules) 0 21):=by unfold sI;rw[hd];rfl
  rw[hg] at hS
  simp only[c1,cT,cU,Qs,Nat.reduceAdd,Nat.reduceBEq,Q82]
  rw[uu f82l13.eq_1]
  refine yY (fun i:Nat=>[(3,.k (.own 3)),(4,.k (.own 4)),(27,lst 4 (rls o.rules)),(28,.int .i64 o.rules.length),(29,.int .i64 i)])
   (fun i=>[(3,.arr 3 1 (nlApp (some true) (zN (vB o.choices))) (zN (vB o.choices))),(4,.arr 3 1 (nlApp (some true) (zN ((vO o.rules).take i))) (zN ((vO o.rules).take i)))])
   (fun i=>i≤o.rules.length) (fun i=>o.rules.length-i) 0 rfl rfl (Nat.zero_le _) ?_
  intro i hi
  by_cases hlt:i<o.rules.length
  ·have c1:(i:Int)<o.rules.length:=by omega
   have i0:(0:Int)≤(i:Int):=by omega
   have c4:IntKind.i64.wrap ((i:Int)+1)=(i:Int)+1:=wrap_in (by omega) (by omega)
   have hat:=zlc hlt
   have hT:vE o.rules[i].term=[.int .i64 o.rules[i].term.op,.int .i64 o.rules[i].term.n,zB 3 (o.rules[i].term.args.map vE)]:=rL _
   rw[hT] at hat
   have htl:((vO o.rules).take i).length=i:=by rw[List.length_take];omega
   have hsn:=bA (l:=vO o.rules) (i:=i) (by omega)
   have hnl:=zhv (l:=vO o.rules) (i:=i) (by omega)
   have q1:i≤9223372036854775807:=by omega
   have q2:i*8≤140737488355328:=by omega
   have q3:i+1≤9223372036854775807:=by omega
   have q4:(i+1)*8≤140737488355328:=by omega
   simp only[c1,i0,c4,hat,htl,hsn,q1,q2,q3,q4,cU,zU,Int.toNat_natCast,Qs,forall_eq,bne_iff_ne,ne_eq,List.append_nil,List.mem_cons,Nat.reduceAdd,Nat.reduceEqDiff,Nat.reduceLeDiff,Nat.reduceLT,Nat.reduceBEq,List.not_mem_nil,Q82]
   exact Next.intro (i+1) rfl (by rw[hnl];rfl) (by omega) (by omega)
  ·obtain rfl:i=o.rules.length:=by omega
   have c1: ¬(o.rules.length:Int)<o.rules.length:=by omega
   have htb:(vO o.rules).take o.rules.length=vO o.rules:=List.take_of_length_le (by omega)
   rw[htb]
   simp only[c1,cU,vA,Qs,Nat.reduceBEq,Q82]
   refine zC (mP (vB o.choices) 0 21) ?_ (ha:=by simp[zD,wW,lookO,V.norm,zW,lst,vA])
   cases h1:risG (vB o.choices) 0 21 with
   |false=>rw[h1] at hS;simp only[Qs,Nat.reduceBEq];exact hS
   |true=>
   rw[h1,Bool.true_and] at hS
   simp only[vA,Qs,Nat.reduceBEq]
   refine zC (mP (vO o.rules) 0 21) ?_ (ha:=by simp[zD,wW,lookO,V.norm,zW,lst,vA])
   simp only[Qs,Nat.reduceBEq]
   exact hS
def usM (f t:Int) (u:T3):Bool:=(u.a==f)&&(u.b==t)
def uE (l:List T3) (f t:Int):Int×Int:=match l.find? (usM f t) with
 |some u=>(u.c,0)
 |none=>(0,4)
theorem zhw {α:Type} {p:α→Bool} {x:α} {post:List α}: ∀{pre:List α},pre.any p=false→p x=true→(pre++x::post).find? p=some x
 |[],_,hp=>by rw[List.nil_append,List.find?_cons_of_pos hp]
 |y::pre,hd,hp=>by
  rw[List.any_cons,Bool.or_eq_false_iff] at hd
  rw[List.cons_append,List.find?_cons_of_neg (by simp[hd.1]),zhw hd.2 hp]
theorem zhx {α:Type} {p:α→Bool} {l:List α} {i:Nat} (h:i<l.length) (hd:(l.take i).any p=false) (hp:p l[i]=true):l.find? p=some l[i]:=by
 have:=zhw (post:=l.drop (i+1)) hd hp
 rwa [List.getElem_cons_drop,List.take_append_drop] at this
theorem zhy {α:Type} {p:α→Bool} {l:List α} {i:Nat} (h:i<l.length) (hd:(l.take i).any p=false) (hp:p l[i]=false):(l.take (i+1)).any p=false:=by
 rw[List.take_succ_eq_append_getElem h,List.any_append,hd];simp[hp]
theorem zhz {α:Type} {p:α→Bool} {l:List α} (hd:l.any p=false):l.find? p=none:=by
 rw[List.find?_eq_none]
 intro x hx
 have:=List.any_eq_false.1 hd x hx
 simpa using this
theorem c46 (r:Rlm) (hr:RlmIn r) (f t:Int):Spec Tryz.prog 46 [.agg (zS r),.int .i64 f,.int .i64 t] (fun v=>v=.tup [.int .i64 (uE r.usances f t).1,.int .i64 (uE r.usances f t).2]):=by
 refine Spec.of_awlS hf46 okf46 (by simp) fun S hS=>?_
 have hno:=xY r
 have hL:=xZ r
 rw[hL] at hno⊢
 have h2:=hr.us
 unfold uE at hS
 simp only[hno,Qs,Nat.reduceAdd,Nat.reduceBEq,Q46]
 rw[uu f46l15.eq_1]
 refine yY (fun i:Nat=>[(1,.int .i64 f),(2,.int .i64 t),(3,.k (.ptr 3 0)),(8,.int .i64 i)]) (fun _=>[(3,.var 31 ((zS r).map K.c))]) (fun i=>i≤r.usances.length∧(r.usances.take i).any (usM f t)=false) (fun i=>r.usances.length-i) 0 rfl rfl ⟨Nat.zero_le _,rfl⟩ ?_
 rintro i ⟨hi,hd⟩
 rw[hL]
 by_cases hlt:i<r.usances.length
 ·have c1:(i:Int)<r.usances.length:=by omega
  have i0:(0:Int)≤(i:Int):=by omega
  have c4:IntKind.i64.wrap ((i:Int)+1)=(i:Int)+1:=wrap_in (by omega) (by omega)
  have hat:=cZ hlt
  have hend:=zhx hlt hd
  have hnx:=zhy hlt hd
  have hM:usM f t r.usances[i]=((r.usances[i].a==f)&&(r.usances[i].b==t)):=rfl
  generalize r.usances[i]=u at hat hend hnx hM
  cases x1:(u.a==f) with
  |false=>
   simp only[c1,i0,c4,hat,x1,xB,Int.toNat_natCast,Qs,Nat.reduceAdd,Nat.reduceLeDiff,Nat.reduceBEq,Q46]
   exact Next.intro (i+1) rfl rfl ⟨by omega,hnx (by rw[hM,x1];rfl)⟩ (by omega)
  |true=>
  cases x2:(u.b==t) with
  |false=>
   simp only[c1,i0,c4,hat,x1,x2,xB,Int.toNat_natCast,Qs,Nat.reduceAdd,Nat.reduceLeDiff,Nat.reduceBEq,Q46]
   exact Next.intro (i+1) rfl rfl ⟨by omega,hnx (by rw[hM,x1,x2];rfl)⟩ (by omega)
  |true=>
   rw[hend (by rw[hM,x1,x2];rfl)] at hS
   simp only[c1,i0,hat,x1,x2,xB,Int.toNat_natCast,Qs,List.append_nil,Nat.reduceAdd,Nat.reduceLeDiff,Nat.reduceBEq,Q46]
   exact hS
 ·obtain rfl:i=r.usances.length:=by omega
  have c1: ¬(r.usances.length:Int)<r.usances.length:=by omega
  rw[List.take_length] at hd
  rw[zhz hd] at hS
  simp only[c1,xB,Qs,List.append_nil,Nat.reduceAdd,Nat.reduceLeDiff,Nat.reduceBEq,Q46]
  exact hS
theorem c40 (r:Rlm) (hr:RlmIn r) (f t:Int):Spec Tryz.prog 40 [.agg (zS r),.int .i64 f,.int .i64 t] (fun v=>v=.tup [.int .i64 (uE r.usances f t).1,.int .i64 (uE r.usances f t).2]):=by
 refine Spec.of_awlS hf40 okf40 (by simp) fun S hS=>?_
 have hno:=xY r
 have hL:=xZ r
 rw[hL] at hno⊢
 have h2:=hr.us
 unfold uE at hS
 simp only[hno,xB,Qs,Nat.reduceAdd,Nat.reduceLeDiff,Nat.reduceBEq,Q40]
 rw[uu f40l17.eq_1]
 refine yY (fun i:Nat=>[(1,.int .i64 f),(2,.int .i64 t),(11,lst 3 (t3s r.usances)),(12,.int .i64 r.usances.length),(13,.int .i64 i)]) (fun _=>[]) (fun i=>i≤r.usances.length∧(r.usances.take i).any (usM f t)=false) (fun i=>r.usances.length-i) 0 rfl rfl ⟨Nat.zero_le _,rfl⟩ ?_
 rintro i ⟨hi,hd⟩
 by_cases hlt:i<r.usances.length
 ·have c1:(i:Int)<r.usances.length:=by omega
  have i0:(0:Int)≤(i:Int):=by omega
  have c4:IntKind.i64.wrap ((i:Int)+1)=(i:Int)+1:=wrap_in (by omega) (by omega)
  have hat:=cZ hlt
  have hend:=zhx hlt hd
  have hnx:=zhy hlt hd
  have hM:usM f t r.usances[i]=((r.usances[i].a==f)&&(r.usances[i].b==t)):=rfl
  generalize r.usances[i]=u at hat hend hnx hM
  cases x1:(u.a==f) with
  |false=>
   simp only[c1,i0,c4,hat,x1,xB,Int.toNat_natCast,Qs,List.append_nil,Nat.reduceAdd,Nat.reduceLeDiff,Nat.reduceBEq,Q40]
   exact Next.intro (i+1) rfl rfl ⟨by omega,hnx (by rw[hM,x1];rfl)⟩ (by omega)
  |true=>
  cases x2:(u.b==t) with
  |false=>
   simp only[c1,i0,c4,hat,x1,x2,xB,Int.toNat_natCast,Qs,List.append_nil,Nat.reduceAdd,Nat.reduceLeDiff,Nat.reduceBEq,Q40]
   exact Next.intro (i+1) rfl rfl ⟨by omega,hnx (by rw[hM,x1,x2];rfl)⟩ (by omega)
  |true=>
   rw[hend (by rw[hM,x1,x2];rfl)] at hS
   simp only[c1,i0,hat,x1,x2,xB,Int.toNat_natCast,Qs,List.append_nil,Nat.reduceAdd,Nat.reduceLeDiff,Nat.reduceBEq,Q40]
   exact hS
 ·obtain rfl:i=r.usances.length:=by omega
  have c1: ¬(r.usances.length:Int)<r.usances.length:=by omega
  rw[List.take_length] at hd
  rw[zhz hd] at hS
  simp only[c1,xB,Qs,List.append_nil,Nat.reduceBEq,Q40]
  exact hS
theorem bB {l:List Txt} {s:Txt} {i:Nat} (h:i<l.length) (hd:(l.take i).any (fun x=>x==s)=false) (hp:(l.getD i []==s)=true):Go.Wd.fstI l s=i:=by
 unfold Go.Wd.fstI
 have:l.findIdx? (fun x=>decide (x=s))=some i:=by
  rw[List.findIdx?_eq_some_iff_getElem]
  refine⟨h,by simpa [List.getD,h] using hp,fun j hj=>?_⟩
  have:=List.any_eq_false.1 hd l[j] (by
   rw[List.mem_take_iff_getElem]
   exact⟨j,by omega,rfl⟩)
  simpa using this
 rw[this]
theorem jV {l:List Txt} {s:Txt} (hd:l.any (fun x=>x==s)=false):Go.Wd.fstI l s= -1:=Go.Wd.fstI_no (fun h=>by
 have:=List.any_eq_false.1 hd s h
 simp at this)
theorem bC {l:List Txt} {s:Txt} {i:Nat} (h:i<l.length) (hd:(l.take i).any (fun x=>x==s)=false) (hp:(l.getD i []==s)=false):(l.take (i+1)).any (fun x=>x==s)=false:=by
 rw[List.take_succ_eq_append_getElem h,List.any_append,hd]
 rw[show l.getD i []=l[i] by simp[List.getD,h]] at hp
 simpa using hp
theorem bD (r:Rlm) {i:Nat} (hlt:i<r.cities.length):(xW r.cities).getD i []=[.str ((cnm r).getD i []),.int .i64 r.cities[i].ord,.int .i64 r.cities[i].cur,zB 1 (zN r.cities[i].rest),zB 1 (zN r.cities[i].feasts),zB 1 (zN r.cities[i].shut)]:=by
 rw[mK hlt,show(cnm r).getD i []=r.cities[i].name by simp[cnm,List.getD,hlt]];rfl
theorem mR (r:Rlm) {i:Nat} (hlt:i<r.firms.length):(xX r.firms).getD i []=[.str ((fnm r).getD i []),.int .i64 r.firms[i].ci,.int .i64 r.firms[i].gr]:=by
 rw[cJ hlt,show(fnm r).getD i []=r.firms[i].name by simp[fnm,List.getD,hlt]];rfl
theorem c30 (r:Rlm) (hr:RlmIn r) (s:Txt):Spec Tryz.prog 30 [.agg (zS r),.str s] (fun v=>v=.int .i64 (Go.Wd.fstI (cnm r) s)):=by
 refine Spec.of_awlS hf30 okf30 (by simp) fun S hS=>?_
 have hno:=xY r
 have hL:=xZ r
 rw[hL] at hno⊢
 have h2:=hr.ci
 have hcl:=rO r
 simp only[hno,Qs,Nat.reduceAdd,Nat.reduceBEq,Q30]
 rw[uu f30l15.eq_1]
 refine yY (fun i:Nat=>[(1,.str s),(2,.k (.ptr 2 0)),(5,.int .i64 i)]) (fun _=>[(2,.var 31 ((zS r).map K.c))]) (fun i=>i≤r.cities.length∧((cnm r).take i).any (fun x=>x==s)=false) (fun i=>r.cities.length-i) 0 rfl rfl ⟨Nat.zero_le _,rfl⟩ ?_
 rintro i ⟨hi,hd⟩
 rw[hL]
 by_cases hlt:i<r.cities.length
 ·have c1:(i:Int)<r.cities.length:=by omega
  have i0:(0:Int)≤(i:Int):=by omega
  have c4:IntKind.i64.wrap ((i:Int)+1)=(i:Int)+1:=wrap_in (by omega) (by omega)
  have hat:=bD r hlt
  cases e:((cnm r).getD i []==s) with
  |true=>
   rw[bB (by omega) hd e] at hS
   simp only[c1,i0,hat,e,yE,Int.toNat_natCast,Qs,Nat.reduceAdd,Nat.reduceLeDiff,Nat.reduceBEq,Q30]
   exact hS
  |false=>
   simp only[c1,i0,c4,hat,e,yE,Int.toNat_natCast,Qs,Nat.reduceAdd,Nat.reduceLeDiff,Nat.reduceBEq,Q30]
   exact Next.intro (i+1) rfl rfl ⟨by omega,bC (by omega) hd e⟩ (by omega)
 ·obtain rfl:i=r.cities.length:=by omega
  have c1: ¬(r.cities.length:Int)<r.cities.length:=by omega
  rw[List.take_of_length_le (by omega)] at hd
  rw[jV hd] at hS
  simp only[c1,yE,Qs,Int.reduceNeg,Nat.reduceAdd,Nat.reduceLeDiff,Nat.reduceBEq,Q30]
  exact hS
theorem c35 (r:Rlm) (hr:RlmIn r) (s:Txt):Spec Tryz.prog 35 [.agg (zS r),.str s] (fun v=>v=.int .i64 (Go.Wd.fstI (fnm r) s)):=by
 refine Spec.of_awlS hf35 okf35 (by simp) fun S hS=>?_
 have hno:=xY r
 have hL:=xZ r
 rw[hL] at hno⊢
 have h2:=hr.fi
 have hcl:=sK r
 simp only[hno,Qs,Nat.reduceAdd,Nat.reduceBEq,Q35]
 rw[uu f35l15.eq_1]
 refine yY (fun i:Nat=>[(1,.str s),(2,.k (.ptr 2 0)),(5,.int .i64 i)]) (fun _=>[(2,.var 31 ((zS r).map K.c))]) (fun i=>i≤r.firms.length∧((fnm r).take i).any (fun x=>x==s)=false) (fun i=>r.firms.length-i) 0 rfl rfl ⟨Nat.zero_le _,rfl⟩ ?_
 rintro i ⟨hi,hd⟩
 rw[hL]
 by_cases hlt:i<r.firms.length
 ·have c1:(i:Int)<r.firms.length:=by omega
  have i0:(0:Int)≤(i:Int):=by omega
  have c4:IntKind.i64.wrap ((i:Int)+1)=(i:Int)+1:=wrap_in (by omega) (by omega)
  have hat:=mR r hlt
  cases e:((fnm r).getD i []==s) with
  |true=>
   rw[bB (by omega) hd e] at hS
   simp only[c1,i0,hat,e,yW,Int.toNat_natCast,Qs,Nat.reduceAdd,Nat.reduceLeDiff,Nat.reduceBEq,Q35]
   exact hS
  |false=>
   simp only[c1,i0,c4,hat,e,yW,Int.toNat_natCast,Qs,Nat.reduceAdd,Nat.reduceLeDiff,Nat.reduceBEq,Q35]
   exact Next.intro (i+1) rfl rfl ⟨by omega,bC (by omega) hd e⟩ (by omega)
 ·obtain rfl:i=r.firms.length:=by omega
  have c1: ¬(r.firms.length:Int)<r.firms.length:=by omega
  rw[List.take_of_length_le (by omega)] at hd
  rw[jV hd] at hS
  simp only[c1,yW,Qs,Int.reduceNeg,Nat.reduceAdd,Nat.reduceLeDiff,Nat.reduceBEq,Q35]
  exact hS
theorem zlk (c:Cty) (s:Txt):Spec Tryz.prog 101 [.agg (xL c),.k (.c (.ro [.str s] 0))] (fun v=>v=.bool (c.name==s)):=by
 refine Spec.of_awlS hf101 okf101 (by simp) fun S hS=>?_
 have hnc:=rN c
 have hC:xL c=[.str c.name,.int .i64 c.ord,.int .i64 c.cur,zB 1 (zN c.rest),zB 1 (zN c.feasts),zB 1 (zN c.shut)]:=rfl
 rw[hC] at hnc⊢
 simp only[hnc,Qs,Nat.reduceAdd,Nat.reduceLeDiff,Nat.reduceBEq,Q101]
 exact hS
theorem zll (c:Frm) (s:Txt):Spec Tryz.prog 105 [.agg (tQ c),.k (.c (.ro [.str s] 0))] (fun v=>v=.bool (c.name==s)):=by
 refine Spec.of_awlS hf105 okf105 (by simp) fun S hS=>?_
 have hC:tQ c=[.str c.name,.int .i64 c.ci,.int .i64 c.gr]:=rfl
 rw[hC]
 simp only[Qs,Nat.reduceAdd,Nat.reduceLeDiff,Nat.reduceBEq,Q105]
 exact hS
theorem zlm (l:List Cty) (s:Txt) (hl:l.length≤9223372036854775807):Spec Tryz.prog 100 [lst 6 (xW l),.k (.c (.fn 101 [.ro [.str s] 0]))] (fun v=>v=.int .i64 (Go.Wd.fstI (l.map Cty.name) s)):=by
 refine Spec.of_awlS hf100 okf100 (by simp) fun S hS=>?_
 have hN:=mL l
 have hcl:(l.map Cty.name).length=l.length:=by simp
 simp only[hN,yE,Qs,Nat.reduceAdd,Nat.reduceBEq,Q100]
 rw[uu f100l17.eq_1]
 refine yY (fun i:Nat=>[(0,lst 6 (xW l)),(1,.k (.c (.fn 101 [.ro [.str s] 0]))),(7,.int .i64 l.length),(8,.int .i64 i)]) (fun _=>[]) (fun i=>i≤l.length∧((l.map Cty.name).take i).any (fun x=>x==s)=false) (fun i=>l.length-i) 0 rfl rfl ⟨Nat.zero_le _,rfl⟩ ?_
 rintro i ⟨hi,hd⟩
 by_cases hlt:i<l.length
 ·have c1:(i:Int)<l.length:=by omega
  have i0:(0:Int)≤(i:Int):=by omega
  have c4:IntKind.i64.wrap ((i:Int)+1)=(i:Int)+1:=wrap_in (by omega) (by omega)
  have hat:=mK hlt
  have g:=zlk l[i] s
  have hnm:l[i].name=(l.map Cty.name).getD i []:=by simp[List.getD,hlt]
  rw[hnm] at g
  have hC:xL l[i]=[.str l[i].name,.int .i64 l[i].ord,.int .i64 l[i].cur,zB 1 (zN l[i].rest),zB 1 (zN l[i].feasts),zB 1 (zN l[i].shut)]:=rfl
  have hnc:=rN l[i]
  rw[hC] at hnc hat g
  simp only[c1,i0,hat,yE,Int.toNat_natCast,Qs,Nat.reduceBEq,Q100]
  refine cD g ?_ (ha:=by simp only[List.map_cons,List.map_nil,List.nil_append,List.cons_append,zD,V.norm,C.norm,C.normRow,cK])
  cases e:((l.map Cty.name).getD i []==s) with
  |true=>
   rw[bB (by omega) hd e] at hS
   simp only[Qs,Nat.reduceBEq,Q100]
   exact hS
  |false=>
   simp only[c4,Qs,Nat.reduceBEq,Q100]
   exact Next.intro (i+1) rfl rfl ⟨by omega,bC (by omega) hd e⟩ (by omega)
 ·obtain rfl:i=l.length:=by omega
  have c1: ¬(l.length:Int)<l.length:=by omega
  rw[List.take_of_length_le (by omega)] at hd
  rw[jV hd] at hS
  simp only[c1,Qs,Int.reduceNeg,Nat.reduceBEq,Q100]
  exact hS
theorem zln (l:List Frm) (s:Txt) (hl:l.length≤9223372036854775807):Spec Tryz.prog 104 [lst 3 (xX l),.k (.c (.fn 105 [.ro [.str s] 0]))] (fun v=>v=.int .i64 (Go.Wd.fstI (l.map Frm.name) s)):=by
 refine Spec.of_awlS hf104 okf104 (by simp) fun S hS=>?_
 have hN:=mM l
 have hcl:(l.map Frm.name).length=l.length:=by simp
 simp only[hN,yW,Qs,Nat.reduceAdd,Nat.reduceBEq,Q104]
 rw[uu f104l17.eq_1]
 refine yY (fun i:Nat=>[(0,lst 3 (xX l)),(1,.k (.c (.fn 105 [.ro [.str s] 0]))),(7,.int .i64 l.length),(8,.int .i64 i)]) (fun _=>[]) (fun i=>i≤l.length∧((l.map Frm.name).take i).any (fun x=>x==s)=false) (fun i=>l.length-i) 0 rfl rfl ⟨Nat.zero_le _,rfl⟩ ?_
 rintro i ⟨hi,hd⟩
 by_cases hlt:i<l.length
 ·have c1:(i:Int)<l.length:=by omega
  have i0:(0:Int)≤(i:Int):=by omega
  have c4:IntKind.i64.wrap ((i:Int)+1)=(i:Int)+1:=wrap_in (by omega) (by omega)
  have hat:=cJ hlt
  have g:=zll l[i] s
  have hnm:l[i].name=(l.map Frm.name).getD i []:=by simp[List.getD,hlt]
  rw[hnm] at g
  have hC:tQ l[i]=[.str l[i].name,.int .i64 l[i].ci,.int .i64 l[i].gr]:=rfl
  rw[hC] at hat g
  simp only[c1,i0,hat,yW,Int.toNat_natCast,Qs,Nat.reduceBEq,Q104]
  refine cD g ?_ (ha:=by simp only[List.map_cons,List.map_nil,List.nil_append,List.cons_append,zD,V.norm,C.norm,C.normRow])
  cases e:((l.map Frm.name).getD i []==s) with
  |true=>
   rw[bB (by omega) hd e] at hS
   simp only[Qs,Nat.reduceBEq,Q104]
   exact hS
  |false=>
   simp only[c4,Qs,Nat.reduceBEq,Q104]
   exact Next.intro (i+1) rfl rfl ⟨by omega,bC (by omega) hd e⟩ (by omega)
 ·obtain rfl:i=l.length:=by omega
  have c1: ¬(l.length:Int)<l.length:=by omega
  rw[List.take_of_length_le (by omega)] at hd
  rw[jV hd] at hS
  simp only[c1,Qs,Int.reduceNeg,Nat.reduceBEq,Q104]
  exact hS
theorem c67 (r:Rlm) (hr:RlmIn r) (s:Txt):Spec Tryz.prog 67 [.agg (zS r),.str s] (fun v=>v=.int .i64 (Go.Wd.fstI (cnm r) s)):=by
 refine Spec.of_awlS hf67 okf67 (by simp) fun S hS=>?_
 have hno:=xY r
 have hL:=xZ r
 have h2:=hr.ci
 have hN:=mL r.cities
 have g:=zlm r.cities s (by omega)
 rw[hL] at hno⊢
 simp only[hno,Qs,zcG,zer,bne_iff_ne,ne_eq,Nat.reduceAdd,Nat.reduceEqDiff,Nat.reduceLeDiff,Nat.reduceBEq,zgL,zgM,zgN,oI,oJ,oK,oL,Q67]
 refine zC g ?_ (ha:=by simp[zD,V.norm,zW,lst,hN,C.norm,C.normRow])
 simp only[Qs]
 exact hS
theorem c72 (r:Rlm) (hr:RlmIn r) (s:Txt):Spec Tryz.prog 72 [.agg (zS r),.str s] (fun v=>v=.int .i64 (Go.Wd.fstI (fnm r) s)):=by
 refine Spec.of_awlS hf72 okf72 (by simp) fun S hS=>?_
 have hno:=xY r
 have hL:=xZ r
 have h2:=hr.fi
 have hN:=mM r.firms
 have g:=zln r.firms s (by omega)
 rw[hL] at hno⊢
 simp only[hno,Qs,zcG,zer,bne_iff_ne,ne_eq,Nat.reduceAdd,Nat.reduceEqDiff,Nat.reduceLeDiff,Nat.reduceBEq,zgL,zgM,zgN,oI,oJ,oK,oL,Q72]
 refine zC g ?_ (ha:=by simp[zD,V.norm,zW,lst,hN,C.norm,C.normRow])
 simp only[Qs]
 exact hS
theorem zlo (l:List Txt) (s:Txt) (hl:l.length≤9223372036854775807):Spec Tryz.prog 146 [lst 1 (zE l),.str s] (fun v=>v=.int .i64 (Go.Wd.fstI l s)):=by
 refine Spec.of_awlS hf146 okf146 (by simp) fun S hS=>?_
 simp only[yT,zK,Qs,Nat.reduceAdd,Nat.reduceBEq,Q146]
 rw[uu f146l17.eq_1]
 refine yY (fun i:Nat=>[(0,lst 1 (zE l)),(1,.str s),(7,.int .i64 l.length),(8,.int .i64 i)]) (fun _=>[]) (fun i=>i≤l.length∧(l.take i).any (fun x=>x==s)=false) (fun i=>l.length-i) 0 rfl rfl ⟨Nat.zero_le _,rfl⟩ ?_
 rintro i ⟨hi,hd⟩
 by_cases hlt:i<l.length
 ·have c1:(i:Int)<l.length:=by omega
  have i0:(0:Int)≤(i:Int):=by omega
  have c4:IntKind.i64.wrap ((i:Int)+1)=(i:Int)+1:=wrap_in (by omega) (by omega)
  have hat:=jT hlt
  have hcm:(s==l.getD i [])=(l.getD i []==s):=BEq.comm
  cases e:(l.getD i []==s) with
  |true=>
   rw[e] at hcm
   rw[bB hlt hd e] at hS
   simp only[c1,i0,hat,hcm,e,zK,Int.toNat_natCast,Qs,Nat.reduceBEq,Q146]
   exact hS
  |false=>
   rw[e] at hcm
   simp only[c1,i0,c4,hat,hcm,e,zK,Int.toNat_natCast,Qs,Nat.reduceBEq,Q146]
   exact Next.intro (i+1) rfl rfl ⟨by omega,bC hlt hd e⟩ (by omega)
 ·obtain rfl:i=l.length:=by omega
  have c1: ¬(l.length:Int)<l.length:=by omega
  rw[List.take_length] at hd
  rw[jV hd] at hS
  simp only[c1,Qs,Int.reduceNeg,Nat.reduceBEq,Q146]
  exact hS
theorem zlp (l:List Txt) (s:Txt):decide (Go.Wd.fstI l s≥0)=l.any (fun x=>x==s):=by
 cases h:l.any fun x=>x==s with
 |false=>rw[jV h];rfl
 |true=>
  refine decide_eq_true ?_
  unfold Go.Wd.fstI
  cases hf:l.findIdx? fun x=>decide (x=s) with
  |some i=>show(i:Int)≥0;omega
  |none=>
   exfalso
   rw[List.findIdx?_eq_none_iff] at hf
   obtain⟨x,hx,he⟩:=List.any_eq_true.1 h
   have:=hf x hx
   simp at he this
   exact this he
theorem zlq (l:List Txt) (s:Txt) (hl:l.length≤9223372036854775807):Spec Tryz.prog 130 [lst 1 (zE l),.str s] (fun v=>v=.bool (l.any fun x=>x==s)):=by
 refine Spec.of_awlS hf130 okf130 (by simp) fun S hS=>?_
 rw[←zlp] at hS
 simp only[yT,Qs,Nat.reduceAdd,Nat.reduceBEq,Q130]
 refine zC (zlo l s hl) ?_ (ha:=by simp[zD,V.norm,zW,lst,yT])
 by_cases h:Go.Wd.fstI l s≥0
 ·rw[decide_eq_true h] at hS
  simp only[h,Qs]
  exact hS
 ·rw[decide_eq_false h] at hS
  simp only[h,Qs]
  exact hS
theorem c99 (s p:Txt) (hs:s.length≤1000000) (hp:p.length≤1000000):Spec Tryz.prog 99 [.str s,.str p] (fun v=>v=.bool (decide (p.length≤s.length)&&(s.drop (s.length-p.length)==p))):=by
 refine Spec.of_awlS hf99 okf99 (by simp) fun S hS=>?_
 by_cases h:p.length≤s.length
 ·have h1:(s.length:Int)≥p.length:=by omega
  have w:IntKind.i64.wrap ((s.length:Int)-p.length)=((s.length-p.length:Nat):Int):=by rw[wrap_in (by omega) (by omega)];omega
  have w0:(0:Int)≤((s.length-p.length:Nat):Int):=by omega
  have w1:((s.length-p.length:Nat):Int)≤s.length:=by omega
  rw[decide_eq_true h,Bool.true_and] at hS
  simp only[h1,w,w0,w1,Int.toNat_natCast,Qs,zcp,Nat.reduceAdd,Nat.reduceBEq,Q99]
  rw[List.take_length]
  exact⟨by omega,hS⟩
 ·have h1: ¬(s.length:Int)≥p.length:=by omega
  rw[decide_eq_false h,Bool.false_and] at hS
  simp only[h1,Qs,zcp,Nat.reduceAdd,Nat.reduceBEq,Q99]
  exact hS
def wR (s p:Txt):Txt:=if decide (p.length≤s.length)&&(s.drop (s.length-p.length)==p) then s.take (s.length-p.length) else s
theorem c66 (s p:Txt) (hs:s.length≤1000000) (hp:p.length≤1000000):Spec Tryz.prog 66 [.str s,.str p] (fun v=>v=.str (wR s p)):=by
 refine Spec.of_awlS hf66 okf66 (by simp) fun S hS=>?_
 have g:=c99 s p hs hp
 unfold wR at hS
 have hle:(decide (p.length≤s.length)&&(s.drop (s.length-p.length)==p))=true→p.length≤s.length:=fun h=>by
  rw[Bool.and_eq_true,decide_eq_true_eq] at h;exact h.1
 generalize (decide (p.length≤s.length)&&(s.drop (s.length-p.length)==p))=q at hS g hle
 simp only[Qs,Nat.reduceAdd,Nat.reduceBEq,Q66]
 refine zC g ?_
 cases q with
 |false=>
  simp only[Qs,Nat.reduceBEq,Q66]
  exact hS
 |true=>
  have hpl:=hle rfl
  have w:IntKind.i64.wrap ((s.length:Int)-p.length)=((s.length-p.length:Nat):Int):=by rw[wrap_in (by omega) (by omega)];omega
  have w0:(0:Int)≤((s.length-p.length:Nat):Int):=by omega
  have w1:((s.length-p.length:Nat):Int)≤s.length:=by omega
  simp only[w,w0,w1,Int.toNat_natCast,Qs,Nat.reduceBEq,Int.reduceLE,Q66]
  exact hS
theorem c24 (s p:Txt) (hs:s.length≤1000000) (hp:p.length≤1000000):Spec Tryz.prog 24 [.str s,.str p] (fun v=>v=.str (wR s p)):=by
 refine Spec.of_awlS hf24 okf24 (by simp) fun S hS=>?_
 simp only[Qs,Nat.reduceAdd,Nat.reduceBEq,Q24]
 refine zC (c66 s p hs hp) ?_
 simp only[Qs]
 exact hS
end Go.Abs
set_option maxRecDepth 100000
namespace Go.Proofs
open Go.Shelf Go.RowKit
def Tryz.laysItoa_ren:Go.Shelf.Ren:=
 {
  f:=fun x=>
   match x with
   |171=>51
   |243=>92
   |246=>116
   |283=>135
   |284=>136
   |285=>137
   |286=>138
   |129=>149
   |317=>148
   |318=>150
   |319=>151
   |320=>152
   |337=>156
   |338=>157
   |n=>n,
  t:=fun x=>
   match x with
   |3=>3
   |9=>9
   |2=>2
   |4=>4
   |171=>156
   |0=>0
   |53=>157
   |37=>78
   |5=>5
   |173=>160
   |212=>174
   |51=>162
   |20=>20
   |213=>175
   |46=>148
   |232=>191
   |233=>192
   |n=>n,
  g:=fun x=>
   match x with
   |17=>1
   |18=>6
   |19=>7
   |n=>n}
theorem Tryz.laysItoa:Go.Proofs.LaysM.n171 Go.Proofs.Tryz.prog Go.Proofs.Tryz.laysItoa_ren:=
 {mixed:=by kernel_rfl,
  f129:=Eq.trans Go.Proofs.Tryz.func149 (congrArg some (Eq.refl (Go.Proofs.Body.n129 Go.Proofs.Tryz.laysItoa_ren))),
  f171:=Eq.trans Go.Proofs.Tryz.func51 (congrArg some (Eq.refl (Go.Proofs.Body.n171 Go.Proofs.Tryz.laysItoa_ren))),
  f243:=Eq.trans Go.Proofs.Tryz.func92 (congrArg some (Eq.refl (Go.Proofs.Body.n243 Go.Proofs.Tryz.laysItoa_ren))),
  f246:=Eq.trans Go.Proofs.Tryz.func116 (congrArg some (Eq.refl (Go.Proofs.Body.n246 Go.Proofs.Tryz.laysItoa_ren))),
  f283:=Eq.trans Go.Proofs.Tryz.func135 (congrArg some (Eq.refl (Go.Proofs.Body.n283 Go.Proofs.Tryz.laysItoa_ren))),
  f284:=Eq.trans Go.Proofs.Tryz.func136 (congrArg some (Eq.refl (Go.Proofs.Body.n284 Go.Proofs.Tryz.laysItoa_ren))),
  f285:=Eq.trans Go.Proofs.Tryz.func137 (congrArg some (Eq.refl (Go.Proofs.Body.n285 Go.Proofs.Tryz.laysItoa_ren))),
  f286:=Eq.trans Go.Proofs.Tryz.func138 (congrArg some (Eq.refl (Go.Proofs.Body.n286 Go.Proofs.Tryz.laysItoa_ren))),
  f317:=Eq.trans Go.Proofs.Tryz.func148 (congrArg some (Eq.refl (Go.Proofs.Body.n317 Go.Proofs.Tryz.laysItoa_ren))),
  f318:=Eq.trans Go.Proofs.Tryz.func150 (congrArg some (Eq.refl (Go.Proofs.Body.n318 Go.Proofs.Tryz.laysItoa_ren))),
  f319:=Eq.trans Go.Proofs.Tryz.func151 (congrArg some (Eq.refl (Go.Proofs.Body.n319 Go.Proofs.Tryz.laysItoa_ren))),
  f320:=Eq.trans Go.Proofs.Tryz.func152 (congrArg some (Eq.refl (Go.Proofs.Body.n320 Go.Proofs.Tryz.laysItoa_ren))),
  f337:=Eq.trans Go.Proofs.Tryz.func156 (congrArg some (Eq.refl (Go.Proofs.Body.n337 Go.Proofs.Tryz.laysItoa_ren))),
  f338:=Eq.trans Go.Proofs.Tryz.func157 (congrArg some (Eq.refl (Go.Proofs.Body.n338 Go.Proofs.Tryz.laysItoa_ren))),
  t0:=Go.Proofs.Tryz.underlying0,a0:=Go.Proofs.Tryz.isAgg0,z0:=Go.Proofs.Tryz.sizeOf0,
  v0:=Go.Proofs.Tryz.zeroValue0,t2:=Go.Proofs.Tryz.underlying2,a2:=Go.Proofs.Tryz.isAgg2,
  z2:=Go.Proofs.Tryz.sizeOf2,v2:=Go.Proofs.Tryz.zeroValue2,t3:=Go.Proofs.Tryz.underlying3,
  a3:=Go.Proofs.Tryz.isAgg3,z3:=Go.Proofs.Tryz.sizeOf3,v3:=Go.Proofs.Tryz.zeroValue3,
  t4:=Go.Proofs.Tryz.underlying4,a4:=Go.Proofs.Tryz.isAgg4,z4:=Go.Proofs.Tryz.sizeOf4,
  v4:=Go.Proofs.Tryz.zeroValue4,t5:=Go.Proofs.Tryz.underlying5,a5:=Go.Proofs.Tryz.isAgg5,
  z5:=Go.Proofs.Tryz.sizeOf5,v5:=Go.Proofs.Tryz.zeroValue5,t9:=Go.Proofs.Tryz.underlying9,
  a9:=Go.Proofs.Tryz.isAgg9,z9:=Go.Proofs.Tryz.sizeOf9,v9:=Go.Proofs.Tryz.zeroValue9,
  t20:=Go.Proofs.Tryz.underlying20,a20:=Go.Proofs.Tryz.isAgg20,z20:=Go.Proofs.Tryz.sizeOf20,
  v20:=Go.Proofs.Tryz.zeroValue20,t37:=Go.Proofs.Tryz.underlying78,a37:=Go.Proofs.Tryz.isAgg78,
  z37:=Go.Proofs.Tryz.sizeOf78,v37:=Go.Proofs.Tryz.zeroValue78,t46:=Go.Proofs.Tryz.underlying148,
  a46:=Go.Proofs.Tryz.isAgg148,z46:=Go.Proofs.Tryz.sizeOf148,v46:=Go.Proofs.Tryz.zeroValue148,
  t51:=Go.Proofs.Tryz.underlying162,a51:=Go.Proofs.Tryz.isAgg162,z51:=Go.Proofs.Tryz.sizeOf162,
  v51:=Go.Proofs.Tryz.zeroValue162,t53:=Go.Proofs.Tryz.underlying157,a53:=Go.Proofs.Tryz.isAgg157,
  z53:=Go.Proofs.Tryz.sizeOf157,v53:=Go.Proofs.Tryz.zeroValue157,t171:=Go.Proofs.Tryz.underlying156,
  a171:=Go.Proofs.Tryz.isAgg156,z171:=Go.Proofs.Tryz.sizeOf156,v171:=Go.Proofs.Tryz.zeroValue156,
  t173:=Go.Proofs.Tryz.underlying160,a173:=Go.Proofs.Tryz.isAgg160,z173:=Go.Proofs.Tryz.sizeOf160,
  v173:=Go.Proofs.Tryz.zeroValue160,t212:=Go.Proofs.Tryz.underlying174,a212:=Go.Proofs.Tryz.isAgg174,
  z212:=Go.Proofs.Tryz.sizeOf174,v212:=Go.Proofs.Tryz.zeroValue174,t213:=Go.Proofs.Tryz.underlying175,
  a213:=Go.Proofs.Tryz.isAgg175,z213:=Go.Proofs.Tryz.sizeOf175,t232:=Go.Proofs.Tryz.underlying191,
  a232:=Go.Proofs.Tryz.isAgg191,z232:=Go.Proofs.Tryz.sizeOf191,v232:=Go.Proofs.Tryz.zeroValue191,
  t233:=Go.Proofs.Tryz.underlying192,a233:=Go.Proofs.Tryz.isAgg192,z233:=Go.Proofs.Tryz.sizeOf192,
  v233:=Go.Proofs.Tryz.zeroValue192,g17:=by kernel_rfl,
  g18:=by kernel_rfl,g19:=by kernel_rfl,
  i0:=by kernel_rfl,
  i2:=by kernel_rfl,
  i3:=by kernel_rfl,
  i4:=by kernel_rfl,
  i5:=by kernel_rfl,
  i9:=by kernel_rfl,
  i20:=by kernel_rfl,i37:=by kernel_rfl,
  i46:=by kernel_rfl,
  i51:=by kernel_rfl,
  i53:=by kernel_rfl,
  i171:=
   Eq.refl
    (some
     (some
       (Go.Value.agg
        #[Go.Value.int Go.IntKind.u8 0,Go.Value.int Go.IntKind.u8 0,Go.Value.int Go.IntKind.u8 0,
          Go.Value.int Go.IntKind.u8 0,Go.Value.int Go.IntKind.u8 0,Go.Value.int Go.IntKind.u8 0,
          Go.Value.int Go.IntKind.u8 0,Go.Value.int Go.IntKind.u8 0,Go.Value.int Go.IntKind.u8 0,
          Go.Value.int Go.IntKind.u8 0,Go.Value.int Go.IntKind.u8 0,Go.Value.int Go.IntKind.u8 0,
          Go.Value.int Go.IntKind.u8 0,Go.Value.int Go.IntKind.u8 0,Go.Value.int Go.IntKind.u8 0,
          Go.Value.int Go.IntKind.u8 0,Go.Value.int Go.IntKind.u8 0,Go.Value.int Go.IntKind.u8 0,
          Go.Value.int Go.IntKind.u8 0,Go.Value.int Go.IntKind.u8 0,Go.Value.int Go.IntKind.u8 0,
          Go.Value.int Go.IntKind.u8 0,Go.Value.int Go.IntKind.u8 0,Go.Value.int Go.IntKind.u8 0]),
      24,24)),
  i173:=by kernel_rfl,
  i212:=
   Eq.refl
    (some
     (some
       (Go.Value.agg
        #[Go.Value.int Go.IntKind.u64 0,Go.Value.int Go.IntKind.u64 0,Go.Value.int Go.IntKind.u64 0,
          Go.Value.int Go.IntKind.u64 0,Go.Value.int Go.IntKind.u64 0,Go.Value.int Go.IntKind.u64 0,
          Go.Value.int Go.IntKind.u64 0,Go.Value.int Go.IntKind.u64 0,Go.Value.int Go.IntKind.u64 0,
          Go.Value.int Go.IntKind.u64 0,Go.Value.int Go.IntKind.u64 0,Go.Value.int Go.IntKind.u64 0,
          Go.Value.int Go.IntKind.u64 0,Go.Value.int Go.IntKind.u64 0,Go.Value.int Go.IntKind.u64 0,
          Go.Value.int Go.IntKind.u64 0,Go.Value.int Go.IntKind.u64 0,Go.Value.int Go.IntKind.u64 0,
          Go.Value.int Go.IntKind.u64 0,Go.Value.int Go.IntKind.u64 0]),
      20,160)),
  i232:=
   Eq.refl
    (some
     (some
       (Go.Value.agg
        #[Go.Value.int Go.IntKind.u8 0,Go.Value.int Go.IntKind.u8 0,Go.Value.int Go.IntKind.u8 0,
          Go.Value.int Go.IntKind.u8 0,Go.Value.int Go.IntKind.u8 0,Go.Value.int Go.IntKind.u8 0,
          Go.Value.int Go.IntKind.u8 0,Go.Value.int Go.IntKind.u8 0,Go.Value.int Go.IntKind.u8 0,
          Go.Value.int Go.IntKind.u8 0,Go.Value.int Go.IntKind.u8 0,Go.Value.int Go.IntKind.u8 0,
          Go.Value.int Go.IntKind.u8 0,Go.Value.int Go.IntKind.u8 0,Go.Value.int Go.IntKind.u8 0,
          Go.Value.int Go.IntKind.u8 0,Go.Value.int Go.IntKind.u8 0,Go.Value.int Go.IntKind.u8 0,
          Go.Value.int Go.IntKind.u8 0,Go.Value.int Go.IntKind.u8 0,Go.Value.int Go.IntKind.u8 0,
          Go.Value.int Go.IntKind.u8 0,Go.Value.int Go.IntKind.u8 0,Go.Value.int Go.IntKind.u8 0,
          Go.Value.int Go.IntKind.u8 0,Go.Value.int Go.IntKind.u8 0,Go.Value.int Go.IntKind.u8 0,
          Go.Value.int Go.IntKind.u8 0,Go.Value.int Go.IntKind.u8 0,Go.Value.int Go.IntKind.u8 0,
          Go.Value.int Go.IntKind.u8 0,Go.Value.int Go.IntKind.u8 0]),
      32,32)),
  i233:=
   Eq.refl
    (some
     (some
       (Go.Value.agg
        (let y:=
          let y:=
           let y:=
            let y:=
             [Go.Value.int Go.IntKind.u8 0,Go.Value.int Go.IntKind.u8 0,Go.Value.int Go.IntKind.u8 0,
              Go.Value.int Go.IntKind.u8 0];
            Go.Value.int Go.IntKind.u8 0::
             Go.Value.int Go.IntKind.u8 0::
              Go.Value.int Go.IntKind.u8 0::Go.Value.int Go.IntKind.u8 0::y;
           let y:=
            Go.Value.int Go.IntKind.u8 0::
             Go.Value.int Go.IntKind.u8 0::
              Go.Value.int Go.IntKind.u8 0::Go.Value.int Go.IntKind.u8 0::y;
           Go.Value.int Go.IntKind.u8 0::
            Go.Value.int Go.IntKind.u8 0::Go.Value.int Go.IntKind.u8 0::Go.Value.int Go.IntKind.u8 0::y;
          let y:=
           let y:=
            Go.Value.int Go.IntKind.u8 0::
             Go.Value.int Go.IntKind.u8 0::
              Go.Value.int Go.IntKind.u8 0::Go.Value.int Go.IntKind.u8 0::y;
           Go.Value.int Go.IntKind.u8 0::
            Go.Value.int Go.IntKind.u8 0::Go.Value.int Go.IntKind.u8 0::Go.Value.int Go.IntKind.u8 0::y;
          let y:=
           Go.Value.int Go.IntKind.u8 0::
            Go.Value.int Go.IntKind.u8 0::Go.Value.int Go.IntKind.u8 0::Go.Value.int Go.IntKind.u8 0::y;
          Go.Value.int Go.IntKind.u8 0::
           Go.Value.int Go.IntKind.u8 0::Go.Value.int Go.IntKind.u8 0::Go.Value.int Go.IntKind.u8 0::y;
         let y:=
          let y:=
           let y:=
            Go.Value.int Go.IntKind.u8 0::
             Go.Value.int Go.IntKind.u8 0::
              Go.Value.int Go.IntKind.u8 0::Go.Value.int Go.IntKind.u8 0::y;
           Go.Value.int Go.IntKind.u8 0::
            Go.Value.int Go.IntKind.u8 0::Go.Value.int Go.IntKind.u8 0::Go.Value.int Go.IntKind.u8 0::y;
          let y:=
           Go.Value.int Go.IntKind.u8 0::
            Go.Value.int Go.IntKind.u8 0::Go.Value.int Go.IntKind.u8 0::Go.Value.int Go.IntKind.u8 0::y;
          Go.Value.int Go.IntKind.u8 0::
           Go.Value.int Go.IntKind.u8 0::Go.Value.int Go.IntKind.u8 0::Go.Value.int Go.IntKind.u8 0::y;
         let y:=
          let y:=
           Go.Value.int Go.IntKind.u8 0::
            Go.Value.int Go.IntKind.u8 0::Go.Value.int Go.IntKind.u8 0::Go.Value.int Go.IntKind.u8 0::y;
          Go.Value.int Go.IntKind.u8 0::
           Go.Value.int Go.IntKind.u8 0::Go.Value.int Go.IntKind.u8 0::Go.Value.int Go.IntKind.u8 0::y;
         let y:=
          Go.Value.int Go.IntKind.u8 0::
           Go.Value.int Go.IntKind.u8 0::Go.Value.int Go.IntKind.u8 0::Go.Value.int Go.IntKind.u8 0::y;
         Go.Value.int Go.IntKind.u8 0::
          Go.Value.int Go.IntKind.u8 0::
           Go.Value.int Go.IntKind.u8 0::Go.Value.int Go.IntKind.u8 0::y).toArray),
      64,64)),
  m17:=by kernel_rfl,m18:=by kernel_rfl,
  m19:=by kernel_rfl}
def Tryz.laysAtoi_ren:Go.Shelf.Ren:=
 {
  f:=fun x=>
   match x with
   |172=>103
   |244=>126
   |245=>127
   |247=>141
   |279=>142
   |280=>143
   |281=>144
   |282=>145
   |287=>153
   |316=>154
   |171=>51
   |205=>155
   |321=>158
   |322=>159
   |243=>92
   |246=>116
   |283=>135
   |284=>136
   |285=>137
   |286=>138
   |129=>149
   |317=>148
   |318=>150
   |319=>151
   |320=>152
   |337=>156
   |338=>157
   |n=>n,
  t:=fun x=>
   match x with
   |9=>9
   |3=>3
   |75=>82
   |76=>83
   |4=>4
   |5=>5
   |167=>165
   |37=>78
   |0=>0
   |85=>166
   |2=>2
   |168=>168
   |53=>157
   |175=>181
   |46=>148
   |210=>184
   |127=>120
   |145=>190
   |143=>188
   |21=>21
   |171=>156
   |173=>160
   |212=>174
   |51=>162
   |20=>20
   |213=>175
   |232=>191
   |233=>192
   |80=>96
   |n=>n,
  g:=fun x=>
   match x with
   |15=>4
   |16=>5
   |17=>1
   |18=>6
   |19=>7
   |n=>n}
theorem Tryz.laysAtoi:Go.Proofs.LaysC.n172 Go.Proofs.Tryz.prog Go.Proofs.Tryz.laysAtoi_ren:=
 {mixed:=by kernel_rfl,
  f129:=Eq.trans Go.Proofs.Tryz.func149 (congrArg some (Eq.refl (Go.Proofs.Body.n129 Go.Proofs.Tryz.laysAtoi_ren))),
  f171:=Eq.trans Go.Proofs.Tryz.func51 (congrArg some (Eq.refl (Go.Proofs.Body.n171 Go.Proofs.Tryz.laysAtoi_ren))),
  f172:=Eq.trans Go.Proofs.Tryz.func103 (congrArg some (Eq.refl (Go.Proofs.Body.n172 Go.Proofs.Tryz.laysAtoi_ren))),
  f205:=Eq.trans Go.Proofs.Tryz.func155 (congrArg some (Eq.refl (Go.Proofs.Body.n205 Go.Proofs.Tryz.laysAtoi_ren))),
  f243:=Eq.trans Go.Proofs.Tryz.func92 (congrArg some (Eq.refl (Go.Proofs.Body.n243 Go.Proofs.Tryz.laysAtoi_ren))),
  f244:=Eq.trans Go.Proofs.Tryz.func126 (congrArg some (Eq.refl (Go.Proofs.Body.n244 Go.Proofs.Tryz.laysAtoi_ren))),
  f245:=Eq.trans Go.Proofs.Tryz.func127 (congrArg some (Eq.refl (Go.Proofs.Body.n245 Go.Proofs.Tryz.laysAtoi_ren))),
  f246:=Eq.trans Go.Proofs.Tryz.func116 (congrArg some (Eq.refl (Go.Proofs.Body.n246 Go.Proofs.Tryz.laysAtoi_ren))),
  f247:=Eq.trans Go.Proofs.Tryz.func141 (congrArg some (Eq.refl (Go.Proofs.Body.n247 Go.Proofs.Tryz.laysAtoi_ren))),
  f279:=Eq.trans Go.Proofs.Tryz.func142 (congrArg some (Eq.refl (Go.Proofs.Body.n279 Go.Proofs.Tryz.laysAtoi_ren))),
  f280:=Eq.trans Go.Proofs.Tryz.func143 (congrArg some (Eq.refl (Go.Proofs.Body.n280 Go.Proofs.Tryz.laysAtoi_ren))),
  f281:=Eq.trans Go.Proofs.Tryz.func144 (congrArg some (Eq.refl (Go.Proofs.Body.n281 Go.Proofs.Tryz.laysAtoi_ren))),
  f282:=Eq.trans Go.Proofs.Tryz.func145 (congrArg some (Eq.refl (Go.Proofs.Body.n282 Go.Proofs.Tryz.laysAtoi_ren))),
  f283:=Eq.trans Go.Proofs.Tryz.func135 (congrArg some (Eq.refl (Go.Proofs.Body.n283 Go.Proofs.Tryz.laysAtoi_ren))),
  f284:=Eq.trans Go.Proofs.Tryz.func136 (congrArg some (Eq.refl (Go.Proofs.Body.n284 Go.Proofs.Tryz.laysAtoi_ren))),
  f285:=Eq.trans Go.Proofs.Tryz.func137 (congrArg some (Eq.refl (Go.Proofs.Body.n285 Go.Proofs.Tryz.laysAtoi_ren))),
  f286:=Eq.trans Go.Proofs.Tryz.func138 (congrArg some (Eq.refl (Go.Proofs.Body.n286 Go.Proofs.Tryz.laysAtoi_ren))),
  f287:=Eq.trans Go.Proofs.Tryz.func153 (congrArg some (Eq.refl (Go.Proofs.Body.n287 Go.Proofs.Tryz.laysAtoi_ren))),
  f316:=Eq.trans Go.Proofs.Tryz.func154 (congrArg some (Eq.refl (Go.Proofs.Body.n316 Go.Proofs.Tryz.laysAtoi_ren))),
  f317:=Eq.trans Go.Proofs.Tryz.func148 (congrArg some (Eq.refl (Go.Proofs.Body.n317 Go.Proofs.Tryz.laysAtoi_ren))),
  f318:=Eq.trans Go.Proofs.Tryz.func150 (congrArg some (Eq.refl (Go.Proofs.Body.n318 Go.Proofs.Tryz.laysAtoi_ren))),
  f319:=Eq.trans Go.Proofs.Tryz.func151 (congrArg some (Eq.refl (Go.Proofs.Body.n319 Go.Proofs.Tryz.laysAtoi_ren))),
  f320:=Eq.trans Go.Proofs.Tryz.func152 (congrArg some (Eq.refl (Go.Proofs.Body.n320 Go.Proofs.Tryz.laysAtoi_ren))),
  f321:=Eq.trans Go.Proofs.Tryz.func158 (congrArg some (Eq.refl (Go.Proofs.Body.n321 Go.Proofs.Tryz.laysAtoi_ren))),
  f322:=Eq.trans Go.Proofs.Tryz.func159 (congrArg some (Eq.refl (Go.Proofs.Body.n322 Go.Proofs.Tryz.laysAtoi_ren))),
  f337:=Eq.trans Go.Proofs.Tryz.func156 (congrArg some (Eq.refl (Go.Proofs.Body.n337 Go.Proofs.Tryz.laysAtoi_ren))),
  f338:=Eq.trans Go.Proofs.Tryz.func157 (congrArg some (Eq.refl (Go.Proofs.Body.n338 Go.Proofs.Tryz.laysAtoi_ren))),
  t0:=Go.Proofs.Tryz.underlying0,a0:=Go.Proofs.Tryz.isAgg0,z0:=Go.Proofs.Tryz.sizeOf0,
  v0:=Go.Proofs.Tryz.zeroValue0,t2:=Go.Proofs.Tryz.underlying2,a2:=Go.Proofs.Tryz.isAgg2,
  z2:=Go.Proofs.Tryz.sizeOf2,v2:=Go.Proofs.Tryz.zeroValue2,t3:=Go.Proofs.Tryz.underlying3,
  a3:=Go.Proofs.Tryz.isAgg3,z3:=Go.Proofs.Tryz.sizeOf3,v3:=Go.Proofs.Tryz.zeroValue3,
  t4:=Go.Proofs.Tryz.underlying4,a4:=Go.Proofs.Tryz.isAgg4,z4:=Go.Proofs.Tryz.sizeOf4,
  v4:=Go.Proofs.Tryz.zeroValue4,t5:=Go.Proofs.Tryz.underlying5,a5:=Go.Proofs.Tryz.isAgg5,
  z5:=Go.Proofs.Tryz.sizeOf5,v5:=Go.Proofs.Tryz.zeroValue5,t9:=Go.Proofs.Tryz.underlying9,
  a9:=Go.Proofs.Tryz.isAgg9,z9:=Go.Proofs.Tryz.sizeOf9,v9:=Go.Proofs.Tryz.zeroValue9,
  t20:=Go.Proofs.Tryz.underlying20,a20:=Go.Proofs.Tryz.isAgg20,z20:=Go.Proofs.Tryz.sizeOf20,
  v20:=Go.Proofs.Tryz.zeroValue20,t21:=Go.Proofs.Tryz.underlying21,a21:=Go.Proofs.Tryz.isAgg21,
  z21:=Go.Proofs.Tryz.sizeOf21,v21:=Go.Proofs.Tryz.zeroValue21,t37:=Go.Proofs.Tryz.underlying78,
  a37:=Go.Proofs.Tryz.isAgg78,z37:=Go.Proofs.Tryz.sizeOf78,v37:=Go.Proofs.Tryz.zeroValue78,
  t46:=Go.Proofs.Tryz.underlying148,a46:=Go.Proofs.Tryz.isAgg148,z46:=Go.Proofs.Tryz.sizeOf148,
  v46:=Go.Proofs.Tryz.zeroValue148,t51:=Go.Proofs.Tryz.underlying162,a51:=Go.Proofs.Tryz.isAgg162,
  z51:=Go.Proofs.Tryz.sizeOf162,v51:=Go.Proofs.Tryz.zeroValue162,t53:=Go.Proofs.Tryz.underlying157,
  a53:=Go.Proofs.Tryz.isAgg157,z53:=Go.Proofs.Tryz.sizeOf157,v53:=Go.Proofs.Tryz.zeroValue157,
  t75:=Go.Proofs.Tryz.underlying82,a75:=Go.Proofs.Tryz.isAgg82,z75:=Go.Proofs.Tryz.sizeOf82,
  v75:=Go.Proofs.Tryz.zeroValue82,t76:=Go.Proofs.Tryz.underlying83,a76:=Go.Proofs.Tryz.isAgg83,
  z76:=Go.Proofs.Tryz.sizeOf83,v76:=Go.Proofs.Tryz.zeroValue83,t85:=Go.Proofs.Tryz.underlying166,
  a85:=Go.Proofs.Tryz.isAgg166,z85:=Go.Proofs.Tryz.sizeOf166,v85:=Go.Proofs.Tryz.zeroValue166,
  t127:=Go.Proofs.Tryz.underlying120,a127:=Go.Proofs.Tryz.isAgg120,z127:=Go.Proofs.Tryz.sizeOf120,
  v127:=Go.Proofs.Tryz.zeroValue120,t143:=Go.Proofs.Tryz.underlying188,a143:=Go.Proofs.Tryz.isAgg188,
  z143:=Go.Proofs.Tryz.sizeOf188,v143:=Go.Proofs.Tryz.zeroValue188,t145:=Go.Proofs.Tryz.underlying190,
  a145:=Go.Proofs.Tryz.isAgg190,z145:=Go.Proofs.Tryz.sizeOf190,v145:=Go.Proofs.Tryz.zeroValue190,
  t167:=Go.Proofs.Tryz.underlying165,a167:=Go.Proofs.Tryz.isAgg165,z167:=Go.Proofs.Tryz.sizeOf165,
  v167:=Go.Proofs.Tryz.zeroValue165,t168:=Go.Proofs.Tryz.underlying168,a168:=Go.Proofs.Tryz.isAgg168,
  z168:=Go.Proofs.Tryz.sizeOf168,v168:=Go.Proofs.Tryz.zeroValue168,t171:=Go.Proofs.Tryz.underlying156,
  a171:=Go.Proofs.Tryz.isAgg156,z171:=Go.Proofs.Tryz.sizeOf156,v171:=Go.Proofs.Tryz.zeroValue156,
  t173:=Go.Proofs.Tryz.underlying160,a173:=Go.Proofs.Tryz.isAgg160,z173:=Go.Proofs.Tryz.sizeOf160,
  v173:=Go.Proofs.Tryz.zeroValue160,t175:=Go.Proofs.Tryz.underlying181,a175:=Go.Proofs.Tryz.isAgg181,
  z175:=Go.Proofs.Tryz.sizeOf181,v175:=Go.Proofs.Tryz.zeroValue181,t210:=Go.Proofs.Tryz.underlying184,
  a210:=Go.Proofs.Tryz.isAgg184,z210:=Go.Proofs.Tryz.sizeOf184,v210:=Go.Proofs.Tryz.zeroValue184,
  t212:=Go.Proofs.Tryz.underlying174,a212:=Go.Proofs.Tryz.isAgg174,z212:=Go.Proofs.Tryz.sizeOf174,
  v212:=Go.Proofs.Tryz.zeroValue174,t213:=Go.Proofs.Tryz.underlying175,a213:=Go.Proofs.Tryz.isAgg175,
  z213:=Go.Proofs.Tryz.sizeOf175,t232:=Go.Proofs.Tryz.underlying191,a232:=Go.Proofs.Tryz.isAgg191,
  z232:=Go.Proofs.Tryz.sizeOf191,v232:=Go.Proofs.Tryz.zeroValue191,t233:=Go.Proofs.Tryz.underlying192,
  a233:=Go.Proofs.Tryz.isAgg192,z233:=Go.Proofs.Tryz.sizeOf192,v233:=Go.Proofs.Tryz.zeroValue192,
  g15:=by kernel_rfl,g16:=by kernel_rfl,
  g17:=by kernel_rfl,g18:=by kernel_rfl,
  g19:=by kernel_rfl,t80:=Go.Proofs.Tryz.underlying96,
  a80:=Go.Proofs.Tryz.isAgg96,z80:=Go.Proofs.Tryz.sizeOf96,v80:=Go.Proofs.Tryz.zeroValue96,
  i0:=by kernel_rfl,
  i2:=by kernel_rfl,
  i3:=by kernel_rfl,
  i4:=by kernel_rfl,
  i5:=by kernel_rfl,
  i9:=by kernel_rfl,
  i20:=by kernel_rfl,
  i21:=by kernel_rfl,
  i37:=by kernel_rfl,
  i46:=by kernel_rfl,
  i51:=by kernel_rfl,
  i53:=by kernel_rfl,
  i75:=by kernel_rfl,
  i76:=by kernel_rfl,
  i80:=by kernel_rfl,
  i85:=by kernel_rfl,
  i127:=by kernel_rfl,
  i143:=by kernel_rfl,
  i145:=by kernel_rfl,
  i167:=by kernel_rfl,
  i168:=by kernel_rfl,
  i171:=
   Eq.refl
    (some
     (some
       (Go.Value.agg
        #[Go.Value.int Go.IntKind.u8 0,Go.Value.int Go.IntKind.u8 0,Go.Value.int Go.IntKind.u8 0,
          Go.Value.int Go.IntKind.u8 0,Go.Value.int Go.IntKind.u8 0,Go.Value.int Go.IntKind.u8 0,
          Go.Value.int Go.IntKind.u8 0,Go.Value.int Go.IntKind.u8 0,Go.Value.int Go.IntKind.u8 0,
          Go.Value.int Go.IntKind.u8 0,Go.Value.int Go.IntKind.u8 0,Go.Value.int Go.IntKind.u8 0,
          Go.Value.int Go.IntKind.u8 0,Go.Value.int Go.IntKind.u8 0,Go.Value.int Go.IntKind.u8 0,
          Go.Value.int Go.IntKind.u8 0,Go.Value.int Go.IntKind.u8 0,Go.Value.int Go.IntKind.u8 0,
          Go.Value.int Go.IntKind.u8 0,Go.Value.int Go.IntKind.u8 0,Go.Value.int Go.IntKind.u8 0,
          Go.Value.int Go.IntKind.u8 0,Go.Value.int Go.IntKind.u8 0,Go.Value.int Go.IntKind.u8 0]),
      24,24)),
  i173:=by kernel_rfl,
  i175:=by kernel_rfl,
  i210:=
   Eq.refl
    (some
     (some (Go.Value.agg #[Go.Value.string {data:= #[]},Go.Value.string {data:= #[]},Go.Value.nilIface]),3,
      48)),
  i212:=
   Eq.refl
    (some
     (some
       (Go.Value.agg
        #[Go.Value.int Go.IntKind.u64 0,Go.Value.int Go.IntKind.u64 0,Go.Value.int Go.IntKind.u64 0,
          Go.Value.int Go.IntKind.u64 0,Go.Value.int Go.IntKind.u64 0,Go.Value.int Go.IntKind.u64 0,
          Go.Value.int Go.IntKind.u64 0,Go.Value.int Go.IntKind.u64 0,Go.Value.int Go.IntKind.u64 0,
          Go.Value.int Go.IntKind.u64 0,Go.Value.int Go.IntKind.u64 0,Go.Value.int Go.IntKind.u64 0,
          Go.Value.int Go.IntKind.u64 0,Go.Value.int Go.IntKind.u64 0,Go.Value.int Go.IntKind.u64 0,
          Go.Value.int Go.IntKind.u64 0,Go.Value.int Go.IntKind.u64 0,Go.Value.int Go.IntKind.u64 0,
          Go.Value.int Go.IntKind.u64 0,Go.Value.int Go.IntKind.u64 0]),
      20,160)),
  i232:=
   Eq.refl
    (some
     (some
       (Go.Value.agg
        #[Go.Value.int Go.IntKind.u8 0,Go.Value.int Go.IntKind.u8 0,Go.Value.int Go.IntKind.u8 0,
          Go.Value.int Go.IntKind.u8 0,Go.Value.int Go.IntKind.u8 0,Go.Value.int Go.IntKind.u8 0,
          Go.Value.int Go.IntKind.u8 0,Go.Value.int Go.IntKind.u8 0,Go.Value.int Go.IntKind.u8 0,
          Go.Value.int Go.IntKind.u8 0,Go.Value.int Go.IntKind.u8 0,Go.Value.int Go.IntKind.u8 0,
          Go.Value.int Go.IntKind.u8 0,Go.Value.int Go.IntKind.u8 0,Go.Value.int Go.IntKind.u8 0,
          Go.Value.int Go.IntKind.u8 0,Go.Value.int Go.IntKind.u8 0,Go.Value.int Go.IntKind.u8 0,
          Go.Value.int Go.IntKind.u8 0,Go.Value.int Go.IntKind.u8 0,Go.Value.int Go.IntKind.u8 0,
          Go.Value.int Go.IntKind.u8 0,Go.Value.int Go.IntKind.u8 0,Go.Value.int Go.IntKind.u8 0,
          Go.Value.int Go.IntKind.u8 0,Go.Value.int Go.IntKind.u8 0,Go.Value.int Go.IntKind.u8 0,
          Go.Value.int Go.IntKind.u8 0,Go.Value.int Go.IntKind.u8 0,Go.Value.int Go.IntKind.u8 0,
          Go.Value.int Go.IntKind.u8 0,Go.Value.int Go.IntKind.u8 0]),
      32,32)),
  i233:=
   Eq.refl
    (some
     (some
       (Go.Value.agg
        (let y:=
          let y:=
           let y:=
            let y:=
             [Go.Value.int Go.IntKind.u8 0,Go.Value.int Go.IntKind.u8 0,Go.Value.int Go.IntKind.u8 0,
              Go.Value.int Go.IntKind.u8 0];
            Go.Value.int Go.IntKind.u8 0::
             Go.Value.int Go.IntKind.u8 0::
              Go.Value.int Go.IntKind.u8 0::Go.Value.int Go.IntKind.u8 0::y;
           let y:=
            Go.Value.int Go.IntKind.u8 0::
             Go.Value.int Go.IntKind.u8 0::
              Go.Value.int Go.IntKind.u8 0::Go.Value.int Go.IntKind.u8 0::y;
           Go.Value.int Go.IntKind.u8 0::
            Go.Value.int Go.IntKind.u8 0::Go.Value.int Go.IntKind.u8 0::Go.Value.int Go.IntKind.u8 0::y;
          let y:=
           let y:=
            Go.Value.int Go.IntKind.u8 0::
             Go.Value.int Go.IntKind.u8 0::
              Go.Value.int Go.IntKind.u8 0::Go.Value.int Go.IntKind.u8 0::y;
           Go.Value.int Go.IntKind.u8 0::
            Go.Value.int Go.IntKind.u8 0::Go.Value.int Go.IntKind.u8 0::Go.Value.int Go.IntKind.u8 0::y;
          let y:=
           Go.Value.int Go.IntKind.u8 0::
            Go.Value.int Go.IntKind.u8 0::Go.Value.int Go.IntKind.u8 0::Go.Value.int Go.IntKind.u8 0::y;
          Go.Value.int Go.IntKind.u8 0::
           Go.Value.int Go.IntKind.u8 0::Go.Value.int Go.IntKind.u8 0::Go.Value.int Go.IntKind.u8 0::y;
         let y:=
          let y:=
           let y:=
            Go.Value.int Go.IntKind.u8 0::
             Go.Value.int Go.IntKind.u8 0::
              Go.Value.int Go.IntKind.u8 0::Go.Value.int Go.IntKind.u8 0::y;
           Go.Value.int Go.IntKind.u8 0::
            Go.Value.int Go.IntKind.u8 0::Go.Value.int Go.IntKind.u8 0::Go.Value.int Go.IntKind.u8 0::y;
          let y:=
           Go.Value.int Go.IntKind.u8 0::
            Go.Value.int Go.IntKind.u8 0::Go.Value.int Go.IntKind.u8 0::Go.Value.int Go.IntKind.u8 0::y;
          Go.Value.int Go.IntKind.u8 0::
           Go.Value.int Go.IntKind.u8 0::Go.Value.int Go.IntKind.u8 0::Go.Value.int Go.IntKind.u8 0::y;
         let y:=
          let y:=
           Go.Value.int Go.IntKind.u8 0::
            Go.Value.int Go.IntKind.u8 0::Go.Value.int Go.IntKind.u8 0::Go.Value.int Go.IntKind.u8 0::y;
          Go.Value.int Go.IntKind.u8 0::
           Go.Value.int Go.IntKind.u8 0::Go.Value.int Go.IntKind.u8 0::Go.Value.int Go.IntKind.u8 0::y;
         let y:=
          Go.Value.int Go.IntKind.u8 0::
           Go.Value.int Go.IntKind.u8 0::Go.Value.int Go.IntKind.u8 0::Go.Value.int Go.IntKind.u8 0::y;
         Go.Value.int Go.IntKind.u8 0::
          Go.Value.int Go.IntKind.u8 0::
           Go.Value.int Go.IntKind.u8 0::Go.Value.int Go.IntKind.u8 0::y).toArray),
      64,64)),
  m15:=by kernel_rfl,m16:=by kernel_rfl,
  m17:=by kernel_rfl,m18:=by kernel_rfl,
  m19:=by kernel_rfl,c0:=by kernel_rfl,c2:=by kernel_rfl,
  c3:=by kernel_rfl,c4:=by kernel_rfl,c5:=by kernel_rfl,c9:=by kernel_rfl,
  c20:=by kernel_rfl,c21:=by kernel_rfl,c37:=by kernel_rfl,c46:=by kernel_rfl,
  c51:=by kernel_rfl,c53:=by kernel_rfl,c75:=by kernel_rfl,c76:=by kernel_rfl,
  c80:=by kernel_rfl,c85:=by kernel_rfl,c127:=by kernel_rfl,c143:=by kernel_rfl,
  c145:=by kernel_rfl,c167:=by kernel_rfl,c168:=by kernel_rfl,c171:=by kernel_rfl,
  c173:=by kernel_rfl,c175:=by kernel_rfl,c210:=by kernel_rfl,c212:=by kernel_rfl,
  c213:=by kernel_rfl,c232:=by kernel_rfl,c233:=by kernel_rfl}
def Tryz.laysString_ren:Go.Shelf.Ren:=
 {
  f:=fun x=>
   match x with
   |169=>55
   |n=>n,
  t:=fun x=>
   match x with
   |70=>77
   |9=>9
   |0=>0
   |72=>80
   |37=>78
   |127=>120
   |3=>3
   |5=>5
   |n=>n,
  g:=fun n=>n}
theorem Tryz.laysString:Go.Proofs.Lays.n169 Go.Proofs.Tryz.prog Go.Proofs.Tryz.laysString_ren:=
 {mixed:=by kernel_rfl,
  f169:=Eq.trans Go.Proofs.Tryz.func55 (congrArg some (Eq.refl (Go.Proofs.Body.n169 Go.Proofs.Tryz.laysString_ren))),
  t0:=Go.Proofs.Tryz.underlying0,a0:=Go.Proofs.Tryz.isAgg0,z0:=Go.Proofs.Tryz.sizeOf0,
  v0:=Go.Proofs.Tryz.zeroValue0,t3:=Go.Proofs.Tryz.underlying3,a3:=Go.Proofs.Tryz.isAgg3,
  z3:=Go.Proofs.Tryz.sizeOf3,v3:=Go.Proofs.Tryz.zeroValue3,t9:=Go.Proofs.Tryz.underlying9,
  a9:=Go.Proofs.Tryz.isAgg9,z9:=Go.Proofs.Tryz.sizeOf9,v9:=Go.Proofs.Tryz.zeroValue9,
  t37:=Go.Proofs.Tryz.underlying78,a37:=Go.Proofs.Tryz.isAgg78,z37:=Go.Proofs.Tryz.sizeOf78,
  v37:=Go.Proofs.Tryz.zeroValue78,t70:=Go.Proofs.Tryz.underlying77,a70:=Go.Proofs.Tryz.isAgg77,
  z70:=Go.Proofs.Tryz.sizeOf77,v70:=Go.Proofs.Tryz.zeroValue77,t72:=Go.Proofs.Tryz.underlying80,
  a72:=Go.Proofs.Tryz.isAgg80,z72:=Go.Proofs.Tryz.sizeOf80,v72:=Go.Proofs.Tryz.zeroValue80,
  t127:=Go.Proofs.Tryz.underlying120,a127:=Go.Proofs.Tryz.isAgg120,z127:=Go.Proofs.Tryz.sizeOf120,
  v127:=Go.Proofs.Tryz.zeroValue120}
def Tryz.laysGrow_ren:Go.Shelf.Ren:=
 {
  f:=fun x=>
   match x with
   |241=>115
   |277=>134
   |n=>n,
  t:=fun x=>
   match x with
   |70=>77
   |3=>3
   |0=>0
   |72=>80
   |37=>78
   |5=>5
   |n=>n,
  g:=fun n=>n}
theorem Tryz.laysGrow:Go.Proofs.Lays.n241 Go.Proofs.Tryz.prog Go.Proofs.Tryz.laysGrow_ren:=
 {mixed:=by kernel_rfl,
  f241:=Eq.trans Go.Proofs.Tryz.func115 (congrArg some (Eq.refl (Go.Proofs.Body.n241 Go.Proofs.Tryz.laysGrow_ren))),
  f277:=Eq.trans Go.Proofs.Tryz.func134 (congrArg some (Eq.refl (Go.Proofs.Body.n277 Go.Proofs.Tryz.laysGrow_ren))),
  t0:=Go.Proofs.Tryz.underlying0,a0:=Go.Proofs.Tryz.isAgg0,z0:=Go.Proofs.Tryz.sizeOf0,
  v0:=Go.Proofs.Tryz.zeroValue0,t3:=Go.Proofs.Tryz.underlying3,a3:=Go.Proofs.Tryz.isAgg3,
  z3:=Go.Proofs.Tryz.sizeOf3,v3:=Go.Proofs.Tryz.zeroValue3,t37:=Go.Proofs.Tryz.underlying78,
  a37:=Go.Proofs.Tryz.isAgg78,z37:=Go.Proofs.Tryz.sizeOf78,v37:=Go.Proofs.Tryz.zeroValue78,
  t70:=Go.Proofs.Tryz.underlying77,a70:=Go.Proofs.Tryz.isAgg77,z70:=Go.Proofs.Tryz.sizeOf77,
  v70:=Go.Proofs.Tryz.zeroValue77,t72:=Go.Proofs.Tryz.underlying80,a72:=Go.Proofs.Tryz.isAgg80,
  z72:=Go.Proofs.Tryz.sizeOf80,v72:=Go.Proofs.Tryz.zeroValue80}
def Tryz.laysSplit_ren:Go.Shelf.Ren:=
 {
  f:=fun x=>
   match x with
   |146=>23
   |221=>65
   |268=>98
   |138=>21
   |143=>62
   |195=>60
   |197=>123
   |218=>61
   |219=>96
   |260=>140
   |217=>97
   |225=>119
   |224=>120
   |267=>121
   |266=>122
   |314=>139
   |n=>n,
  t:=fun x=>
   match x with
   |9=>9
   |31=>22
   |3=>3
   |4=>4
   |0=>0
   |105=>149
   |21=>21
   |5=>5
   |46=>148
   |119=>177
   |139=>180
   |138=>179
   |146=>163
   |51=>162
   |n=>n,
  g:=fun x=>
   match x with
   |1=>0
   |3=>2
   |4=>3
   |n=>n}
theorem Tryz.laysSplit:Go.Proofs.Lays.n146 Go.Proofs.Tryz.prog Go.Proofs.Tryz.laysSplit_ren:=
 {mixed:=by kernel_rfl,
  f138:=Eq.trans Go.Proofs.Tryz.func21 (congrArg some (Eq.refl (Go.Proofs.Body.n138 Go.Proofs.Tryz.laysSplit_ren))),
  f143:=Eq.trans Go.Proofs.Tryz.func62 (congrArg some (Eq.refl (Go.Proofs.Body.n143 Go.Proofs.Tryz.laysSplit_ren))),
  f146:=Eq.trans Go.Proofs.Tryz.func23 (congrArg some (Eq.refl (Go.Proofs.Body.n146 Go.Proofs.Tryz.laysSplit_ren))),
  f195:=Eq.trans Go.Proofs.Tryz.func60 (congrArg some (Eq.refl (Go.Proofs.Body.n195 Go.Proofs.Tryz.laysSplit_ren))),
  f197:=Eq.trans Go.Proofs.Tryz.func123 (congrArg some (Eq.refl (Go.Proofs.Body.n197 Go.Proofs.Tryz.laysSplit_ren))),
  f217:=Eq.trans Go.Proofs.Tryz.func97 (congrArg some (Eq.refl (Go.Proofs.Body.n217 Go.Proofs.Tryz.laysSplit_ren))),
  f218:=Eq.trans Go.Proofs.Tryz.func61 (congrArg some (Eq.refl (Go.Proofs.Body.n218 Go.Proofs.Tryz.laysSplit_ren))),
  f219:=Eq.trans Go.Proofs.Tryz.func96 (congrArg some (Eq.refl (Go.Proofs.Body.n219 Go.Proofs.Tryz.laysSplit_ren))),
  f221:=Eq.trans Go.Proofs.Tryz.func65 (congrArg some (Eq.refl (Go.Proofs.Body.n221 Go.Proofs.Tryz.laysSplit_ren))),
  f224:=Eq.trans Go.Proofs.Tryz.func120 (congrArg some (Eq.refl (Go.Proofs.Body.n224 Go.Proofs.Tryz.laysSplit_ren))),
  f225:=Eq.trans Go.Proofs.Tryz.func119 (congrArg some (Eq.refl (Go.Proofs.Body.n225 Go.Proofs.Tryz.laysSplit_ren))),
  f260:=Eq.trans Go.Proofs.Tryz.func140 (congrArg some (Eq.refl (Go.Proofs.Body.n260 Go.Proofs.Tryz.laysSplit_ren))),
  f266:=Eq.trans Go.Proofs.Tryz.func122 (congrArg some (Eq.refl (Go.Proofs.Body.n266 Go.Proofs.Tryz.laysSplit_ren))),
  f267:=Eq.trans Go.Proofs.Tryz.func121 (congrArg some (Eq.refl (Go.Proofs.Body.n267 Go.Proofs.Tryz.laysSplit_ren))),
  f268:=Eq.trans Go.Proofs.Tryz.func98 (congrArg some (Eq.refl (Go.Proofs.Body.n268 Go.Proofs.Tryz.laysSplit_ren))),
  f314:=Eq.trans Go.Proofs.Tryz.func139 (congrArg some (Eq.refl (Go.Proofs.Body.n314 Go.Proofs.Tryz.laysSplit_ren))),
  t0:=Go.Proofs.Tryz.underlying0,a0:=Go.Proofs.Tryz.isAgg0,z0:=Go.Proofs.Tryz.sizeOf0,
  v0:=Go.Proofs.Tryz.zeroValue0,t3:=Go.Proofs.Tryz.underlying3,a3:=Go.Proofs.Tryz.isAgg3,
  z3:=Go.Proofs.Tryz.sizeOf3,v3:=Go.Proofs.Tryz.zeroValue3,t4:=Go.Proofs.Tryz.underlying4,
  a4:=Go.Proofs.Tryz.isAgg4,z4:=Go.Proofs.Tryz.sizeOf4,v4:=Go.Proofs.Tryz.zeroValue4,
  t5:=Go.Proofs.Tryz.underlying5,a5:=Go.Proofs.Tryz.isAgg5,z5:=Go.Proofs.Tryz.sizeOf5,
  v5:=Go.Proofs.Tryz.zeroValue5,t9:=Go.Proofs.Tryz.underlying9,a9:=Go.Proofs.Tryz.isAgg9,
  z9:=Go.Proofs.Tryz.sizeOf9,v9:=Go.Proofs.Tryz.zeroValue9,t21:=Go.Proofs.Tryz.underlying21,
  a21:=Go.Proofs.Tryz.isAgg21,z21:=Go.Proofs.Tryz.sizeOf21,v21:=Go.Proofs.Tryz.zeroValue21,
  t31:=Go.Proofs.Tryz.underlying22,a31:=Go.Proofs.Tryz.isAgg22,z31:=Go.Proofs.Tryz.sizeOf22,
  v31:=Go.Proofs.Tryz.zeroValue22,t46:=Go.Proofs.Tryz.underlying148,a46:=Go.Proofs.Tryz.isAgg148,
  z46:=Go.Proofs.Tryz.sizeOf148,v46:=Go.Proofs.Tryz.zeroValue148,t51:=Go.Proofs.Tryz.underlying162,
  a51:=Go.Proofs.Tryz.isAgg162,z51:=Go.Proofs.Tryz.sizeOf162,v51:=Go.Proofs.Tryz.zeroValue162,
  t105:=Go.Proofs.Tryz.underlying149,a105:=Go.Proofs.Tryz.isAgg149,z105:=Go.Proofs.Tryz.sizeOf149,
  v105:=Go.Proofs.Tryz.zeroValue149,t119:=Go.Proofs.Tryz.underlying177,a119:=Go.Proofs.Tryz.isAgg177,
  z119:=Go.Proofs.Tryz.sizeOf177,t138:=Go.Proofs.Tryz.underlying179,a138:=Go.Proofs.Tryz.isAgg179,
  z138:=Go.Proofs.Tryz.sizeOf179,v138:=Go.Proofs.Tryz.zeroValue179,t139:=Go.Proofs.Tryz.underlying180,
  a139:=Go.Proofs.Tryz.isAgg180,z139:=Go.Proofs.Tryz.sizeOf180,v139:=Go.Proofs.Tryz.zeroValue180,
  t146:=Go.Proofs.Tryz.underlying163,a146:=Go.Proofs.Tryz.isAgg163,z146:=Go.Proofs.Tryz.sizeOf163,
  v146:=Go.Proofs.Tryz.zeroValue163,g1:=by kernel_rfl,
  g3:=by kernel_rfl,g4:=by kernel_rfl}
def Tryz.laysCount_ren:Go.Shelf.Ren:=
 {
  f:=fun x=>
   match x with
   |138=>21
   |195=>60
   |218=>61
   |143=>62
   |219=>96
   |217=>97
   |225=>119
   |224=>120
   |267=>121
   |266=>122
   |314=>139
   |n=>n,
  t:=fun x=>
   match x with
   |9=>9
   |3=>3
   |4=>4
   |5=>5
   |0=>0
   |46=>148
   |146=>163
   |51=>162
   |n=>n,
  g:=fun x=>
   match x with
   |1=>0
   |n=>n}
theorem Tryz.laysCount:Go.Proofs.Lays.n138 Go.Proofs.Tryz.prog Go.Proofs.Tryz.laysCount_ren:=
 {mixed:=by kernel_rfl,
  f138:=Eq.trans Go.Proofs.Tryz.func21 (congrArg some (Eq.refl (Go.Proofs.Body.n138 Go.Proofs.Tryz.laysCount_ren))),
  f143:=Eq.trans Go.Proofs.Tryz.func62 (congrArg some (Eq.refl (Go.Proofs.Body.n143 Go.Proofs.Tryz.laysCount_ren))),
  f195:=Eq.trans Go.Proofs.Tryz.func60 (congrArg some (Eq.refl (Go.Proofs.Body.n195 Go.Proofs.Tryz.laysCount_ren))),
  f217:=Eq.trans Go.Proofs.Tryz.func97 (congrArg some (Eq.refl (Go.Proofs.Body.n217 Go.Proofs.Tryz.laysCount_ren))),
  f218:=Eq.trans Go.Proofs.Tryz.func61 (congrArg some (Eq.refl (Go.Proofs.Body.n218 Go.Proofs.Tryz.laysCount_ren))),
  f219:=Eq.trans Go.Proofs.Tryz.func96 (congrArg some (Eq.refl (Go.Proofs.Body.n219 Go.Proofs.Tryz.laysCount_ren))),
  f224:=Eq.trans Go.Proofs.Tryz.func120 (congrArg some (Eq.refl (Go.Proofs.Body.n224 Go.Proofs.Tryz.laysCount_ren))),
  f225:=Eq.trans Go.Proofs.Tryz.func119 (congrArg some (Eq.refl (Go.Proofs.Body.n225 Go.Proofs.Tryz.laysCount_ren))),
  f266:=Eq.trans Go.Proofs.Tryz.func122 (congrArg some (Eq.refl (Go.Proofs.Body.n266 Go.Proofs.Tryz.laysCount_ren))),
  f267:=Eq.trans Go.Proofs.Tryz.func121 (congrArg some (Eq.refl (Go.Proofs.Body.n267 Go.Proofs.Tryz.laysCount_ren))),
  f314:=Eq.trans Go.Proofs.Tryz.func139 (congrArg some (Eq.refl (Go.Proofs.Body.n314 Go.Proofs.Tryz.laysCount_ren))),
  t0:=Go.Proofs.Tryz.underlying0,a0:=Go.Proofs.Tryz.isAgg0,z0:=Go.Proofs.Tryz.sizeOf0,
  v0:=Go.Proofs.Tryz.zeroValue0,t3:=Go.Proofs.Tryz.underlying3,a3:=Go.Proofs.Tryz.isAgg3,
  z3:=Go.Proofs.Tryz.sizeOf3,v3:=Go.Proofs.Tryz.zeroValue3,t4:=Go.Proofs.Tryz.underlying4,
  a4:=Go.Proofs.Tryz.isAgg4,z4:=Go.Proofs.Tryz.sizeOf4,v4:=Go.Proofs.Tryz.zeroValue4,
  t5:=Go.Proofs.Tryz.underlying5,a5:=Go.Proofs.Tryz.isAgg5,z5:=Go.Proofs.Tryz.sizeOf5,
  v5:=Go.Proofs.Tryz.zeroValue5,t9:=Go.Proofs.Tryz.underlying9,a9:=Go.Proofs.Tryz.isAgg9,
  z9:=Go.Proofs.Tryz.sizeOf9,v9:=Go.Proofs.Tryz.zeroValue9,t46:=Go.Proofs.Tryz.underlying148,
  a46:=Go.Proofs.Tryz.isAgg148,z46:=Go.Proofs.Tryz.sizeOf148,v46:=Go.Proofs.Tryz.zeroValue148,
  t51:=Go.Proofs.Tryz.underlying162,a51:=Go.Proofs.Tryz.isAgg162,z51:=Go.Proofs.Tryz.sizeOf162,
  v51:=Go.Proofs.Tryz.zeroValue162,t146:=Go.Proofs.Tryz.underlying163,a146:=Go.Proofs.Tryz.isAgg163,
  z146:=Go.Proofs.Tryz.sizeOf163,v146:=Go.Proofs.Tryz.zeroValue163,
  g1:=by kernel_rfl}
end Go.Proofs
set_option maxRecDepth 100000
set_option maxHeartbeats 4000000
namespace Go.Proofs
open Go.Shelf Go.RowKit Go.Lib
theorem Tryz.bx169:Builder.Extra Tryz.prog Tryz.laysString_ren where
 sizeBuilder:=by kernel_rfl
 liesBuilder:=by kernel_rfl
 t5:=Tryz.underlying5
 a5:=Tryz.isAgg5
 z5:=Tryz.sizeOf5
 v5:=Tryz.zeroValue5
 infoByte:=by kernel_rfl
 cellsByte:=by kernel_rfl
 sizeByte:=by kernel_rfl
 neB5:=by decide
theorem zhA (b:Nat) (w:World) (h0:w.cell? ⟨b,0,none⟩=some (.pointer (some ⟨b,0,none⟩))):
  Calls Tryz.prog 90 #[.pointer (some ⟨b,0,none⟩)] w fun e w'=>e=.returned (.tuple #[])∧w'=w:=by
 obtain⟨j,hj,_⟩:=Option.map_eq_some_iff.1 Tryz.bx169.sizeBuilder
 go_enter Tryz.func90,Tryz.ntmps90
 go_wp2
 rw[Lib.run_neq_ptr_same w _ Tryz.underlying77 hj]
 go_wp2
 go_end0
 exact⟨rfl,rfl⟩
theorem bE (b:Nat) (w:World) (h0:w.cell? ⟨b,0,none⟩=some (.pointer none)) (hsh:w.shape? b=some (80,2)) (hfz:w.frozen? ⟨b,0,none⟩=false):
  Calls Tryz.prog 90 #[.pointer (some ⟨b,0,none⟩)] w fun e w'=>e=.returned (.tuple #[])∧w'=w.setCell ⟨b,0,none⟩ (.pointer (some ⟨b,0,none⟩)):=by
 obtain⟨j,hj,hjs⟩:=Option.map_eq_some_iff.1 Tryz.bx169.sizeBuilder
 go_enter Tryz.func90,Tryz.ntmps90
 go_wp2
 rw[Lib.run_to_unsafe w ⟨b,0,none⟩ Tryz.underlying77 Tryz.underlying143 hj (by rw[hjs];decide) hsh (Nat.zero_lt_succ 1)]
 simp only[Result.andThen]
 rw[Oper.upon_value]
 go_wp2
 rw[run_callFunc_extern Tryz.func114 (by kernel_rfl) (by kernel_rfl) (by kernel_rfl) (e:=Extern.AbiNoEscape.same) (by kernel_rfl)]
 rw[Lib.run_noEscape]
 simp only[Result.andThen]
 rw[Oper.upon_value]
 go_wp2
 rw[Lib.run_from_unsafe w ⟨b,0,none⟩ Tryz.underlying143 Tryz.underlying77 hj hsh Tryz.bx169.liesBuilder]
 simp only[Result.andThen]
 rw[Oper.upon_value]
 go_wp2
 go_end0
 exact⟨rfl,rfl⟩
theorem zlr (B b:Nat) (bs:List Value) (w:World) (h:Lib.IsBuilderF 80 5 B b bs w):
  Calls Tryz.prog 90 #[.pointer (some ⟨b,0,none⟩)] w fun e w'=>e=.returned (.tuple #[])∧Lib.BuilderAtF 80 5 B b (.pointer (some ⟨b,0,none⟩)) bs w'∧Below B w w':=by
 rcases h with h|h
 ·refine(bE b w h.cell0 h.shape h.frozen0).mono ?_
  rintro e w' ⟨rfl,rfl⟩
  exact⟨rfl,h.used _,(Below.refl B w).setCell (p:=⟨b,0,none⟩) h.1 _⟩
 ·refine(zhA b w h.cell0).mono ?_
  rintro e w' ⟨rfl,rfl⟩
  exact⟨rfl,h,Below.refl B _⟩
theorem zls (B b:Nat) (bs:List Value) (s:ByteArray) (w:World) (h:Lib.IsBuilderF 80 5 B b bs w) (hlen:bs.length+s.size≤140737488355328) (hBw:B≤w.heap.size):
  Calls Tryz.prog 48 #[.pointer (some ⟨b,0,none⟩),.string s] w fun e w'=>e=.returned (.tuple #[.int .i64 s.size,.nilIface])∧Lib.IsBuilderF 80 5 B b (bs++Lib.strCells s) w'∧Below B w w':=by
 obtain⟨i0,hi,hz0,hz1,hz2⟩:=info_parts Tryz.bx169.infoByte
 go_enter Tryz.func48,Tryz.ntmps48
 go_wp2_with (go_at_call 90;refine(zlr B b bs _ h).mono ?_)
 rintro e w1 ⟨rfl,h1,hb1⟩
 obtain⟨hB,v,hbk,hown,hne⟩:=h1
 have c0:w1.cell? ⟨b,0,none⟩=some (.pointer (some ⟨b,0,none⟩)):=by rw[Lib.cell_of_heap hbk];rfl
 have c1:w1.cell? ⟨b,1,none⟩=some v:=by rw[Lib.cell_of_heap hbk];rfl
 go_wp2_with (at_builtin;refine Lib.wpList_append_own_stringF _ rfl _ _ 78 9 rfl B 5 i0 Tryz.underlying78 Tryz.underlying9 hi hz0 hz1 hz2 _ _ _ rfl hown s rfl ?c3 ?c4 ?c5 ?_)
 case c3=>unfold maxLen;omega
 case c4=>omega
 case c5=>have:=hb1.size;omega
 intro v' w2 hown' hgrow _
 have hlt:b<w1.heap.size:=by
  rcases Nat.lt_or_ge b w1.heap.size with h'|h'
  ·exact h'
  ·simp[Array.getElem?_eq_none h'] at hbk
 have hb2:w2.heap[b]?=some (.cells #[.pointer (some ⟨b,0,none⟩),v] 80 (0,0)):=by
  rw[hgrow.block b hlt (fun e=>hne e.symm)]
  exact hbk
 have d0:w2.cell? ⟨b,0,none⟩=some (.pointer (some ⟨b,0,none⟩)):=by rw[Lib.cell_of_heap hb2];rfl
 have d1:w2.cell? ⟨b,1,none⟩=some v:=by rw[Lib.cell_of_heap hb2];rfl
 have f1:w2.frozen? ⟨b,1,none⟩=false:=Lib.frozen_of_heap hb2 1
 obtain⟨ao,n',cap,rfl⟩: ∃ao n' cap,v'=.slice ao n' cap:=by
  rcases hown'.2 with⟨hv,_⟩|⟨g,cap,cur,fz,hv,_⟩
  ·exact⟨_,_,_,hv⟩
  ·exact⟨_,_,_,hv⟩
 go_wp2
 go_ret2
 refine⟨rfl,.inr ?_,?_⟩
 ·exact Lib.BuilderAtF.put (T:=80) (e:=5) hB hb2 (bs':=bs++Lib.strCells s) (by simpa [Lib.strCells_length] using hown') (by decide)
 ·exact(hb1.grown hgrow (by have:=hb1.size;omega) (fun k hk=>(hown.lt k hk).1)).setCell (p:=⟨b,1,none⟩) hB _
theorem Tryz.bxg:Builder.Extra Tryz.prog Tryz.laysGrow_ren where
 sizeBuilder:=by kernel_rfl
 liesBuilder:=by kernel_rfl
 t5:=Tryz.underlying5
 a5:=Tryz.isAgg5
 z5:=Tryz.sizeOf5
 v5:=Tryz.zeroValue5
 infoByte:=by kernel_rfl
 cellsByte:=by kernel_rfl
 sizeByte:=by kernel_rfl
 neB5:=by decide
theorem zlt (B b:Nat) (l:List UInt8) (w:World) (h:Lib.IsBuilderF 80 5 B b (Lib.byteCells l) w) (hBw:B≤w.heap.size):
  Calls Tryz.prog 55 #[.pointer (some ⟨b,0,none⟩)] w fun e w'=>e=.returned (.string ⟨l.toArray⟩)∧Lib.IsBuilderF 80 5 B b (Lib.byteCells l) w'∧Below B w w':=
 (Any.Builder_String_any_k Tryz.laysString Tryz.bx169 B b l w h hBw).mono fun _ _ h=>⟨h.1,h.2.1,h.2.2.1⟩
theorem zlu (B b n:Nat) (w:World) (hB:B≤b) (hbk:w.heap[b]?=some (.cells #[.pointer (some ⟨b,0,none⟩),.slice none 0 0] 80 (0,0))) (hBw:B≤w.heap.size) (hn:n≤281474976710656):
  Calls Tryz.prog 115 #[.pointer (some ⟨b,0,none⟩),.int .i64 n] w fun e w'=>e=.returned (.tuple #[])∧(Lib.BuilderAt 80 5 B b (.pointer (some ⟨b,0,none⟩)) [] w'∧Below B w w'):=Any.Builder_grow_fresh Tryz.laysGrow Tryz.bxg B b n w hB hbk hBw hn
theorem zlv (B b n:Nat) (w:World) (hB:B≤b) (hbk:w.heap[b]?=some (.cells #[.pointer none,.slice none 0 0] 80 (0,0))) (hBw:B≤w.heap.size) (hn:n≤281474976710656):
  Calls Tryz.prog 91 #[.pointer (some ⟨b,0,none⟩),.int .i64 n] w fun e w'=>e=.returned (.tuple #[])∧(Lib.IsBuilderF 80 5 B b [] w'∧Below B w w'):=by
 have hbk1:(w.setCell ⟨b,0,none⟩ (.pointer (some ⟨b,0,none⟩))).heap[b]?=some (.cells #[.pointer (some ⟨b,0,none⟩),.slice none 0 0] 80 (0,0)):=by
  simp[World.setCell,Array.getElem?_modify,hbk]
 have c1:(w.setCell ⟨b,0,none⟩ (.pointer (some ⟨b,0,none⟩))).cell? ⟨b,1,none⟩=some (.slice none 0 0):=by rw[Lib.cell_of_heap hbk1];rfl
 have hb1:Below B w (w.setCell ⟨b,0,none⟩ (.pointer (some ⟨b,0,none⟩))):=(Below.refl B w).setCell (p:=⟨b,0,none⟩) hB _
 go_enter Tryz.func91,Tryz.ntmps91
 have hU:Lib.BuilderAt 80 5 B b (.pointer (some ⟨b,0,none⟩)) [] (w.setCell ⟨b,0,none⟩ (.pointer (some ⟨b,0,none⟩))):=⟨hB,.slice none 0 0,hbk1,World.ownsRow_nil _ _ _ _,by simp[Value.ownBlock]⟩
 have c1':(w.setCell ⟨b,0,none⟩ (.pointer (some ⟨b,0,none⟩))).drew.cell? ⟨b,1,none⟩=some (.slice none 0 0):=c1
 go_wp2_with (go_at_call 90;refine(bE b w (by rw[Lib.cell_of_heap hbk];rfl) (by simp[World.shape?,hbk]) (Lib.frozen_of_heap hbk 0)).mono ?_;rintro e w' ⟨rfl,rfl⟩)
 go_region
 all_goals go_wp2_with (go_at_call 115;refine(zlu B b n (w.setCell ⟨b,0,none⟩ (.pointer (some ⟨b,0,none⟩))).drew hB hbk1 (by simpa [World.setCell,World.drew,-World.drew_eq] using hBw) hn).mono ?_;rintro e w' ⟨rfl,h1,h2⟩)
 all_goals first
  |(go_end0;exact⟨rfl,.of (.inr h1),hb1.drew.trans h2⟩)
  |(go_end0;exact⟨rfl,.of (.inr hU.drew),hb1.drew⟩)
end Go.Proofs
set_option maxRecDepth 100000
set_option maxHeartbeats 8000000
namespace Go.Proofs
open Go.Shelf Go.RowKit Go.Lib
abbrev vC:=List UInt8
def joinS (sep:vC):List vC→vC
 |[]=>[]
 |[w]=>w
 |w::v::r=>w++(sep++joinS sep (v::r))
theorem zhB (sep:vC): ∀(l:List vC) (x:vC),l≠[]→joinS sep (l++[x])=joinS sep l++(sep++x)
 |[],_,h=>absurd rfl h
 |[w],x,_=>rfl
 |w::v::r,x,_=>by
  have ih:=zhB sep (v::r) x (by simp)
  rw[List.cons_append] at ih
  rw[List.cons_append,List.cons_append,joinS,ih,joinS];simp
def zL:List vC→Nat
 |[]=>0
 |w::r=>w.length+zL r
theorem jW (a b:List vC):zL (a++b)=zL a+zL b:=by
 induction a with
 |nil=>simp[zL]
 |cons w r ih=>simp only[List.cons_append,zL,ih];omega
theorem bF (sep:vC): ∀l:List vC,(joinS sep l).length≤zL l+sep.length*l.length
 |[]=>by simp[joinS]
 |[w]=>by simp[joinS,zL]
 |w::v::r=>by
  have ih:=bF sep (v::r)
  simp only[joinS,zL,List.length_append,List.length_cons] at ih⊢
  rw[Nat.mul_add,Nat.mul_one] at ih⊢
  rw[Nat.mul_add,Nat.mul_one]
  omega
theorem bG {l:List vC} {k:Nat} (h:k<l.length):l.take (k+1)=l.take k++[l.getD k []]:=by
 rw[List.take_succ_eq_append_getElem h];simp[List.getD,h]
theorem zlw {l:List vC} {k:Nat} (h:k<l.length):zL (l.take (k+1))=zL (l.take k)+(l.getD k []).length:=by
 rw[bG h,jW];simp[zL]
theorem bH (l:List vC) (k:Nat):zL (l.take k)≤zL l:=by
 have:=jW (l.take k) (l.drop k)
 rw[List.take_append_drop] at this;omega
theorem zlx {l:List vC} (sep:vC) {j:Nat} (h:j+1<l.length):joinS sep (l.take (j+1+1))=joinS sep (l.take (j+1))++(sep++l.getD (j+1) []):=by
 rw[bG h,zhB]
 intro e
 rw[List.take_eq_nil_iff] at e
 rcases e with e|e
 ·omega
 ·subst e;simp at h
theorem bI (B b:Nat) (l x:List UInt8) (w:World) (h:Lib.IsBuilderF 80 5 B b (Lib.byteCells l) w) (hlen:l.length+x.length≤140737488355328) (hBw:B≤w.heap.size):
  Calls Tryz.prog 48 #[.pointer (some ⟨b,0,none⟩),.string ⟨x.toArray⟩] w fun e w'=>e=.returned (.tuple #[.int .i64 x.length,.nilIface])∧Lib.IsBuilderF 80 5 B b (Lib.byteCells (l++x)) w'∧Below B w w':=by
 have hsz:(⟨x.toArray⟩:ByteArray).size=x.length:=by show x.toArray.size=_;simp
 refine(zls B b (Lib.byteCells l) ⟨x.toArray⟩ w h (by rw[Lib.byteCells_length,hsz];exact hlen) hBw).mono ?_
 rintro e w' ⟨rfl,h1,h2⟩
 exact⟨by rw[hsz],by rw[Lib.byteCells_append];exact h1,h2⟩
theorem zly (l:List vC) (sep:vC) (cap b o:Nat) (w:World) (hb0:b<w.heap.size) (hp: ∀k,k<l.length→w.cell? ⟨b,o+k,none⟩=some (.string ⟨(l.getD k []).toArray⟩)) (h2:2≤l.length) (hn:l.length≤1000) (hcap:l.length≤cap) (hs0:0<sep.length) (hs:sep.length≤100) (hlen:zL l≤1000000):
  Calls Tryz.prog 49 #[.slice (some ⟨b,o,none⟩) l.length cap,.string ⟨sep.toArray⟩] w fun e w'=>e=.returned (.string ⟨(joinS sep l).toArray⟩)∧Below w.heap.size w w':=by
 obtain⟨n,hN⟩: ∃n,l.length=n:=⟨_,rfl⟩
 have hN':Aside (l.length=n):=hN
 rw[hN] at hp h2 hn hcap⊢
 clear hN
 have hpA:Aside (∀k,k<n→w.cell? ⟨b,o+k,none⟩=some (.string ⟨(l.getD k []).toArray⟩)):=hp
 clear hp
 have i0: ¬(n:Int)=0:=by omega
 have i1: ¬(n:Int)=1:=by omega
 have hsz:(⟨sep.toArray⟩:ByteArray).size=sep.length:=by show sep.toArray.size=_;simp
 have hsp:(sep.length:Int)>0:=by omega
 obtain⟨M,hM⟩: ∃M:Nat,sep.length*(n-1)=M:=⟨_,rfl⟩
 have hMb:M≤100*1000:=by rw[←hM];exact Nat.mul_le_mul hs (by omega)
 have w1:IntKind.i64.wrap ((n:Int)-1)=(n:Int)-1:=Go.Abs.wrap_in (by omega) (by omega)
 have hq:100<(9223372036854775807:Int)/((n:Int)-1)∧(9223372036854775807:Int)/((n:Int)-1)≤9223372036854775807:=by
  refine⟨?_,Int.ediv_le_self _ (by decide)⟩
  have:(101:Int)≤9223372036854775807/((n:Int)-1):=by
   rw[Int.le_ediv_iff_mul_le (by omega)];omega
  omega
 have w2:IntKind.i64.wrap ((9223372036854775807:Int).tdiv ((n:Int)-1))=9223372036854775807/((n:Int)-1):=by
  rw[Int.tdiv_eq_ediv_of_nonneg (by decide)];exact Go.Abs.wrap_in (by omega) (by omega)
 have hng0: ¬(sep.length:Int)≥9223372036854775807/((n:Int)-1):=by omega
 have w3:IntKind.i64.wrap ((sep.length:Int)*((n:Int)-1))=(M:Int):=by
  rw[show(sep.length:Int)*((n:Int)-1)=(M:Int) by rw[←hM];push_cast;rw[Int.ofNat_sub (by omega)];rfl]
  exact Go.Abs.wrap_in (by omega) (by omega)
 have w4:IntKind.i64.wrap (M:Int)=(M:Int):=Go.Abs.wrap_in (by omega) (by omega)
 clear hM hq
 go_enter Tryz.func49,Tryz.ntmps49
 go_wp2
 go_loopg [5,41] n (fun g t i wr=>wr=w∧ ∃k:Nat,k≤n∧g=n-k∧i=.int .i64 k∧t=.int .i64 ((M+zL (l.take k):Nat):Int))
 case atStart=>exact⟨rfl,0,Nat.zero_le _,rfl,rfl,by simp[zL]⟩
 case round=>
  obtain⟨rfl,k,hk,rfl,rfl,rfl⟩:=hrel
  by_cases hlt:k<n
  ·have hc:=hpA.out k hlt
   have hkn:(k:Int)<n:=by omega
   have hst:=zlw (l:=l) (k:=k) (by rw[hN'.out];exact hlt)
   have hle:=bH l (k+1)
   generalize l.getD k []=x at hc hst
   obtain⟨T,hT⟩: ∃T,M+zL (l.take k)=T:=⟨_,rfl⟩
   have hT2:Aside (M+zL (l.take (k+1))=T+x.length):=show _=_ by rw[hst];omega
   have hTb:T+x.length≤1100000:=by omega
   rw[hT]
   clear hst hle hT
   have hszx:(⟨x.toArray⟩:ByteArray).size=x.length:=by show x.toArray.size=_;simp
   have hw2:IntKind.i64.wrap (9223372036854775807-(T:Int))=9223372036854775807-(T:Int):=Go.Abs.wrap_in (by omega) (by omega)
   have hw3:IntKind.i64.wrap ((T:Int)+x.length)=((T+x.length:Nat):Int):=by rw[Go.Abs.wrap_in (by omega) (by omega)];omega
   have hwr:IntKind.i64.wrap ((k:Int)+1)=((k+1:Nat):Int):=by rw[Go.Abs.wrap_in (by omega) (by omega)];omega
   have hng: ¬(x.length:Int)>9223372036854775807-(T:Int):=by omega
   go_wp2
   go_roundg (n-(k+1))
   case measure=>omega
   case rel=>
    refine⟨rfl,k+1,by omega,rfl,by go_num,?_⟩
    rw[hT2.out,Int.natCast_add]
  ·obtain rfl:k=n:=by omega
   rename World=>w0
   have c0:=hpA.out 0 (by omega)
   rw[Nat.add_zero] at c0
   obtain⟨T,hT⟩: ∃T,M+zL (l.take k)=T:=⟨_,rfl⟩
   have hTb:T≤1100000:=by have:=bH l k;omega
   rw[hT]
   have hJ: ∀j,(joinS sep (l.take j)).length≤1100000:=fun j=>by
    have h1:=bF sep (l.take j)
    have h2:=bH l j
    have h3:sep.length*(l.take j).length≤100*1000:=Nat.mul_le_mul hs (by rw[List.length_take,hN'.out];omega)
    omega
   have e01:Aside (joinS sep (l.take (0+1))=l.getD 0 []):=show _=_ by rw[bG (by rw[hN'.out];omega)];rfl
   have hx0:=hJ (0+1)
   rw[e01.out] at hx0
   obtain⟨x0,hx0'⟩: ∃x,l.getD 0 []=x:=⟨_,rfl⟩
   rw[hx0'] at c0 hx0 e01
   clear hT hx0'
   have hg1:(w0.alloc (.cells #[.pointer none,.slice none 0 0] 80)).heap[w0.heap.size]?=some (.cells #[.pointer none,.slice none 0 0] 80 (0,0)):=Go.Abs.alloc_get w0 _
   have hb2:Below w0.heap.size w0 (w0.alloc (.cells #[.pointer none,.slice none 0 0] 80)):=(Below.refl _ w0).alloc (Nat.le_refl _) _
   have hb4of: ∀w2,Below w0.heap.size (w0.alloc (.cells #[.pointer none,.slice none 0 0] 80)) w2→w2.cell? ⟨b,o,none⟩=some (.string ⟨x0.toArray⟩):=fun w2 h=>((hb2.trans h).cell (p:=⟨b,o,none⟩) hb0).trans c0
   go_wp2_with (first|(go_at_call 91;refine(zlv w0.heap.size w0.heap.size T _ (Nat.le_refl _) hg1 hb2.size (by omega)).mono ?_;rintro e w2 ⟨rfl,hI2,hb3⟩;have c0':=hb4of w2 hb3)|(go_at_call 48;refine(bI w0.heap.size w0.heap.size [] x0 _ hI2 (by rw[List.length_nil];omega) (hb2.trans hb3).size).mono ?_;rintro e w3 ⟨rfl,hI3,hb5⟩))
   have hb6:=(hb2.trans hb3).trans hb5
   rw[List.nil_append,←e01.out] at hI3
   go_loopg [65] (k-1) (fun g i w0'=>Below w0.heap.size w0 w0'∧ ∃j:Nat,j+1≤k∧g=k-1-j∧i=.int .i64 j∧Lib.IsBuilderF 80 5 w0.heap.size w0.heap.size (Lib.byteCells (joinS sep (l.take (j+1)))) w0')
   case atStart=>exact⟨hb6,0,by omega,rfl,rfl,hI3⟩
   case round=>
    obtain⟨hbx,j,hj,rfl,rfl,hIx⟩:=hrel
    by_cases hlt2:j+1<k
    ·have hkn:(j:Int)<k-1:=by omega
     have hkn2:(j:Int)<((k-1:Nat):Int):=by omega
     have hkn3:j<k-1:=by omega
     have cj0:=hpA.out (j+1) hlt2
     rw[show o+(j+1)=o+1+j by omega] at cj0
     have cj:=(hbx.cell (p:=⟨b,o+1+j,none⟩) hb0).trans cj0
     have hwr:IntKind.i64.wrap ((j:Int)+1)=((j+1:Nat):Int):=by rw[Go.Abs.wrap_in (by omega) (by omega)];omega
     have hE:Aside (joinS sep (l.take (j+1+1))=joinS sep (l.take (j+1))++(sep++l.getD (j+1) [])):=zlx sep (by rw[hN'.out];exact hlt2)
     have hl2:=hJ (j+1+1)
     rw[hE.out] at hl2
     generalize l.getD (j+1) []=x at cj cj0 hE hl2
     generalize joinS sep (l.take (j+1))=A at hIx hE hl2
     simp only[List.length_append] at hl2
     go_wp2_with (first|(go_at_call 48;refine(bI w0.heap.size w0.heap.size (A++sep) x _ hI5 (by rw[List.length_append];omega) (hbx.trans hb7).size).mono ?_;rintro e w6 ⟨rfl,hI6,hb8⟩)|(go_at_call 48;refine(bI w0.heap.size w0.heap.size A sep _ hIx (by omega) hbx.size).mono ?_;rintro e w5 ⟨rfl,hI5,hb7⟩))
     rw[List.append_assoc,←hE.out] at hI6
     go_roundg (k-1-(j+1))
     case measure=>omega
     case rel=>exact⟨(hbx.trans hb7).trans hb8,j+1,by omega,rfl,by go_num,hI6⟩
    ·obtain rfl:j+1=k:=by omega
     have hge: ¬(j:Int)<((j+1:Nat):Int)-1:=by omega
     have hge2: ¬(j:Int)<((j+1-1:Nat):Int):=by omega
     have hE:Aside (joinS sep (l.take (j+1))=joinS sep l):=show _=_ by rw[List.take_of_length_le (by rw[hN'.out];exact Nat.le_refl _)]
     go_wp2_with (go_at_call 55;refine(zlt w0.heap.size w0.heap.size (joinS sep (l.take (j+1))) _ hIx hbx.size).mono ?_;rintro e w6 ⟨rfl,hI6,hb8⟩)
     go_ret
     exact⟨by rw[hE.out];rfl,hbx.trans hb8⟩
theorem zlz (cap:Nat) (ao:Option Addr) (sep:ByteArray) (w:World):
  Calls Tryz.prog 49 #[.slice ao 0 cap,.string sep] w fun e w'=>e=.returned (.string ⟨#[]⟩)∧Below w.heap.size w w':=by
 go_enter Tryz.func49,Tryz.ntmps49
 go_wp2
 go_ret
 exact⟨rfl,Below.refl _ _⟩
theorem zlA (cap b o:Nat) (s sep:ByteArray) (w:World) (hc:w.cell? ⟨b,o,none⟩=some (.string s)) (hcap:1≤cap):
  Calls Tryz.prog 49 #[.slice (some ⟨b,o,none⟩) 1 cap,.string sep] w fun e w'=>e=.returned (.string s)∧Below w.heap.size w w':=by
 go_enter Tryz.func49,Tryz.ntmps49
 go_wp2
 go_ret
 exact⟨rfl,Below.refl _ _⟩
end Go.Proofs
set_option maxRecDepth 10000
namespace Go.Wd
def ifB (b:Bool) (x y:Nat):Nat:=match b with|true=>x|false=>y
def orB (a b:Bool):Bool:=match a with|true=>true|false=>b
def sL (a b:Bool):Bool:=match a with|true=>b|false=>false
def jX (y:Nat):Bool:=sL (Nat.beq (Nat.mod y 4) 0) (orB (match Nat.beq (Nat.mod y 100) 0 with|true=>false|false=>true) (Nat.beq (Nat.mod y 400) 0))
def bJ (y m:Nat):Nat:=match m with|2=>ifB (jX y) 29 28|4=>30|6=>30|9=>30|11=>30|_=>31
def k3 (K:Nat→Nat→Nat→Bool) (rest e:Nat):Bool:=
 (fun y=>(fun r2=>(fun m=>(fun mo=>K (ifB (Nat.ble mo 2) (Nat.add (Nat.add y (Nat.mul 400 e)) 1) (Nat.add y (Nat.mul 400 e))) mo (Nat.add (Nat.sub r2 (Nat.div (Nat.add (Nat.mul 153 m) 2) 5)) 1))
  (ifB (Nat.ble 10 m) (Nat.sub m 9) (Nat.add m 3))) (Nat.div (Nat.add (Nat.mul 5 r2) 2) 153)) (Nat.sub rest (Nat.sub (Nat.add (Nat.mul 365 y) (Nat.div y 4)) (Nat.div y 100)))) (Nat.div (Nat.sub (Nat.add (Nat.sub rest (Nat.div rest 1460)) (Nat.div rest 36524)) (Nat.div rest 146096)) 365)
def bK (d:Nat) (K:Nat→Nat→Nat→Bool):Bool:=k3 K (Nat.mod (Nat.add d 730425) 146097) (Nat.div (Nat.add d 730425) 146097)
def chk:Nat→Nat→Nat→Nat→Nat→Bool
 |0,_,_,_,_=>true
 |k+1,d,y,m,dd=>
  sL (bK d fun a b c=>sL (Nat.beq a y) (sL (Nat.beq b m) (Nat.beq c dd)))
   (match Nat.ble (Nat.add dd 1) (bJ y m) with
    |true=>chk k (Nat.add d 1) y m (Nat.add dd 1)
    |false=>match Nat.ble m 11 with
     |true=>chk k (Nat.add d 1) y (Nat.add m 1) 1
     |false=>chk k (Nat.add d 1) (Nat.add y 1) 1 1)
def mT:Nat→Nat→Bool
 |0,_=>true
 |k+1,d=>sL (bK d fun y m dd=>chk 401 d y m dd) (mT k (Nat.add d 400))
theorem zhC:mT 251 0=true:=by decide+kernel
def yN (R:Nat):Nat:=Nat.div (Nat.sub (Nat.add (Nat.sub R (Nat.div R 1460)) (Nat.div R 36524)) (Nat.div R 146096)) 365
def oW:Nat→Nat→Bool
 |0,_=>true
 |k+1,R=>sL ((fun y=>Nat.ble (Nat.sub (Nat.add (Nat.mul 365 y) (Nat.div y 4)) (Nat.div y 100)) R) (yN R)) (oW k (Nat.add R 1))
def mU:Nat→Nat→Bool
 |0,_=>true
 |k+1,R=>sL (oW 400 R) (mU k (Nat.add R 400))
theorem zlB:mU 366 0=true:=by decide+kernel
theorem tW {a b:Bool}:sL a b=true ↔ a=true∧b=true:=by cases a<;>cases b<;>simp[sL]
theorem zhD: ∀{k R i:Nat},oW k R=true→i<k→365*yN (R+i)+yN (R+i)/4-yN (R+i)/100≤R+i
 |0,_,_,_,hi=>absurd hi (Nat.not_lt_zero _)
 |k+1,R,0,h,_=>by
  rw[oW,tW] at h
  exact Nat.le_of_ble_eq_true h.1
 |k+1,R,i+1,h,hi=>by
  rw[oW,tW] at h
  have:=zhD (i:=i) h.2 (by omega)
  rw[show Nat.add R 1+i=R+(i+1) from by show R+1+i=_;omega] at this
  exact this
theorem zhE: ∀{k R j:Nat},mU k R=true→j<k→oW 400 (R+400*j)=true
 |0,_,_,_,hj=>absurd hj (Nat.not_lt_zero _)
 |k+1,R,0,h,_=>by
  rw[mU,tW] at h
  exact h.1
 |k+1,R,j+1,h,hj=>by
  rw[mU,tW] at h
  have:=zhE (j:=j) h.2 (by omega)
  rw[show Nat.add R 400+400*j=R+400*(j+1) from by show R+400+400*j=_;omega] at this
  exact this
theorem zlC {R:Nat} (h:R<146400):365*yN R+yN R/4-yN R/100≤R:=by
 have h1:=zhD (i:=R % 400) (zhE (j:=R/400) zlB (by omega)) (by omega)
 rwa [show 0+400*(R/400)+R % 400=R by omega] at h1
structure Dt where
 y:Nat
 m:Nat
 d:Nat
 deriving DecidableEq
def r2N (R:Nat):Nat:=R-(365*yN R+yN R/4-yN R/100)
def mN (R:Nat):Nat:=(5*r2N R+2)/153
def moN (R:Nat):Nat:=if 10≤mN R then mN R-9 else mN R+3
def dtN (day:Nat):Dt:=
 let R:=(day+730425) % 146097
 let e:=(day+730425)/146097
 ⟨if moN R≤2 then yN R+400*e+1 else yN R+400*e,moN R,r2N R-(153*mN R+2)/5+1⟩
theorem zhF (a x y:Nat) (b:Nat):ifB (Nat.ble a b) x y=if a≤b then x else y:=by
 unfold ifB
 cases h:Nat.ble a b with
 |true=>rw[if_pos (Nat.le_of_ble_eq_true h)]
 |false=>
  rw[if_neg (fun e=>by rw[Nat.ble_eq_true_of_le e] at h;cases h)]
theorem zhG (d:Nat) (K:Nat→Nat→Nat→Bool):bK d K=K (dtN d).y (dtN d).m (dtN d).d:=by
 have e1:moN (Nat.mod (Nat.add d 730425) 146097)=ifB (Nat.ble 10 (mN (Nat.mod (Nat.add d 730425) 146097))) (Nat.sub (mN (Nat.mod (Nat.add d 730425) 146097)) 9) (Nat.add (mN (Nat.mod (Nat.add d 730425) 146097)) 3):=by
  rw[zhF];rfl
 have e2:(dtN d).y=ifB (Nat.ble (moN (Nat.mod (Nat.add d 730425) 146097)) 2) (Nat.add (Nat.add (yN (Nat.mod (Nat.add d 730425) 146097)) (Nat.mul 400 (Nat.div (Nat.add d 730425) 146097))) 1) (Nat.add (yN (Nat.mod (Nat.add d 730425) 146097)) (Nat.mul 400 (Nat.div (Nat.add d 730425) 146097))):=by
  rw[zhF];rfl
 show _=K (dtN d).y (moN (Nat.mod (Nat.add d 730425) 146097)) _
 rw[e2,e1];rfl
def tX (y:Nat):Prop:=y % 4=0∧(y % 100≠0∨y % 400=0)
instance (y:Nat):Decidable (tX y):=by unfold tX;infer_instance
def wD (y m:Nat):Nat:=if m=2 then(if tX y then 29 else 28) else if m=4∨m=6∨m=9∨m=11 then 30 else 31
theorem qW (a b:Nat):Nat.beq a b=true ↔ a=b:=⟨Nat.eq_of_beq_eq_true,fun h=>by rw[h];exact Nat.beq_refl b⟩
theorem zhH (y:Nat):jX y=true ↔ tX y:=by
 unfold jX tX
 rw[tW,qW]
 show _∧orB _ _=true ↔ _
 refine and_congr Iff.rfl ?_
 cases h1:Nat.beq (Nat.mod y 100) 0 with
 |true=>
  have h1':y % 100=0:=(qW _ _).1 h1
  show Nat.beq (Nat.mod y 400) 0=true ↔ _
  rw[qW]
  exact⟨fun h=> .inr h,fun h=>h.resolve_left (fun h=>h h1')⟩
 |false=>
  have h1':y % 100≠0:=fun e=>by
   have:Nat.beq (Nat.mod y 100) 0=true:=(qW _ _).2 e
   rw[this] at h1;cases h1
  exact⟨fun _=> .inl h1',fun _=>rfl⟩
theorem zlD (y m:Nat):bJ y m=wD y m:=by
 unfold bJ wD
 split
 ·rw[if_pos rfl]
  unfold ifB
  cases h:jX y with
  |true=>rw[if_pos ((zhH y).1 h)]
  |false=>rw[if_neg (fun e=>by rw[(zhH y).2 e] at h;cases h)]
 ·rfl
 ·rfl
 ·rfl
 ·rfl
 ·rename_i h1 h2 h3 h4 h5
  rw[if_neg h1,if_neg (by rintro(h|h|h|h)<;>contradiction)]
def nxt (t:Dt):Dt:=if t.d+1≤wD t.y t.m then⟨t.y,t.m,t.d+1⟩ else if t.m≤11 then⟨t.y,t.m+1,1⟩ else⟨t.y+1,1,1⟩
def rQ:Nat→Dt→Dt
 |0,t=>t
 |k+1,t=>rQ k (nxt t)
theorem jY: ∀{k d y m dd i:Nat},chk k d y m dd=true→i<k→dtN (d+i)=rQ i ⟨y,m,dd⟩
 |0,_,_,_,_,_,_,hi=>absurd hi (Nat.not_lt_zero _)
 |k+1,d,y,m,dd,i,h,hi=>by
  rw[chk,tW,zhG,tW,tW,qW,qW,qW] at h
  obtain⟨⟨h1,h2,h3⟩,h⟩:=h
  cases i with
  |zero=>
   show dtN d=⟨y,m,dd⟩
   rw[←h1,←h2,←h3]
  |succ i=>
   show dtN (d+(i+1))=rQ i (nxt ⟨y,m,dd⟩)
   rw[show d+(i+1)=d+1+i by omega]
   rw[zlD] at h
   unfold nxt
   cases hb:Nat.ble (Nat.add dd 1) (wD y m) with
   |true=>
    rw[hb] at h
    rw[if_pos (Nat.le_of_ble_eq_true hb)]
    exact jY h (by omega)
   |false=>
    rw[hb] at h
    rw[if_neg (fun e=>by rw[show Nat.ble (Nat.add dd 1) (wD y m)=true from Nat.ble_eq_true_of_le e] at hb;cases hb)]
    simp only[] at h
    cases hc:Nat.ble m 11 with
    |true=>
     rw[hc] at h
     rw[if_pos (Nat.le_of_ble_eq_true hc)]
     exact jY h (by omega)
    |false=>
     rw[hc] at h
     rw[if_neg (fun e=>by rw[Nat.ble_eq_true_of_le e] at hc;cases hc)]
     exact jY h (by omega)
theorem bL: ∀{k d j:Nat},mT k d=true→j<k→ ∀i,i<401→dtN (d+400*j+i)=rQ i (dtN (d+400*j))
 |0,_,_,_,hj,_,_=>absurd hj (Nat.not_lt_zero _)
 |k+1,d,0,h,_,i,hi=>by
  rw[mT,tW,zhG] at h
  exact jY h.1 hi
 |k+1,d,j+1,h,hj,i,hi=>by
  rw[mT,tW] at h
  have:=bL (j:=j) h.2 (by omega) i hi
  rw[show Nat.add d 400+400*j=d+400*(j+1) from by show d+400+400*j=_;omega] at this
  exact this
theorem zhI: ∀(k:Nat) (t:Dt),rQ (k+1) t=nxt (rQ k t)
 |0,t=>rfl
 |k+1,t=>by rw[rQ,zhI k,←rQ]
theorem bM {d:Nat} (h:d<100400):dtN (d+1)=nxt (dtN d):=by
 have e:0+400*(d/400)+d % 400=d:=by omega
 have h1:=bL zhC (j:=d/400) (by omega) (d % 400) (by omega)
 have h2:=bL zhC (j:=d/400) (by omega) (d % 400+1) (by omega)
 rw[zhI,←h1,show 0+400*(d/400)+(d % 400+1)=d+1 by omega,e] at h2
 exact h2
theorem bN:dtN 0=⟨2000,1,1⟩:=by decide
def okD (t:Dt):Prop:=1≤t.m∧t.m≤12∧1≤t.d∧t.d≤wD t.y t.m∧2000≤t.y
theorem oX (y m:Nat):28≤wD y m∧wD y m≤31:=by unfold wD;split<;>split<;>omega
theorem zlE {t:Dt} (h:okD t):okD (nxt t):=by
 obtain⟨h1,h2,h3,h4,h5⟩:=h
 unfold nxt
 split
 ·exact⟨h1,h2,by simp,by assumption,h5⟩
 split
 ·exact⟨by simp,by simp;omega,by simp,by have:=(oX t.y (t.m+1)).1;simp only;omega,h5⟩
 ·exact⟨by simp,by simp,by simp,by have:=(oX (t.y+1) 1).1;simp only;omega,by simp only;omega⟩
theorem qX: ∀{d:Nat},d≤100400→okD (dtN d)
 |0,_=>by rw[bN];exact⟨by decide,by decide,by decide,by decide,by decide⟩
 |d+1,h=>by rw[bM (by omega)];exact zlE (qX (by omega))
def yD (y:Nat):Nat:=if tX y then 366 else 365
def yS:Nat→Nat
 |0=>0
 |k+1=>yS k+yD (2000+k)
def mS (y:Nat):Nat→Nat
 |0=>0
 |k+1=>mS y k+wD y (k+1)
theorem zlF (y:Nat):mS y 12=yD y:=by
 simp only[mS,wD,yD]
 by_cases h:tX y<;>simp[h]
def ordD (t:Dt):Nat:=yS (t.y-2000)+mS t.y (t.m-1)+(t.d-1)
theorem zlG {t:Dt} (h:okD t):ordD (nxt t)=ordD t+1:=by
 obtain⟨h1,h2,h3,h4,h5⟩:=h
 unfold nxt
 split
 ·unfold ordD;simp only;omega
 split
 ·obtain⟨k,hk⟩: ∃k,t.m=k+1:=⟨t.m-1,by omega⟩
  have e:mS t.y (k+1)=mS t.y k+wD t.y (k+1):=rfl
  unfold ordD
  simp only[hk,Nat.add_sub_cancel] at*
  omega
 ·have hm:t.m=12:=by omega
  obtain⟨k,hk⟩: ∃k,t.y=2000+k:=⟨t.y-2000,by omega⟩
  have e:yS (k+1)=yS k+yD (2000+k):=rfl
  have e2:=zlF (2000+k)
  have e3:mS (2000+k) 12=mS (2000+k) 11+wD (2000+k) 12:=rfl
  unfold ordD
  simp only[hm,hk,show 2000+k+1-2000=k+1 by omega,show 2000+k-2000=k by omega,show 1-1=0 from rfl,show 12-1=11 from rfl] at*
  show yS (k+1)+mS _ 0+0=_
  rw[show mS (2000+k+1) 0=0 from rfl]
  omega
theorem ord_at: ∀{d:Nat},d≤100400→ordD (dtN d)=d
 |0,_=>by rw[bN];decide
 |d+1,h=>by rw[bM (by omega),zlG (qX (by omega)),ord_at (by omega)]
theorem zhJ: ∀k,365*k≤yS k
 |0=>Nat.le_refl _
 |k+1=>by
  have:=zhJ k
  have:365≤yD (2000+k):=by unfold yD;split<;>omega
  rw[yS];omega
theorem bP {d:Nat} (h:d≤100400):(dtN d).y≤2300:=by
 have h1:=ord_at h
 have h2:=(qX h).2.2.2.2
 have h3:=zhJ ((dtN d).y-2000)
 unfold ordD at h1
 omega
theorem zn7: ∀{k j:Nat},k≤j→yS k≤yS j
 |k,0,h=>by rw[show k=0 by omega];exact Nat.le_refl _
 |k,j+1,h=>by
  by_cases e:k=j+1
  ·rw[e];exact Nat.le_refl _
  ·have:=zn7 (k:=k) (j:=j) (by omega)
   rw[yS];omega
theorem zn4 {y:Nat}: ∀{k j:Nat},k≤j→mS y k≤mS y j
 |k,0,h=>by rw[show k=0 by omega];exact Nat.le_refl _
 |k,j+1,h=>by
  by_cases e:k=j+1
  ·rw[e];exact Nat.le_refl _
  ·have:=zn4 (y:=y) (k:=k) (j:=j) (by omega)
   rw[mS];omega
theorem zoo {y m d:Nat} (h1:1≤m) (h2:m≤12) (h3:1≤d) (h4:d≤wD y m):mS y (m-1)+(d-1)<yD y:=by
 have e:mS y m=mS y (m-1)+wD y m:=by
  obtain⟨k,rfl⟩: ∃k,m=k+1:=⟨m-1,by omega⟩
  rfl
 have:=zn4 (y:=y) h2
 rw[zlF] at this
 omega
theorem zoJ {t:Dt} (h:okD t) {k r:Nat} (hk:yS k+r=ordD t) (hr:r<yD (2000+k)):t.y=2000+k∧r=mS t.y (t.m-1)+(t.d-1):=by
 obtain⟨h1,h2,h3,h4,h5⟩:=h
 obtain⟨j,hj⟩: ∃j,t.y=2000+j:=⟨t.y-2000,by omega⟩
 have hl:=zoo h1 h2 h3 h4
 unfold ordD at hk
 rw[hj,show 2000+j-2000=j by omega] at hk
 rw[hj] at hl
 have:j=k:=by
  rcases Nat.lt_trichotomy j k with h|h|h
  ·have:=zn7 (k:=j+1) (j:=k) h
   rw[yS] at this;omega
  ·exact h
  ·have:=zn7 (k:=k+1) (j:=j) h
   rw[yS] at this;omega
 subst this
 exact⟨hj,by rw[hj];omega⟩
theorem zoK {t:Dt} (h:okD t) {k r:Nat} (hk:mS t.y k+r=mS t.y (t.m-1)+(t.d-1)) (hr:r<wD t.y (k+1)):t.m=k+1∧t.d=r+1:=by
 obtain⟨h1,h2,h3,h4,h5⟩:=h
 obtain⟨j,hj⟩: ∃j,t.m=j+1:=⟨t.m-1,by omega⟩
 rw[hj,Nat.add_sub_cancel] at hk
 rw[hj] at h4
 have:j=k:=by
  rcases Nat.lt_trichotomy j k with h|h|h
  ·have:=zn4 (y:=t.y) (k:=j+1) (j:=k) h
   rw[mS] at this;omega
  ·exact h
  ·have:=zn4 (y:=t.y) (k:=k+1) (j:=j) h
   rw[mS] at this;omega
 subst this
 exact⟨hj,by omega⟩
def numI (y m d:Int):Int:=
 let y':=if m<3 then y-1 else y
 let m':=if m<3 then m+12 else m
 365*y'+y'/4-y'/100+y'/400+(153*(m'-3)+2)/5+d-1-730425
theorem zhK (y m:Nat) (h1:1≤m) (h2:m≤11):numI y (m+1:Nat) 1=numI y m 1+wD y m:=by
 have:m=1∨m=2∨m=3∨m=4∨m=5∨m=6∨m=7∨m=8∨m=9∨m=10∨m=11:=by omega
 rcases this with rfl|rfl|rfl|rfl|rfl|rfl|rfl|rfl|rfl|rfl|rfl
 all_goals simp[numI,wD]
 all_goals try omega
 by_cases hl:tX y
 ·rw[if_pos hl];unfold tX at hl;omega
 ·rw[if_neg hl];unfold tX at hl;omega
theorem zlH (y:Nat):numI (y+1:Nat) 1 1=numI y 12 1+31:=by
 simp[numI];omega
theorem jZ (y m d:Int):numI y m d=numI y m 1+(d-1):=by unfold numI;simp only;omega
theorem zlI {t:Dt} (h:okD t):numI (nxt t).y (nxt t).m (nxt t).d=numI t.y t.m t.d+1:=by
 obtain⟨h1,h2,h3,h4,h5⟩:=h
 unfold nxt
 split
 ·simp only
  rw[jZ _ _ (t.d:Int),jZ _ _ ((t.d+1:Nat):Int)];omega
 split
 ·simp only
  rw[jZ _ _ (t.d:Int),show((1:Nat):Int)=1 from rfl,zhK _ _ h1 (by omega)];omega
 ·have hm:t.m=12:=by omega
  have e:wD t.y 12=31:=rfl
  rw[hm] at h4⊢
  simp only
  rw[jZ _ _ (t.d:Int),show((1:Nat):Int)=1 from rfl,zlH]
  rename_i hq _
  rw[hm] at hq
  show _=numI t.y 12 1+_+1
  omega
theorem zhL: ∀{d:Nat},d≤100400→numI (dtN d).y (dtN d).m (dtN d).d=d
 |0,_=>by rw[bN];decide
 |d+1,h=>by
  rw[bM (by omega),zlI (qX (by omega)),zhL (by omega)];omega
end Go.Wd
set_option maxRecDepth 100000
set_option maxHeartbeats 4000000
namespace Go.Abs
open Go.Proofs Go.RowKit
theorem sM {x k B:Int} (hk:0<k) (h1: -B≤x) (h2:x≤B): -B≤x.tdiv k∧x.tdiv k≤B:=by
 by_cases h:0≤x
 ·rw[Int.tdiv_eq_ediv_of_nonneg h]
  have a:=Int.ediv_nonneg h (Int.le_of_lt hk)
  have b:=Int.ediv_le_self k h
  omega
 ·have e:x.tdiv k= -((-x).tdiv k):=by rw[Int.neg_tdiv];omega
  rw[e,Int.tdiv_eq_ediv_of_nonneg (by omega)]
  have a:=Int.ediv_nonneg (show 0≤ -x by omega) (Int.le_of_lt hk)
  have b:=Int.ediv_le_self k (show 0≤ -x by omega)
  omega
def iA (rest y:Int):Int:=rest-(365*y+y.tdiv 4-y.tdiv 100)
def iB (rest:Int):Int:=(rest-rest.tdiv 1460+rest.tdiv 36524-rest.tdiv 146096).tdiv 365
def iC (r2:Int):Int:=(5*r2+2).tdiv 153
def yZ (day:Int):Int×Int×Int:=
 let n:=day+730425
 let e:=n.tdiv 146097
 let rest:=n.tmod 146097
 let y:=iB rest
 let r2:=iA rest y
 let m:=iC r2
 let mo:=if m+3>12 then m+3-12 else m+3
 (if mo<3 then y+400*e+1 else y+400*e,mo,r2-(153*m+2).tdiv 5+1)
theorem zlJ (day:Int) (h0:0≤day) (h1:day≤100000):Spec Tryz.prog 118 [.int .i64 day] (fun v=>v=.tup [.int .i64 (yZ day).1,.int .i64 (yZ day).2.1,.int .i64 (yZ day).2.2]):=by
 refine Spec.of_awlS hf118 okf118 (by simp) fun S hS=>?_
 have w1:IntKind.i64.wrap (day+730425)=day+730425:=wrap_in (by omega) (by omega)
 obtain⟨e,he⟩: ∃e,(day+730425).tdiv 146097=e:=⟨_,rfl⟩
 obtain⟨R,hR⟩: ∃R,(day+730425).tmod 146097=R:=⟨_,rfl⟩
 have be:=sM (x:=day+730425) (k:=146097) (B:=1000000) (by omega) (by omega) (by omega)
 rw[he] at be
 have bR:0≤R∧R<146097:=by
  rw[←hR,Int.tmod_eq_emod_of_nonneg (by omega)];omega
 have x1:IntKind.i64.wrap e=e:=wrap_in (by omega) (by omega)
 have x2:IntKind.i64.wrap R=R:=wrap_in (by omega) (by omega)
 have t1:=sM (x:=R) (k:=1460) (B:=146097) (by omega) (by omega) (by omega)
 have t2:=sM (x:=R) (k:=36524) (B:=146097) (by omega) (by omega) (by omega)
 have t3:=sM (x:=R) (k:=146096) (B:=146097) (by omega) (by omega) (by omega)
 have a1:IntKind.i64.wrap (R.tdiv 1460)=R.tdiv 1460:=wrap_in (by omega) (by omega)
 have a2:IntKind.i64.wrap (R.tdiv 36524)=R.tdiv 36524:=wrap_in (by omega) (by omega)
 have a3:IntKind.i64.wrap (R.tdiv 146096)=R.tdiv 146096:=wrap_in (by omega) (by omega)
 have a4:IntKind.i64.wrap (R-R.tdiv 1460)=R-R.tdiv 1460:=wrap_in (by omega) (by omega)
 have a5:IntKind.i64.wrap (R-R.tdiv 1460+R.tdiv 36524)=R-R.tdiv 1460+R.tdiv 36524:=wrap_in (by omega) (by omega)
 have a6:IntKind.i64.wrap (R-R.tdiv 1460+R.tdiv 36524-R.tdiv 146096)=R-R.tdiv 1460+R.tdiv 36524-R.tdiv 146096:=wrap_in (by omega) (by omega)
 have ty:=sM (x:=R-R.tdiv 1460+R.tdiv 36524-R.tdiv 146096) (k:=365) (B:=1000000) (by omega) (by omega) (by omega)
 obtain⟨Y,hY⟩: ∃Y,(R-R.tdiv 1460+R.tdiv 36524-R.tdiv 146096).tdiv 365=Y:=⟨_,rfl⟩
 rw[hY] at ty
 have a7:IntKind.i64.wrap Y=Y:=wrap_in (by omega) (by omega)
 have u1:=sM (x:=Y) (k:=4) (B:=1000000) (by omega) (by omega) (by omega)
 have u2:=sM (x:=Y) (k:=100) (B:=1000000) (by omega) (by omega) (by omega)
 have b1:IntKind.i64.wrap (365*Y)=365*Y:=wrap_in (by omega) (by omega)
 have b2:IntKind.i64.wrap (Y.tdiv 4)=Y.tdiv 4:=wrap_in (by omega) (by omega)
 have b3:IntKind.i64.wrap (365*Y+Y.tdiv 4)=365*Y+Y.tdiv 4:=wrap_in (by omega) (by omega)
 have b4:IntKind.i64.wrap (Y.tdiv 100)=Y.tdiv 100:=wrap_in (by omega) (by omega)
 have b5:IntKind.i64.wrap (365*Y+Y.tdiv 4-Y.tdiv 100)=365*Y+Y.tdiv 4-Y.tdiv 100:=wrap_in (by omega) (by omega)
 obtain⟨Q,hQ⟩: ∃Q,R-(365*Y+Y.tdiv 4-Y.tdiv 100)=Q:=⟨_,rfl⟩
 have bQ: -400000000≤Q∧Q≤400000000:=by omega
 have b6:IntKind.i64.wrap Q=Q:=wrap_in (by omega) (by omega)
 have c1:IntKind.i64.wrap (5*Q)=5*Q:=wrap_in (by omega) (by omega)
 have c2:IntKind.i64.wrap (5*Q+2)=5*Q+2:=wrap_in (by omega) (by omega)
 have tm:=sM (x:=5*Q+2) (k:=153) (B:=3000000000) (by omega) (by omega) (by omega)
 obtain⟨M,hM⟩: ∃M,(5*Q+2).tdiv 153=M:=⟨_,rfl⟩
 rw[hM] at tm
 have d1:IntKind.i64.wrap M=M:=wrap_in (by omega) (by omega)
 have d2:IntKind.i64.wrap (153*M)=153*M:=wrap_in (by omega) (by omega)
 have d3:IntKind.i64.wrap (153*M+2)=153*M+2:=wrap_in (by omega) (by omega)
 have tk:=sM (x:=153*M+2) (k:=5) (B:=500000000000) (by omega) (by omega) (by omega)
 obtain⟨T,hT⟩: ∃T,(153*M+2).tdiv 5=T:=⟨_,rfl⟩
 rw[hT] at tk
 have d4:IntKind.i64.wrap T=T:=wrap_in (by omega) (by omega)
 have d5:IntKind.i64.wrap (Q-T)=Q-T:=wrap_in (by omega) (by omega)
 have d6:IntKind.i64.wrap (Q-T+1)=Q-T+1:=wrap_in (by omega) (by omega)
 have d7:IntKind.i64.wrap (M+3)=M+3:=wrap_in (by omega) (by omega)
 have d8:IntKind.i64.wrap (M+3-12)=M+3-12:=wrap_in (by omega) (by omega)
 have e1:IntKind.i64.wrap (400*e)=400*e:=wrap_in (by omega) (by omega)
 have e2:IntKind.i64.wrap (Y+400*e)=Y+400*e:=wrap_in (by omega) (by omega)
 have e3:IntKind.i64.wrap (Y+400*e+1)=Y+400*e+1:=wrap_in (by omega) (by omega)
 have hG:yZ day=(if (if M+3>12 then M+3-12 else M+3)<3 then Y+400*e+1 else Y+400*e,if M+3>12 then M+3-12 else M+3,Q-T+1):=by
  have h1:iB R=Y:=hY
  have h2:iA R Y=Q:=hQ
  have h3:iC Q=M:=hM
  unfold yZ
  simp only[he,hR,h1,h2,h3,hT]
 rw[hG] at hS
 by_cases g1:M+3>12
 ·rw[if_pos g1] at hS
  by_cases g2:M+3-12<3
  ·rw[if_pos g2] at hS
   simp only[w1,he,hR,x1,x2,a1,a2,a3,a4,a5,a6,hY,a7,b1,b2,b3,b4,b5,hQ,b6,c1,c2,hM,d1,d2,d3,hT,d4,d5,d6,d7,d8,e1,e2,e3,g1,g2,Qs,oC,ne_eq,List.append_nil,Nat.reduceBEq,Int.reduceEq,Q118]
   exact hS
  ·rw[if_neg g2] at hS
   simp only[w1,he,hR,x1,x2,a1,a2,a3,a4,a5,a6,hY,a7,b1,b2,b3,b4,b5,hQ,b6,c1,c2,hM,d1,d2,d3,hT,d4,d5,d6,d7,d8,e1,e2,e3,g1,g2,Qs,oC,ne_eq,List.append_nil,Nat.reduceBEq,Int.reduceEq,Q118]
   exact hS
 ·rw[if_neg g1] at hS
  by_cases g2:M+3<3
  ·rw[if_pos g2] at hS
   simp only[w1,he,hR,x1,x2,a1,a2,a3,a4,a5,a6,hY,a7,b1,b2,b3,b4,b5,hQ,b6,c1,c2,hM,d1,d2,d3,hT,d4,d5,d6,d7,d8,e1,e2,e3,g1,g2,Qs,oC,ne_eq,List.append_nil,Nat.reduceBEq,Int.reduceEq,Q118]
   exact hS
  ·rw[if_neg g2] at hS
   simp only[w1,he,hR,x1,x2,a1,a2,a3,a4,a5,a6,hY,a7,b1,b2,b3,b4,b5,hQ,b6,c1,c2,hM,d1,d2,d3,hT,d4,d5,d6,d7,d8,e1,e2,e3,g1,g2,Qs,oC,ne_eq,List.append_nil,Nat.reduceBEq,Int.reduceEq,Q118]
   exact hS
theorem c93 (day:Int):Spec Tryz.prog 93 [.int .i64 day] (fun v=>v=.tup (if 0≤day∧day≤100000 then[.int .i64 (yZ day).1,.int .i64 (yZ day).2.1,.int .i64 (yZ day).2.2,.int .i64 0] else[.int .i64 0,.int .i64 0,.int .i64 0,.int .i64 3])):=by
 refine Spec.of_awlS hf93 okf93 (by simp) fun S hS=>?_
 have g:=zhq day
 simp only[Qs,Nat.reduceBEq,Q93]
 refine zC g ?_
 by_cases h:0≤day∧day≤100000
 ·rw[if_pos h] at hS
  rw[decide_eq_true h]
  simp only[Qs,Nat.reduceBEq,Q93]
  refine zC (zlJ day h.1 h.2) ?_
  simp only[Qs,List.append_nil,Nat.reduceBEq,Q93]
  exact hS
 ·rw[if_neg h] at hS
  rw[decide_eq_false h]
  simp only[Qs,List.append_nil,Nat.reduceBEq,Q93]
  exact hS
end Go.Abs
set_option maxRecDepth 100000
set_option maxHeartbeats 4000000
namespace Go.Abs
open Go.Proofs Go.RowKit Go.Wd
theorem sN (a k:Nat):(a:Int).tdiv k=((a/k:Nat):Int):=by
 rw[Int.tdiv_eq_ediv_of_nonneg (by omega)];exact(Int.natCast_ediv a k).symm
theorem zlK (a k:Nat):(a:Int).tmod k=((a % k:Nat):Int):=by
 rw[Int.tmod_eq_emod_of_nonneg (by omega)];exact(Int.natCast_emod a k).symm
theorem zlL (R:Nat):iB (R:Int)=(yN R:Nat):=by
 unfold iB
 rw[show(1460:Int)=((1460:Nat):Int) from rfl,show(36524:Int)=((36524:Nat):Int) from rfl,show(146096:Int)=((146096:Nat):Int) from rfl,sN,sN,sN]
 have h1:R/1460≤R:=Nat.div_le_self _ _
 have h2:R/146096≤R/36524:=by omega
 rw[show(R:Int)-((R/1460:Nat):Int)+((R/36524:Nat):Int)-((R/146096:Nat):Int)=((R-R/1460+R/36524-R/146096:Nat):Int) by omega,show(365:Int)=((365:Nat):Int) from rfl,sN]
 rfl
theorem zlM {R:Nat} (h:R<146400):iA (R:Int) (yN R:Nat)=(r2N R:Nat):=by
 unfold iA
 have hl:=zlC h
 have h2:yN R/100≤yN R/4:=by omega
 rw[show(4:Int)=((4:Nat):Int) from rfl,show(100:Int)=((100:Nat):Int) from rfl,sN,sN]
 unfold r2N
 omega
theorem zlN (R:Nat):iC ((r2N R:Nat):Int)=(mN R:Nat):=by
 unfold iC
 rw[show(5:Int)*((r2N R:Nat):Int)+2=((5*r2N R+2:Nat):Int) by omega,show(153:Int)=((153:Nat):Int) from rfl,sN];rfl
def dtI (t:Dt):Int×Int×Int:=(Int.ofNat t.y,Int.ofNat t.m,Int.ofNat t.d)
theorem zhM {day:Int} (h:0≤day):yZ day=dtI (dtN day.toNat):=by
 obtain⟨k,rfl⟩: ∃k:Nat,day=k:=⟨day.toNat,by omega⟩
 rw[Int.toNat_natCast]
 obtain⟨R,hR⟩: ∃R,(k+730425) % 146097=R:=⟨_,rfl⟩
 obtain⟨E,hE⟩: ∃E,(k+730425)/146097=E:=⟨_,rfl⟩
 have hlt:R<146400:=by omega
 have e1:((k:Int)+730425).tdiv 146097=(E:Nat):=by
  rw[show(k:Int)+730425=((k+730425:Nat):Int) by omega,show(146097:Int)=((146097:Nat):Int) from rfl,sN,hE]
 have e2:((k:Int)+730425).tmod 146097=(R:Nat):=by
  rw[show(k:Int)+730425=((k+730425:Nat):Int) by omega,show(146097:Int)=((146097:Nat):Int) from rfl,zlK,hR]
 have hD:dtN k=⟨if moN R≤2 then yN R+400*E+1 else yN R+400*E,moN R,r2N R-(153*mN R+2)/5+1⟩:=by
  unfold dtN
  simp only[hR,hE]
 have hmo:(if ((mN R:Nat):Int)+3>12 then((mN R:Nat):Int)+3-12 else((mN R:Nat):Int)+3)=((moN R:Nat):Int):=by
  unfold moN
  split<;>split<;>omega
 have h5:(153*((mN R:Nat):Int)+2).tdiv 5=(((153*mN R+2)/5:Nat):Int):=by
  rw[show(153:Int)*((mN R:Nat):Int)+2=((153*mN R+2:Nat):Int) by omega,show(5:Int)=((5:Nat):Int) from rfl,sN]
 have hle:(153*mN R+2)/5≤r2N R:=by
  have:mN R=(5*r2N R+2)/153:=rfl
  omega
 unfold yZ
 simp only[e1,e2,zlL,zlM hlt,zlN,hmo,h5]
 rw[hD]
 simp only[dtI,Prod.mk.injEq,Int.ofNat_eq_natCast]
 refine⟨?_,trivial,by omega⟩
 by_cases hm:moN R≤2
 ·rw[if_pos hm,if_pos (by omega)];omega
 ·rw[if_neg hm,if_neg (by omega)];omega
theorem bS (y m d:Int) (hy:1000≤y∧y≤3000) (hm:1≤m∧m≤13) (hd:1≤d∧d≤31):Spec Tryz.prog 125 [.int .i64 y,.int .i64 m,.int .i64 d] (fun v=>v=.int .i64 (numI y m d)):=by
 refine Spec.of_awlS hf125 okf125 (by simp) fun S hS=>?_
 have key: ∀Y M:Int,999≤Y→Y≤3000→3≤M→M≤14→(IntKind.i64.wrap (365*Y)=365*Y∧IntKind.i64.wrap (Y.tdiv 4)=Y/4∧IntKind.i64.wrap (365*Y+Y/4)=365*Y+Y/4∧IntKind.i64.wrap (Y.tdiv 100)=Y/100∧
   IntKind.i64.wrap (365*Y+Y/4-Y/100)=365*Y+Y/4-Y/100∧IntKind.i64.wrap (Y.tdiv 400)=Y/400∧IntKind.i64.wrap (365*Y+Y/4-Y/100+Y/400)=365*Y+Y/4-Y/100+Y/400∧
   IntKind.i64.wrap (M-3)=M-3∧IntKind.i64.wrap (153*(M-3))=153*(M-3)∧IntKind.i64.wrap (153*(M-3)+2)=153*(M-3)+2∧IntKind.i64.wrap ((153*(M-3)+2).tdiv 5)=(153*(M-3)+2)/5)∧
   IntKind.i64.wrap (365*Y+Y/4-Y/100+Y/400+(153*(M-3)+2)/5)=365*Y+Y/4-Y/100+Y/400+(153*(M-3)+2)/5∧
   IntKind.i64.wrap (365*Y+Y/4-Y/100+Y/400+(153*(M-3)+2)/5+d)=365*Y+Y/4-Y/100+Y/400+(153*(M-3)+2)/5+d∧
   IntKind.i64.wrap (365*Y+Y/4-Y/100+Y/400+(153*(M-3)+2)/5+d-1)=365*Y+Y/4-Y/100+Y/400+(153*(M-3)+2)/5+d-1∧
   IntKind.i64.wrap (365*Y+Y/4-Y/100+Y/400+(153*(M-3)+2)/5+d-1-730425)=365*Y+Y/4-Y/100+Y/400+(153*(M-3)+2)/5+d-1-730425:=by
  intro Y M h1 h2 h3 h4
  rw[Int.tdiv_eq_ediv_of_nonneg (by omega),Int.tdiv_eq_ediv_of_nonneg (by omega),Int.tdiv_eq_ediv_of_nonneg (by omega),Int.tdiv_eq_ediv_of_nonneg (by omega)]
  refine⟨⟨?_,?_,?_,?_,?_,?_,?_,?_,?_,?_,?_⟩,?_,?_,?_,?_⟩<;>exact wrap_in (by omega) (by omega)
 by_cases h:m<3
 ·have w1:IntKind.i64.wrap (y-1)=y-1:=wrap_in (by omega) (by omega)
  have w2:IntKind.i64.wrap (m+12)=m+12:=wrap_in (by omega) (by omega)
  obtain⟨⟨a1,a2,a3,a4,a5,a6,a7,a8,a9,a10,a11⟩,a12,a13,a14,a15⟩:=key (y-1) (m+12) (by omega) (by omega) (by omega) (by omega)
  simp only[h,w1,w2,a1,a2,a3,a4,a5,a6,a7,a8,a9,a10,a11,a12,a13,a14,a15,Qs,oC,ne_eq,Nat.reduceAdd,Nat.reduceBEq,Int.reduceEq,Q125]
  exact fin hS (by unfold numI;simp only[h,if_true])
 ·obtain⟨⟨a1,a2,a3,a4,a5,a6,a7,a8,a9,a10,a11⟩,a12,a13,a14,a15⟩:=key y m (by omega) (by omega) (by omega) (by omega)
  simp only[h,a1,a2,a3,a4,a5,a6,a7,a8,a9,a10,a11,a12,a13,a14,a15,Qs,oC,ne_eq,Nat.reduceAdd,Nat.reduceBEq,Int.reduceEq,Q125]
  exact fin hS (by unfold numI;simp only[h,if_false])
theorem zlO (y m:Nat) (hy:2000≤y∧y≤2300) (hm:1≤m∧m≤12):Spec Tryz.prog 124 [.int .i64 (y:Int),.int .i64 (m:Int)] (fun v=>v=.int .i64 (wD y m:Nat)):=by
 refine Spec.of_awlS hf124 okf124 (by simp) fun S hS=>?_
 by_cases h:m=12
 ·subst h
  have e:((12:Nat):Int)==12:=by decide
  simp only[show(((12:Nat):Int)==12)=true from rfl,Qs,BEq.rfl,Nat.reduceAdd,Nat.reduceBEq,Q124]
  exact hS
 ·have e:((m:Int)==12)=false:=by simp;omega
  have w1:IntKind.i64.wrap ((m:Int)+1)=(m:Int)+1:=wrap_in (by omega) (by omega)
  have hs:=zhK y m hm.1 (by omega)
  have g1:=bS y (m+1) 1 (by omega) (by omega) (by omega)
  have g2:=bS y m 1 (by omega) (by omega) (by omega)
  rw[show((m+1:Nat):Int)=(m:Int)+1 by omega] at hs
  have hl:=oX y m
  generalize numI (y:Int) ((m:Int)+1) 1=A at hs g1
  generalize numI (y:Int) (m:Int) 1=B at hs g2
  have w2:IntKind.i64.wrap (A-B)=(wD y m:Nat):=by rw[show A-B=((wD y m:Nat):Int) by omega];exact wrap_in (by omega) (by omega)
  simp only[e,w1,Qs,Nat.reduceAdd,Nat.reduceBEq,Q124]
  refine zC g1 ?_
  simp only[Qs,Nat.reduceBEq]
  refine zC g2 ?_
  simp only[w2,Qs,Nat.reduceBEq]
  exact hS
def dayG (y m d:Int):Int×Int:=
 if 2000≤y∧y≤2300∧1≤m∧m≤12∧1≤d∧d≤(wD y.toNat m.toNat:Nat)∧0≤numI y m d∧numI y m d≤100000 then(numI y m d,0) else(0,3)
theorem oY {y m d:Int} (h: ¬(2000≤y∧y≤2300∧1≤m∧m≤12∧1≤d∧d≤(wD y.toNat m.toNat:Nat)∧0≤numI y m d∧numI y m d≤100000)):dayG y m d=(0,3):=if_neg h
theorem zlP (y m d:Int):Spec Tryz.prog 102 [.int .i64 y,.int .i64 m,.int .i64 d] (fun v=>v=.tup [.int .i64 (dayG y m d).1,.int .i64 (dayG y m d).2]):=by
 refine Spec.of_awlS hf102 okf102 (by simp) fun S hS=>?_
 by_cases h1:y<2000
 ·rw[oY (by omega)] at hS
  simp only[h1,Qs,List.append_nil,Nat.reduceAdd,Nat.reduceBEq,Q102]
  exact hS
 by_cases h2:y>2300
 ·rw[oY (by omega)] at hS
  simp only[h1,h2,Qs,List.append_nil,Nat.reduceAdd,Nat.reduceBEq,Q102]
  exact hS
 by_cases h3:m<1
 ·rw[oY (by omega)] at hS
  simp only[h1,h2,h3,Qs,List.append_nil,Nat.reduceAdd,Nat.reduceBEq,Q102]
  exact hS
 by_cases h4:m>12
 ·rw[oY (by omega)] at hS
  simp only[h1,h2,h3,h4,Qs,List.append_nil,Nat.reduceAdd,Nat.reduceBEq,Q102]
  exact hS
 by_cases h5:d<1
 ·rw[oY (by omega)] at hS
  simp only[h1,h2,h3,h4,h5,Qs,List.append_nil,Nat.reduceAdd,Nat.reduceBEq,Q102]
  exact hS
 have g:=zlO y.toNat m.toNat (by omega) (by omega)
 rw[show((y.toNat:Nat):Int)=y by omega,show((m.toNat:Nat):Int)=m by omega] at g
 have hl:=oX y.toNat m.toNat
 simp only[h1,h2,h3,h4,h5,Qs,Nat.reduceAdd,Nat.reduceBEq,Q102]
 refine zC g ?_
 by_cases h6:d>(wD y.toNat m.toNat:Nat)
 ·rw[oY (by omega)] at hS
  simp only[h6,Qs,List.append_nil,Nat.reduceBEq,Q102]
  exact hS
 simp only[h6,Qs,Nat.reduceBEq,Q102]
 refine zC (bS y m d (by omega) (by omega) (by omega)) ?_
 have g7:=zhq (numI y m d)
 have hd:dayG y m d=if 0≤numI y m d∧numI y m d≤100000 then(numI y m d,0) else(0,3):=by
  unfold dayG
  by_cases h7:0≤numI y m d∧numI y m d≤100000
  ·rw[if_pos h7,if_pos (by omega)]
  ·rw[if_neg h7,if_neg (by omega)]
 rw[hd] at hS
 generalize numI y m d=n at hS g7
 simp only[Qs,Q102]
 refine zC g7 ?_
 by_cases h7:0≤n∧n≤100000
 ·rw[if_pos h7] at hS
  rw[decide_eq_true h7]
  simp only[Qs,List.append_nil,Nat.reduceBEq,Q102]
  exact hS
 ·rw[if_neg h7] at hS
  rw[decide_eq_false h7]
  simp only[Qs,List.append_nil,Nat.reduceBEq,Q102]
  exact hS
theorem zlQ {d:Nat} (h:d≤100000):dayG (dtN d).y (dtN d).m (dtN d).d=(Int.ofNat d,0):=by
 have h1:=qX (d:=d) (by omega)
 have h2:=bP (d:=d) (by omega)
 have h3:=zhL (d:=d) (by omega)
 obtain⟨a,b,c,e,f⟩:=h1
 unfold dayG
 rw[h3,Int.toNat_natCast,Int.toNat_natCast,if_pos (by omega)];rfl
def zI:Cal:=⟨yZ,fun y m d=>if (dayG y m d).2=0 then(dayG y m d).1 else-1⟩
theorem zlR:CalOk zI:=by
 have key: ∀d:Int,0≤d→d≤100000→ ∃k:Nat,d=k∧k≤100000∧yZ d=dtI (dtN k)∧okD (dtN k)∧(dtN k).y≤2300:=fun d h0 h1=>
  ⟨d.toNat,by omega,by omega,zhM h0,qX (by omega),bP (by omega)⟩
 refine⟨fun d h0 h1=>?_,fun d h0 h1=>?_,fun d h0 h1=>?_,fun d h0 h1=>?_⟩
 all_goals
  obtain⟨k,rfl,hk,hc,⟨a,b,c,e,f⟩,g⟩:=key d h0 h1
  have hl:=oX (dtN k).y (dtN k).m
  simp only[zI,hc,dtI,Int.ofNat_eq_natCast]
 ·omega
 ·omega
 ·omega
 ·rw[zlQ hk];rfl
end Go.Abs
set_option maxRecDepth 100000
set_option maxHeartbeats 8000000
namespace Go.Proofs
open Go.Shelf Go.RowKit Go.Lib Go.Abs
theorem zlS (w:World) (e:TypeId) (s:ByteArray):Below w.heap.size w (Go.Lib.bytesWorld w e s):=
 ⟨rfl,rfl,rfl,by rw[bytesWorld_size];omega,fun b hb=>bytesWorld_at_old w e s b hb⟩
theorem zlT (s:List UInt8) (w:World):Calls Tryz.prog 129 #[.string ⟨s.toArray⟩] w fun e w'=>e=.returned (.bool (nameG s))∧Below w.heap.size w w':=by
 have hsz:(⟨s.toArray⟩:ByteArray).size=s.length:=by show s.toArray.size=_;simp
 have hcv: ∀w:World,(convert 9 78 (.string ⟨s.toArray⟩)).run Tryz.prog w=.ok (.slice (some ⟨w.heap.size,0,none⟩) s.length (grownCap w s.length 0 5)) (Go.Lib.bytesWorld w 5 ⟨s.toArray⟩):=fun w=>by
  have:=Go.Lib.run_convert_string_bytes w 9 78 5 ⟨s.toArray⟩ Tryz.underlying9 Tryz.underlying78 Tryz.underlying5
  rwa [hsz] at this
 by_cases h0:s=[]
 ·subst h0
  go_enter Tryz.func129,Tryz.ntmps129
  go_wp2
  go_ret
  exact⟨rfl,Below.refl _ _⟩
 have hpos:0<s.length:=List.length_pos_iff.2 h0
 have hne:s.isEmpty=false:=by cases s<;>simp_all
 by_cases h20:s.length>20
 ·have h20':(s.length:Int)>20:=by omega
  have hG:nameG s=false:=by unfold nameG;rw[decide_eq_false (by omega)];rfl
  go_enter Tryz.func129,Tryz.ntmps129
  go_wp2
  go_ret
  exact⟨by rw[hG];rfl,Below.refl _ _⟩
 have h20': ¬(s.length:Int)>20:=by omega
 have hb2:=zlS w 5 ⟨s.toArray⟩
 have hcell: ∀j,j<s.length→(Go.Lib.bytesWorld w 5 ⟨s.toArray⟩).cell? ⟨w.heap.size,j,none⟩=some (.int .u8 ((s.getD j 0).toNat:Nat)):=fun j hj=>Go.Lib.bytesWorld_cell w 5 ⟨s.toArray⟩ j (by rw[hsz];exact hj)
 go_enter Tryz.func129,Tryz.ntmps129
 go_wp2
 generalize Go.Lib.bytesWorld w 5 ⟨s.toArray⟩=w2 at hb2 hcell⊢
 generalize grownCap w s.length 0 5=cap
 go_loopg [16] s.length (fun g i wr=>wr=w2∧ ∃k:Nat,k≤s.length∧g=s.length-k∧i=.int .i64 k∧Aside ((List.range k).all (okN s)=true))
 case atStart=>exact⟨rfl,0,Nat.zero_le _,rfl,rfl,rfl⟩
 case round=>
  obtain⟨rfl,k,hk,rfl,rfl,hd⟩:=hrel
  by_cases hlt:k<s.length
  ·have hlt':(k:Int)<s.length:=by omega
   have hc:=hcell k hlt
   have hwk:IntKind.i64.wrap ((k:Int)+1)=((k+1:Nat):Int):=by rw[Go.Abs.wrap_in (by omega) (by omega)];omega
   obtain⟨c,hcc⟩: ∃c:Int,c=((s.getD k 0).toNat:Nat):=⟨_,rfl⟩
   rw[←hcc] at hc
   have hF:Aside (okN s k=((decide ((97≤c∧c≤122)∨(65≤c∧c≤90)))||(decide (k≠0)&&decide (c=95∨(48≤c∧c≤57))))):=by
    show okN s k=_
    unfold okN qT oV atB;rw[←hcc]
   have hnx:Aside (okN s k=true→(List.range (k+1)).all (okN s)=true):=fun h=>by rw[List.range_succ,List.all_append,hd.out];simp[h]
   have hbad:Aside (okN s k=false→nameG s=false):=fun h=>by
    unfold nameG
    rw[Bool.and_eq_false_iff]
    refine .inr (Bool.eq_false_iff.2 fun h2=>?_)
    rw[List.all_eq_true] at h2
    rw[h2 k (List.mem_range.2 hlt)] at h
    cases h
   clear hd hcc hcell
   have hkk:((k:Int)=0∧k=0∧((k:Int)==0)=true)∨(¬(k:Int)=0∧ ¬k=0∧((k:Int)==0)=false):=by
    by_cases h:k=0
    ·exact .inl ⟨by omega,h,by simp[h]⟩
    ·exact .inr ⟨by omega,h,by simp;omega⟩
   by_cases h97:c≥97
   ·by_cases h122:c≤122
    ·go_wp2
     go_roundg (s.length-(k+1))
     case rel=>exact⟨rfl,k+1,by omega,rfl,by go_num,hnx.out (by rw[hF.out];simp;omega)⟩
     case measure=>omega
    ·have q1:c≥65:=by omega
     have q2: ¬c≤90:=by omega
     have q3: ¬c=95:=by omega
     have q4: ¬c<48:=by omega
     have q5:c>57:=by omega
     rcases hkk with⟨-,rfl,-⟩|⟨z1,z2,z3⟩
     ·go_wp2
      go_ret
      exact⟨by rw[hbad.out (by rw[hF.out];simp;try omega)];rfl,hb2⟩
     ·go_wp2
      go_ret
      exact⟨by rw[hbad.out (by rw[hF.out];simp;try omega)];rfl,hb2⟩
   ·by_cases h65:c≥65
    ·by_cases h90:c≤90
     ·go_wp2
      go_roundg (s.length-(k+1))
      case rel=>exact⟨rfl,k+1,by omega,rfl,by go_num,hnx.out (by rw[hF.out];simp;omega)⟩
      case measure=>omega
     ·have q6: ¬c<48:=by omega
      have q7:c>57:=by omega
      rcases hkk with⟨-,rfl,-⟩|⟨z1,z2,z3⟩
      ·go_wp2
       go_ret
       exact⟨by rw[hbad.out (by rw[hF.out];simp;try omega)];rfl,hb2⟩
      ·by_cases h95:c=95
       ·go_wp2
        go_roundg (s.length-(k+1))
        case rel=>exact⟨rfl,k+1,by omega,rfl,by go_num,hnx.out (by rw[hF.out];simp;omega)⟩
        case measure=>omega
       ·go_wp2
        go_ret
        exact⟨by rw[hbad.out (by rw[hF.out];simp;try omega)];rfl,hb2⟩
    ·have q8: ¬c=95:=by omega
     rcases hkk with⟨-,rfl,-⟩|⟨z1,z2,z3⟩
     ·go_wp2
      go_ret
      exact⟨by rw[hbad.out (by rw[hF.out];simp;try omega)];rfl,hb2⟩
     ·by_cases h48:c<48
      ·go_wp2
       go_ret
       exact⟨by rw[hbad.out (by rw[hF.out];simp;try omega)];rfl,hb2⟩
      ·by_cases h57:c>57
       ·go_wp2
        go_ret
        exact⟨by rw[hbad.out (by rw[hF.out];simp;try omega)];rfl,hb2⟩
       ·go_wp2
        go_roundg (s.length-(k+1))
        case rel=>exact⟨rfl,k+1,by omega,rfl,by go_num,hnx.out (by rw[hF.out];simp;omega)⟩
        case measure=>omega
  ·obtain rfl:k=s.length:=by omega
   have hG:nameG s=true:=by unfold nameG;rw[decide_eq_true (by omega),hd.out];rfl
   go_wp2
   go_ret
   exact⟨by rw[hG];rfl,hb2⟩
end Go.Proofs
namespace Go.Abs
open Go.Proofs Go.RowKit
theorem Spec.of_awlP {P:Program} {f:FuncId} {n:Nat} {c:AQ} {rs:List RX} {args:List V} {X:V} (hc:zH P f=some ⟨n,c.erase,rs⟩) (hok:c.ok=true) (hlen:args.length≤n)
  (h: ∀S:V→Prop,(∀r,r.fz.nrm=X→S r)→awl P c (endK rs S) (initT 0 args) []):Spec P f args (fun r=>r=X):=
 (Spec.of_awl hc hok hlen (h (fun r=>r.fz.nrm=X) fun _ h=>h)).plain.mono (by rintro r' ⟨r,h,rfl⟩;exact h)
theorem rR {P:Program} {f:FuncId} (h:(match P.funcs[f]? with|some fn=>fn.body.isSome&& !(fn.name== "runtime.NumGoroutine")|none=>false)=true):uK P f:=by
 unfold uK
 cases hf:P.funcs[f]? with
 |none=>rw[hf] at h;simp at h
 |some fn=>rw[hf] at h;simp only[Bool.and_eq_true,Bool.not_eq_true'] at h;exact⟨fn,rfl,h.1,h.2⟩
theorem sO {w w':World} (h:Below w.heap.size w w'):xA w w':=⟨h.os,h.tape,h.output,h.size,h.block⟩
theorem bU {w w':World} (h:xA w w'):Below w.heap.size w w':=⟨h.os,h.tape,h.output,h.size,h.block⟩
def C.sc:C→Bool
 | .int _ _=>true
 | .bool _=>true
 | .str _=>true
 |_=>false
def vK:C→Value
 | .int k n=> .int k n
 | .bool b=> .bool b
 | .str s=> .string ⟨s.toArray⟩
 |_=> .bool false
theorem zhN {w:World} {Z:Bk→Prop} {c:C} {v:Value} (hc:c.sc=true) (h:PRep w Z c v):v=vK c:=by
 cases h<;>first|rfl|cases hc
theorem mV {w:World} {Z:Bk→Prop} {c:C} (hc:c.sc=true):PRep w Z c (vK c):=by
 cases c<;>first|exact .int _ _|exact .bool _|exact .str _|cases hc
theorem zlU {c:C} (hc:c.sc=true):(vK c).oneCell'=true:=(mV (w:=default) (Z:=fun _=>False) hc).oneCell
theorem zhO {α:Type} {sz:Nat} (h0:0<sz): ∀(rows:List (List α)) (k:Nat) (c:α),(∀r,r∈rows→r.length=sz)→rows.flatten[k]?=some c→ ∃i j r,rows[i]?=some r∧r[j]?=some c∧k=i*sz+j
 |[],k,c,_,h=>by simp at h
 |r::rows,k,c,hl,h=>by
  have hr:=hl r List.mem_cons_self
  rw[List.flatten_cons] at h
  by_cases hk:k<sz
  ·rw[List.getElem?_append_left (by omega)] at h
   exact⟨0,k,r,rfl,h,by omega⟩
  ·rw[List.getElem?_append_right (by omega)] at h
   obtain⟨i,j,r',h1,h2,h3⟩:=zhO h0 rows (k-r.length) c (fun r' hr'=>hl r' (List.mem_cons_of_mem _ hr')) h
   exact⟨i+1,j,r',h1,h2,by rw[Nat.add_mul];omega⟩
theorem zhP {α:Type} {sz:Nat}: ∀(rows:List (List α)) (i j:Nat) (r:List α) (c:α),(∀r,r∈rows→r.length=sz)→rows[i]?=some r→r[j]?=some c→rows.flatten[i*sz+j]?=some c
 |[],i,j,r,c,_,h,_=>by simp at h
 |r0::rows,0,j,r,c,hl,h,hc=>by
  cases h
  have hj:=(List.getElem?_eq_some_iff.1 hc).1
  rw[List.flatten_cons,Nat.zero_mul,Nat.zero_add,List.getElem?_append_left hj]
  exact hc
 |r0::rows,i+1,j,r,c,hl,h,hc=>by
  have hr:=hl r0 List.mem_cons_self
  rw[List.flatten_cons,Nat.add_mul,List.getElem?_append_right (by omega),show i*sz+1*sz+j-r0.length=i*sz+j by omega]
  exact zhP rows i j r c (fun r' hr'=>hl r' (List.mem_cons_of_mem _ hr')) h hc
theorem zhQ {α:Type} {sz:Nat}: ∀(rows:List (List α)),(∀r,r∈rows→r.length=sz)→rows.flatten.length=rows.length*sz
 |[],_=>by simp
 |r0::rows,hl=>by
  rw[List.flatten_cons,List.length_append,zhQ rows fun r' hr'=>hl r' (List.mem_cons_of_mem _ hr'),hl r0 List.mem_cons_self,List.length_cons,Nat.add_mul]
  omega
def wH (rows:List (List C)):List Value:=rows.flatten.map vK
structure Plain (sz:Nat) (rows:List (List C)):Prop where
 pos:0<sz
 len: ∀r,r∈rows→r.length=sz
 sc: ∀r,r∈rows→ ∀c,c∈r→c.sc=true
theorem Plain.clen {sz:Nat} {rows:List (List C)} (h:Plain sz rows):(wH rows).length=rows.length*sz:=by
 rw[wH,List.length_map,zhQ rows h.len]
theorem Plain.one {sz:Nat} {rows:List (List C)} (h:Plain sz rows): ∀u∈wH rows,u.oneCell'=true:=by
 intro u hu
 obtain⟨c,hc,rfl⟩:=List.mem_map.1 hu
 obtain⟨r,hr,hcr⟩:=List.mem_flatten.1 hc
 exact zlU (h.sc r hr c hcr)
theorem Plain.at {sz:Nat} {rows:List (List C)} (h:Plain sz rows) {i j:Nat} {r:List C} {c:C} (hr:rows[i]?=some r) (hc:r[j]?=some c):(wH rows)[i*sz+j]?=some (vK c)∧c.sc=true:=by
 refine⟨?_,h.sc r (List.mem_of_getElem? hr) c (List.mem_of_getElem? hc)⟩
 rw[wH,List.getElem?_map,zhP rows i j r c h.len hr hc];rfl
theorem Plain.slice {sz:Nat} {rows:List (List C)} (h:Plain sz rows) {w:World} {Z:Bk→Prop} {v:Value} (hv:PRep w Z (zB sz rows) v):
  ∃p cap,v=.slice p rows.length cap∧(0<rows.length→ ∃b o,p=some ⟨b,o,none⟩∧ ∀j u,(wH rows)[j]?=some u→w.cell? ⟨b,o+j,none⟩=some u)∧(0<rows.length→rows.length≤cap):=by
 unfold zB at hv
 by_cases h0:rows=[]
 ·subst h0
  have h':PRep w Z (.list 0 none []) v:=hv
  generalize hc:C.list 0 none []=c at h'
  cases h' with
  |nil=>exact⟨none,0,rfl,fun hk=>absurd hk (by simp),fun hk=>absurd hk (by simp)⟩
  |emp _ _ a=>exact⟨some a,0,rfl,fun hk=>absurd hk (by simp),fun hk=>absurd hk (by simp)⟩
  |list b o cap sz nl rws val=>
   injection hc with _ _ hr
   subst hr
   exact⟨some ⟨b,o,none⟩,cap,rfl,fun hk=>absurd hk (by simp),fun hk=>absurd hk (by simp)⟩
  |_=>cases hc
 ·have e:(if rows.isEmpty=true then 0 else sz)=sz:=by cases rows<;>simp_all
  rw[e] at hv
  generalize hc:C.list sz none rows=c at hv
  cases hv with
  |nil=>injection hc with _ _ hr;exact absurd hr h0
  |emp=>injection hc with _ _ hr;exact absurd hr h0
  |list b o cap sz nl rws val h1 h2 h3 h4 h5 h6 h7=>
   injection hc with hs _ hr
   subst hs hr
   refine⟨some ⟨b,o,none⟩,cap,rfl,fun _=>⟨b,o,rfl,fun k u hu=>?_⟩,fun _=>h2⟩
   rw[wH,List.getElem?_map] at hu
   obtain⟨c,hc,rfl⟩:=Option.map_eq_some_iff.1 hu
   obtain⟨i,j,r,g1,g2,rfl⟩:=zhO h.pos rows k c h.len hc
   rw[h6 i j r c g1 g2,zhN (h.sc r (List.mem_of_getElem? g1) c (List.mem_of_getElem? g2)) (h7 i j r c g1 g2)]
  |_=>cases hc
structure Row (w w':World) (e sz:Nat) (rows:List (List C)) (g:Nat) (cap:Nat):Prop where
 fresh:w.heap.size≤g
 ex: ∃cur,w'.heap[g]?=some (.cells cur e (0,0))∧cur.size=cap*sz∧ ∀(i j:Nat) r c,rows[i]?=some r→r[j]?=some c→ ∃v,cur[i*sz+j]?=some v∧ ∀Z,PRep w' Z c v
 pos:0<sz
 le:rows.length≤cap
 max:cap≤maxLen
 len: ∀r,r∈rows→r.length=sz
theorem Row.orep {w w':World} {e sz:Nat} {rows:List (List C)} {g cap:Nat} (h:Row w w' e sz rows g cap) {Z:Bk→Prop} {κ:Kap} {o:Nat→Option O} {τ:Nat} (hκ:κ τ=some g):yP w' Z κ o τ (.arr e sz none rows):=by
 obtain⟨cur,h1,h2,h3⟩:=h.ex
 exact .inr ⟨g,cur,cap,hκ,h1,h.pos,h2,h.le,h.max,by simp,h.len,fun i j r c hr hc=>by obtain⟨v,hv,hp⟩:=h3 i j r c hr hc;exact⟨v,hv,hp _⟩⟩
theorem tb1 {n τ:Nat} {a x:O} (h:zM n [a] τ=some x):τ=n∧x=a:=by
 unfold zM at h
 split at h
 ·rename_i hle
  obtain⟨k,rfl⟩: ∃k,τ=n+k:=⟨τ-n,by omega⟩
  rw[Nat.add_sub_cancel_left] at h
  match k,h with
  |0,h=>simp at h;exact⟨rfl,h.symm⟩
  |k+1,h=>simp at h
 ·cases h
theorem zhR {n τ:Nat} {a:O} (h:zM n [a] τ≠none):τ=n:=by
 cases e:zM n [a] τ with
 |none=>exact absurd e h
 |some x=>exact(tb1 e).1
abbrev zhS (w w':World) (e sz:Nat) (rows:List (List C)) (v:Value):Prop:=(v=.slice none 0 0∧rows=[])∨ ∃g cap,v=.slice (some ⟨g,0,none⟩) rows.length cap∧Row w w' e sz rows g cap
theorem zlV {w w':World} {Z:Bk→Prop} {e sz:Nat} {rows:List (List C)} {v:Value} (hG:aZ (base w)) (hk:xA w w') (h:zhS w w' e sz rows v):pE (base w) Z (.k (.newl e sz none rows)) v w':=by
 intro n
 obtain⟨k,hk1,hk2⟩: ∃k:Option Nat,((k=none∧v=.slice none 0 0∧rows=[])∨ ∃g cap,k=some g∧v=.slice (some ⟨g,0,none⟩) rows.length cap∧Row w w' e sz rows g cap)∧(∀b,k=some b→w.heap.size≤b∧b<w'.heap.size):=by
  rcases h with⟨a,b⟩|⟨g,cap,a,b⟩
  ·exact⟨none,.inl ⟨rfl,a,b⟩,fun _ h=>by cases h⟩
  ·obtain⟨cur,hc,_⟩:=b.ex
   exact⟨some g,.inr ⟨g,cap,rfl,a,b⟩,fun _ h=>by cases h;exact⟨b.fresh,nQ hc⟩⟩
 refine⟨fun _=>k,hk,hG,fun τ b ho h=>?_,fun τ τ' b ho ho' h h'=>?_,fun τ ob h=>?_,fun s=>?_⟩
 ·have:=hk2 b h
  exact⟨Nat.not_lt.2 this.1,this.2⟩
 ·exact(zhR ho).trans (zhR ho').symm
 ·obtain⟨rfl,rfl⟩:=tb1 h
  rcases hk1 with⟨a,b,c⟩|⟨g,cap,a,b,c⟩
  ·exact .inl ⟨a,c,by simp⟩
  ·exact c.orep a
 ·by_cases hs:s=0
  ·subst hs
   simp only[if_true]
   refine⟨by rcases hk1 with⟨_,rfl,_⟩|⟨_,_,_,rfl,_⟩<;>rfl,fun e' sz' nl' rows' h=>?_⟩
   obtain⟨_,h2⟩:=tb1 h
   cases h2
   rcases hk1 with⟨a,b,c⟩|⟨g,cap,a,b,c⟩
   ·exact .inl ⟨a,b⟩
   ·obtain⟨cur,hc,hz,_⟩:=c.ex
    exact .inr ⟨g,cur,cap,a,hc,hz,b⟩
  ·simp only[hs,if_false];trivial
theorem zlW {w w':World} {e sz n:Nat} {rows:List (List C)} {v:Value} (h:Plain sz rows) (hw:w'.ownsRow w.heap.size e sz v n (wH rows)) (hn:n=rows.length):zhS w w' e sz rows v:=by
 subst hn
 rcases hw.2 with⟨h1,h2⟩|⟨g2,cap,cur,h1,h2,h3,h4,h5,h6,h7⟩
 ·exact .inl ⟨h1,List.eq_nil_of_length_eq_zero h2⟩
 ·refine .inr ⟨g2,cap,h1,h2,⟨cur,h3,h6,fun i j r c hr hc=>⟨vK c,?_,fun Z=>mV (h.at hr hc).2⟩⟩,h.pos,h4,h5,h.len⟩
  have:=(h.at hr hc).1
  rw[←h7,List.getElem?_take] at this
  split at this
  ·simpa using this
  ·cases this
end Go.Abs
set_option maxRecDepth 100000
set_option maxHeartbeats 4000000
namespace Go.Abs
open Go.Proofs Go.RowKit Go.Lib
mutual
def rS:V→Value
 | .k (.c (.int k n))=> .int k n
 | .k (.c (.bool b))=> .bool b
 | .k (.c (.str s))=> .string ⟨s.toArray⟩
 | .tup vs=> .tuple (valsOf vs).toArray
 |_=> .nilFunc
def valsOf:List V→List Value
 |[]=>[]
 |v::vs=>rS v::valsOf vs
end
mutual
theorem zhT {w:World} {Z:Bk→Prop} {κ:Kap} {o:Nat→Option O}: ∀(x:V) (v:Value),x.scalar=true→zF w Z κ o x v→v=rS x
 | .k (.c (.int k n)),v,_,h=>uR h.2
 | .k (.c (.bool b)),v,_,h=>by
   have h2:PRep w Z (.bool b) v:=h.2
   cases h2;rfl
 | .k (.c (.str s)),v,_,h=>vD h.2
 | .tup vs,v,hs,⟨us,e,hl,h⟩=>by
   obtain⟨l⟩:=us
   rw[e,rS,valsOf_rep vs l hs hl h]
 | .k (.c (.list _ _ _)),_,hs,_=>by cases hs
 | .k (.c (.ro _ _)),_,hs,_=>by cases hs
 | .k (.c (.fn _ _)),_,hs,_=>by cases hs
 | .k (.c .nilf),_,hs,_=>by cases hs
 | .k (.c .nilp),_,hs,_=>by cases hs
 | .k (.c (.gl _)),_,hs,_=>by cases hs
 | .k (.own _),_,hs,_=>by cases hs
 | .k (.ptr _ _),_,hs,_=>by cases hs
 | .k (.elem _ _ _),_,hs,_=>by cases hs
 | .k (.pel _ _ _ _),_,hs,_=>by cases hs
 | .k (.fnk _ _),_,hs,_=>by cases hs
 | .k (.newl _ _ _ _),_,hs,_=>by cases hs
 | .k .dead,_,hs,_=>by cases hs
 | .agg _,_,hs,_=>by cases hs
 | .agk _,_,hs,_=>by cases hs
 | .undef,_,hs,_=>by cases hs
 | .any,_,hs,_=>by cases hs
theorem valsOf_rep {w:World} {Z:Bk→Prop} {κ:Kap} {o:Nat→Option O}: ∀(xs:List V) (vs:List Value),V.scalarL xs=true→vs.length=xs.length→VRepL w Z κ o xs vs→vs=valsOf xs
 |[],[],_,_,_=>rfl
 |x::xs,v::vs,hs,hl,h=>by
  simp only[V.scalarL,Bool.and_eq_true] at hs
  rw[valsOf,zhT x v hs.1 h.1,valsOf_rep xs vs hs.2 (by simpa using hl) h.2]
 |[],_::_,_,hl,_=>by simp at hl
 |_::_,[],_,hl,_=>by simp at hl
end
def bV:V→Bool
 | .k (.c (.int _ _))=>true
 | .k (.c (.bool _))=>true
 | .k (.c (.str _))=>true
 |_=>false
theorem zlX {w:World} {Z:Bk→Prop} {x:V} (h:bV x=true):x.isPure=true∧zF w Z (fun _=>none) (fun _=>none) x (rS x):=by
 unfold bV at h
 split at h
 ·exact⟨rfl,rfl,.int _ _⟩
 ·exact⟨rfl,rfl,.bool _⟩
 ·exact⟨rfl,rfl,.str _⟩
 ·cases h
theorem Spec.scal {P:Program} {f:FuncId} {xs:List V} {r:V} (h:Spec P f xs (fun r'=>r'=r)) (hx:xs.all bV=true) (hr:r.scalar=true) {W:World} (hG:aZ (base W)):
  Calls P f (xs.map rS).toArray W fun e W'=>e=.returned (rS r)∧Below W.heap.size W W':=by
 refine(h.2 W (fun b=>b.2<W.heap.size) (xs.map rS).toArray hG (fun _ h=>h) ⟨by simp,fun j y u hy hu=>?_⟩).mono ?_
 ·have hu':(xs.map rS)[j]?=some u:=by simpa using hu
  rw[List.getElem?_map,hy] at hu'
  cases hu'
  exact zlX (List.all_eq_true.1 hx y (List.mem_of_getElem? hy))
 ·rintro e w' ⟨v,r',rfl,rfl,_,hrep⟩
  obtain⟨κ,hi⟩:=hrep 0
  have hreg:(V.reg 0 r').1=r':=by
   revert hr
   exact regS r'
  refine⟨?_,bU hi.kept⟩
  have:=hi.tmps 0
  simp only[if_pos] at this
  have e3:(#[v]:Array Value).getD 0 undef=v:=rfl
  rw[e3,hreg] at this
  rw[zhT _ _ hr this]
where
 regS: ∀x:V,x.scalar=true→(V.reg 0 x).1=x
  | .k (.c _),_=>rfl
  | .tup vs,h=>by rw[V.reg,regL vs h]
  | .k (.own _),h=>by cases h
  | .k (.ptr _ _),h=>by cases h
  | .k (.elem _ _ _),h=>by cases h
  | .k (.pel _ _ _ _),h=>by cases h
  | .k (.fnk _ _),h=>by cases h
  | .k (.newl _ _ _ _),h=>by cases h
  | .k .dead,h=>by cases h
  | .agg _,h=>by cases h
  | .agk _,h=>by cases h
  | .undef,h=>by cases h
  | .any,h=>by cases h
 regL: ∀xs:List V,V.scalarL xs=true→V.regL 0 xs=(xs,[])
  |[],_=>rfl
  |x::xs,h=>by
   simp only[V.scalarL,Bool.and_eq_true] at h
   have h1:=regB x h.1
   rw[V.regL,h1]
   simp only[List.length_nil,Nat.add_zero,regL xs h.2,List.append_nil]
 regB: ∀x:V,x.scalar=true→V.reg 0 x=(x,[])
  | .k (.c _),_=>rfl
  | .tup vs,h=>by rw[V.reg,regL vs h]
  | .k (.own _),h=>by cases h
  | .k (.ptr _ _),h=>by cases h
  | .k (.elem _ _ _),h=>by cases h
  | .k (.pel _ _ _ _),h=>by cases h
  | .k (.fnk _ _),h=>by cases h
  | .k (.newl _ _ _ _),h=>by cases h
  | .k .dead,h=>by cases h
  | .agg _,h=>by cases h
  | .agk _,h=>by cases h
  | .undef,h=>by cases h
  | .any,h=>by cases h
theorem zlY {w:World} (hG:aZ (base w)):Go.Lib.TabIs Tryz.prog w "internal/strconv.uint64pow10" .u64 Go.Lib.pow10Tab:=by
 obtain⟨_,b,hb,hp⟩:=hG.2 1 _ rfl
 have hn:Tryz.prog.globalNamed "internal/strconv.uint64pow10" =some 1:=by kernel_rfl
 unfold Go.Lib.TabIs World.var?
 rw[hn,Option.bind_some]
 have hb':w.heap[1]?=some b:=hb
 rw[hb']
 cases b with
 |cells cs t f=>
  have e:cs=_:=hp
  simp only[e]
  rfl
 |_=>exact hp.elim
theorem bW {w:World} {g:Nat} {p:Value→Prop} (hG:aZ (base w)) (h:zab g=some (cell0 p)): ∃v,w.cell? ⟨g,0,none⟩=some v∧p v:=by
 obtain⟨_,b,hb,hp⟩:=hG.2 g _ h
 have hb':w.heap[g]?=some b:=hb
 cases b with
 |cells cs t f=>
  obtain⟨v,h1,h2⟩:=hp
  exact⟨v,by simp only[World.cell?,hb'];exact h1,h2⟩
 |_=>exact hp.elim
theorem zlZ (s:Txt):Spec Tryz.prog 129 [.str s] (fun r=>r=.bool (nameG s)):=by
 refine⟨rR (by kernel_rfl),fun w Z vs hG hz ha=>?_⟩
 obtain⟨l⟩:=vs
 match l,ha with
 |[],ha=>exact absurd ha.1 (by simp)
 |_::_::_,ha=>exact absurd ha.1 (by simp)
 |[v1],ha=>
  have e1:=vD (ha.2 0 _ v1 rfl rfl).2.2
  subst e1
  refine(zlT s w).mono ?_
  rintro e w' ⟨rfl,hb⟩
  exact⟨_,_,rfl,rfl,fun _=>rfl,mD hG (sO hb) (fun _=>rfl) (fun _=>⟨rfl,.bool _⟩)⟩
theorem c51 (n:Int) (h0: -9223372036854775808≤n) (h1:n≤9223372036854775807):Spec Tryz.prog 51 [.int .i64 n] (fun r=>r=.str (Go.Lib.itoa n)):=
 zkH Tryz.laysItoa (rR (by kernel_rfl)) (fun w hG=>zlY hG) n h0 h1
theorem oZ (l:List Txt):Plain 1 (zE l):=by
 refine⟨by decide,fun r hr=>?_,fun r hr c hc=>?_⟩
 ·obtain⟨s,_,rfl⟩:=List.mem_map.1 hr;rfl
 ·obtain⟨s,_,rfl⟩:=List.mem_map.1 hr
  rw[List.mem_singleton.1 hc];rfl
theorem bX (l:List Txt):wH (zE l)=l.map fun s=>Value.string ⟨s.toArray⟩:=by
 rw[wH,zE]
 induction l with
 |nil=>rfl
 |cons a l ih=>simp only[List.map_cons,List.flatten_cons,List.map_append,ih];rfl
theorem c49 (l:List Txt) (sep:Txt) (hn:l.length≤1000) (hs0:0<sep.length) (hs:sep.length≤100) (hlen:zL l≤1000000):Spec Tryz.prog 49 [lst 1 (zE l),.str sep] (fun r=>r=.str (joinS sep l)):=by
 refine⟨rR (by kernel_rfl),fun w Z vs hG hz ha=>?_⟩
 obtain⟨vl⟩:=vs
 match vl,ha with
 |[],ha=>exact absurd ha.1 (by simp)
 |[_],ha=>exact absurd ha.1 (by simp)
 |_::_::_::_,ha=>exact absurd ha.1 (by simp)
 |[v,v2],ha=>
  have e2:=vD (ha.2 1 _ v2 rfl rfl).2.2
  subst e2
  have fin: ∀w':World,Below w.heap.size w w'→ ∃v_1 r,Ending.returned (Value.string ⟨(joinS sep l).toArray⟩)=.returned v_1∧r=V.str (joinS sep l)∧(∀τ,r.noRef τ=true)∧pE (base w) Z r v_1 w':=fun w' hb=>
   ⟨_,_,rfl,rfl,fun _=>rfl,mD hG (sO hb) (fun _=>rfl) (fun _=>⟨rfl,.str _⟩)⟩
  have hPR:PRep w Z (zB 1 (zE l)) v:=(ha.2 0 _ v rfl rfl).2.2
  obtain⟨p,k,rfl,q,m⟩:=(oZ l).slice hPR
  by_cases h0:l=[]
  ·subst h0
   refine(zlz k p ⟨sep.toArray⟩ w).mono ?_
   rintro e w' ⟨rfl,hb⟩
   exact fin w' hb
  ·have hpos:0<(zE l).length:=by rw[zK];exact List.length_pos_iff.2 h0
   obtain⟨b,o,rfl,g⟩:=q hpos
   have hcap:=m hpos
   rw[zK] at hcap
   have hb:b<w.heap.size:=by
    have:=g 0 _ (by rw[bX,List.getElem?_map,List.getElem?_eq_getElem (by rw[zK] at hpos;exact hpos)];rfl)
    exact World.block_lt_of_cell? _ _ this
   have hcell: ∀k,k<l.length→w.cell? ⟨b,o+k,none⟩=some (.string ⟨(l.getD k []).toArray⟩):=fun k hk=>by
    refine g k _ ?_
    rw[bX,List.getElem?_map,List.getElem?_eq_getElem hk];simp[List.getD,hk]
   rw[zK]
   by_cases h1:l.length=1
   ·have hc:=hcell 0 (by omega)
    have hj:joinS sep l=l.getD 0 []:=by
     match l,h1 with
     |[x],_=>rfl
    rw[h1]
    refine(zlA k b o ⟨(l.getD 0 []).toArray⟩ ⟨sep.toArray⟩ w hc (by omega)).mono ?_
    rintro e w' ⟨rfl,hb⟩
    have h:=fin w' hb
    rw[hj] at h⊢
    exact h
   ·refine(zly l sep k b o w hb hcell (by have:=List.length_pos_iff.2 h0;omega) hn hcap hs0 hs hlen).mono ?_
    rintro e w' ⟨rfl,hb⟩
    exact fin w' hb
theorem zhU {c:UInt8}: ∀{s:Txt},c ∉ s→indexByte s c= -1
 |[],_=>rfl
 |b::l,h=>by
  have h1:(b==c)=false:=by rw[beq_eq_false_iff_ne];exact fun e=>h (by simp[e])
  unfold indexByte
  rw[h1,zhU (fun e=>h (List.mem_cons_of_mem _ e))];rfl
theorem bZ {c:UInt8} (t:Txt): ∀{w:Txt},c ∉ w→indexByte (w++c::t) c=w.length
 |[],_=>by
  show indexByte (c::t) c=0
  unfold indexByte
  rw[if_pos (by simp)]
 |b::w,h=>by
  have h1:(b==c)=false:=by rw[beq_eq_false_iff_ne];exact fun e=>h (by simp[e])
  have ih:=bZ t (w:=w) (fun e=>h (List.mem_cons_of_mem _ e))
  rw[List.cons_append]
  unfold indexByte
  rw[h1,ih,if_neg (by simp),if_neg (by simp)]
  simp
theorem zl0 (c:UInt8): ∀(n:Nat) (s:Txt),s.length≤n→splitK [c] 0 (s.count c) s=Go.Wd.cutC c s:=by
 intro n
 induction n with
 |zero=>
  intro s hs
  obtain rfl:s=[]:=List.eq_nil_of_length_eq_zero (by omega)
  rfl
 |succ n ih=>
  intro s hs
  by_cases hm:c∈s
  ·obtain⟨w,t,rfl,hw⟩:=List.eq_append_cons_of_mem hm
   have hc:(w++c::t).count c=t.count c+1:=by
    rw[List.count_append,List.count_cons_self,List.count_eq_zero.2 hw];omega
   have hi:index (w++c::t) [c]=w.length:=by rw[index_one,bZ t hw]
   rw[hc,Go.Wd.cutC_app t hw,splitK,hi,if_neg (by simp)]
   rw[Int.toNat_natCast,Nat.add_zero,List.take_left,show w.length+[c].length=w.length+1 from rfl,List.drop_append,List.drop_eq_nil_of_le (by omega),show w.length+1-w.length=1 by omega]
   rw[List.nil_append,List.drop_succ_cons,List.drop_zero,ih t (by simp at hs;omega)]
  ·rw[List.count_eq_zero.2 hm,Go.Wd.cutC_word hm];rfl
theorem zhV (s:Txt) (c:UInt8) (hs:s.length<4294967281) {w:World} (hG:aZ (base w)):
  Calls Tryz.prog 23 #[.string ⟨s.toArray⟩,.string ⟨[c].toArray⟩] w fun e w'=> ∃v,e=.returned v∧w'.ownsRow w.heap.size 9 1 v (Go.Wd.cutC c s).length (wH (zE (Go.Wd.cutC c s)))∧Below w.heap.size w w':=by
 obtain⟨m,hm,z,rfl⟩:=bW hG (g:=0) (p:=fun v=> ∃m,v=.int .i64 m) rfl
 refine(Any.strings_Split Tryz.laysSplit (by kernel_rfl) ⟨s.toArray⟩ ⟨[c].toArray⟩ z w (by show s.toArray.size<_;simpa using hs) hm (Nat.le_refl 1)).mono ?_
 rintro e w' ⟨rfl,rfl⟩
 have hsp:(splitB (⟨[c].toArray⟩:ByteArray) 0 (countB ⟨s.toArray⟩ ⟨[c].toArray⟩) ⟨s.toArray⟩).map (·.data.toList)=Go.Wd.cutC c s:=by
  rw[splitB_data]
  show splitK [c] 0 (count s [c]) s=_
  rw[count_one]
  exact zl0 c s.length s (Nat.le_refl _)
 have hlen:=splitB_all (⟨[c].toArray⟩:ByteArray) (Nat.le_refl 1) 0 _ ⟨s.toArray⟩ rfl
 generalize hSB:splitB (⟨[c].toArray⟩:ByteArray) 0 (countB ⟨s.toArray⟩ ⟨[c].toArray⟩) ⟨s.toArray⟩=SB at hsp hlen
 have hcv:wH (zE (Go.Wd.cutC c s))=SB.map Value.string:=by
  rw[bX,←hsp,List.map_map]
  refine List.map_congr_left fun x _=>?_
  show Value.string ⟨x.data.toList.toArray⟩=Value.string x
  rw[Array.toArray_toList]
 have hl2:(Go.Wd.cutC c s).length=SB.length:=by rw[←hsp,List.length_map]
 have hcl:(countB (⟨s.toArray⟩:ByteArray) ⟨[c].toArray⟩)≤s.length:=by
  have:=countB_le (⟨[c].toArray⟩:ByteArray) (Nat.le_refl 1) s.length ⟨s.toArray⟩ (by show s.toArray.size≤_;simp)
  have h2:(⟨s.toArray⟩:ByteArray).size=s.length:=by show s.toArray.size=_;simp
  omega
 refine⟨_,rfl,⟨by rw[(oZ _).clen,zK],.inr ⟨w.heap.size,SB.length,(SB.map Value.string).toArray,?_,Nat.le_refl _,alloc_get _ _,by omega,?_,by simp,?_⟩⟩,?_⟩
 ·rw[hl2,hlen]
 ·unfold maxLen;omega
 ·rw[hcv,hl2];simp;rw[List.take_of_length_le (by simp)]
 ·exact(Below.refl _ w).alloc (Nat.le_refl _) _
theorem c23 (s:Txt) (c:UInt8) (hs:s.length<4294967281):Spec Tryz.prog 23 [.str s,.str [c]] (fun r=>r=.k (.newl 9 1 none (zE (Go.Wd.cutC c s)))):=by
 refine⟨rR (by kernel_rfl),fun w Z vs hG hz ha=>?_⟩
 obtain⟨vl⟩:=vs
 match vl,ha with
 |[],ha=>exact absurd ha.1 (by simp)
 |[_],ha=>exact absurd ha.1 (by simp)
 |_::_::_::_,ha=>exact absurd ha.1 (by simp)
 |[v,v2],ha=>
  have e1:=vD (ha.2 0 _ v rfl rfl).2.2
  have e2:=vD (ha.2 1 _ v2 rfl rfl).2.2
  subst e1 e2
  refine(zhV s c hs hG).mono ?_
  rintro e w' ⟨v,rfl,ho,hb⟩
  exact⟨_,_,rfl,rfl,fun τ=>rfl,zlV hG (sO hb) (zlW (oZ _) ho (by rw[zK]))⟩
theorem zl1 (w:World) (e:TypeId) (s:ByteArray):Below w.heap.size w (Go.Lib.bytesWorld w e s):=
 ⟨rfl,rfl,rfl,by rw[bytesWorld_size];omega,fun b hb=>bytesWorld_at_old w e s b hb⟩
theorem zl2 (s:Txt) (hs:s.length≤1000000) {w:World} (hG:aZ (base w)):
  Calls Tryz.prog 71 #[.string ⟨s.toArray⟩] w fun e w'=>e=.returned (.int .i64 (Go.Wd.numberP s))∧Below w.heap.size w w':=by
 have hsz:(⟨s.toArray⟩:ByteArray).size=s.length:=by show s.toArray.size=_;simp
 have hlim:(⟨s.toArray⟩:ByteArray).size≤281474976710656:=by omega
 have hd:(⟨s.toArray⟩:ByteArray).data.toList=s:=rfl
 obtain⟨ev1,hm1,he1⟩:=bW hG (g:=4) (p:=fun v=>v=.nilIface∨ ∃t p,v=.iface t p) rfl
 obtain⟨ev2,hm2,he2⟩:=bW hG (g:=5) (p:=fun v=>v=.nilIface∨ ∃t p,v=.iface t p) rfl
 by_cases hok: ∃v,atoiAll s=.ok v
 ·obtain⟨v,hv⟩:=hok
  have hP:Go.Wd.numberP s=if v<0∨s.length>13 then-1 else v:=by unfold Go.Wd.numberP;rw[hv]
  have hc:=Any.strconv_Atoi_ok Tryz.laysAtoi ⟨s.toArray⟩ (by omega) v (by rw[hd];exact hv) w
  have hb: ∀w',(w'=w∨ ∃t,w'=Go.Lib.bytesWorld w 5 t)→Below w.heap.size w w':=by
   rintro w' (rfl|⟨t,rfl⟩)
   ·exact Below.refl _ _
   ·exact zl1 w 5 t
  by_cases h1:v<0
  ·rw[hP,if_pos (.inl h1)]
   go_enter Tryz.func71,Tryz.ntmps71
   go_wp2_with (go_at_call 103;refine hc.mono ?_;(rintro e w' ⟨rfl,hw⟩;have hb1:=hb _ hw;clear hw hc))
   go_ret
   exact⟨rfl,hb1⟩
  ·by_cases h2:(s.length:Int)>13
   ·rw[hP,if_pos (.inr (by omega))]
    go_enter Tryz.func71,Tryz.ntmps71
    go_wp2_with (go_at_call 103;refine hc.mono ?_;(rintro e w' ⟨rfl,hw⟩;have hb1:=hb _ hw;clear hw hc))
    go_ret
    exact⟨rfl,hb1⟩
   ·rw[hP,if_neg (by omega)]
    go_enter Tryz.func71,Tryz.ntmps71
    go_wp2_with (go_at_call 103;refine hc.mono ?_;(rintro e w' ⟨rfl,hw⟩;have hb1:=hb _ hw;clear hw hc))
    go_ret
    exact⟨rfl,hb1⟩
 ·have hP:Go.Wd.numberP s= -1:=by
   unfold Go.Wd.numberP
   cases h:atoiAll s with
   |ok v=>exact absurd ⟨v,h⟩ hok
   |_=>rfl
  have hc:Calls Tryz.prog 103 #[.string ⟨s.toArray⟩] w fun e w'=> ∃n N,e=.returned (.tuple #[.int .i64 n,.iface (Tryz.laysAtoi_ren.t 168) (.pointer (some ⟨N,0,none⟩))])∧Below w.heap.size w w':=by
   cases hx:atoiAll s with
   |ok v=>exact absurd ⟨v,hx⟩ hok
   |range=>
    refine(Any.strconv_Atoi_range Tryz.laysAtoi ⟨s.toArray⟩ hlim (by rw[hd];exact hx) ev2 w hm2 he2).mono ?_
    rintro e w' ⟨N,rfl,-,-,hb⟩
    exact⟨_,N,rfl,hb⟩
   |_=>
    refine(Any.strconv_Atoi_syntax Tryz.laysAtoi ⟨s.toArray⟩ hlim (by rw[hd];exact hx) ev1 w hm1 he1).mono ?_
    rintro e w' ⟨N,rfl,-,-,hb⟩
    exact⟨_,N,rfl,hb⟩
  rw[hP]
  go_enter Tryz.func71,Tryz.ntmps71
  go_wp2_with (go_at_call 103;refine hc.mono ?_;(rintro e w' ⟨n,N,rfl,hb1⟩;clear hc))
  go_ret
  exact⟨rfl,hb1⟩
theorem c71 (s:Txt) (hs:s.length≤1000000):Spec Tryz.prog 71 [.str s] (fun r=>r=.int .i64 (Go.Wd.numberP s)):=by
 refine⟨rR (by kernel_rfl),fun w Z vs hG hz ha=>?_⟩
 obtain⟨l⟩:=vs
 match l,ha with
 |[],ha=>exact absurd ha.1 (by simp)
 |_::_::_,ha=>exact absurd ha.1 (by simp)
 |[v1],ha=>
  have e1:=vD (ha.2 0 _ v1 rfl rfl).2.2
  subst e1
  refine(zl2 s hs hG).mono ?_
  rintro e w' ⟨rfl,hb⟩
  exact⟨_,_,rfl,rfl,fun _=>rfl,mD hG (sO hb) (fun _=>rfl) (fun _=>⟨rfl,.int _ _⟩)⟩
end Go.Abs
set_option maxRecDepth 100000
set_option maxHeartbeats 4000000
namespace Go.Proofs
open Go.RowKit Go.Shelf Go.Abs Go.Wd
attribute [local go_sem] Oper.semAt_some
theorem zl3 (w:Txt):wR (w++[10]) [10]=w:=by
 unfold wR
 simp
theorem zl4 {w:Txt} (h:(10:UInt8) ∉ w):wR w [10]=w:=by
 unfold wR
 split
 ·rename_i hc
  rw[Bool.and_eq_true,decide_eq_true_eq,beq_iff_eq] at hc
  exfalso
  refine h ?_
  have:(10:UInt8)∈w.drop (w.length-[(10:UInt8)].length):=by rw[hc.2];simp
  exact List.mem_of_mem_drop this
 ·rfl
def tY:Type:={x:Txt//x.length≤4000}
def iD (x:tY):Array Value:= #[.string ⟨x.1.toArray⟩]
def zl5 (t:Txt) (xs:List tY):Prop:=(xs.map fun x=>wR x.1 [10])=xJ t
theorem zl6 (l:Txt) (k:Nat):(⟨l.toArray⟩:ByteArray).extract 0 k=⟨(l.take k).toArray⟩:=by
 apply ByteArray.ext
 rw[ByteArray.data_extract]
 simp[List.extract_eq_take_drop]
theorem zl7 (l:Txt) (k:Nat):(⟨l.toArray⟩:ByteArray).extract k l.length=⟨(l.drop k).toArray⟩:=by
 apply ByteArray.ext
 rw[ByteArray.data_extract]
 simp only[List.extract_toArray,List.extract_eq_take_drop]
 rw[List.take_of_length_le (by rw[List.length_drop];omega)]
theorem nA (l:Txt):(⟨l.toArray⟩:ByteArray).size=l.length:=by show l.toArray.size=_;simp
def qY (bs:Nat) (w:World):Nat:=match w.cell? ⟨bs,0,none⟩ with
 |some (.string s)=>s.size
 |_=>0
theorem uD.cell {bs:Nat} {W W':World} (h:uD bs W W'):W'.cell? ⟨bs,0,none⟩=W.cell? ⟨bs,0,none⟩:=by
 unfold World.cell?
 rw[show W'.heap[bs]?=W.heap[bs]? from h]
theorem uD.frozen {bs:Nat} {W W':World} (h:uD bs W W'):W'.frozen? ⟨bs,0,none⟩=W.frozen? ⟨bs,0,none⟩:=by
 unfold World.frozen?
 rw[show W'.heap[bs]?=W.heap[bs]? from h]
theorem zl8 {w r:Txt} (h:(10:UInt8) ∉ w) {pre:List Txt} {t:Txt} (hp:pre++xJ (w++10::r)=xJ t):(pre++[wR (w++[10]) [10]])++xJ r=xJ t:=by
 rw[←hp,zhg r h,zl3];simp
theorem zl9 {w:Txt} (h0:w≠[]) (h:(10:UInt8) ∉ w) {pre:List Txt} {t:Txt} (hp:pre++xJ w=xJ t):(pre++[wR w [10]])++xJ []=xJ t:=by
 rw[←hp,zk0 h0 h,zl4 h,zhf];simp
theorem zma (n:Nat) (hn:3≤n) (bs:Nat) (t:Txt) (ht:t.length≤4000) (w:World)
  (hb:w.cell? ⟨bs,0,none⟩=some (.string ⟨t.toArray⟩)) (hf:w.frozen? ⟨bs,0,none⟩=false):
  zg9 Fence.wide n Tryz.prog 63 #[.pointer (some ⟨bs,0,none⟩)] iD bs (zl5 t) t.length w:=by
 intro l J W hW hJs hJd hY h0
 have h1n:1≤n:=by omega
 have mixed:Tryz.prog.follows Departure.mixedOrders=true:=by kernel_rfl
 have hbs:bs<w.heap.size:=World.block_lt_of_cell? _ _ hb
 have hb1:=(hW.cell (p:=⟨bs,0,none⟩) hbs).trans hb
 have hf1:=(hW.frozen (p:=⟨bs,0,none⟩) hbs).trans hf
 refine callsIn_of_wp Tryz.func63 rfl trivial ?_ rfl
 simp only[Tryz.ntmps63,List.size_toArray,List.length_cons,List.length_nil,Nat.reduceAdd,Nat.reduceSub,Array.replicate_succ,Array.replicate_zero,List.push_toArray,List.append_toArray,List.nil_append,List.cons_append]
 gi_wp2
 gi_loopw [3] (fun _ wr=> ∃(pre:List tY) (rest:Txt),(pre.map fun x=>wR x.1 [10])++xJ rest=xJ t∧pre.length+rest.length≤t.length∧wr.cell? ⟨bs,0,none⟩=some (.string ⟨rest.toArray⟩)∧wr.frozen? ⟨bs,0,none⟩=false∧J pre wr)
  (fun _ wr=>qY bs wr)
 case atStart=>exact⟨[],t,rfl,by simp,hb1,hf1,h0⟩
 case round=>
  obtain⟨pre,rest,hp,hlen,hc,hfz,hJ⟩:=hrel
  by_cases h0r:rest=[]
  ·subst h0r
   gi_wp2
   go_end0
   refine⟨⟨_,rfl⟩,pre,?_,hJ⟩
   show _=_
   rw[←hp,zhf,List.append_nil]
  have hpos:0<rest.length:=List.length_pos_iff.2 h0r
  have hgt:(rest.length:Int)>0:=by omega
  have hsz:=nA rest
  have hidx:Calls Tryz.prog 64 #[.string ⟨rest.toArray⟩,.int .u8 10] wr fun e w'=>e=.returned (.int .i64 (Lib.indexByte rest 10))∧w'=wr:=Any.strings_IndexByte Tryz.laysIdxB ⟨rest.toArray⟩ 10 wr
  by_cases hm:(10:UInt8)∈rest
  ·obtain⟨v,r,rfl,hv⟩:=List.eq_append_cons_of_mem hm
   rw[bZ r hv] at hidx
   have hl1:pre.length+v.length+r.length+1≤t.length:=by
    rw[List.length_append,List.length_cons] at hlen;omega
   have hw1:IntKind.i64.wrap ((v.length:Int)+1)=(v.length:Int)+1:=wrap_in (by omega) (by omega)
   have hs2:(v++10::r).length=v.length+(r.length+1):=by simp
   have ex1:(⟨(v++10::r).toArray⟩:ByteArray).extract 0 (v.length+1)=⟨(v++[10]).toArray⟩:=by
    rw[zl6,List.take_append,List.take_of_length_le (by omega),show v.length+1-v.length=1 by omega];rfl
   have ex2:(⟨(v++10::r).toArray⟩:ByteArray).extract (v.length+1) (v.length+(r.length+1))=⟨r.toArray⟩:=by
    rw[←hs2,zl7,List.drop_append,List.drop_eq_nil_of_le (by omega),show v.length+1-v.length=1 by omega];rfl
   obtain⟨x0,hx0⟩: ∃x:tY,x.1=v++[10]:=⟨⟨v++[10],by simp;omega⟩,rfl⟩
   obtain⟨fn,tmps,assign,body,hy,hR⟩:=hY pre x0 _ (hJd _ _ (hJs _ _ (.string ⟨r.toArray⟩) hJ)) (by omega)
   simp only[iD,hx0] at hy
   gi_wp2_with (refine⟨trivial,?_⟩;gi_at_call 64;refine(callsIn_wide.2 hidx).mono ?_;rintro e w' ⟨rfl,rfl⟩)
   gi_region_o
   all_goals try simp only[ex1,ex2]
   all_goals gi_wp2
   all_goals
    refine hR.mono ?_
    rintro e W3 ⟨rfl,hJ3,hk3⟩
    have hc3:W3.cell? ⟨bs,0,none⟩=some (.string ⟨r.toArray⟩):=by rw[uD.cell hk3];exact World.cell?_setCell_same' _ _ _ (by rw[hc];rfl)
    have hf3:W3.frozen? ⟨bs,0,none⟩=false:=by rw[uD.frozen hk3];exact(World.frozen?_setCell _ _ _ _).trans hfz
    have hm1:qY bs W3<qY bs w':=by
     unfold qY;rw[hc3,hc];show ByteArray.size _<ByteArray.size _;rw[nA,nA];omega
    gi_wp2
    go_roundw
    case rel=>exact⟨pre++[x0],r,by rw[List.map_append,List.map_cons,List.map_nil,hx0];exact zl8 hv hp,by rw[List.length_append];simp only[List.length_cons,List.length_nil];omega,hc3,hf3,hJ3⟩
    case measure=>exact hm1
  ·rw[zhU hm] at hidx
   obtain⟨x0,hx0⟩: ∃x:tY,x.1=rest:=⟨⟨rest,by omega⟩,rfl⟩
   obtain⟨fn,tmps,assign,body,hy,hR⟩:=hY pre x0 _ (hJs _ _ (.string {data:= #[]}) hJ) (by omega)
   simp only[iD,hx0] at hy
   gi_wp2_with (refine⟨trivial,?_⟩;gi_at_call 64;refine(callsIn_wide.2 hidx).mono ?_;rintro e w' ⟨rfl,rfl⟩)
   refine hR.mono ?_
   rintro e W3 ⟨rfl,hJ3,hk3⟩
   have hc3:W3.cell? ⟨bs,0,none⟩=some (.string ⟨([]:Txt).toArray⟩):=by rw[uD.cell hk3];exact World.cell?_setCell_same' _ _ _ (by rw[hc];rfl)
   have hf3:W3.frozen? ⟨bs,0,none⟩=false:=by rw[uD.frozen hk3,World.frozen?_setCell];exact hfz
   have hm1:qY bs W3<qY bs w':=by
    unfold qY;rw[hc3,hc];show ByteArray.size _<ByteArray.size _;rw[nA,nA];exact hpos
   gi_wp2
   go_roundw
   case rel=>exact⟨pre++[x0],[],by rw[List.map_append,List.map_cons,List.map_nil,hx0];exact zl9 h0r hm hp,by rw[List.length_append];simp only[List.length_cons,List.length_nil];omega,hc3,hf3,hJ3⟩
   case measure=>exact hm1
end Go.Proofs
set_option maxRecDepth 100000
set_option maxHeartbeats 4000000
namespace Go.Abs
open Go.Proofs Go.RowKit
theorem zmb (l:List Txt) (i:Nat) (hi:i<l.length) (hb:l.length≤1000000):Spec Tryz.prog 108 [lst 1 (zE l),.int .i64 i] (fun r=>r=.int .i64 (yK l i)):=by
 refine Spec.of_awlS hf108 okf108 (by simp) fun S hS=>?_
 have i0:(0:Int)≤(i:Int):=by omega
 have i1:(i:Int)<l.length:=by omega
 have i2:(i:Int)≤l.length:=by omega
 have hat:=jT hi
 have hst:(zE l).take i=zE (l.take i):=by unfold zE;rw[List.map_take]
 have htl:(l.take i).length=i:=by rw[List.length_take];omega
 have g:=zlZ (l.getD i [])
 have g2:=zlq (l.take i) (l.getD i []) (by omega)
 have hB:befG l i (l.getD i [])=(l.take i).any fun x=>x==l.getD i []:=rfl
 rw[←hB] at g2
 unfold yK at hS
 generalize l.getD i []=s at hat g g2 hS
 generalize nameG s=q at g hS
 generalize befG l i s=q2 at g2 hS
 simp only[i0,i1,hat,zK,Int.toNat_natCast,Qs,Nat.reduceAdd,Nat.reduceBEq,Q108]
 refine zC g ?_
 cases q with
 |false=>
  simp only[Qs,Q108]
  exact hS
 |true=>
  simp only[i0,i1,i2,hat,hst,htl,zK,Int.toNat_natCast,Qs,zkk,dS,dT,Nat.reduceBEq,cB,cC,Int.reduceLE,Q108]
  refine yV g2 ?_ (ha:=by simp only[List.map_cons,List.map_nil,zD,V.norm,zW,yT,C.norm];rfl)
  cases q2<;>(simp only[Qs,jK,Q108];exact hS)
def fitE (l:List Txt) (m:Int) (g:Nat→Bool):Int:=if (l.length:Int)>m then 6 else xC (fun i=>thenE (yK l i) (if g i=true then 0 else 1)) (l.length-0) 0
theorem c75 (F:FuncId) (caps:List C) (l:List Txt) (m:Int) (g:Nat→Bool) (hb:l.length≤1000000) (hn:C.normRow caps=caps)
  (hg: ∀i:Nat,i<l.length→Spec Tryz.prog F (.int .i64 i::caps.map fun c=> .k (.c c)) (fun v=>v=.bool (g i))):
  Spec Tryz.prog 75 [lst 1 (zE l),.int .i64 m,.k (.c (.fn F caps))] (fun v=>v=.int .i64 (fitE l m g)):=by
 refine Spec.of_awlS hf75 okf75 (by simp) fun S hS=>?_
 unfold fitE at hS
 by_cases h1:(l.length:Int)>m
 ·rw[if_pos h1] at hS
  simp only[h1,zK,Qs,Nat.reduceAdd,Nat.reduceBEq,Q75]
  exact hS
 rw[if_neg h1] at hS
 generalize hF:(fun i=>thenE (yK l i) (if g i=true then 0 else 1))=E at hS
 have hFi: ∀i,E i=thenE (yK l i) (if g i=true then 0 else 1):=fun i=>by rw[←hF]
 generalize htg:xC E (l.length-0) 0=tg at hS
 simp only[h1,zK,yT,Qs,Nat.reduceAdd,Nat.reduceBEq,Q75]
 rw[uu f75l25.eq_1]
 refine yY (fun i:Nat=>[(0,lst 1 (zE l)),(2,.k (.c (.fn F caps))),(14,.int .i64 l.length),(15,.int .i64 i)]) (fun _=>[]) (fun i=>i≤l.length∧xC E (l.length-i) i=tg) (fun i=>l.length-i) 0 rfl rfl ⟨Nat.zero_le _,htg⟩ ?_
 rintro i ⟨hi,hd⟩
 by_cases hlt:i<l.length
 ·have c1:(i:Int)<l.length:=by omega
  have c4:IntKind.i64.wrap ((i:Int)+1)=(i:Int)+1:=wrap_in (by omega) (by omega)
  have hFe:=hFi i
  simp only[c1,zK,Qs,Nat.reduceBEq,Q75]
  refine zC (zmb l i hlt hb) ?_ (ha:=by simp[zD,V.norm,zW,lst,yT])
  by_cases hz:yK l i=0
  ·have hb2:(yK l i !=0)=false:=by simp[hz]
   rw[hz] at hFe
   simp only[hb2,Qs,Nat.reduceBEq,Q75]
   refine cD (hg i hlt) ?_ (ha:=by
    have e: ∀cs:List C,cs.map (fun c=>V.k (.c c.norm))=(C.normRow cs).map fun c=>V.k (.c c):=fun cs=>by
     induction cs with
     |nil=>rfl
     |cons a r ih=>simp only[List.map_cons,C.normRow,ih]
    rw[e,hn];rfl)
   cases hq:g i with
   |true=>
    rw[hq] at hFe
    rw[jU hlt (by rw[hFe];rfl)] at hd
    simp only[c4,Qs,Nat.reduceBEq,Q75]
    exact Next.intro (i+1) rfl rfl ⟨by omega,hd⟩ (by omega)
   |false=>
    rw[hq] at hFe
    rw[tV hlt (by rw[hFe];decide),hFe] at hd
    simp only[Qs,Q75]
    exact fin hS (by rw[←hd];rfl)
  ·have hb2:(yK l i !=0)=true:=by simp[hz]
   have hFz:E i=yK l i:=by rw[hFe];unfold thenE;rw[if_neg hz]
   rw[tV hlt (by rw[hFz];exact hz),hFz] at hd
   simp only[hb2,Qs,Nat.reduceBEq,Q75]
   exact fin hS (by rw[←hd])
 ·obtain rfl:i=l.length:=by omega
  have c1: ¬(l.length:Int)<l.length:=by omega
  rw[Nat.sub_self,xC] at hd
  rw[←hd] at hS
  simp only[c1,Qs,Nat.reduceBEq,Q75]
  exact hS
theorem c76 (i:Int):Spec Tryz.prog 76 [.int .i64 i] (fun v=>v=.bool true):=by
 refine Spec.of_awlS hf76 okf76 (by simp) fun S hS=>?_
 simp only[Qs,Q76]
 exact hS
theorem c77 (r:Rlm) (hr:RlmIn r) (i:Nat) (hi:i<r.cities.length):Spec Tryz.prog 77 [.int .i64 i,.k (.c (.ro (zS r) 0))] (fun v=>v=.bool (vX r.orders.length r.cur.length (r.cities.getD i sJ))):=by
 refine Spec.of_awlS hf77 okf77 (by simp) fun S hS=>?_
 have hno:=xY r
 have hL:=xZ r
 have i0:(0:Int)≤(i:Int):=by omega
 have i1:(i:Int)<r.cities.length:=by omega
 have hci:r.cities.getD i sJ=r.cities[i]:=by simp[List.getD,hi]
 have gc:=c78 r r.cities[i] (hr.fe _ (List.getElem_mem hi))
 have hnc:=rN r.cities[i]
 have hat:=mK hi
 rw[hci] at hS
 rw[hL] at hno gc⊢
 unfold xL at hnc gc hat
 simp only[hno,i0,i1,hat,yE,Int.toNat_natCast,Qs,Nat.reduceAdd,Nat.reduceLeDiff,Nat.reduceBEq,Q77]
 refine yV gc ?_ (ha:=by simp only[List.map_cons,List.map_nil,zD,V.norm,hno,hnc])
 simp only[Qs]
 exact hS
theorem c80 (r:Rlm) (hr:RlmIn r) (i:Nat) (hi:i<r.firms.length):Spec Tryz.prog 80 [.int .i64 i,.k (.c (.ro (zS r) 0))] (fun v=>v=.bool (qV r.cities.length r.groups.length (r.firms.getD i qU))):=by
 refine Spec.of_awlS hf80 okf80 (by simp) fun S hS=>?_
 have hno:=xY r
 have hL:=xZ r
 have i0:(0:Int)≤(i:Int):=by omega
 have i1:(i:Int)<r.firms.length:=by omega
 have hci:r.firms.getD i qU=r.firms[i]:=by simp[List.getD,hi]
 have hat:=cJ hi
 have ga:=c79 r.firms[i].ci r.cities.length
 have gb:=c79 r.firms[i].gr r.groups.length
 rw[hci] at hS
 rw[hL] at hno⊢
 unfold tQ at hat
 unfold qV at hS
 generalize decide (0≤r.firms[i].ci∧r.firms[i].ci<(r.cities.length:Int))=b1 at hS ga
 generalize decide (0≤r.firms[i].gr∧r.firms[i].gr<(r.groups.length:Int))=b2 at hS gb
 simp only[hno,i0,i1,hat,yE,yW,Int.toNat_natCast,Qs,dJ,Nat.reduceAdd,Nat.reduceLeDiff,Nat.reduceBEq,Q80]
 refine yV ga ?_
 cases b1 with
 |false=>
  simp only[Qs,Nat.reduceBEq]
  exact hS
 |true=>
  simp only[i0,i1,hat,yW,zU,Int.toNat_natCast,Qs,dJ,Nat.reduceAdd,Nat.reduceLeDiff,Nat.reduceBEq]
  refine yV gb ?_
  simp only[Qs,Nat.reduceBEq]
  exact hS
theorem c81 (r:Rlm) (i:Nat) (hi:i<r.orders.length) (hod: ∀o∈r.orders,o.choices.length≤1000000∧o.rules.length≤1000000):Spec Tryz.prog 81 [.int .i64 i,.k (.c (.ro (zS r) 0))] (fun v=>v=.bool (sI (r.orders.getD i ordD))):=by
 refine Spec.of_awlS hf81 okf81 (by simp) fun S hS=>?_
 have hno:=xY r
 have hL:=xZ r
 have i0:(0:Int)≤(i:Int):=by omega
 have i1:(i:Int)<r.orders.length:=by omega
 have hci:r.orders.getD i ordD=r.orders[i]:=by simp[List.getD,hi]
 have hat:=jS hi
 have ho:=hod _ (List.getElem_mem hi)
 have gc:=c82 r.orders[i] ho.1 ho.2
 have hnc:=oR r.orders[i]
 rw[hci] at hS
 rw[hL] at hno⊢
 unfold wF at hat gc hnc
 simp only[hno,i0,i1,hat,xH,Int.toNat_natCast,Qs,Nat.reduceAdd,Nat.reduceLeDiff,Nat.reduceBEq,Q81]
 refine zC gc ?_ (ha:=by simp only[List.map_cons,List.map_nil,zD,V.norm,hnc])
 simp only[Qs,mG,dZ]
 exact hS
theorem aA {l:List Txt} {i:Nat} (h:i<l.length):nlApp (some true) (zE (l.take (i+1)))=some false:=by
 rw[←mQ h];cases zE (l.take i)<;>rfl
theorem ord_at (r:Rlm) {i:Nat} (hlt:i<r.orders.length):(wK r.orders).getD i []=[.str ((onm r).getD i []),.bool r.orders[i].accepts,zB 3 (r.orders[i].choices.map vF),zB 4 (r.orders[i].rules.map wX)]:=by
 rw[jS hlt,show(onm r).getD i []=r.orders[i].name by simp[onm,List.getD,hlt]];rfl
theorem c74 (r:Rlm) (hr:RlmIn r):Spec Tryz.prog 74 [.agg (zS r)] (fun v=>v=.tup [lst 1 (zE (cnm r)),lst 1 (zE (fnm r)),lst 1 (zE (onm r))]):=by
 refine Spec.of_awlP hf74 okf74 (by simp) fun S hS=>?_
 have hno:=xY r
 have hL:=xZ r
 rw[hL] at hno⊢
 have h2:=hr.ci
 have h3:=hr.fi
 have h4:=hr.or
 have n2:=rO r
 have n3:=sK r
 have n4:=cY r
 simp only[hno,yE,Qs,zcx,bne_iff_ne,ne_eq,Nat.reduceAdd,Nat.reduceEqDiff,Nat.reduceLeDiff,Nat.reduceBEq,Q74]
 rw[uu f74l43.eq_1]
 refine yY (fun i:Nat=>[(1,.k (.ptr 1 0)),(2,.k (.own 2)),(3,.k (.own 3)),(4,.k (.own 4)),(12,lst 6 (xW r.cities)),(13,.int .i64 r.cities.length),(14,.int .i64 i)])
  (fun i=>[(1,.var 31 ((zS r).map K.c)),(2,.arr 9 1 (nlApp (some true) (zE ((cnm r).take i))) (zE ((cnm r).take i))),(3,.arr 9 1 (some true) []),(4,.arr 9 1 (some true) [])]) (fun i=>i≤r.cities.length) (fun i=>r.cities.length-i) 0 rfl rfl (Nat.zero_le _) ?_
 intro i hi
 rw[hL]
 by_cases hlt:i<r.cities.length
 ·have c1:(i:Int)<r.cities.length:=by omega
  have i0:(0:Int)≤(i:Int):=by omega
  have c4:IntKind.i64.wrap ((i:Int)+1)=(i:Int)+1:=wrap_in (by omega) (by omega)
  have hat:=bD r hlt
  have hsn:zE ((cnm r).take i)++[[.str ((cnm r).getD i [])]]=zE ((cnm r).take (i+1)):=mQ (by omega)
  have htl:((cnm r).take i).length=i:=by rw[List.length_take];omega
  have hnl:=aA (l:=cnm r) (i:=i) (by omega)
  have q3:i+1≤9223372036854775807:=by omega
  have q4:(i+1)*16≤140737488355328:=by omega
  simp only[c1,i0,c4,hat,hsn,htl,q3,q4,yE,zK,Int.toNat_natCast,Qs,forall_eq,bne_iff_ne,ne_eq,List.append_nil,List.mem_cons,Nat.reduceAdd,Nat.reduceEqDiff,Nat.reduceLeDiff,Nat.reduceLT,Nat.reduceBEq,Nat.succ_ne_self,List.not_mem_nil,Q74]
  exact Next.intro (i+1) rfl (by rw[hnl];rfl) (by omega) (by omega)
 ·obtain rfl:i=r.cities.length:=by omega
  have c1: ¬(r.cities.length:Int)<r.cities.length:=by omega
  have htk:(cnm r).take r.cities.length=cnm r:=List.take_of_length_le (by omega)
  simp only[c1,htk,hno,yE,yW,Qs,Nat.reduceAdd,Nat.reduceLeDiff,Nat.reduceBEq,Q74]
  rw[uu f74l28.eq_1]
  refine yY (fun i:Nat=>[(1,.k (.ptr 1 0)),(2,.k (.own 2)),(3,.k (.own 3)),(4,.k (.own 4)),(25,lst 3 (xX r.firms)),(26,.int .i64 r.firms.length),(27,.int .i64 i)])
   (fun i=>[(1,.var 31 ((zS r).map K.c)),(2,.arr 9 1 (nlApp (some true) (zE (cnm r))) (zE (cnm r))),(3,.arr 9 1 (nlApp (some true) (zE ((fnm r).take i))) (zE ((fnm r).take i))),(4,.arr 9 1 (some true) [])]) (fun i=>i≤r.firms.length) (fun i=>r.firms.length-i) 0 rfl rfl (Nat.zero_le _) ?_
  intro i hi
  rw[hL]
  by_cases hlt:i<r.firms.length
  ·have c1:(i:Int)<r.firms.length:=by omega
   have i0:(0:Int)≤(i:Int):=by omega
   have c4:IntKind.i64.wrap ((i:Int)+1)=(i:Int)+1:=wrap_in (by omega) (by omega)
   have hat:=mR r hlt
   have hsn:zE ((fnm r).take i)++[[.str ((fnm r).getD i [])]]=zE ((fnm r).take (i+1)):=mQ (by omega)
   have htl:((fnm r).take i).length=i:=by rw[List.length_take];omega
   have hnl:=aA (l:=fnm r) (i:=i) (by omega)
   have q3:i+1≤9223372036854775807:=by omega
   have q4:(i+1)*16≤140737488355328:=by omega
   simp only[c1,i0,c4,hat,hsn,htl,q3,q4,yW,zK,Int.toNat_natCast,Qs,forall_eq,bne_iff_ne,ne_eq,List.append_nil,List.mem_cons,Nat.reduceAdd,Nat.reduceEqDiff,Nat.reduceLeDiff,Nat.reduceLT,Nat.reduceBEq,Nat.succ_ne_self,List.not_mem_nil,Q74]
   exact Next.intro (i+1) rfl (by rw[hnl];rfl) (by omega) (by omega)
  ·obtain rfl:i=r.firms.length:=by omega
   have c1: ¬(r.firms.length:Int)<r.firms.length:=by omega
   have htk:(fnm r).take r.firms.length=fnm r:=List.take_of_length_le (by omega)
   simp only[c1,htk,hno,yW,xH,Qs,Nat.reduceAdd,Nat.reduceLeDiff,Nat.reduceBEq,Q74]
   rw[uu f74l13.eq_1]
   refine yY (fun i:Nat=>[(2,.k (.own 2)),(3,.k (.own 3)),(4,.k (.own 4)),(38,lst 4 (wK r.orders)),(39,.int .i64 r.orders.length),(40,.int .i64 i)])
    (fun i=>[(2,.arr 9 1 (nlApp (some true) (zE (cnm r))) (zE (cnm r))),(3,.arr 9 1 (nlApp (some true) (zE (fnm r))) (zE (fnm r))),(4,.arr 9 1 (nlApp (some true) (zE ((onm r).take i))) (zE ((onm r).take i)))]) (fun i=>i≤r.orders.length) (fun i=>r.orders.length-i) 0 rfl rfl (Nat.zero_le _) ?_
   intro i hi
   by_cases hlt:i<r.orders.length
   ·have c1:(i:Int)<r.orders.length:=by omega
    have i0:(0:Int)≤(i:Int):=by omega
    have c4:IntKind.i64.wrap ((i:Int)+1)=(i:Int)+1:=wrap_in (by omega) (by omega)
    have hat:=ord_at r hlt
    have hsn:zE ((onm r).take i)++[[.str ((onm r).getD i [])]]=zE ((onm r).take (i+1)):=mQ (by omega)
    have htl:((onm r).take i).length=i:=by rw[List.length_take];omega
    have hnl:=aA (l:=onm r) (i:=i) (by omega)
    have q3:i+1≤9223372036854775807:=by omega
    have q4:(i+1)*16≤140737488355328:=by omega
    simp only[c1,i0,c4,hat,hsn,htl,q3,q4,xH,zK,Int.toNat_natCast,Qs,forall_eq,bne_iff_ne,ne_eq,List.append_nil,List.mem_cons,Nat.reduceAdd,Nat.reduceEqDiff,Nat.reduceLeDiff,Nat.reduceLT,Nat.reduceBEq,List.not_mem_nil,Q74]
    exact Next.intro (i+1) rfl (by rw[hnl];rfl) (by omega) (by omega)
   ·obtain rfl:i=r.orders.length:=by omega
    have c1: ¬(r.orders.length:Int)<r.orders.length:=by omega
    have htk:(onm r).take r.orders.length=onm r:=List.take_of_length_le (by omega)
    simp only[c1,htk,Qs,zeo,zfw,zfE,List.append_nil,List.mem_cons,List.nodup_cons,Nat.reduceEqDiff,Nat.reduceBEq,List.not_mem_nil,Q74]
    exact hS _ (by simp[V.fz,Abs.K.fz,V.nrm,V.nrmL,V.fzL,Abs.K.nrm,zW,lst,yT])
theorem zmc {r:V} {K:KK} {d:Nat} {ts:TS} {os:OS} (h:r.reg (regN d r)=(r,[])) (hk:K (insT d r ts) os):retK r K ts os (some d):=by
 show regK _ _ _ _ _ _
 rw[h]
 exact⟨trivial,hk⟩
theorem zmd (r:Rlm):fitE r.cur 8 (fun _=>true)=curE r:=by
 unfold fitE curE
 split
 ·rfl
 ·congr 1
  funext i
  rw[if_pos rfl];unfold thenE;split
  ·rename_i h;exact h.symm
  ·rfl
theorem zme (r:Rlm):fitE (cnm r) 40 (fun i=>vX r.orders.length r.cur.length (r.cities.getD i sJ))=ctyE r:=by
 unfold fitE ctyE;rw[rO]
theorem zmf (r:Rlm):fitE (onm r) 20 (fun i=>sI (r.orders.getD i ordD))=ordE r:=by
 unfold fitE ordE;rw[cY]
theorem zmg (r:Rlm):fitE (fnm r) 200 (fun i=>qV r.cities.length r.groups.length (r.firms.getD i qU))=(if (r.firms.length:Int)>200 then 6 else
  xC (fun i=>thenE (yK (fnm r) i) (if qV r.cities.length r.groups.length (r.firms.getD i qU)=true then 0 else 1)) (r.firms.length-0) 0):=by
 unfold fitE;rw[sK]
theorem c37 (r:Rlm) (hr:RlmIn r) (hod: ∀o∈r.orders,o.choices.length≤1000000∧o.rules.length≤1000000):Spec Tryz.prog 37 [.agg (zS r)] (fun v=>v=.int .i64 (rlmE r)):=by
 refine Spec.of_awlS hf37 okf37 (by simp) fun S hS=>?_
 have hno:=xY r
 have hno':=xY r
 have hL:=xZ r
 have g74:=c74 r hr
 have g0:=c75 76 [] r.cur 8 (fun _=>true) (by have:=hr.cu;omega) rfl (fun i _=>c76 i)
 rw[zmd] at g0
 have n2:=rO r
 have n3:=sK r
 have n4:=cY r
 have g1:=c75 77 [.ro (zS r) 0] (cnm r) 40 (fun i=>vX r.orders.length r.cur.length (r.cities.getD i sJ)) (by have:=hr.ci;omega) (by simp only[C.normRow,C.norm,hno]) (fun i hi=>c77 r hr i (by omega))
 rw[zme] at g1
 unfold rlmE at hS
 rw[hL] at hno g74 g1⊢
 simp only[hno,zK,Qs,Nat.reduceAdd,Nat.reduceBEq,Q37]
 refine sG g74 ?_ (ha:=by simp only[List.map_cons,List.map_nil,zD,V.norm,hno])
 refine zmc rfl ?_
 simp only[zK,Qs,Nat.reduceAdd,Nat.reduceLeDiff,Nat.reduceBEq,Q37]
 refine zC g0 ?_ (ha:=by simp[zD,V.norm,zW,lst,yT,C.norm])
 have g2:=c75 80 [.ro (zS r) 0] (fnm r) 200 (fun i=>qV r.cities.length r.groups.length (r.firms.getD i qU)) (by have:=hr.fi;omega) (by simp only[C.normRow,C.norm,hno']) (fun i hi=>c80 r hr i (by omega))
 have g3:=c75 81 [.ro (zS r) 0] (onm r) 20 (fun i=>sI (r.orders.getD i ordD)) (by have:=hr.or;omega) (by simp only[C.normRow,C.norm,hno']) (fun i hi=>c81 r i (by omega) hod)
 have g4:=c83 r hr
 have g5:=c84 r hr
 rw[zmf] at g3
 rw[hL] at g2 g3 g4 g5
 unfold firE at hS
 rw[←zmg] at hS
 have hgl:=hr.gr
 generalize fitE (fnm r) 200 (fun i=>qV r.cities.length r.groups.length (r.firms.getD i qU))=e2 at hS g2
 generalize ordE r=e3 at hS g3
 generalize usE r=e4 at hS g4
 generalize resE r=e5 at hS g5
 generalize ctyE r=e1 at hS g1
 generalize curE r=e0 at hS
 by_cases h0:e0=0
 case neg=>
  have hb:(e0 !=0)=true:=by simp[h0]
  rw[show thenE (thenE e0 e1) _=e0 by unfold thenE;rw[if_neg h0,if_neg h0]] at hS
  simp only[hb,Qs,Nat.reduceBEq,Q37]
  exact hS
 have hb:(e0 !=0)=false:=by simp[h0]
 rw[h0,show thenE 0 e1=e1 from rfl] at hS
 simp only[hb,zK,Qs,zcG,Nat.reduceBEq,zgL,zgM,zgN,oI,oJ,oK,oL,Q37]
 refine zC g1 ?_ (ha:=by simp only[List.map_cons,List.map_nil,zD,V.norm,xT,yT,mL,mM,cM,cN,cO,vA,C.norm,C.normRow])
 by_cases h1:e1=0
 case neg=>
  have hb:(e1 !=0)=true:=by simp[h1]
  rw[show thenE e1 _=e1 by unfold thenE;rw[if_neg h1]] at hS
  simp only[hb,Qs,Nat.reduceBEq,Q37]
  exact hS
 have hb1:(e1 !=0)=false:=by simp[h1]
 rw[h1,show∀x,thenE 0 x=x from fun x=>rfl] at hS
 by_cases l1:(r.groups.length:Int)>20
 ·rw[if_pos l1] at hS
  simp only[hb1,l1,zU,Qs,Nat.reduceAdd,Nat.reduceLeDiff,Nat.reduceBEq,Q37]
  exact hS
 rw[if_neg l1] at hS
 simp only[hb1,l1,zU,Qs,Nat.reduceAdd,Nat.reduceLeDiff,Nat.reduceBEq,Q37]
 rw[uu f37l41.eq_1]
 refine yY (fun i:Nat=>[(1,.k (.c (.ro (zS r) 0))),(4,lst 1 (zE (fnm r))),(5,lst 1 (zE (onm r))),(36,lst 1 (zN r.groups)),(37,.int .i64 r.groups.length),(38,.int .i64 i)]) (fun _=>[]) (fun i=>i≤r.groups.length∧(r.groups.take i).all grB=true) (fun i=>r.groups.length-i) 0 rfl rfl ⟨Nat.zero_le _,rfl⟩ ?_
 rintro i ⟨hi,hd⟩
 rw[hL]
 by_cases hlt:i<r.groups.length
 ·have c1:(i:Int)<r.groups.length:=by omega
  have i0:(0:Int)≤(i:Int):=by omega
  have c4:IntKind.i64.wrap ((i:Int)+1)=(i:Int)+1:=wrap_in (by omega) (by omega)
  have hat:=qS hlt
  have hbad:=cQ (f:=grB) hlt
  have hnx:=cR (f:=grB) hlt hd
  have ga:=c79 (r.groups.getD i 0) 10
  have hG:decide (0≤r.groups.getD i 0∧r.groups.getD i 0<10)=grB (r.groups.getD i 0):=decide_eq_decide.2 (by omega)
  rw[hG] at ga
  generalize r.groups.getD i 0=x at hat hbad hnx ga
  simp only[c1,i0,hat,zU,Int.toNat_natCast,Qs,List.append_nil,Nat.reduceBEq,Q37]
  refine zC ga ?_
  cases hq:grB x with
  |false=>
   rw[hbad hq,if_neg (by simp)] at hS
   simp only[Qs,Q37]
   exact hS
  |true=>
   simp only[c4,Qs,Nat.reduceBEq,Q37]
   exact Next.intro (i+1) rfl (by rfl) ⟨by omega,hnx hq⟩ (by omega)
 ·obtain rfl:i=r.groups.length:=by omega
  have c1: ¬(r.groups.length:Int)<r.groups.length:=by omega
  rw[List.take_length] at hd
  rw[hd,if_pos rfl] at hS
  simp only[c1,Qs,zcG,Nat.reduceBEq,zgL,zgM,zgN,oI,oJ,oK,oL,Q37]
  refine zC g2 ?_ (ha:=by simp only[List.map_cons,List.map_nil,zD,V.norm,xT,yT,mL,mM,cM,cN,cO,vA,C.norm,C.normRow])
  by_cases h2:e2=0
  case neg=>
   have hb:(e2 !=0)=true:=by simp[h2]
   rw[show thenE e2 _=e2 by unfold thenE;rw[if_neg h2]] at hS
   simp only[hb,Qs,Nat.reduceBEq,Q37]
   exact hS
  have hb2:(e2 !=0)=false:=by simp[h2]
  rw[h2,show∀x,thenE 0 x=x from fun x=>rfl] at hS
  simp only[hb2,Qs,zcG,Nat.reduceBEq,zgL,zgM,zgN,oI,oJ,oK,oL,Q37]
  refine zC g3 ?_ (ha:=by simp only[List.map_cons,List.map_nil,zD,V.norm,xT,yT,mL,mM,cM,cN,cO,vA,C.norm,C.normRow])
  by_cases h3:e3=0
  case neg=>
   have hb:(e3 !=0)=true:=by simp[h3]
   rw[show thenE e3 _=e3 by unfold thenE;rw[if_neg h3]] at hS
   simp only[hb,Qs,Nat.reduceBEq,Q37]
   exact hS
  have hb3:(e3 !=0)=false:=by simp[h3]
  rw[h3,show∀x,thenE 0 x=x from fun x=>rfl] at hS
  simp only[hb3,Qs,Nat.reduceAdd,Nat.reduceBEq,Q37]
  refine zC g4 ?_ (ha:=by simp only[List.map_cons,List.map_nil,zD,V.norm,hno])
  by_cases h4:e4=0
  case neg=>
   have hb:(e4 !=0)=true:=by simp[h4]
   rw[show thenE e4 _=e4 by unfold thenE;rw[if_neg h4]] at hS
   simp only[hb,Qs,Nat.reduceBEq,Q37]
   exact hS
  have hb4:(e4 !=0)=false:=by simp[h4]
  rw[h4,show∀x,thenE 0 x=x from fun x=>rfl] at hS
  simp only[hb4,Qs,Nat.reduceAdd,Nat.reduceBEq,Q37]
  refine zC g5 ?_ (ha:=by simp only[List.map_cons,List.map_nil,zD,V.norm,hno])
  simp only[Qs]
  exact hS
end Go.Abs
set_option maxRecDepth 100000
set_option maxHeartbeats 4000000
namespace Go.Abs
open Go.Proofs Go.RowKit Go.Wd
def yF (b:Bil):List C:=[.int .i64 b.dr,.int .i64 b.de,.int .i64 b.pa,.int .i64 b.su,.int .i64 b.cu,.int .i64 b.te.k,.int .i64 b.te.n,.int .i64 b.te.u,.int .i64 b.da,.int .i64 b.ci,.int .i64 b.py,.int .i64 b.ne,.int .i64 b.ra,.int .i64 b.fl,.int .i64 b.pt]
theorem zhW (b:Bil):C.normRow (yF b)=yF b:=rfl
def iE (t:Ten):List C:=[.int .i64 t.k,.int .i64 t.n,.int .i64 t.u]
instance (te:Ten) (da:Int):Decidable (wB te da):=by unfold wB;infer_instance
def tenB (b:Bil):Bool:=decide (wB b.te b.da)
theorem zmh {b:Bil} (h: ¬wB b.te b.da):tenB b=false:=decide_eq_false h
theorem zmi {b:Bil} (h:wB b.te b.da):tenB b=true:=decide_eq_true h
theorem c39 (b:Bil):Spec Tryz.prog 39 [.agg (yF b)] (fun r=>r=.bool (tenB b)):=by
 refine Spec.of_awlS hf39 okf39 (by simp) fun S hS=>?_
 obtain⟨dr,de,pa,su,cu,⟨k,n,u⟩,da,ci,py,ne,ra,fl,pt⟩:=b
 have hy:wB ⟨k,n,u⟩ da→S (.bool true):=fun h=>fin hS (by rw[zmi h])
 have hn: ¬wB ⟨k,n,u⟩ da→S (.bool false):=fun h=>fin hS (by rw[zmh h])
 clear hS
 simp only[yF]
 have bt: ∀{x y:Int},x=y→(x==y)=true:=fun h=>by simp[h]
 have bf: ∀{x y:Int},¬x=y→(x==y)=false:=fun h=>by simp[h]
 by_cases k0:k=0∨k=4
 ·by_cases n0:n=0
  ·by_cases u0:u=0
   ·rcases k0 with rfl|rfl<;>(simp only[bt n0,bt u0,Qs,bne_iff_ne,ne_eq,BEq.rfl,List.append_nil,Nat.reduceAdd,Nat.reduceEqDiff,Nat.reduceLeDiff,Nat.reduceBEq,Int.reduceBEq,Q39];exact hy (by simp[wB];omega))
   ·rcases k0 with rfl|rfl<;>(simp only[bt n0,bf u0,Qs,bne_iff_ne,ne_eq,BEq.rfl,List.append_nil,Nat.reduceAdd,Nat.reduceEqDiff,Nat.reduceLeDiff,Nat.reduceBEq,Int.reduceBEq,Q39];exact hn (by simp[wB];omega))
  ·rcases k0 with rfl|rfl<;>(simp only[bf n0,Qs,bne_iff_ne,ne_eq,BEq.rfl,List.append_nil,Nat.reduceAdd,Nat.reduceEqDiff,Nat.reduceLeDiff,Nat.reduceBEq,Int.reduceBEq,Q39];exact hn (by simp[wB];omega))
 by_cases k1:k=1∨k=2
 ·by_cases n1:n≥1
  ·by_cases n2:n≤400
   ·by_cases u0:u=0
    ·rcases k1 with rfl|rfl<;>(simp only[n1,n2,bt u0,Qs,bne_iff_ne,ne_eq,BEq.rfl,List.append_nil,Nat.reduceAdd,Nat.reduceEqDiff,Nat.reduceLeDiff,Nat.reduceBEq,Int.reduceBEq,Q39];exact hy (by simp[wB];omega))
    ·by_cases u1:u=1
     ·rcases k1 with rfl|rfl<;>(simp only[n1,n2,bf u0,bt u1,Qs,bne_iff_ne,ne_eq,BEq.rfl,List.append_nil,Nat.reduceAdd,Nat.reduceEqDiff,Nat.reduceLeDiff,Nat.reduceBEq,Int.reduceBEq,Q39];exact hy (by simp[wB];omega))
     ·rcases k1 with rfl|rfl<;>(simp only[n1,n2,bf u0,bf u1,Qs,bne_iff_ne,ne_eq,BEq.rfl,List.append_nil,Nat.reduceAdd,Nat.reduceEqDiff,Nat.reduceLeDiff,Nat.reduceBEq,Int.reduceBEq,Q39];exact hn (by simp[wB];omega))
   ·rcases k1 with rfl|rfl<;>(simp only[n1,n2,Qs,bne_iff_ne,ne_eq,BEq.rfl,List.append_nil,Nat.reduceAdd,Nat.reduceEqDiff,Nat.reduceLeDiff,Nat.reduceBEq,Int.reduceBEq,Q39];exact hn (by simp[wB];omega))
  ·rcases k1 with rfl|rfl<;>(simp only[n1,Qs,bne_iff_ne,ne_eq,BEq.rfl,List.append_nil,Nat.reduceAdd,Nat.reduceEqDiff,Nat.reduceLeDiff,Nat.reduceBEq,Int.reduceBEq,Q39];exact hn (by simp[wB];omega))
 by_cases k3:k=3
 ·subst k3
  by_cases n1:n≥da
  ·by_cases n2:n≤100000
   ·by_cases u0:u=0
    ·simp only[n1,n2,bt u0,Qs,bne_iff_ne,ne_eq,BEq.rfl,List.append_nil,Nat.reduceAdd,Nat.reduceEqDiff,Nat.reduceLeDiff,Nat.reduceBEq,Int.reduceBEq,Q39];exact hy (by simp[wB];omega)
    ·simp only[n1,n2,bf u0,Qs,bne_iff_ne,ne_eq,BEq.rfl,List.append_nil,Nat.reduceAdd,Nat.reduceEqDiff,Nat.reduceLeDiff,Nat.reduceBEq,Int.reduceBEq,Q39];exact hn (by simp[wB];omega)
   ·simp only[n1,n2,Qs,bne_iff_ne,ne_eq,BEq.rfl,List.append_nil,Nat.reduceAdd,Nat.reduceEqDiff,Nat.reduceLeDiff,Nat.reduceBEq,Int.reduceBEq,Q39];exact hn (by simp[wB];omega)
  ·simp only[n1,Qs,bne_iff_ne,ne_eq,BEq.rfl,List.append_nil,Nat.reduceAdd,Nat.reduceEqDiff,Nat.reduceLeDiff,Nat.reduceBEq,Int.reduceBEq,Q39];exact hn (by simp[wB];omega)
 have e0:(k==0)=false:=bf (by omega)
 have e1:(k==1)=false:=bf (by omega)
 have e2:(k==2)=false:=bf (by omega)
 have e3:(k==3)=false:=bf k3
 have e4:(k==4)=false:=bf (by omega)
 simp only[e0,e1,e2,e3,e4,Qs,bne_iff_ne,ne_eq,List.append_nil,Nat.reduceAdd,Nat.reduceEqDiff,Nat.reduceLeDiff,Nat.reduceBEq,Q39]
 exact hn (by simp[wB];omega)
theorem c45 (b:Bil):Spec Tryz.prog 45 [.agg (yF b)] (fun r=>r=.bool (tenB b)):=by
 refine Spec.of_awlS hf45 okf45 (by simp) fun S hS=>?_
 obtain⟨dr,de,pa,su,cu,⟨k,n,u⟩,da,ci,py,ne,ra,fl,pt⟩:=b
 have hy:wB ⟨k,n,u⟩ da→S (.bool true):=fun h=>fin hS (by rw[zmi h])
 have hn: ¬wB ⟨k,n,u⟩ da→S (.bool false):=fun h=>fin hS (by rw[zmh h])
 clear hS
 simp only[yF]
 have bt: ∀{x y:Int},x=y→(x==y)=true:=fun h=>by simp[h]
 have bf: ∀{x y:Int},¬x=y→(x==y)=false:=fun h=>by simp[h]
 by_cases k0:k=0∨k=4
 ·by_cases n0:n=0
  ·by_cases u0:u=0
   ·rcases k0 with rfl|rfl<;>(simp only[bt n0,bt u0,Qs,bne_iff_ne,ne_eq,BEq.rfl,List.append_nil,Nat.reduceAdd,Nat.reduceEqDiff,Nat.reduceLeDiff,Nat.reduceBEq,Int.reduceBEq,Q45];exact hy (by simp[wB];omega))
   ·rcases k0 with rfl|rfl<;>(simp only[bt n0,bf u0,Qs,bne_iff_ne,ne_eq,BEq.rfl,List.append_nil,Nat.reduceAdd,Nat.reduceEqDiff,Nat.reduceLeDiff,Nat.reduceBEq,Int.reduceBEq,Q45];exact hn (by simp[wB];omega))
  ·rcases k0 with rfl|rfl<;>(simp only[bf n0,Qs,bne_iff_ne,ne_eq,BEq.rfl,List.append_nil,Nat.reduceAdd,Nat.reduceEqDiff,Nat.reduceLeDiff,Nat.reduceBEq,Int.reduceBEq,Q45];exact hn (by simp[wB];omega))
 by_cases k1:k=1∨k=2
 ·by_cases n1:n≥1
  ·by_cases n2:n≤400
   ·by_cases u0:u=0
    ·rcases k1 with rfl|rfl<;>(simp only[n1,n2,bt u0,Qs,bne_iff_ne,ne_eq,BEq.rfl,List.append_nil,Nat.reduceAdd,Nat.reduceEqDiff,Nat.reduceLeDiff,Nat.reduceBEq,Int.reduceBEq,Q45];exact hy (by simp[wB];omega))
    ·by_cases u1:u=1
     ·rcases k1 with rfl|rfl<;>(simp only[n1,n2,bf u0,bt u1,Qs,bne_iff_ne,ne_eq,BEq.rfl,List.append_nil,Nat.reduceAdd,Nat.reduceEqDiff,Nat.reduceLeDiff,Nat.reduceBEq,Int.reduceBEq,Q45];exact hy (by simp[wB];omega))
     ·rcases k1 with rfl|rfl<;>(simp only[n1,n2,bf u0,bf u1,Qs,bne_iff_ne,ne_eq,BEq.rfl,List.append_nil,Nat.reduceAdd,Nat.reduceEqDiff,Nat.reduceLeDiff,Nat.reduceBEq,Int.reduceBEq,Q45];exact hn (by simp[wB];omega))
   ·rcases k1 with rfl|rfl<;>(simp only[n1,n2,Qs,bne_iff_ne,ne_eq,BEq.rfl,List.append_nil,Nat.reduceAdd,Nat.reduceEqDiff,Nat.reduceLeDiff,Nat.reduceBEq,Int.reduceBEq,Q45];exact hn (by simp[wB];omega))
  ·rcases k1 with rfl|rfl<;>(simp only[n1,Qs,bne_iff_ne,ne_eq,BEq.rfl,List.append_nil,Nat.reduceAdd,Nat.reduceEqDiff,Nat.reduceLeDiff,Nat.reduceBEq,Int.reduceBEq,Q45];exact hn (by simp[wB];omega))
 by_cases k3:k=3
 ·subst k3
  by_cases n1:n≥da
  ·by_cases n2:n≤100000
   ·by_cases u0:u=0
    ·simp only[n1,n2,bt u0,Qs,bne_iff_ne,ne_eq,BEq.rfl,List.append_nil,Nat.reduceAdd,Nat.reduceEqDiff,Nat.reduceLeDiff,Nat.reduceBEq,Int.reduceBEq,Q45];exact hy (by simp[wB];omega)
    ·simp only[n1,n2,bf u0,Qs,bne_iff_ne,ne_eq,BEq.rfl,List.append_nil,Nat.reduceAdd,Nat.reduceEqDiff,Nat.reduceLeDiff,Nat.reduceBEq,Int.reduceBEq,Q45];exact hn (by simp[wB];omega)
   ·simp only[n1,n2,Qs,bne_iff_ne,ne_eq,BEq.rfl,List.append_nil,Nat.reduceAdd,Nat.reduceEqDiff,Nat.reduceLeDiff,Nat.reduceBEq,Int.reduceBEq,Q45];exact hn (by simp[wB];omega)
  ·simp only[n1,Qs,bne_iff_ne,ne_eq,BEq.rfl,List.append_nil,Nat.reduceAdd,Nat.reduceEqDiff,Nat.reduceLeDiff,Nat.reduceBEq,Int.reduceBEq,Q45];exact hn (by simp[wB];omega)
 have e0:(k==0)=false:=bf (by omega)
 have e1:(k==1)=false:=bf (by omega)
 have e2:(k==2)=false:=bf (by omega)
 have e3:(k==3)=false:=bf k3
 have e4:(k==4)=false:=bf (by omega)
 simp only[e0,e1,e2,e3,e4,Qs,bne_iff_ne,ne_eq,List.append_nil,Nat.reduceAdd,Nat.reduceEqDiff,Nat.reduceLeDiff,Nat.reduceBEq,Q45]
 exact hn (by simp[wB];omega)
end Go.Abs
set_option maxRecDepth 100000
set_option maxHeartbeats 16000000
namespace Go.Abs
open Go.Proofs Go.RowKit Go.Lib Go.Wd
theorem qZ {c:UInt8}: ∀{s w:Txt},w∈cutC c s→w.length≤s.length
 |[],w,h=>by rw[cutC,List.mem_singleton] at h;subst h;simp
 |x::t,w,h=>by
  unfold cutC at h
  split at h
  ·rw[List.mem_cons] at h
   rcases h with rfl|h
   ·simp
   ·have:=qZ h
    simp only[List.length_cons];omega
  ·cases hq:cutC c t with
   |nil=>exact absurd hq (mJ c t)
   |cons v r=>
    rw[hq] at h
    have hv:=qZ (c:=c) (s:=t) (w:=v) (by rw[hq];simp)
    simp only[List.mem_cons] at h
    rcases h with rfl|h
    ·simp only[List.length_cons];omega
    ·have:=qZ (c:=c) (s:=t) (w:=w) (by rw[hq];simp[h])
     simp only[List.length_cons];omega
theorem zmj {l:List Txt} {i:Nat} (h:i<l.length):(zE l).getD i []=[.str (wd l i)]:=by
 simp[zE,wd,List.getD,h]
theorem c68 (l:List Txt) (i:Nat):Spec Tryz.prog 68 [lst 1 (zE l),.int .i64 (i:Int)] (fun v=>v=.str (wd l i)):=by
 refine Spec.of_awlS hf68 okf68 (by simp) fun S hS=>?_
 by_cases h:i<l.length
 ·have c1: ¬(i:Int)≥l.length:=by omega
  have c2:(i:Int)<l.length:=by omega
  have hat:=zmj h
  simp only[c1,c2,hat,zK,Qs,Nat.reduceAdd,Nat.reduceBEq,Q68]
  exact hS
 ·have c1:(i:Int)≥l.length:=by omega
  have hw:wd l i=[]:=by unfold wd;rw[List.getD_eq_getElem?_getD,List.getElem?_eq_none (by omega)];rfl
  rw[hw] at hS
  simp only[c1,zK,Qs,Nat.reduceAdd,Nat.reduceBEq,Q68]
  exact hS
theorem c69 (s:Txt) (hs:s.length≤1000000):Spec Tryz.prog 69 [.str s] (fun v=>v=.int .i64 (sH zI s)):=by
 refine Spec.of_awlS hf69 okf69 (by simp) fun S hS=>?_
 have g:=c23 s 45 (by omega)
 have hlen: ∀w∈cutC 45 s,w.length≤1000000:=fun w hw=>Nat.le_trans (qZ hw) hs
 unfold sH at hS
 simp only[Qs,Nat.reduceBEq,Q69]
 refine zkP g ?_
 generalize hq:cutC 45 s=q at hS hlen
 clear g hq
 by_cases h3:q.length=3
 ·obtain⟨a,b,c,rfl⟩: ∃a b c,q=[a,b,c]:=by
   match q,h3 with
   |[a,b,c],_=>exact⟨a,b,c,rfl⟩
  have ga:=c71 a (hlen a (by simp))
  have gb:=c71 b (hlen b (by simp))
  have gc:=c71 c (hlen c (by simp))
  have gd:=zlP (numberP a) (numberP b) (numberP c)
  have hS2:S (.int .i64 (if (dayG (numberP a) (numberP b) (numberP c)).2=0 then(dayG (numberP a) (numberP b) (numberP c)).1 else-1)):=hS
  clear hS hlen
  simp only[zE,Qs,zdW,zdX,dM,dN,dO,dP,dQ,Nat.reduceAdd,Nat.reduceBEq,Int.reduceLT,Int.reduceLE,Int.reduceBNe,Q69]
  refine yV ga ?_
  simp only[Qs,dM,dN,dO,dP,dQ,Nat.reduceAdd,Nat.reduceBEq,Int.reduceLT,Int.reduceLE,Int.reduceToNat]
  refine yV gb ?_
  simp only[Qs,dM,dN,dO,dP,dQ,Nat.reduceAdd,Nat.reduceBEq,Int.reduceLT,Int.reduceLE,Int.reduceToNat]
  refine yV gc ?_
  simp only[Qs,Nat.reduceBEq]
  refine yV gd ?_
  generalize dayG (numberP a) (numberP b) (numberP c)=e at hS2
  by_cases he:e.2=0
  ·rw[if_pos he] at hS2
   have hb:(e.2 !=0)=false:=by simp[he]
   simp only[hb,Qs,zc0,zfR,zfT,zfU,Nat.reduceBEq,Q69]
   exact hS2
  ·rw[if_neg he] at hS2
   have hb:(e.2 !=0)=true:=by simp[he]
   simp only[hb,Qs,zc0,zfR,zfT,zfU,Int.reduceNeg,Nat.reduceBEq,Q69]
   exact hS2
 ·have hS2:S (.int .i64 (-1)):=by
   match q,hS with
   |[],h=>exact h
   |[_],h=>exact h
   |[_,_],h=>exact h
   |[a,b,c],h=>exact absurd rfl h3
   |_::_::_::_::_,h=>exact h
  have hb:((q.length:Int) !=3)=true:=by simp;omega
  simp only[hb,zK,Qs,zdW,zdX,Int.reduceNeg,Q69]
  exact hS2
theorem c70 (l:List Txt) (hl: ∀w∈l,w.length≤1000000):Spec Tryz.prog 70 [lst 1 (zE l)] (fun v=>v=.agg (iE (whenP zI l))):=by
 refine Spec.of_awlS hf70 okf70 (by simp) fun S hS=>?_
 have hw: ∀i,(wd l i).length≤1000000:=fun i=>by
  by_cases h:i<l.length
  ·have:wd l i=l[i]:=by simp[wd,List.getD,h]
   rw[this];exact hl _ (List.getElem_mem h)
  ·have:wd l i=[]:=by unfold wd;rw[List.getD_eq_getElem?_getD,List.getElem?_eq_none (by omega)];rfl
   rw[this];simp
 have g1:Spec _ _ [_,.int .i64 1] _:=c68 l 1
 have g2:Spec _ _ [_,.int .i64 2] _:=c68 l 2
 have g3:Spec _ _ [_,.int .i64 3] _:=c68 l 3
 have g4:Spec _ _ [_,.int .i64 4] _:=c68 l 4
 have gd:=c69 (wd l 2) (hw 2)
 have gn:=c71 (wd l 1) (hw 1)
 unfold whenP iE at hS
 generalize wd l 1=w1 at g1 gn hS
 generalize wd l 2=w2 at g2 gd hS
 generalize wd l 3=w3 at g3 hS
 generalize wd l 4=w4 at g4 hS
 have hno:=yT l
 simp only[Qs,bne_iff_ne,ne_eq,List.append_nil,Nat.reduceAdd,Nat.reduceEqDiff,Nat.reduceLeDiff,Nat.reduceBEq,Q70]
 refine zC g1 ?_ (ha:=by simp[zD,V.norm,zW,lst,hno])
 simp only[Qs,Nat.reduceBEq,Q70]
 refine⟨fun h=>?_,fun h=>?_⟩
 ·rw[if_pos h] at hS
  refine zC g2 ?_ (ha:=by simp[zD,V.norm,zW,lst,hno])
  simp only[Qs]
  refine zC gd ?_
  simp only[Qs,List.append_nil,Nat.reduceAdd,Nat.reduceLeDiff,Nat.reduceLT,Nat.reduceBEq,Q70]
  exact hS
 rw[if_neg h] at hS
 refine zC g2 ?_ (ha:=by simp[zD,V.norm,zW,lst,hno])
 simp only[Qs,List.append_nil,Nat.reduceAdd,Nat.reduceLeDiff,Nat.reduceLT,Nat.reduceBEq,Q70]
 refine⟨fun h=>?_,fun h=>?_⟩
 ·rw[if_pos h] at hS
  exact hS
 rw[if_neg h] at hS
 refine zC g3 ?_ (ha:=by simp[zD,V.norm,zW,lst,hno])
 simp only[Qs,List.append_nil,Nat.reduceAdd,Nat.reduceLT,Nat.reduceBEq,Q70]
 refine⟨fun h=>?_,fun h=>?_⟩
 ·rw[if_pos h] at hS
  refine zC g1 ?_ (ha:=by simp[zD,V.norm,zW,lst,hno])
  simp only[Qs]
  refine zC gn ?_
  simp only[Qs,List.append_nil,Nat.reduceAdd,Nat.reduceLeDiff,Nat.reduceBEq,Q70]
  refine zC g2 ?_ (ha:=by simp[zD,V.norm,zW,lst,hno])
  simp only[Qs,List.append_nil,Nat.reduceAdd,Nat.reduceBEq,Q70]
  refine⟨fun hm=>?_,fun hm=>?_⟩
  ·rw[if_pos hm] at hS
   refine zC g4 ?_ (ha:=by simp[zD,V.norm,zW,lst,hno])
   simp only[Qs,List.append_nil,Nat.reduceAdd,Nat.reduceLeDiff,Nat.reduceLT,Nat.reduceBEq,Q70]
   refine⟨fun hd=>?_,fun hd=>?_⟩
   ·rw[if_pos hd] at hS
    exact hS
   ·rw[if_neg hd] at hS
    exact hS
  ·rw[if_neg hm] at hS
   refine zC g4 ?_ (ha:=by simp[zD,V.norm,zW,lst,hno])
   simp only[Qs,List.append_nil,Nat.reduceAdd,Nat.reduceLeDiff,Nat.reduceLT,Nat.reduceBEq,Q70]
   refine⟨fun hd=>?_,fun hd=>?_⟩
   ·rw[if_pos hd] at hS
    exact hS
   ·rw[if_neg hd] at hS
    exact hS
 ·rw[if_neg h] at hS
  exact hS
end Go.Abs
