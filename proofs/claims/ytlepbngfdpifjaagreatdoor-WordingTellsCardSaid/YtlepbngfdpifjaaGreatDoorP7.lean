/- A part of the proof; the last text states what is proved. -/
import Derived.Test.YtlepbngfdpifjaaGreatDoorP6
import Derived.Lib.AppendStr
import Derived.Shelf.RegionOpen
import Derived.RangeFuncNested
import Derived.RangeFuncBound
import Derived.RangeFuncCalls
import Derived.RangeFuncFrom
import Derived.Maps.AppendAt
import Derived.Laws.Rows
import Derived.Laws.Tables
set_option linter.unusedVariables false
set_option linter.unusedSimpArgs false
set_option maxRecDepth 100000
set_option maxHeartbeats 8000000
namespace Go.Abs
open Go.Proofs Go.RowKit Go.Wd
def noneB (i n:Int):Bool:=(i== -1)||inB i n
def argB (r:Rlm) (b:Bil):Bool:=inB b.dr r.firms.length&&(inB b.de r.firms.length&&(noneB b.pa r.firms.length&&(noneB b.ne r.firms.length&&(inB b.cu r.cur.length&&(inB b.ci r.cities.length&&inB b.py r.cities.length)))))
def rngB (b:Bil):Bool:=decide (1≤b.su∧b.su≤1099511627776∧0≤b.da∧b.da≤100000∧0≤b.ra∧b.ra≤1000)
def prtB (b:Bil):Bool:=decide (1≤b.pt∧b.pt≤4)
def frmB (b:Bil):Bool:=decide (0≤b.fl∧b.fl≤7)&&(!(bit 4 b.fl&&(b.pa== -1))&&tenB b)
def lstE (r:Rlm) (b:Bil):Int:=if b.te.k=4 then(uE r.usances b.ci b.py).2 else 0
def chkE (r:Rlm) (b:Bil):Int:=thenE (rlmE r) (if argB r b=true then(if rngB b=true then(if prtB b=true then(if frmB b=true then lstE r b else 2) else 15) else 3) else 1)
theorem nb1 {x:Int} {q:Bool} (h: ¬x= -1):(q&&(x== -1))=false:=by rw[show(x== -1)=false by simpa using h,Bool.and_false]
theorem nb2 {x q:Bool} (h:q=false):(q&&x)=false:=by rw[h];rfl
theorem zoL (i n:Int):decide (i= -1∨(0≤i∧i<n))=noneB i n:=by
 unfold noneB inB
 by_cases h:i= -1
 ·simp[h]
 ·have hb:(i== -1)=false:=by simpa using h
  rw[hb,Bool.false_or]
  exact decide_eq_decide.2 ⟨fun x=>x.resolve_left h,.inr⟩
theorem aB {fl:Int} (h0:0≤fl) (h:fl≤7) (k:Int) (hk:k=1∨k=2∨k=4):IntKind.i64.wrap ↑(BitVec.ofInt IntKind.i64.bits fl&&&BitVec.ofInt IntKind.i64.bits k).toNat=0 ↔ bit k fl=false:=by
 have:fl=0∨fl=1∨fl=2∨fl=3∨fl=4∨fl=5∨fl=6∨fl=7:=by omega
 rcases hk with rfl|rfl|rfl<;>rcases this with rfl|rfl|rfl|rfl|rfl|rfl|rfl|rfl<;>decide
theorem c12 (r:Rlm) (hr:RlmIn r) (hod: ∀o∈r.orders,o.choices.length≤1000000∧o.rules.length≤1000000) (b:Bil):Spec Tryz.prog 12 [.agg (zS r),.agg (yF b)] (fun v=>v=.int .i64 (chkE r b)):=by
 refine Spec.of_awlS hf12 okf12 (by simp) fun S hS=>?_
 have hno:=xY r
 have hL:=xZ r
 have gR:=c37 r hr hod
 have gU:=c40 r hr b.ci b.py
 have gT:=c39 b
 have hfi:=hr.fi
 have hci:=hr.ci
 have hcu:=hr.cu
 have g1:Spec _ _ _ (fun v=>v=.bool (inB b.dr r.firms.length)):=c38 b.dr r.firms.length
 have g2:Spec _ _ _ (fun v=>v=.bool (inB b.de r.firms.length)):=c38 b.de r.firms.length
 have g3:Spec _ _ _ (fun v=>v=.bool (inB b.pa r.firms.length)):=c38 b.pa r.firms.length
 have g4:Spec _ _ _ (fun v=>v=.bool (inB b.ne r.firms.length)):=c38 b.ne r.firms.length
 have g5:Spec _ _ _ (fun v=>v=.bool (inB b.cu r.cur.length)):=c38 b.cu r.cur.length
 have g6:Spec _ _ _ (fun v=>v=.bool (inB b.ci r.cities.length)):=c38 b.ci r.cities.length
 have g7:Spec _ _ _ (fun v=>v=.bool (inB b.py r.cities.length)):=c38 b.py r.cities.length
 have k0:rlmE r≠0→S (.int .i64 (rlmE r)):=fun h=>fin hS (by unfold chkE thenE;rw[if_neg h])
 have k1:rlmE r=0→argB r b=false→S (.int .i64 1):=fun h h1=>fin hS (by unfold chkE thenE;rw[if_pos h,h1];rfl)
 have k2:rlmE r=0→argB r b=true→rngB b=false→S (.int .i64 3):=fun h h1 h2=>fin hS (by unfold chkE thenE;rw[if_pos h,h1,h2];rfl)
 have k3:rlmE r=0→argB r b=true→rngB b=true→prtB b=false→S (.int .i64 15):=fun h h1 h2 h3=>fin hS (by unfold chkE thenE;rw[if_pos h,h1,h2,h3];rfl)
 have k4:rlmE r=0→argB r b=true→rngB b=true→prtB b=true→frmB b=false→S (.int .i64 2):=fun h h1 h2 h3 h4=>fin hS (by unfold chkE thenE;rw[if_pos h,h1,h2,h3,h4];rfl)
 have k5:rlmE r=0→argB r b=true→rngB b=true→prtB b=true→frmB b=true→S (.int .i64 (lstE r b)):=fun h h1 h2 h3 h4=>fin hS (by unfold chkE thenE;rw[if_pos h,h1,h2,h3,h4];rfl)
 clear hS
 have hA:argB r b=(inB b.dr r.firms.length&&(inB b.de r.firms.length&&(noneB b.pa r.firms.length&&(noneB b.ne r.firms.length&&(inB b.cu r.cur.length&&(inB b.ci r.cities.length&&inB b.py r.cities.length)))))):=rfl
 have hF:frmB b=(decide (0≤b.fl∧b.fl≤7)&&(!(bit 4 b.fl&&(b.pa== -1))&&tenB b)):=rfl
 have hl4:lstE r b=if b.te.k=4 then(uE r.usances b.ci b.py).2 else 0:=rfl
 generalize lstE r b=le at k5 hl4
 generalize (uE r.usances b.ci b.py).1=u1 at gU
 generalize (uE r.usances b.ci b.py).2=u2 at gU hl4
 have hR:rngB b=decide (1≤b.su∧b.su≤1099511627776∧0≤b.da∧b.da≤100000∧0≤b.ra∧b.ra≤1000):=rfl
 have hP:prtB b=decide (1≤b.pt∧b.pt≤4):=rfl
 generalize argB r b=qa at k1 k2 k3 k4 k5 hA
 generalize rngB b=qr at k2 k3 k4 k5 hR
 generalize prtB b=qp at k3 k4 k5 hP
 generalize frmB b=qf at k4 k5 hF
 generalize tenB b=qt at gT hF
 generalize inB b.dr r.firms.length=a1 at g1 hA
 generalize inB b.de r.firms.length=a2 at g2 hA
 generalize inB b.cu r.cur.length=a5 at g5 hA
 generalize inB b.ci r.cities.length=a6 at g6 hA
 generalize inB b.py r.cities.length=a7 at g7 hA
 have h3y:b.pa= -1→noneB b.pa r.firms.length=true:=fun h=>by unfold noneB;simp[h]
 have h3n: ¬b.pa= -1→noneB b.pa r.firms.length=inB b.pa r.firms.length:=fun h=>by unfold noneB;simp[h]
 have h4y:b.ne= -1→noneB b.ne r.firms.length=true:=fun h=>by unfold noneB;simp[h]
 have h4n: ¬b.ne= -1→noneB b.ne r.firms.length=inB b.ne r.firms.length:=fun h=>by unfold noneB;simp[h]
 generalize noneB b.pa r.firms.length=n3 at hA h3y h3n
 generalize noneB b.ne r.firms.length=n4 at hA h4y h4n
 generalize inB b.pa r.firms.length=a3 at g3 h3n
 generalize inB b.ne r.firms.length=a4 at g4 h4n
 have hB:yF b=[.int .i64 b.dr,.int .i64 b.de,.int .i64 b.pa,.int .i64 b.su,.int .i64 b.cu,.int .i64 b.te.k,.int .i64 b.te.n,.int .i64 b.te.u,.int .i64 b.da,.int .i64 b.ci,.int .i64 b.py,.int .i64 b.ne,.int .i64 b.ra,.int .i64 b.fl,.int .i64 b.pt]:=rfl
 rw[hB] at gT⊢
 rw[hL] at hno gR gU⊢
 generalize rlmE r=e0 at k0 k1 k2 k3 k4 k5 gR
 simp only[hno,Qs,bne_iff_ne,ne_eq,Nat.reduceAdd,Nat.reduceEqDiff,Nat.reduceBEq,Q12]
 refine zC gR ?_ (ha:=by simp only[List.map_cons,List.map_nil,zD,V.norm,hno])
 by_cases z:e0=0
 case neg=>
  have hb:(e0 !=0)=true:=by simp[z]
  simp only[hb,Qs,Nat.reduceBEq,Q12]
  exact k0 z
 have hb:(e0 !=0)=false:=by simp[z]
 have k1:=k1 z
 have k2:=k2 z
 have k3:=k3 z
 have k4:=k4 z
 have k5:=k5 z
 simp only[hb,yW,yE,zK,Qs,dJ,Int.reduceNeg,Nat.reduceAdd,Nat.reduceLeDiff,Nat.reduceBEq,Q12]
 refine zC g1 ?_
 cases a1 with
 |false=>simp only[Qs,Int.reduceNeg,Nat.reduceBEq,Q12];exact k1 hA
 |true=>
 simp only[yW,yE,zK,Qs,Int.reduceNeg,Nat.reduceAdd,Nat.reduceLeDiff,Nat.reduceBEq]
 refine zC g2 ?_
 cases a2 with
 |false=>simp only[Qs,Int.reduceNeg,Nat.reduceBEq,Q12];exact k1 hA
 |true=>
 simp only[yW,yE,zK,Qs,Int.reduceNeg,Nat.reduceAdd,Nat.reduceLeDiff,Nat.reduceBEq,Q12]
 refine⟨fun p1=>?_,fun p1=>?_⟩
 all_goals first
  |rw[h3y p1] at hA
  |(rw[h3n p1] at hA
    refine zC g3 ?_
    cases a3
    ·simp only[Qs,Int.reduceNeg,Nat.reduceBEq,Q12];exact k1 hA
    simp only[yW,yE,zK,Qs,Int.reduceNeg,Nat.reduceAdd,Nat.reduceLeDiff,Nat.reduceBEq,Q12])
 all_goals refine⟨fun p2=>?_,fun p2=>?_⟩
 all_goals first
  |rw[h4y p2] at hA
  |(rw[h4n p2] at hA
    refine zC g4 ?_
    cases a4
    ·simp only[Qs,Int.reduceNeg,Nat.reduceBEq,Q12];exact k1 hA
    simp only[yW,yE,zK,Qs,Int.reduceNeg,Nat.reduceAdd,Nat.reduceLeDiff,Nat.reduceBEq,Q12])
 all_goals
  refine zC g5 ?_
  cases a5
  ·simp only[Qs,Int.reduceNeg,Nat.reduceBEq,Q12];exact k1 hA
  simp only[yW,yE,zK,Qs,Int.reduceNeg,Nat.reduceAdd,Nat.reduceLeDiff,Nat.reduceBEq]
  refine zC g6 ?_
  cases a6
  ·simp only[Qs,Int.reduceNeg,Nat.reduceBEq,Q12];exact k1 hA
  simp only[yW,yE,zK,Qs,Int.reduceNeg,Nat.reduceAdd,Nat.reduceLeDiff,Nat.reduceBEq]
  refine zC g7 ?_
  cases a7
  ·simp only[Qs,Int.reduceNeg,Nat.reduceBEq,Q12];exact k1 hA
  have hA:qa=true:=hA
  simp only[yW,yE,zK,Qs,Int.reduceNeg,Nat.reduceAdd,Nat.reduceLeDiff,Nat.reduceBEq,zbV,zbX,Q12]
  refine⟨fun h=>k2 hA (by rw[hR];exact decide_eq_false (by omega)),fun s1=>⟨fun h=>k2 hA (by rw[hR];exact decide_eq_false (by omega)),fun s2=>?_⟩⟩
  refine⟨fun h=>k2 hA (by rw[hR];exact decide_eq_false (by omega)),fun s3=>⟨fun h=>k2 hA (by rw[hR];exact decide_eq_false (by omega)),fun s4=>⟨fun h=>k2 hA (by rw[hR];exact decide_eq_false (by omega)),fun s5=>⟨fun h=>k2 hA (by rw[hR];exact decide_eq_false (by omega)),fun s6=>?_⟩⟩⟩⟩
  have hR:qr=true:=by rw[hR];exact decide_eq_true (by omega)
  refine⟨fun h=>k3 hA hR (by rw[hP];exact decide_eq_false (by omega)),fun t1=>⟨fun h=>k3 hA hR (by rw[hP];exact decide_eq_false (by omega)),fun t2=>?_⟩⟩
  have hP:qp=true:=by rw[hP];exact decide_eq_true (by omega)
  refine⟨fun h=>k4 hA hR hP (by rw[hF,decide_eq_false (by omega)];rfl),fun f1=>⟨fun h=>k4 hA hR hP (by rw[hF,decide_eq_false (by omega)];rfl),fun f2=>?_⟩⟩
  rw[decide_eq_true (show 0≤b.fl∧b.fl≤7 by omega),Bool.true_and] at hF
  have hbit:=aB (fl:=b.fl) (by omega) (by omega) 4 (by simp)
  refine⟨fun a=>⟨fun p=>k4 hA hR hP (by rw[hF,(Bool.not_eq_false _).mp (fun e=>a (hbit.2 e)),show(b.pa== -1)=true by simp[p]];rfl),fun p=>?_⟩,fun a=>?_⟩
  all_goals have hnb:(bit 4 b.fl&&(b.pa== -1))=false:=by first|exact nb1 p|exact nb2 (hbit.1 (Classical.not_not.1 a))|exact nb2 (hbit.1 a)
  all_goals
   refine zC gT ?_ (ha:=by simp only[List.map_cons,List.map_nil,zD,V.norm,C.normRow,C.norm])
   cases qt
   ·simp only[Qs,Int.reduceNeg,Nat.reduceBEq,Q12];exact k4 hA hR hP (by rw[hF,hnb];rfl)
   have k5:=k5 hA hR hP (by rw[hF,hnb];rfl)
   simp only[Qs,Int.reduceNeg,Nat.reduceAdd,Nat.reduceLeDiff,Nat.reduceBEq,Q12]
   refine⟨fun e=>?_,fun e=>?_⟩
   ·rw[if_pos e] at hl4
    rw[hl4] at k5
    refine zC gU ?_ (ha:=by simp only[List.map_cons,List.map_nil,zD,V.norm,hno,C.norm])
    simp only[Qs,Int.reduceNeg,Nat.reduceBEq,Q12]
    exact k5
   ·rw[if_neg e] at hl4
    rw[hl4] at k5
    exact k5
end Go.Abs
set_option maxRecDepth 100000
set_option maxHeartbeats 8000000
namespace Go.Abs
open Go.Proofs Go.RowKit Go.Wd
theorem c13 (r:Rlm) (hr:RlmIn r) (b:Bil):Spec Tryz.prog 13 [.agg (zS r),.agg (yF b)] (fun v=>v=.int .i64 (chkE r b)):=by
 refine Spec.of_awlS hf13 okf13 (by simp) fun S hS=>?_
 have hno:=xY r
 have hL:=xZ r
 have gR:=c41 r hr
 have gU:=c46 r hr b.ci b.py
 have gT:=c45 b
 have hfi:=hr.fi
 have hci:=hr.ci
 have hcu:=hr.cu
 have g1:Spec _ _ _ (fun v=>v=.bool (inB b.dr r.firms.length)):=c42 b.dr r.firms.length
 have g2:Spec _ _ _ (fun v=>v=.bool (inB b.de r.firms.length)):=c42 b.de r.firms.length
 have g3:=c43 b.pa r.firms.length
 have g4:=c43 b.ne r.firms.length
 rw[zoL] at g3 g4
 have gD:=c44 b.da
 have g5:Spec _ _ _ (fun v=>v=.bool (inB b.cu r.cur.length)):=c42 b.cu r.cur.length
 have g6:Spec _ _ _ (fun v=>v=.bool (inB b.ci r.cities.length)):=c42 b.ci r.cities.length
 have g7:Spec _ _ _ (fun v=>v=.bool (inB b.py r.cities.length)):=c42 b.py r.cities.length
 have k0:rlmE r≠0→S (.int .i64 (rlmE r)):=fun h=>fin hS (by unfold chkE thenE;rw[if_neg h])
 have k1:rlmE r=0→argB r b=false→S (.int .i64 1):=fun h h1=>fin hS (by unfold chkE thenE;rw[if_pos h,h1];rfl)
 have k2:rlmE r=0→argB r b=true→rngB b=false→S (.int .i64 3):=fun h h1 h2=>fin hS (by unfold chkE thenE;rw[if_pos h,h1,h2];rfl)
 have k3:rlmE r=0→argB r b=true→rngB b=true→prtB b=false→S (.int .i64 15):=fun h h1 h2 h3=>fin hS (by unfold chkE thenE;rw[if_pos h,h1,h2,h3];rfl)
 have k4:rlmE r=0→argB r b=true→rngB b=true→prtB b=true→frmB b=false→S (.int .i64 2):=fun h h1 h2 h3 h4=>fin hS (by unfold chkE thenE;rw[if_pos h,h1,h2,h3,h4];rfl)
 have k5:rlmE r=0→argB r b=true→rngB b=true→prtB b=true→frmB b=true→S (.int .i64 (lstE r b)):=fun h h1 h2 h3 h4=>fin hS (by unfold chkE thenE;rw[if_pos h,h1,h2,h3,h4];rfl)
 clear hS
 have hA:argB r b=(inB b.dr r.firms.length&&(inB b.de r.firms.length&&(noneB b.pa r.firms.length&&(noneB b.ne r.firms.length&&(inB b.cu r.cur.length&&(inB b.ci r.cities.length&&inB b.py r.cities.length)))))):=rfl
 have hF:frmB b=(decide (0≤b.fl∧b.fl≤7)&&(!(bit 4 b.fl&&(b.pa== -1))&&tenB b)):=rfl
 have hl4:lstE r b=if b.te.k=4 then(uE r.usances b.ci b.py).2 else 0:=rfl
 generalize lstE r b=le at k5 hl4
 generalize (uE r.usances b.ci b.py).1=u1 at gU
 generalize (uE r.usances b.ci b.py).2=u2 at gU hl4
 have hR:rngB b=decide (1≤b.su∧b.su≤1099511627776∧0≤b.da∧b.da≤100000∧0≤b.ra∧b.ra≤1000):=rfl
 have hP:prtB b=decide (1≤b.pt∧b.pt≤4):=rfl
 generalize argB r b=qa at k1 k2 k3 k4 k5 hA
 generalize rngB b=qr at k2 k3 k4 k5 hR
 generalize prtB b=qp at k3 k4 k5 hP
 generalize frmB b=qf at k4 k5 hF
 generalize tenB b=qt at gT hF
 generalize inB b.dr r.firms.length=a1 at g1 hA
 generalize inB b.de r.firms.length=a2 at g2 hA
 generalize inB b.cu r.cur.length=a5 at g5 hA
 generalize inB b.ci r.cities.length=a6 at g6 hA
 generalize inB b.py r.cities.length=a7 at g7 hA
 generalize noneB b.pa r.firms.length=a3 at g3 hA
 generalize noneB b.ne r.firms.length=a4 at g4 hA
 have hB:yF b=[.int .i64 b.dr,.int .i64 b.de,.int .i64 b.pa,.int .i64 b.su,.int .i64 b.cu,.int .i64 b.te.k,.int .i64 b.te.n,.int .i64 b.te.u,.int .i64 b.da,.int .i64 b.ci,.int .i64 b.py,.int .i64 b.ne,.int .i64 b.ra,.int .i64 b.fl,.int .i64 b.pt]:=rfl
 rw[hB] at gT⊢
 rw[hL] at hno gR gU⊢
 generalize rlmE r=e0 at k0 k1 k2 k3 k4 k5 gR
 simp only[hno,Qs,bne_iff_ne,ne_eq,Nat.reduceAdd,Nat.reduceEqDiff,Nat.reduceBEq,Q13]
 refine zC gR ?_ (ha:=by simp only[List.map_cons,List.map_nil,zD,V.norm,hno])
 by_cases z:e0=0
 case neg=>
  have hb:(e0 !=0)=true:=by simp[z]
  simp only[hb,Qs,Nat.reduceBEq,Q13]
  exact k0 z
 have hb:(e0 !=0)=false:=by simp[z]
 have k1:=k1 z
 have k2:=k2 z
 have k3:=k3 z
 have k4:=k4 z
 have k5:=k5 z
 simp only[hb,yW,yE,zK,Qs,Nat.reduceAdd,Nat.reduceLeDiff,Nat.reduceBEq,Q13]
 refine zC g1 ?_
 cases a1 with
 |false=>simp only[Qs,Nat.reduceBEq,Q13];exact k1 hA
 |true=>
 simp only[yW,yE,zK,Qs,Nat.reduceAdd,Nat.reduceLeDiff,Nat.reduceBEq]
 refine zC g2 ?_
 cases a2 with
 |false=>simp only[Qs,Nat.reduceBEq,Q13];exact k1 hA
 |true=>
 simp only[yW,yE,zK,Qs,Nat.reduceAdd,Nat.reduceLeDiff,Nat.reduceBEq]
 refine zC g3 ?_
 cases a3 with
 |false=>simp only[Qs,Nat.reduceBEq,Q13];exact k1 hA
 |true=>
 simp only[yW,yE,zK,Qs,Nat.reduceAdd,Nat.reduceLeDiff,Nat.reduceBEq]
 refine zC g4 ?_
 cases a4 with
 |false=>simp only[Qs,Nat.reduceBEq,Q13];exact k1 hA
 |true=>
 simp only[yW,yE,zK,Qs,Nat.reduceAdd,Nat.reduceLeDiff,Nat.reduceBEq]
 refine zC g5 ?_
 cases a5
 ·simp only[Qs,Nat.reduceBEq,Q13];exact k1 hA
 simp only[yW,yE,zK,Qs,Nat.reduceAdd,Nat.reduceLeDiff,Nat.reduceBEq]
 refine zC g6 ?_
 cases a6
 ·simp only[Qs,Nat.reduceBEq,Q13];exact k1 hA
 simp only[yW,yE,zK,Qs,Nat.reduceAdd,Nat.reduceLeDiff,Nat.reduceBEq]
 refine zC g7 ?_
 cases a7
 ·simp only[Qs,Nat.reduceBEq,Q13];exact k1 hA
 have hA:qa=true:=hA
 simp only[yW,yE,zK,Qs,Nat.reduceAdd,Nat.reduceLeDiff,Nat.reduceBEq,zbV,Q13]
 refine⟨fun h=>k2 hA (by rw[hR];exact decide_eq_false (by omega)),fun s1=>⟨fun h=>k2 hA (by rw[hR];exact decide_eq_false (by omega)),fun s2=>?_⟩⟩
 refine zC gD ?_
 by_cases hd:0≤b.da∧b.da≤100000
 case neg=>
  rw[decide_eq_false hd]
  simp only[Qs,Nat.reduceBEq,Q13]
  exact k2 hA (by rw[hR];exact decide_eq_false (by omega))
 rw[decide_eq_true hd]
 simp only[Qs,Int.reduceNeg,Nat.reduceAdd,Nat.reduceLeDiff,Nat.reduceBEq,zbV,zbX,Q13]
 refine⟨fun h=>k2 hA (by rw[hR];exact decide_eq_false (by omega)),fun s5=>⟨fun h=>k2 hA (by rw[hR];exact decide_eq_false (by omega)),fun s6=>?_⟩⟩
 have hR:qr=true:=by rw[hR];exact decide_eq_true (by omega)
 refine⟨fun h=>k3 hA hR (by rw[hP];exact decide_eq_false (by omega)),fun t1=>⟨fun h=>k3 hA hR (by rw[hP];exact decide_eq_false (by omega)),fun t2=>?_⟩⟩
 have hP:qp=true:=by rw[hP];exact decide_eq_true (by omega)
 refine⟨fun h=>k4 hA hR hP (by rw[hF,decide_eq_false (by omega)];rfl),fun f1=>⟨fun h=>k4 hA hR hP (by rw[hF,decide_eq_false (by omega)];rfl),fun f2=>?_⟩⟩
 rw[decide_eq_true (show 0≤b.fl∧b.fl≤7 by omega),Bool.true_and] at hF
 have hbit:=aB (fl:=b.fl) (by omega) (by omega) 4 (by simp)
 refine⟨fun p=>⟨fun a=>k4 hA hR hP (by rw[hF,(Bool.not_eq_false _).mp (fun e=>a (hbit.2 e)),show(b.pa== -1)=true by simp[p]];rfl),fun a=>?_⟩,fun p=>?_⟩
 all_goals have hnb:(bit 4 b.fl&&(b.pa== -1))=false:=by first|exact nb1 p|exact nb2 (hbit.1 (Classical.not_not.1 a))|exact nb2 (hbit.1 a)
 all_goals
  refine zC gT ?_ (ha:=by simp only[List.map_cons,List.map_nil,zD,V.norm,C.normRow,C.norm])
  cases qt
  ·simp only[Qs,Int.reduceNeg,Nat.reduceBEq,Q13];exact k4 hA hR hP (by rw[hF,hnb];rfl)
  have k5:=k5 hA hR hP (by rw[hF,hnb];rfl)
  simp only[Qs,Int.reduceNeg,Nat.reduceAdd,Nat.reduceLeDiff,Nat.reduceBEq,zbX,Q13]
  refine And.symm ⟨fun e=>?_,fun e=>?_⟩
  ·rw[if_pos e] at hl4
   rw[hl4] at k5
   refine zC gU ?_ (ha:=by simp only[List.map_cons,List.map_nil,zD,V.norm,hno,C.norm])
   simp only[Qs,Int.reduceNeg,Nat.reduceBEq,Q13]
   exact k5
  ·rw[if_neg e] at hl4
   rw[hl4] at k5
   exact k5
end Go.Abs
set_option maxRecDepth 100000
set_option maxHeartbeats 4000000
namespace Go.Abs
open Go.Proofs Go.RowKit Go.Wd
theorem pA {n:Int} (h:0≤n):Go.Lib.itoa n=dec n:=cI h
theorem zhX {d:Int} (h0:0≤d) (h1:d≤100000):(0≤(yZ d).1∧(yZ d).1≤2300)∧(1≤(yZ d).2.1∧(yZ d).2.1≤12)∧(1≤(yZ d).2.2∧(yZ d).2.2≤31):=by
 rw[zhM h0]
 obtain⟨a,b,c,e,f⟩:=qX (d:=d.toNat) (by omega)
 have g:=bP (d:=d.toNat) (by omega)
 have hl:=oX (dtN d.toNat).y (dtN d.toNat).m
 simp only[dtI,Int.ofNat_eq_natCast]
 omega
theorem iF {d:Int} (h0:0≤d) (h1:d≤100000):(wG zI d).length≤41:=by
 obtain⟨a1,a2,a3⟩:=zhX h0 h1
 have hd:wG zI d=dec (yZ d).1++45::(dec (yZ d).2.1++45::dec (yZ d).2.2):=rfl
 have ly:(dec (yZ d).1).length≤13:=Go.Wire.dec_len 12 _ (by omega)
 have lm:(dec (yZ d).2.1).length≤13:=Go.Wire.dec_len 12 _ (by omega)
 have le:(dec (yZ d).2.2).length≤13:=Go.Wire.dec_len 12 _ (by omega)
 rw[hd]
 simp only[List.length_append,List.length_cons];omega
theorem c52 (d:Int) (h0:0≤d) (h1:d≤100000):Spec Tryz.prog 52 [.int .i64 d] (fun v=>v=.str (wG zI d)):=by
 refine Spec.of_awlS hf52 okf52 (by simp) fun S hS=>?_
 have hd:wG zI d=dec (yZ d).1++45::(dec (yZ d).2.1++45::dec (yZ d).2.2):=rfl
 rw[hd] at hS
 have g:=c93 d
 rw[if_pos ⟨h0,h1⟩] at g
 obtain⟨a1,a2,a3⟩:=zhX h0 h1
 generalize (yZ d).1=y at g hS a1
 generalize (yZ d).2.1=m at g hS a2
 generalize (yZ d).2.2=e at g hS a3
 have ly:(dec y).length≤13:=Go.Wire.dec_len 12 _ (by omega)
 have lm:(dec m).length≤13:=Go.Wire.dec_len 12 _ (by omega)
 have le:(dec e).length≤13:=Go.Wire.dec_len 12 _ (by omega)
 have gy:=c51 y (by omega) (by omega)
 have gm:=c51 m (by omega) (by omega)
 have ge:=c51 e (by omega) (by omega)
 rw[pA (by omega)] at gy gm ge
 simp only[Qs,Nat.reduceBEq,Q52]
 refine zC g ?_
 simp only[Qs,Nat.reduceBEq,Q52]
 refine zC gy ?_
 simp only[Qs,Nat.reduceLeDiff,Nat.reduceBEq]
 refine⟨by omega,?_⟩
 refine zC gm ?_
 simp only[Qs,Nat.reduceLeDiff,Nat.reduceBEq]
 repeat refine⟨by first|omega|(simp only[List.length_append,List.length_cons,List.length_nil];omega),?_⟩
 refine zC ge ?_
 simp only[Qs,Nat.reduceBEq]
 repeat refine⟨by first|omega|(simp only[List.length_append,List.length_cons,List.length_nil];omega),?_⟩
 exact fin hS (by simp)
theorem c53 (t:Ten) (da:Int) (h0:0≤da) (h:wB t da):Spec Tryz.prog 53 [.agg (iE t)] (fun v=>v=.str (zT 32 (wP zI t))):=by
 refine Spec.of_awlS hf53 okf53 (by simp) fun S hS=>?_
 obtain⟨k,n,u⟩:=t
 simp only[iE]
 have bt: ∀{x y:Int},x=y→(x==y)=true:=fun h=>by simp[h]
 have bf: ∀{x y:Int},¬x=y→(x==y)=false:=fun h=>by simp[h]
 rcases h with⟨h1,h2,h3⟩|⟨h1,h2,h3,h4⟩|⟨h1,h2,h3,h4⟩
 ·simp only at h1 h2 h3
  subst h2;subst h3
  rcases h1 with rfl|rfl<;>(simp only[Qs,BEq.rfl,Nat.reduceAdd,Nat.reduceLeDiff,Nat.reduceBEq,Int.reduceBEq,Q53];exact fin hS (by rfl))
 ·simp only at h1 h2 h3 h4
  have gi:=c51 n (by omega) (by omega)
  rw[pA (by omega)] at gi
  have ln:(dec n).length≤13:=Go.Wire.dec_len 12 _ (by omega)
  rcases h1 with rfl|rfl<;>rcases h4 with rfl|rfl
  all_goals
   simp only[Qs,BEq.rfl,Nat.reduceAdd,Nat.reduceLeDiff,Nat.reduceBEq,Int.reduceBEq,Q53]
   refine zC gi ?_
   simp only[Qs,Nat.reduceAdd,Nat.reduceLeDiff,Nat.reduceBEq]
   repeat refine⟨by first|omega|(simp only[List.length_append,List.length_cons,List.length_nil];omega),?_⟩
   exact fin hS (by simp[wP,zT])
 ·simp only at h1 h2 h3 h4
  subst h1;subst h4
  have g:=c52 n (by omega) h3
  have ln:=iF (d:=n) (by omega) h3
  simp only[Qs,BEq.rfl,Nat.reduceAdd,Nat.reduceLeDiff,Nat.reduceBEq,Int.reduceBEq,Q53]
  refine zC g ?_
  simp only[Qs,Nat.reduceAdd]
  repeat refine⟨by first|omega|(simp only[List.length_append,List.length_cons,List.length_nil];omega),?_⟩
  exact fin hS (by simp[wP,zT])
theorem zhY: ∀l:List Txt,joinS [32,111,114,32] l=zT 32 (orW l)
 |[]=>rfl
 |[w]=>rfl
 |w::v::r=>by
  have ih:=zhY (v::r)
  have hne:orW (v::r)≠[]:=by cases r<;>simp[orW]
  rw[joinS,ih,orW]
  cases ho:orW (v::r) with
  |nil=>exact absurd ho hne
  |cons a t=>rfl
theorem zmk (i:Nat) (p:Int):vV ((i:Int)+1) p=vV i p++(if (i:Int)≠p then[(i:Int)] else[]):=by
 unfold vV
 rw[show((i:Int)+1).toNat=i+1 by omega,Int.toNat_natCast,List.range_succ,List.map_append,List.filter_append]
 congr 1
 by_cases h:(i:Int)=p
 ·simp[h]
 ·simp[h]
def wZ (n p:Int):List Txt:=(vV n p).map fun i=>dec (i+1)
theorem aC (i:Nat) (p:Int):wZ ((i:Int)+1) p=wZ i p++(if (i:Int)≠p then[dec ((i:Int)+1)] else[]):=by
 unfold wZ;rw[zmk,List.map_append];split<;>rfl
theorem iG (p:Int): ∀i:Nat,(wZ i p).length≤i
 |0=>by simp[wZ,vV]
 |i+1=>by
  have:=iG p i
  rw[show((i+1:Nat):Int)=(i:Int)+1 by omega,aC,List.length_append]
  split<;>simp<;>omega
theorem aD (p:Int): ∀i:Nat,i≤1000→zL (wZ i p)≤i*13
 |0,_=>by simp[wZ,vV,zL]
 |i+1,h=>by
  have:=aD p i (by omega)
  have hl:(dec ((i:Int)+1)).length≤13:=Go.Wire.dec_len 12 _ (by omega)
  rw[show((i+1:Nat):Int)=(i:Int)+1 by omega,aC,jW]
  split<;>simp[zL]<;>omega
theorem zhZ (l:List Txt) (s:Txt):zE l++[[.str s]]=zE (l++[s]):=by simp[zE]
theorem c54 (pt:Nat) (p:Int) (hpt:pt≤4):Spec Tryz.prog 54 [.int .i64 (pt:Int),.int .i64 p] (fun v=>v=.str (zT 32 (vJ pt p))):=by
 refine Spec.of_awlS hf54 okf54 (by simp) fun S hS=>?_
 have hW:zT 32 (vJ pt p)=joinS [32,111,114,32] (wZ pt p):=by rw[zhY];rfl
 rw[hW] at hS
 have g49:=c49 (wZ pt p) [32,111,114,32] (by have:=iG p pt;omega) (by decide) (by decide) (by have:=aD p pt (by omega);omega)
 simp only[Qs,zcx,Nat.reduceAdd,Nat.reduceBEq,Q54]
 rw[uu f54l16.eq_1]
 refine yY (fun i:Nat=>[(1,.int .i64 p),(5,.k (.own 5)),(7,.int .i64 pt),(8,.int .i64 i)]) (fun i=>[(5,.arr 9 1 (nlApp (some true) (zE (wZ i p))) (zE (wZ i p)))]) (fun i=>i≤pt) (fun i=>pt-i) 0 rfl rfl (Nat.zero_le _) ?_
 intro i hi
 by_cases hlt:i<pt
 ·have c1:(i:Int)<pt:=by omega
  have c4:IntKind.i64.wrap ((i:Int)+1)=(i:Int)+1:=wrap_in (by omega) (by omega)
  have hs:=aC i p
  have hl:=iG p i
  by_cases hip:(i:Int)=p
  ·have hb:((i:Int) !=p)=false:=by simp[hip]
   rw[if_neg (by simp[hip]),List.append_nil] at hs
   simp only[c1,c4,hb,Qs,Nat.reduceBEq,Q54]
   exact Next.intro (i+1) rfl (by rw[show((i+1:Nat):Int)=(i:Int)+1 by omega,hs];rfl) (by omega) (by omega)
  ·have hb:((i:Int) !=p)=true:=by simp[hip]
   rw[if_pos hip] at hs
   have gi:=c51 ((i:Int)+1) (by omega) (by omega)
   rw[pA (by omega)] at gi
   simp only[c1,c4,hb,Qs,Nat.reduceBEq,Q54]
   refine zC gi ?_
   have q3:(wZ i p).length+1≤9223372036854775807:=by omega
   have q4:((wZ i p).length+1)*16≤140737488355328:=by omega
   simp only[c4,zhZ,←hs,q3,q4,zK,Qs,forall_eq,bne_iff_ne,ne_eq,List.mem_cons,Nat.reduceEqDiff,Nat.reduceLT,Nat.reduceBEq,List.not_mem_nil]
   have hnl:nlApp (some true) (zE (wZ ((i:Int)+1) p))=some false:=by rw[hs,←zhZ];cases zE (wZ (↑i) p)<;>rfl
   exact Next.intro (i+1) rfl (by rw[show((i+1:Nat):Int)=(i:Int)+1 by omega,hnl];rfl) (by omega) (by omega)
 ·obtain rfl:i=pt:=by omega
  have c1: ¬(i:Int)<i:=by omega
  simp only[c1,Qs,Nat.reduceBEq,Q54]
  refine zC g49 ?_ (ha:=by simp[zD,wW,lookO,V.norm,zW,lst,yT])
  simp only[Qs]
  exact hS
theorem nB {a b:Int}:thenE a b=0 ↔ a=0∧b=0:=by
 unfold thenE
 split
 ·rename_i h;exact⟨fun x=>⟨h,x⟩,fun x=>x.2⟩
 ·rename_i h;exact⟨fun x=>absurd x h,fun x=>absurd x.1 h⟩
theorem iH {f:Nat→Int}: ∀{n i:Nat},xC f n i=0→ ∀k,k<n→f (i+k)=0
 |0,_,_,k,hk=>absurd hk (Nat.not_lt_zero _)
 |n+1,i,h,k,hk=>by
  rw[xC] at h
  by_cases h0:f i=0
  ·rw[if_pos h0] at h
   cases k with
   |zero=>exact h0
   |succ k=>have:=iH h k (by omega);rwa [show i+1+k=i+(k+1) by omega] at this
  ·rw[if_neg h0] at h;exact absurd h h0
theorem zh0 {l:List Txt} {i:Nat} (h:yK l i=0):nameG (l.getD i [])=true∧befG l i (l.getD i [])=false:=by
 unfold yK at h
 cases hn:nameG (l.getD i []) with
 |false=>rw[hn,if_neg (by simp)] at h;cases h
 |true=>
  rw[hn,if_pos rfl] at h
  cases hb:befG l i (l.getD i []) with
  |true=>rw[hb,if_pos rfl] at h;cases h
  |false=>exact⟨rfl,rfl⟩
def mW (l:List Txt):Prop:=(∀w∈l,nameG w=true)∧l.Nodup
theorem aE {l:List Txt} (h: ∀i,i<l.length→yK l i=0):mW l:=by
 refine⟨fun w hw=>?_,?_⟩
 ·obtain⟨i,hi,rfl⟩:=List.mem_iff_getElem.1 hw
  have:=(zh0 (h i hi)).1
  simpa [List.getD,hi] using this
 ·rw[List.Nodup,List.pairwise_iff_getElem]
  intro i j hi hj hij e
  have h2:=(zh0 (h j hj)).2
  rw[show l.getD j []=l[j] by simp[List.getD,hj]] at h2
  unfold befG at h2
  have h3:=List.any_eq_false.1 h2 l[i] (by rw[List.mem_take_iff_getElem];exact⟨i,by omega,rfl⟩)
  rw[e] at h3;simp at h3
theorem iI {w:Txt} (h:nameG w=true):qQ w∧w.length≤20:=by
 unfold nameG at h
 rw[Bool.and_eq_true,decide_eq_true_eq,List.all_eq_true] at h
 refine⟨⟨fun e=>by rw[e] at h;simp at h,fun c hc=>?_⟩,h.1.2⟩
 obtain⟨i,hi,rfl⟩:=List.mem_iff_getElem.1 hc
 have h2:=h.2 i (List.mem_range.2 hi)
 unfold okN qT oV atB at h2
 rw[show w.getD i 0=w[i] by simp[List.getD,hi]] at h2
 simp only[Bool.or_eq_true,Bool.and_eq_true,decide_eq_true_eq] at h2
 unfold cH
 simp only[Bool.or_eq_true,decide_eq_true_eq]
 omega
def nms (r:Rlm):Nms:=⟨r.cur,cnm r,fnm r⟩
structure RlmOk (r:Rlm):Prop where
 cu:mW r.cur
 ci:mW (cnm r)
 fi:mW (fnm r)
theorem aF {r:Rlm} (h:rlmE r=0):RlmOk r:=by
 unfold rlmE at h
 rw[nB,nB,nB] at h
 obtain⟨⟨h1,h2⟩,h3,_⟩:=h
 have n2:=rO r
 have n3:=sK r
 refine⟨aE fun i hi=>?_,aE fun i hi=>?_,aE fun i hi=>?_⟩
 ·unfold curE at h1
  split at h1
  ·cases h1
  ·have:=iH h1 i (by omega)
   rwa [Nat.zero_add] at this
 ·unfold ctyE at h2
  split at h2
  ·cases h2
  ·have:=iH h2 i (by omega)
   rw[Nat.zero_add,nB] at this
   exact this.1
 ·unfold firE at h3
  split at h3
  ·cases h3
  split at h3
  ·split at h3
   ·cases h3
   ·have:=iH h3 i (by omega)
    rw[Nat.zero_add,nB] at this
    exact this.1
  ·cases h3
theorem RlmOk.nms {r:Rlm} (h:RlmOk r):NmsOk (nms r):=
 ⟨⟨fun w hw=>(iI (h.cu.1 w hw)).1,h.cu.2⟩,⟨fun w hw=>(iI (h.ci.1 w hw)).1,h.ci.2⟩,⟨fun w hw=>(iI (h.fi.1 w hw)).1,h.fi.2⟩⟩
structure ChkOk (r:Rlm) (b:Bil):Prop where
 rl:rlmE r=0
 ar:argB r b=true
 rn:rngB b=true
 pr:prtB b=true
 fr:frmB b=true
 us:b.te.k=4→(uE r.usances b.ci b.py).2=0
theorem sP {r:Rlm} {b:Bil}:chkE r b=0 ↔ ChkOk r b:=by
 unfold chkE
 rw[nB]
 constructor
 ·rintro⟨h0,h⟩
  split at h
  ·split at h
   ·split at h
    ·split at h
     ·refine⟨h0,by assumption,by assumption,by assumption,by assumption,fun hk=>?_⟩
      unfold lstE at h
      rwa [if_pos hk] at h
     ·cases h
    ·cases h
   ·cases h
  ·cases h
 ·rintro⟨h0,h1,h2,h3,h4,h5⟩
  refine⟨h0,?_⟩
  rw[h1,if_pos rfl,h2,if_pos rfl,h3,if_pos rfl,h4,if_pos rfl]
  unfold lstE
  split
  ·exact h5 (by assumption)
  ·rfl
theorem iJ {n len:Int}:inB n len=true ↔ 0≤n∧n<len:=by unfold inB;exact decide_eq_true_iff
theorem zml {n len:Int}:noneB n len=true ↔ n= -1∨(0≤n∧n<len):=by
 unfold noneB;rw[Bool.or_eq_true,beq_iff_eq,iJ]
theorem zh1 {r:Rlm} {b:Bil}:argB r b=true ↔ inR (fnm r) b.dr∧inR (fnm r) b.de∧(b.pa= -1∨inR (fnm r) b.pa)∧(b.ne= -1∨inR (fnm r) b.ne)∧inR r.cur b.cu∧inR (cnm r) b.ci∧inR (cnm r) b.py:=by
 unfold argB inR
 rw[rO,sK]
 simp only[Bool.and_eq_true,iJ,zml]
theorem ChkOk.bil {r:Rlm} {b:Bil} (h:ChkOk r b):BilOk (nms r) b:=by
 obtain⟨a1,a2,a3,a4,a5,a6,a7⟩:=zh1.1 h.ar
 have hr:1≤b.su∧b.su≤1099511627776∧0≤b.da∧b.da≤100000∧0≤b.ra∧b.ra≤1000:=of_decide_eq_true h.rn
 have hp:1≤b.pt∧b.pt≤4:=of_decide_eq_true h.pr
 have hf:=h.fr
 unfold frmB at hf
 rw[Bool.and_eq_true,Bool.and_eq_true,decide_eq_true_eq] at hf
 refine⟨a1,a2,a3,a4,a5,a6,a7,by omega,by omega,by omega,hp,hf.1,fun e=>?_,of_decide_eq_true hf.2.2⟩
 have:=hf.2.1
 rw[e.1,e.2] at this
 cases this
theorem BilOk.chk {r:Rlm} {b:Bil} (h0:rlmE r=0) (h:BilOk (nms r) b) (hu:b.te.k=4→(uE r.usances b.ci b.py).2=0):ChkOk r b:=by
 refine⟨h0,zh1.2 ⟨h.dr,h.de,h.pa,h.ne,h.cu,h.ci,h.py⟩,decide_eq_true (by have:=h.su;have:=h.da;have:=h.ra;omega),decide_eq_true h.pt,?_,hu⟩
 unfold frmB tenB
 rw[decide_eq_true h.fl,decide_eq_true h.te]
 have hn:(bit 4 b.fl&&(b.pa== -1))=false:=by
  cases h4:bit 4 b.fl with
  |false=>rfl
  |true=>
   have: ¬b.pa= -1:=fun e=>h.no ⟨h4,e⟩
   simp[this]
 rw[hn];rfl
theorem vP {l:List Txt} (h:mW l) {i:Int} (hi:inR l i):(nm l i).length≤20:=(iI (h.1 _ (zhk hi))).2
def okT (r:Rlm) (b:Bil) (p:Int):Prop:=ChkOk r b∧0≤p∧p<b.pt
def textG (r:Rlm) (b:Bil) (p:Int):Txt:=if chkE r b=0∧0≤p∧p<b.pt then yH (rows zI (nms r) b p) else[]
theorem nC {r:Rlm} {b:Bil} {p:Int} (h:okT r b p):textG r b p=yH (rows zI (nms r) b p):=by
 unfold textG;rw[if_pos ⟨sP.2 h.1,h.2⟩]
theorem iK {r:Rlm} {b:Bil} {p:Int} (h: ¬okT r b p):textG r b p=[]:=by
 unfold textG;rw[if_neg (fun e=>h ⟨sP.1 e.1,e.2⟩)]
end Go.Abs
set_option maxRecDepth 100000
set_option maxHeartbeats 16000000
namespace Go.Abs
open Go.Proofs Go.RowKit Go.Lib Go.Wd
def wss (L:List (List Txt)):List (List C):=L.map fun l=>[zB 1 (zE l)]
theorem vQ (L:List (List Txt)):(wss L).length=L.length:=by simp[wss]
theorem sQ {L:List (List Txt)} {i:Nat} (h:i<L.length):(wss L).getD i []=[zB 1 (zE (L.getD i []))]:=by simp[wss,List.getD,h]
theorem zmm (L:List (List Txt)) (k:Nat):(wss L).drop k=wss (L.drop k):=by simp[wss]
theorem zmn (s:Txt): -1≤numberP s∧numberP s≤9223372036854775807:=by
 unfold numberP
 cases h:atoiAll s with
 |ok v=>
  have:=atoiAll_bounds h
  show-1≤(if v<0∨s.length>13 then(-1:Int) else v)∧(if v<0∨s.length>13 then(-1:Int) else v)≤9223372036854775807
  split<;>omega
 |_=>show(-1:Int)≤ -1∧(-1:Int)≤9223372036854775807;omega
theorem zh2: ∀(l:List Txt) (x s:Txt) (i r:Int),wQ (l++[x]) s i r=if x=s then i+l.length else wQ l s i r
 |[],x,s,i,r=>by simp[wQ]
 |y::l,x,s,i,r=>by
  rw[List.cons_append,wQ,zh2 l,wQ]
  split
  ·simp only[List.length_cons];push_cast;omega
  ·rfl
theorem zh3 (N:Nms): ∀(A:List (List Txt)) (l:List Txt) (s:Lst),restP N (A++[l]) s=restP N [l] (restP N A s)
 |[],l,s=>rfl
 |a::A,l,s=>zh3 N A l _
def rT (b:Bil):OS:=[(4,.var 35 [.c (.int .i64 b.dr),.c (.int .i64 b.de),.c (.int .i64 b.pa),.c (.int .i64 b.su),.c (.int .i64 b.cu),.c (.int .i64 b.te.k),.c (.int .i64 b.te.n),.c (.int .i64 b.te.u),.c (.int .i64 b.da),.c (.int .i64 b.ci),.c (.int .i64 b.py),.c (.int .i64 b.ne),.c (.int .i64 b.ra),.c (.int .i64 b.fl),.c (.int .i64 b.pt)])]
def mX (L:List (List Txt)):Prop:= ∀l∈L,∀w∈l,w.length≤1000000
theorem mY {L:List (List Txt)} (h:mX L) (k i:Nat):(wd (L.getD k []) i).length≤1000000:=by
 have h0: ∀l:List Txt,(∀w∈l,w.length≤1000000)→(wd l i).length≤1000000:=fun l hl=>by
  by_cases hi:i<l.length
  ·have:wd l i=l[i]:=by simp[wd,List.getD,hi]
   rw[this];exact hl _ (List.getElem_mem hi)
  ·have:wd l i=[]:=by unfold wd;rw[List.getD_eq_getElem?_getD,List.getElem?_eq_none (by omega)];rfl
   rw[this];simp
 by_cases hk:k<L.length
 ·have:L.getD k []=L[k]:=by simp[List.getD,hk]
  rw[this];exact h0 _ (h _ (List.getElem_mem hk))
 ·have:L.getD k []=[]:=by rw[List.getD_eq_getElem?_getD,List.getElem?_eq_none (by omega)];rfl
  rw[this];exact h0 _ (by simp)
def mZ (r:Rlm) (L:List (List Txt)) (b:Bil):Bil:=
 let s:=restP (nms r) (L.drop 6) ⟨b.ne,false,b.dr⟩
 {b with dr:=s.dr,de:=fstI (fnm r) (wd (L.getD 5 []) 4),su:=numberP (wd (L.getD 4 []) 0),cu:=wQ r.cur (wd (L.getD 4 []) 1) 0 b.cu,py:=fstI (cnm r) (wd (L.getD 5 []) 6),ne:=s.ne,ra:=max 0 (numberP (wd (L.getD 4 []) 5)),fl:=if s.np=true then b.fl+2 else b.fl}
theorem or2 {f:Int} (h:f=0∨f=1∨f=4∨f=5):(IntKind.i64.wrap ↑(BitVec.ofInt IntKind.i64.bits f|||BitVec.ofInt IntKind.i64.bits 2).toNat=f+2)∧(IntKind.i64.wrap ↑(BitVec.ofInt IntKind.i64.bits (f+2)|||BitVec.ofInt IntKind.i64.bits 2).toNat=f+2):=by
 rcases h with rfl|rfl|rfl|rfl<;>decide
theorem zmo {l:List Txt} {w:Txt} {c:Int} {i:Nat} (h:i<l.length):wQ (l.take (i+1)) w 0 c=if l.getD i []=w then(i:Int) else wQ (l.take i) w 0 c:=by
 rw[List.take_succ_eq_append_getElem h,zh2,show l.getD i []=l[i] by simp[List.getD,h],List.length_take,Nat.min_eq_left (by omega),Int.zero_add]
theorem zmp {S:V→Prop} (r:Rlm) (hr:RlmIn r) (L:List (List Txt)) (h7:7≤L.length) (hl:L.length≤10000) (hs:mX L) (b:Bil) (hf:b.fl=0∨b.fl=1∨b.fl=4∨b.fl=5)
  (hS:S (.tup [.agg (yF (mZ r L b)),.int .i64 (numberP (wd (L.getD 0 []) 1)-1)])):
  awl Tryz.prog f25b55 (endK [RX.cell 4 15 true,RX.t 5] S) [(1,lst 1 (wss L)),(2,.k (.c (.ro (zS r) 0))),(4,.k (.ptr 4 0))] (rT b):=by
 have hL:=xZ r
 have hno:=xY r
 have hcl:=hr.cu
 have a0:=sQ (L:=L) (i:=0) (by omega)
 have a4:=sQ (L:=L) (i:=4) (by omega)
 have a5:=sQ (L:=L) (i:=5) (by omega)
 have i4:(4:Int)<(wss L).length:=by rw[vQ];omega
 have i5:(5:Int)<(wss L).length:=by rw[vQ];omega
 have i0:(0:Int)<(wss L).length:=by rw[vQ];omega
 have m40:=c71 (wd (L.getD 4 []) 0) (mY hs 4 0)
 have m45:=c71 (wd (L.getD 4 []) 5) (mY hs 4 5)
 have m01:=c71 (wd (L.getD 0 []) 1) (mY hs 0 1)
 have b01:=zmn (wd (L.getD 0 []) 1)
 unfold mZ at hS
 generalize L.getD 0 []=l0 at a0 m01 b01 hS
 generalize L.getD 4 []=l4 at a4 m40 m45 hS
 generalize L.getD 5 []=l5 at a5 hS
 have g40:Spec _ _ [_,.int .i64 0] _:=c68 l4 0
 have g41:Spec _ _ [_,.int .i64 1] _:=c68 l4 1
 have g45:Spec _ _ [_,.int .i64 5] _:=c68 l4 5
 have g54:Spec _ _ [_,.int .i64 4] _:=c68 l5 4
 have g56:Spec _ _ [_,.int .i64 6] _:=c68 l5 6
 have g01:Spec _ _ [_,.int .i64 1] _:=c68 l0 1
 have n4:=yT l4
 have n5:=yT l5
 have n0:=yT l0
 generalize hsu:numberP (wd l4 0)=su at m40 hS
 generalize wd l4 0=w40 at g40 m40
 generalize wd l4 1=w41 at g41 hS
 generalize numberP (wd l4 5)=n45 at m45 hS
 have hmx:(if n45>0 then n45 else 0)=max 0 n45:=by omega
 generalize max 0 n45=ra at hmx hS
 have hM:(L.drop 6).length≤10000:=by rw[List.length_drop];omega
 have b01':IntKind.i64.wrap (numberP (wd l0 1)-1)=numberP (wd l0 1)-1:=wrap_in (by omega) (by omega)
 have g72:=c72 r hr (wd l5 4)
 have g67:=c67 r hr (wd l5 6)
 generalize hpy:fstI (cnm r) (wd l5 6)=py at g67 hS
 generalize hde:fstI (fnm r) (wd l5 4)=de at g72 hS
 rw[hL] at g72 g67 hno
 rw[hL]
 unfold rT
 simp only[a4,i4,Qs,Int.reduceLE,Int.reduceToNat,Q25,uu f25b55.eq_1]
 refine zC g40 ?_ (ha:=by simp[zD,V.norm,zW,lst,zB,n4])
 simp only[Qs]
 refine zC m40 ?_
 simp only[zK,Qs,Nat.reduceAdd,Nat.reduceLeDiff,Nat.reduceBEq,Q25,uu f25b55.eq_1]
 rw[uu f25l49.eq_1]
 refine yY (fun i:Nat=>[(1,lst 1 (wss L)),(2,.k (.c (.ro [zB 1 (zE r.cur),zB 6 (xW r.cities),zB 1 (zN r.groups),zB 3 (xX r.firms),zB 4 (wK r.orders),zB 3 (t3s r.usances),zB 5 (t5s r.rates),zB 3 (t3s r.halts)] 0))),(4,.k (.ptr 4 0)),(69,.k (.c (zB 1 (zE r.cur)))),(70,.int .i64 r.cur.length),(71,.int .i64 i)]) (fun i=>rT {b with su:=su,cu:=wQ (r.cur.take i) w41 0 b.cu}) (fun i=>i≤r.cur.length) (fun i=>r.cur.length-i) 0 rfl rfl (Nat.zero_le _) ?_
 intro i hi
 unfold rT
 by_cases hlt:i<r.cur.length
 ·have c1:(i:Int)<r.cur.length:=by omega
  have c4:IntKind.i64.wrap ((i:Int)+1)=(i:Int)+1:=wrap_in (by omega) (by omega)
  have hat:(zE r.cur).getD i []=[.str (r.cur.getD i [])]:=by simp[zE,List.getD,hlt]
  have ht:=zmo (w:=w41) (c:=b.cu) hlt
  have ii:(i:Int)<(zE r.cur).length:=by rw[zK];exact c1
  simp only[c1,c4,hat,ii,a4,i4,zK,Qs,Nat.reduceBEq,Int.reduceLE,Int.reduceToNat,Q25,uu f25b55.eq_1]
  refine zC g41 ?_ (ha:=by simp[zD,V.norm,zW,lst,zB,n4])
  simp only[c4,Qs,Nat.reduceAdd,Nat.reduceLeDiff,Nat.reduceBEq,Q25,uu f25b55.eq_1]
  refine⟨fun h=>?_,fun h=>?_⟩
  ·rw[if_pos h] at ht
   exact Next.intro (i+1) rfl (by rw[ht];rfl) (by omega) (by omega)
  ·rw[if_neg h] at ht
   exact Next.intro (i+1) rfl (by rw[ht];rfl) (by omega) (by omega)
 ·obtain rfl:i=r.cur.length:=by omega
  have c1: ¬(r.cur.length:Int)<r.cur.length:=by omega
  rw[List.take_length]
  simp only[c1,a4,i4,Qs,Nat.reduceBEq,Int.reduceLE,Int.reduceToNat,Q25,uu f25b55.eq_1]
  refine zC g45 ?_ (ha:=by simp[zD,V.norm,zW,lst,zB,n4])
  simp only[Qs]
  refine zC m45 ?_
  simp only[a5,i5,Qs,zki,zkl,zkm,zkn,zko,zkp,Nat.reduceAdd,Nat.reduceLeDiff,Nat.reduceBEq,Int.reduceLE,Int.reduceToNat,Q25,uu f25b55.eq_1]
  refine yV g54 ?_ (ha:=by simp[zD,V.norm,zW,lst,zB,n5])
  simp only[Qs,Nat.reduceBEq]
  refine yV g72 ?_ (ha:=by simp only[List.map_cons,List.map_nil,zD,V.norm,xT,hno];rfl)
  simp only[a5,i5,Qs,Nat.reduceAdd,Nat.reduceBEq,Int.reduceLE,Int.reduceToNat]
  refine yV g56 ?_ (ha:=by simp[zD,V.norm,zW,lst,zB,n5])
  simp only[Qs,Nat.reduceBEq]
  refine yV g67 ?_ (ha:=by simp only[List.map_cons,List.map_nil,zD,V.norm,xT,hno];rfl)
  simp only[Qs,zcH,zdV,dS,dT,Nat.reduceAdd,Nat.reduceLeDiff,Nat.reduceBEq,cB,cC,Int.reduceLE,Int.reduceToNat,Q25,uu f25b55.eq_1]
  refine⟨by rw[vQ];omega,?_⟩
  rw[List.take_length,zmm,vQ,hmx]
  generalize hMe:L.drop 6=M at hM hS
  rw[uu f25l27.eq_1]
  refine yY (fun i:Nat=>[(1,lst 1 (wss L)),(2,.k (.c (.ro [zB 1 (zE r.cur),zB 6 (xW r.cities),zB 1 (zN r.groups),zB 3 (xX r.firms),zB 4 (wK r.orders),zB 3 (t3s r.usances),zB 5 (t5s r.rates),zB 3 (t3s r.halts)] 0))),(4,.k (.ptr 4 0)),(107,.list 1 none (wss M)),(108,.int .i64 M.length),(109,.int .i64 i)])
   (fun i=>rT {b with dr:=(restP (nms r) (M.take i) ⟨b.ne,false,b.dr⟩).dr,de:=de,su:=su,cu:=wQ r.cur w41 0 b.cu,py:=py,ne:=(restP (nms r) (M.take i) ⟨b.ne,false,b.dr⟩).ne,ra:=ra,fl:=if (restP (nms r) (M.take i) ⟨b.ne,false,b.dr⟩).np=true then b.fl+2 else b.fl})
   (fun i=>i≤M.length) (fun i=>M.length-i) 0 rfl rfl (Nat.zero_le _) ?_
  intro i hi
  unfold rT
  by_cases hlt:i<M.length
  ·have c1:(i:Int)<M.length:=by omega
   have c4:IntKind.i64.wrap ((i:Int)+1)=(i:Int)+1:=wrap_in (by omega) (by omega)
   have hat:=sQ hlt
   have ii:(i:Int)<(wss M).length:=by rw[vQ];exact c1
   have hsn:restP (nms r) (M.take (i+1)) ⟨b.ne,false,b.dr⟩=restP (nms r) [M.getD i []] (restP (nms r) (M.take i) ⟨b.ne,false,b.dr⟩):=by
    rw[List.take_succ_eq_append_getElem hlt,zh3,show M.getD i []=M[i] by simp[List.getD,hlt]]
   generalize M.getD i []=x at hat hsn
   have nx:=yT x
   have g0:Spec _ _ [_,.int .i64 0] _:=c68 x 0
   have g3:Spec _ _ [_,.int .i64 3] _:=c68 x 3
   have g1:Spec _ _ [_,.int .i64 1] _:=c68 x 1
   have k3:=c72 r hr (wd x 3)
   have k1:=c72 r hr (wd x 1)
   rw[hL] at k3 k1
   have hsn2:restP (nms r) (M.take (i+1)) ⟨b.ne,false,b.dr⟩=(if wd x 0=[105,110] then⟨fstI (fnm r) (wd x 3),(restP (nms r) (M.take i) ⟨b.ne,false,b.dr⟩).np,(restP (nms r) (M.take i) ⟨b.ne,false,b.dr⟩).dr⟩ else if wd x 0=[119,105,116,104,111,117,116] then⟨(restP (nms r) (M.take i) ⟨b.ne,false,b.dr⟩).ne,true,(restP (nms r) (M.take i) ⟨b.ne,false,b.dr⟩).dr⟩ else if wd x 0=[115,105,103,110,101,100] then⟨(restP (nms r) (M.take i) ⟨b.ne,false,b.dr⟩).ne,(restP (nms r) (M.take i) ⟨b.ne,false,b.dr⟩).np,fstI (fnm r) (wd x 1)⟩ else restP (nms r) (M.take i) ⟨b.ne,false,b.dr⟩):=hsn
   clear hsn
   generalize restP (nms r) (M.take i) ⟨b.ne,false,b.dr⟩=q at hsn2
   obtain⟨ne,np,dr⟩:=q
   obtain⟨o1,o2⟩:=or2 hf
   cases np
   all_goals
    simp only[c1,c4,hat,ii,Qs,jI,Nat.reduceBEq,Q25,uu f25b55.eq_1]
    refine zC g0 ?_ (ha:=by simp[zD,V.norm,zW,lst,zB,nx])
    simp only[c4,o1,o2,Qs,dL,Nat.reduceAdd,Nat.reduceLeDiff,Nat.reduceBEq,Q25,uu f25b55.eq_1]
    refine⟨fun h=>?_,fun h=>⟨fun h2=>?_,fun h2=>⟨fun h3=>?_,fun h3=>?_⟩⟩⟩
    ·rw[if_pos h] at hsn2
     refine yV g3 ?_ (ha:=by simp[zD,V.norm,zW,lst,zB,nx])
     simp only[c4,Qs,Nat.reduceBEq]
     refine yV k3 ?_ (ha:=by simp only[List.map_cons,List.map_nil,zD,V.norm,xT,hno];rfl)
     simp only[c4,Qs,Nat.reduceAdd,Nat.reduceLeDiff,Nat.reduceBEq]
     exact Next.intro (i+1) rfl (by rw[hsn2];rfl) (by omega) (by omega)
    ·rw[if_neg h,if_pos h2] at hsn2
     exact Next.intro (i+1) rfl (by rw[hsn2];rfl) (by omega) (by omega)
    ·rw[if_neg h,if_neg h2,if_pos h3] at hsn2
     refine yV g1 ?_ (ha:=by simp[zD,V.norm,zW,lst,zB,nx])
     simp only[c4,Qs,Nat.reduceBEq]
     refine yV k1 ?_ (ha:=by simp only[List.map_cons,List.map_nil,zD,V.norm,xT,hno];rfl)
     simp only[c4,Qs,Nat.reduceAdd,Nat.reduceLeDiff,Nat.reduceBEq]
     exact Next.intro (i+1) rfl (by rw[hsn2];rfl) (by omega) (by omega)
    ·rw[if_neg h,if_neg h2,if_neg h3] at hsn2
     exact Next.intro (i+1) rfl (by rw[hsn2];rfl) (by omega) (by omega)
  ·obtain rfl:i=M.length:=by omega
   have c1: ¬(M.length:Int)<M.length:=by omega
   rw[List.take_length]
   generalize restP (nms r) M ⟨b.ne,false,b.dr⟩=q at hS
   simp only[c1,a0,i0,Qs,jA,zdb,Nat.reduceAdd,Nat.reduceBEq,Int.reduceLE,vv f25r1o0.eq_1,vv f25r1o1.eq_1,vv f25r1o2.eq_1,vv f25r1o3.eq_1,vv f25r1o4.eq_1,vv f25r1o5.eq_1,vv f25r1o6.eq_1,vv f25r1o7.eq_1,vv f25r1o8.eq_1,zkM,Q25,uu f25b55.eq_1]
   refine yV g01 ?_ (ha:=by simp[zD,V.norm,zW,lst,zB,n0])
   simp only[Qs,jA]
   refine yV m01 ?_
   simp only[b01',Qs,zcd,zce,jA,zcf,and_true,List.append_nil,Nat.reduceAdd,Nat.reduceLT,Nat.reduceBEq]
   exact hS
def nD (r:Rlm) (L:List (List Txt)) (b:Bil):Bil:=
 {b with pt:=numberP (wd (L.getD 0 []) 3),pa:=if (L.getD 3 []).length>2 then fstI (fnm r) (wd (L.getD 3 []) 1) else b.pa,fl:=if (L.getD 3 []).length>2∧wd (L.getD 3 []) 2=[110,111,116] then b.fl+4 else b.fl}
theorem or4 {f:Int} (h:f=0∨f=1):IntKind.i64.wrap ↑(BitVec.ofInt IntKind.i64.bits f|||BitVec.ofInt IntKind.i64.bits 4).toNat=f+4:=by
 rcases h with rfl|rfl<;>decide
theorem zmq {S:V→Prop} (r:Rlm) (hr:RlmIn r) (L:List (List Txt)) (h7:7≤L.length) (hl:L.length≤10000) (hs:mX L) (b:Bil) (hf:b.fl=0∨b.fl=1)
  (hS:S (.tup [.agg (yF (mZ r L (nD r L b))),.int .i64 (numberP (wd (L.getD 0 []) 1)-1)])):
  awl Tryz.prog f25b67 (endK [RX.cell 4 15 true,RX.t 5] S) [(1,lst 1 (wss L)),(2,.k (.c (.ro (zS r) 0))),(4,.k (.ptr 4 0))] (rT b):=by
 have hL:=xZ r
 have hno:=xY r
 have C:=@zmp S r hr L h7 hl hs (nD r L b) (by unfold nD;simp only;split<;>omega) hS
 clear hS
 have a0:=sQ (L:=L) (i:=0) (by omega)
 have a3:=sQ (L:=L) (i:=3) (by omega)
 have i0:(0:Int)<(wss L).length:=by rw[vQ];omega
 have i3:(3:Int)<(wss L).length:=by rw[vQ];omega
 have m03:=c71 (wd (L.getD 0 []) 3) (mY hs 0 3)
 unfold nD at C
 generalize L.getD 0 []=l0 at a0 m03 C
 generalize L.getD 3 []=l3 at a3 C
 have g03:Spec _ _ [_,.int .i64 3] _:=c68 l0 3
 have g31:Spec _ _ [_,.int .i64 1] _:=c68 l3 1
 have g32:Spec _ _ [_,.int .i64 2] _:=c68 l3 2
 have k31:=c72 r hr (wd l3 1)
 have n0:=yT l0
 have n3:=yT l3
 have o4:=or4 hf
 rw[hL] at k31 hno
 rw[hL]
 unfold rT
 simp only[a0,i0,Qs,Int.reduceLE,Q25,uu f25b67.eq_1]
 refine zC g03 ?_ (ha:=by simp[zD,V.norm,zW,lst,zB,n0])
 simp only[Qs]
 refine zC m03 ?_
 by_cases h3:l3.length>2
 ·have h3i:(l3.length:Int)>2:=by omega
  simp only[a3,i3,h3i,zK,Qs,List.append_nil,Nat.reduceAdd,Nat.reduceBEq,Int.reduceLE,Int.reduceToNat,Q25,uu f25b67.eq_1]
  refine yV g31 ?_ (ha:=by simp[zD,V.norm,zW,lst,zB,n3])
  simp only[Qs,Nat.reduceBEq]
  refine yV k31 ?_ (ha:=by simp only[List.map_cons,List.map_nil,zD,V.norm,xT,hno];rfl)
  simp only[a3,i3,Qs,Nat.reduceAdd,Nat.reduceLeDiff,Nat.reduceBEq,Int.reduceLE,Int.reduceToNat,Q25,uu f25b67.eq_1]
  refine zC g32 ?_ (ha:=by simp[zD,V.norm,zW,lst,zB,n3])
  simp only[o4,Qs,dL,Nat.reduceAdd,Nat.reduceLeDiff,Nat.reduceBEq,Q25,uu f25b67.eq_1]
  refine⟨fun h=>?_,fun h=>?_⟩
  ·rw[if_pos h3,if_pos ⟨h3,h⟩] at C
   exact C
  ·rw[if_pos h3,if_neg (fun e=>h e.2)] at C
   exact C
 ·have h3i: ¬(l3.length:Int)>2:=by omega
  simp only[a3,i3,h3i,zK,Qs,List.append_nil,Nat.reduceAdd,Nat.reduceBEq,Int.reduceLE,Int.reduceToNat,Q25,uu f25b67.eq_1]
  rw[if_neg h3,if_neg (fun e=>h3 e.1)] at C
  exact C
def lA (r:Rlm) (L:List (List Txt)) (f:Int):Bil:=⟨0,0,-1,0,-1,whenP zI (L.getD 2 []),sH zI (wd (L.getD 1 []) 4),fstI (cnm r) (wd (L.getD 1 []) 2),0,-1,0,f,0⟩
theorem zmr {p q:Prop} [Decidable p] [Decidable q] (w:Int):(if q then(if p then w+4 else w)+2 else if p then w+4 else w)=w+(if q then 2 else 0)+(if p then 4 else 0):=by
 by_cases hp:p<;>by_cases hq:q<;>simp only[hp,hq,if_true,if_false]<;>omega
theorem zms (r:Rlm) (L:List (List Txt)) (f:Int) (hf:(if wd (L.getD 0 []) 0=[98,105,108,108] then(1:Int) else 0)=f):mZ r L (nD r L (lA r L f))=(xK zI (nms r) L).1∧numberP (wd (L.getD 0 []) 1)-1=(xK zI (nms r) L).2:=by
 refine⟨?_,rfl⟩
 unfold mZ nD lA xK
 simp only[nms,←hf,decide_eq_true_eq,Bool.and_eq_true]
 congr 1
 exact zmr _
theorem c25 (r:Rlm) (hr:RlmIn r) (L:List (List Txt)) (h7:7≤L.length) (hl:L.length≤10000) (hs:mX L):
  Spec Tryz.prog 25 [.agg (zS r),lst 1 (wss L)] (fun v=>v=.tup [.agg (yF (xK zI (nms r) L).1),.int .i64 (xK zI (nms r) L).2]):=by
 refine Spec.of_awlS hf25 okf25 (by simp) fun S hS=>?_
 have hL:=xZ r
 have hno:=xY r
 have hB:=@zmq S r hr L h7 hl hs
 have a0:=sQ (L:=L) (i:=0) (by omega)
 have a1:=sQ (L:=L) (i:=1) (by omega)
 have a2:=sQ (L:=L) (i:=2) (by omega)
 have i0:(0:Int)<(wss L).length:=by rw[vQ];omega
 have i1:(1:Int)<(wss L).length:=by rw[vQ];omega
 have i2:(2:Int)<(wss L).length:=by rw[vQ];omega
 have s2: ∀w∈L.getD 2 [],w.length≤1000000:=by
  rw[show L.getD 2 []=L[2] by simp[List.getD,show 2<L.length by omega]]
  exact hs _ (List.getElem_mem _)
 have gd:=c69 (wd (L.getD 1 []) 4) (mY hs 1 4)
 have gw:Spec _ _ _ (fun v=>v=.agg [.int .i64 (whenP zI (L.getD 2 [])).k,.int .i64 (whenP zI (L.getD 2 [])).n,.int .i64 (whenP zI (L.getD 2 [])).u]):=c70 (L.getD 2 []) s2
 have g12:Spec _ _ [_,.int .i64 2] _:=c68 (L.getD 1 []) 2
 have g14:Spec _ _ [_,.int .i64 4] _:=c68 (L.getD 1 []) 4
 have k12:=c67 r hr (wd (L.getD 1 []) 2)
 have g00:Spec _ _ [_,.int .i64 0] _:=c68 (L.getD 0 []) 0
 have n0:=yT (L.getD 0 [])
 have n1:=yT (L.getD 1 [])
 have n2:=yT (L.getD 2 [])
 have hE:=zms r L
 have B1:wd (L.getD 0 []) 0=[98,105,108,108]→_:=fun h=>hB (lA r L 1) (.inr rfl) (by rw[(hE 1 (if_pos h)).1,(hE 1 (if_pos h)).2];exact hS)
 have B0:wd (L.getD 0 []) 0≠[98,105,108,108]→_:=fun h=>hB (lA r L 0) (.inl rfl) (by rw[(hE 0 (if_neg h)).1,(hE 0 (if_neg h)).2];exact hS)
 clear hB hS hE
 unfold lA at B0 B1
 generalize L.getD 0 []=l0 at a0 g00 n0 B0 B1
 generalize L.getD 1 []=l1 at a1 g12 g14 n1 gd k12 B0 B1
 generalize L.getD 2 []=l2 at a2 gw n2 B0 B1
 generalize whenP zI l2=te at gw B0 B1
 rw[hL] at k12 hno
 rw[hL]
 simp only[a1,i1,Qs,bne_iff_ne,ne_eq,Int.reduceNeg,Nat.reduceAdd,Nat.reduceEqDiff,Nat.reduceBEq,Int.reduceLE,Int.reduceToNat,Q25]
 refine yV g12 ?_ (ha:=by simp[zD,V.norm,zW,lst,zB,n1])
 simp only[Qs,Int.reduceNeg,Nat.reduceBEq]
 refine yV k12 ?_ (ha:=by simp only[List.map_cons,List.map_nil,zD,V.norm,xT,hno];rfl)
 simp only[a1,i1,Qs,Int.reduceNeg,Nat.reduceBEq,Int.reduceLE,Int.reduceToNat]
 refine yV g14 ?_ (ha:=by simp[zD,V.norm,zW,lst,zB,n1])
 simp only[Qs,Int.reduceNeg]
 refine yV gd ?_
 simp only[a2,i2,Qs,Int.reduceNeg,Nat.reduceBEq,Int.reduceLE,Int.reduceToNat]
 refine zkQ gw ?_ (ha:=by simp[zD,V.norm,zW,lst,zB,n2])
 simp only[a0,i0,Qs,zkj,zkx,Int.reduceNeg,List.append_nil,Nat.reduceAdd,Nat.reduceLeDiff,Nat.reduceBEq,Int.reduceLE,Q25]
 refine zC g00 ?_ (ha:=by simp[zD,V.norm,zW,lst,zB,n0])
 simp only[Qs,dL,Int.reduceNeg,Nat.reduceAdd,Nat.reduceLeDiff,Nat.reduceBEq,Q25]
 refine⟨fun h=>?_,fun h=>?_⟩
 ·exact B1 h
 ·exact B0 h
end Go.Abs
set_option maxRecDepth 100000
set_option maxHeartbeats 4000000
namespace Go.Proofs
open Go.Shelf Go.RowKit Go.Lib
section
variable {P : Program} (w : World)
theorem zmt (base:Nat) (t u ty e:TypeId) (i:TypeInfo) (ht:P.underlying t=some (.slice e)) (hu:P.underlying u=some .string) (hi:P.info? e=some i) (hz:i.zero=some (.int .u8 0))
  (hsize:i.size=1) (hby:i.bytes=1) (v:Value) (n:Nat) (xs:List Value) (hown:w.ownsRow base e 1 v n xs) (s:ByteArray) (hbytes:n+s.size≤140737488355328)
  {v':Value} {w':World} (hr:(Builtin.append_ #[t,u] ty #[v,.string s]).run P w=.ok v' w') (hn:v'=.slice none 0 0 ↔ v=.slice none 0 0∧s.size=0):
  v'.ownBlock=v.ownBlock∨v'.ownBlock=some w.heap.size:=by
 have hxl:xs.length=n:=by simpa using hown.1
 rcases hown.2 with⟨rfl,rfl⟩|⟨g,cap,cur,rfl,hbg,hg,hnc,hcm,hcs,htake⟩
 ·by_cases hm:s.size=0
  ·rw[hn.2 ⟨rfl,hm⟩];exact .inl rfl
  ·have hr2:=run_append_nil_string (P:=P) w t u ty e i (.int .u8 0) ht hu hi hz s (by omega) (by omega) (by rw[hby];omega)
   rw[hr2] at hr
   injection hr with h1 h2
   rw[←h1];exact .inr rfl
 ·by_cases hroom:n+s.size≤cap
  ·have hr2:=run_append_room_string (P:=P) w t u ty e i ht hu hi hsize g n cap cur hg s hroom (by omega)
   rw[hr2] at hr
   injection hr with h1 h2
   rw[←h1];exact .inl rfl
  ·have holds: ∀j u,xs[j]?=some u→w.cell? ((⟨g,0,none⟩:Addr).add j)=some u:=hown.cells (g:=g) rfl
   have hr2:=run_append_grow_string (P:=P) w t u ty e i (.int .u8 0) ht hu hi hz ⟨g,0,none⟩ n cap xs (by rw[hsize];simpa using hxl) holds s (by omega) (by omega) (by rw[hby];exact growslice_fits (by omega) (by omega))
   rw[hr2] at hr
   injection hr with h1 h2
   rw[←h1];exact .inr rfl
theorem zmu {ops:Array Oper} {rest:List Oper} {o:Oper} {a:Act} {Q:Exit→Act→World→Prop} (hgd:o.guard=none) (sl x:Operand) (t u:TypeId)
  (ho:o.op=.call {callee:=.builtin .append,args:= #[sl,x],argTypes:= #[t,u]})
  (base:Nat) (e:TypeId) (i:TypeInfo) (ht:P.underlying t=some (.slice e)) (hu:P.underlying u=some .string) (hi:P.info? e=some i) (hz:i.zero=some (.int .u8 0))
  (hsize:i.size=1) (hby:i.bytes=1)
  (v:Value) (n:Nat) (xs:List Value) (hs:a.eval sl=v) (hown:w.ownsRow base e 1 v n xs) (s:ByteArray) (hx:a.eval x=.string s)
  (h63:n+s.size≤maxLen) (hbytes:n+s.size≤140737488355328) (hbase:base≤w.heap.size)
  (h: ∀v' w',w'.ownsRow base e 1 v' (n+s.size) (xs++strCells s)→w.grownBy w' v.ownBlock→(v'.ownBlock=v.ownBlock∨v'.ownBlock=some w.heap.size)→wpList P ops Q rest (a.put o.dst v') w'):wpList P ops Q (o::rest) a w:=by
 refine wpList_plain hgd fun K hK=>?_
 obtain⟨v',w',hr,h2,h3,h4⟩:=run_append_own_string (P:=P) w base t u o.type e i ht hu hi hz hsize hby v n xs hown s h63 hbytes hbase
 have h5:=zmt w base t u o.type e i ht hu hi hz hsize hby v n xs hown s hbytes hr h4
 unfold Oper.wp execOp
 simp only[ho,resolve,invoke,builtin,Sem.run_bind,Sem.run_pure,Result.andThen_ok,List.map_toArray,List.map_cons,List.map_nil,hs,hx,hr]
 exact hK _ _ (h v' w' h2 h3 h5)
end
structure BFrame (b:Nat) (v:Value) (w w':World):Prop where
 os:w'.os=w.os
 tape:w'.tape=w.tape
 output:w'.output=w.output
 size:w.heap.size≤w'.heap.size
 block: ∀k,k<w.heap.size→k≠b→some k≠v.ownBlock→w'.heap[k]?=w.heap[k]?
theorem zmv (b:Nat) (p v:Value) (w:World) (hp:p=.pointer none∨p=.pointer (some ⟨b,0,none⟩)) (hbk:w.heap[b]?=some (.cells #[p,v] 80 (0,0))):
  Calls Tryz.prog 90 #[.pointer (some ⟨b,0,none⟩)] w fun e w'=>e=.returned (.tuple #[])∧w'.heap[b]?=some (.cells #[.pointer (some ⟨b,0,none⟩),v] 80 (0,0))∧w'.os=w.os∧w'.tape=w.tape∧w'.output=w.output∧w'.heap.size=w.heap.size∧ ∀k,k≠b→w'.heap[k]?=w.heap[k]?:=by
 rcases hp with rfl|rfl
 ·refine(bE b w (by rw[Lib.cell_of_heap hbk];rfl) (by simp[World.shape?,hbk]) (Lib.frozen_of_heap hbk 0)).mono ?_
  rintro e w' ⟨rfl,rfl⟩
  refine⟨rfl,?_,rfl,rfl,rfl,by simp[World.setCell],fun k hk=>Below.heap_setCell _ _ _ k hk⟩
  simp[World.setCell,Array.getElem?_modify,hbk]
 ·refine(zhA b w (by rw[Lib.cell_of_heap hbk];rfl)).mono ?_
  rintro e w' ⟨rfl,rfl⟩
  exact⟨rfl,hbk,rfl,rfl,rfl,rfl,fun _ _=>rfl⟩
theorem zmw {w:World} {b:Nat} {o:Obj} (h:w.heap[b]?=some o):b<w.heap.size:=(Array.getElem?_eq_some_iff.1 h).1
theorem zmx (b:Nat) (p v:Value) (l x:List UInt8) (w:World) (hp:p=.pointer none∨p=.pointer (some ⟨b,0,none⟩)) (hbk:w.heap[b]?=some (.cells #[p,v] 80 (0,0)))
  (hown:w.ownsRow 0 5 1 v l.length (Lib.byteCells l)) (hne:v.ownBlock≠some b) (hlen:l.length+x.length≤140737488355328):
  Calls Tryz.prog 48 #[.pointer (some ⟨b,0,none⟩),.string ⟨x.toArray⟩] w fun e w'=> ∃v',e=.returned (.tuple #[.int .i64 x.length,.nilIface])∧w'.heap[b]?=some (.cells #[.pointer (some ⟨b,0,none⟩),v'] 80 (0,0))∧
   w'.ownsRow 0 5 1 v' (l++x).length (Lib.byteCells (l++x))∧v'.ownBlock≠some b∧(v'.ownBlock=v.ownBlock∨v'.ownBlock=some w.heap.size)∧BFrame b v w w':=by
 have hsz:(⟨x.toArray⟩:ByteArray).size=x.length:=by show x.toArray.size=_;simp
 obtain⟨i0,hi,hz0,hz1,hz2⟩:=info_parts Tryz.bx169.infoByte
 have cc:=zmv b p v w hp hbk
 have hlt:=zmw hbk
 go_enter Tryz.func48,Tryz.ntmps48
 go_wp2_with (go_at_call 90;refine cc.mono ?_)
 rintro e w1 ⟨rfl,hb1,ho1,ht1,hu1,hs1,hk1⟩
 have hown1:w1.ownsRow 0 5 1 v l.length (Lib.byteCells l):=by
  refine⟨hown.1,?_⟩
  rcases hown.2 with h|⟨g,cap,cur,h1,h2,h3,h4⟩
  ·exact .inl h
  ·exact .inr ⟨g,cap,cur,h1,h2,by rw[hk1 g (fun e=>hne (by rw[h1,e];rfl))];exact h3,h4⟩
 have c0:w1.cell? ⟨b,0,none⟩=some (.pointer (some ⟨b,0,none⟩)):=by rw[Lib.cell_of_heap hb1];rfl
 have c1:w1.cell? ⟨b,1,none⟩=some v:=by rw[Lib.cell_of_heap hb1];rfl
 go_wp2_with (at_builtin;refine zmu _ rfl _ _ 78 9 rfl 0 5 i0 Tryz.underlying78 Tryz.underlying9 hi hz0 hz1 hz2 _ _ _ rfl hown1 ⟨x.toArray⟩ rfl ?c3 ?c4 (Nat.zero_le _) ?_)
 case c3=>rw[hsz];unfold maxLen;omega
 case c4=>rw[hsz];omega
 intro v' w2 hown' hgrow hat
 have hlt1:b<w1.heap.size:=by rw[hs1];exact hlt
 have hb2:w2.heap[b]?=some (.cells #[.pointer (some ⟨b,0,none⟩),v] 80 (0,0)):=by
  rw[hgrow.block b hlt1 (fun e=>hne e.symm)]
  exact hb1
 have hne':v'.ownBlock≠some b:=by
  rcases hat with h|h
  ·rw[h];exact hne
  ·rw[h];exact fun e=>by cases e;omega
 have d0:w2.cell? ⟨b,0,none⟩=some (.pointer (some ⟨b,0,none⟩)):=by rw[Lib.cell_of_heap hb2];rfl
 have d1:w2.cell? ⟨b,1,none⟩=some v:=by rw[Lib.cell_of_heap hb2];rfl
 have f1:w2.frozen? ⟨b,1,none⟩=false:=Lib.frozen_of_heap hb2 1
 have hD:Aside (v'.ownBlock=v.ownBlock∨v'.ownBlock=some w.heap.size):=hat
 clear hat
 obtain⟨ao,n',cap,rfl⟩: ∃ao n' cap,v'=.slice ao n' cap:=by
  rcases hown'.2 with⟨hv,_⟩|⟨g,cap,cur,hv,_⟩
  ·exact⟨_,_,_,hv⟩
  ·exact⟨_,_,_,hv⟩
 go_wp2
 go_ret2
 have hb3:(w2.setCell ⟨b,1,none⟩ (.slice ao n' cap)).heap[b]?=some (.cells #[.pointer (some ⟨b,0,none⟩),.slice ao n' cap] 80 (0,0)):=by
  simp[World.setCell,Array.getElem?_modify,hb2]
 have hcells:Lib.byteCells l++strCells ⟨x.toArray⟩=Lib.byteCells (l++x):=by rw[Lib.byteCells_append];rfl
 refine⟨_,rfl,hb3,?_,hne',hD.out,⟨?_,?_,?_,?_,?_⟩⟩
 ·rw[hcells,←List.length_append] at hown'
  refine⟨hown'.1,?_⟩
  rcases hown'.2 with h|⟨g,cap',cur,h1,h2,h3,h4⟩
  ·exact .inl h
  ·exact .inr ⟨g,cap',cur,h1,h2,by rw[Below.heap_setCell _ _ _ g (fun e=>hne' (by rw[h1,e];rfl))];exact h3,h4⟩
 ·exact hgrow.os.trans ho1
 ·exact hgrow.tape.trans ht1
 ·exact hgrow.output.trans hu1
 ·have:=hgrow.size;simp[World.setCell];omega
 ·intro k hk hkb hkv
  rw[Below.heap_setCell _ _ _ k hkb,hgrow.block k (by rw[hs1];exact hk) (fun e=>hkv e),hk1 k hkb]
theorem zmy (b:Nat) (p v:Value) (l:List UInt8) (w:World) (h0:l≠[]) (hbk:w.heap[b]?=some (.cells #[p,v] 80 (0,0))) (hown:w.ownsRow 0 5 1 v l.length (Lib.byteCells l)):
  Calls Tryz.prog 55 #[.pointer (some ⟨b,0,none⟩)] w fun e w'=>e=.returned (.string ⟨l.toArray⟩)∧BFrame b v w w':=by
 have hl0:l.length≠0:=by simpa using h0
 obtain⟨g,cap,cur,rfl,hbg,hg,hnc,hcm,hcs,htake⟩: ∃g cap cur,v=.slice (some ⟨g,0,none⟩) l.length cap∧0≤g∧w.heap[g]?=some (.cells cur 5 (0,0))∧l.length≤cap∧cap≤maxLen∧cur.size=cap*1∧cur.toList.take (l.length*1)=Lib.byteCells l:=by
  rcases hown.2 with⟨_,hz⟩|⟨g,cap,cur,hv,r⟩
  ·exact absurd hz hl0
  ·exact⟨g,cap,cur,hv,r⟩
 have c1:w.drew.cell? ⟨b,1,none⟩=some (.slice (some ⟨g,0,none⟩) l.length cap):=by
  have:w.drew.heap[b]?=some (.cells #[p,.slice (some ⟨g,0,none⟩) l.length cap] 80 (0,0)):=hbk
  rw[Lib.cell_of_heap this];rfl
 have hSD:(Builtin.unsafeSliceData_ #[78] 120 #[.slice (some ⟨g,0,none⟩) l.length cap]).run Tryz.prog w.drew=.ok (.pointer (some ⟨g,0,none⟩)) w.drew:=
  Lib.run_unsafeSliceData_row _ _ _ _ _ _ (by omega)
 have hUS:(Builtin.unsafeString_ #[120,3] 9 #[.pointer (some ⟨g,0,none⟩),.int .i64 l.length]).run Tryz.prog w.drew=.ok (.string ⟨l.toArray⟩) (w.drew.freeze ⟨g,0,none⟩ l.length):=by
  refine Lib.run_unsafeString_row w.drew 120 3 9 5 Tryz.underlying120 Tryz.bx169.cellsByte g cur.size (by have hg':w.drew.heap[g]?=some (.cells cur 5 (0,0)):=hg;simp[World.shape?,hg']) l h0 (by omega) (by unfold maxLen at hcm;omega) ?_
  intro j x hx
  have:=hown.cells (g:=g) rfl j (.int .u8 x.toNat) (by simp[Lib.byteCells,hx])
  exact this
 have hF:BFrame b (.slice (some ⟨g,0,none⟩) l.length cap) w (w.drew.freeze ⟨g,0,none⟩ l.length):=by
  have hh: ∀k,k≠g→(w.drew.freeze ⟨g,0,none⟩ l.length).heap[k]?=w.heap[k]?:=fun k hk=>by
   unfold World.freeze
   rw[if_neg hl0]
   show(w.heap.modify g _)[k]?=w.heap[k]?
   rw[Array.getElem?_modify,if_neg (fun e=>hk e.symm)]
  refine⟨?_,?_,?_,?_,fun k _ _ hkv=>hh k (fun e=>hkv (by rw[e];rfl))⟩
  ·unfold World.freeze;rw[if_neg hl0];rfl
  ·unfold World.freeze;rw[if_neg hl0];rfl
  ·unfold World.freeze;rw[if_neg hl0];rfl
  ·unfold World.freeze;rw[if_neg hl0];show w.heap.size≤(w.heap.modify g _).size;simp
 have mixed:=Tryz.laysString.mixed
 go_enter Tryz.func55,Tryz.ntmps55
 go_wp2
 go_region_o
 all_goals (go_wp2;go_ret;exact⟨rfl,hF⟩)
end Go.Proofs
set_option maxRecDepth 100000
set_option maxHeartbeats 4000000
namespace Go.Abs
open Go.Proofs Go.RowKit Go.Lib
def bts (l:Txt):List (List C):=l.map fun c=>[.int .u8 (c.toNat:Int)]
theorem iL (l:Txt):(bts l).length=l.length:=by simp[bts]
theorem lB (l:Txt):C.normRows (bts l)=bts l:=vN (fun _=>rfl) l
def bO (a:K) (l:Txt):OS:=[(7,.var 80 [a,.own 18007]),(18007,.arr 5 1 none (bts l))]
def bT:List Nat:=[7,18007]
def fresh (a:K):Prop:=a=.c .nilp∨a=.ptr 7 0
theorem tZ (a:K) (l:Txt):zV bT (bO a l) 7=some (.var 80 [a,.own 18007]):=rfl
theorem pB (a:K) (l:Txt):zV bT (bO a l) 18007=some (.arr 5 1 none (bts l)):=rfl
theorem zmz (a:K) (l:Txt) {s:Nat} (h1:s≠7) (h2:s≠18007):zV bT (bO a l) s=none:=by
 simp[zV,zY,bT,h1,h2]
theorem iM {a:K} {l:Txt} {s:Nat} (h:zV bT (bO a l) s≠none):s=7∨s=18007:=by
 by_cases h1:s=7
 ·exact .inl h1
 ·by_cases h2:s=18007
  ·exact .inr h2
  ·exact absurd (zmz a l h1 h2) h
theorem zmA {l:Txt} {i j:Nat} {r:List C} {c:C} (hr:(bts l)[i]?=some r) (hc:r[j]?=some c):j=0∧ ∃x,l[i]?=some x∧c=.int .u8 (x.toNat:Int):=by
 rw[bts,List.getElem?_map] at hr
 cases hx:l[i]? with
 |none=>rw[hx] at hr;cases hr
 |some x=>
  rw[hx] at hr
  cases hr
  cases j with
  |zero=>cases hc;exact⟨rfl,x,rfl,rfl⟩
  |succ j=>simp at hc
theorem zh4 {w0:Base} {Z0:Bk→Prop} {κ:Kap} {w:World} {vs:Array Value} {t:Nat→V} {a:K} {l:Txt} (ha:fresh a) (hi:Inv w0 Z0 κ ⟨t,zV bT (bO a l)⟩ vs w):
  ∃b p v,κ 7=some b∧w.heap[b]?=some (.cells #[p,v] 80 (0,0))∧(p=.pointer none∨p=.pointer (some ⟨b,0,none⟩))∧w.ownsRow 0 5 1 v l.length (Lib.byteCells l)∧v.ownBlock≠some b∧v.ownBlock=κ 18007:=by
 obtain⟨b,cur,hκ,hb,hlen,hel⟩:=hi.objs 7 _ (tZ a l)
 have hc2: ∃p v,cur= #[p,v]:=by
  obtain⟨cl⟩:=cur
  match cl,hlen with
  |[p,v],_=>exact⟨p,v,rfl⟩
 obtain⟨p,v,rfl⟩:=hc2
 have hp:=hel 0 a p rfl rfl
 have hv:=hel 1 (.own 18007) v rfl rfl
 have hp2:p=.pointer none∨p=.pointer (some ⟨b,0,none⟩):=by
  rcases ha with rfl|rfl
  ·have h2:PRep w (Zof w0 Z0 κ (zV bT (bO (.c .nilp) l)) w) .nilp p:=hp.2
   cases h2;exact .inl rfl
  ·obtain⟨b',h1,h2⟩:=hp.2 80 _ (tZ _ l)
   rw[show κ 7=some b from hκ] at h1
   cases h1
   exact .inr h2
 refine⟨b,p,v,hκ,hb,hp2,?_⟩
 have hA:=hi.objs 18007 _ (pB a l)
 have hvA:=hv.2 5 1 none (bts l) (pB a l)
 rcases hA with⟨hκA,hr,_⟩|⟨b2,cur2,cap,hκA,hb2,_,hcs,hlc,hcm,_,hall,hcell⟩
 ·have hl:l=[]:=by simpa [bts] using hr
  subst hl
  rcases hvA with⟨_,rfl⟩|⟨b',_,_,h1,_⟩
  ·exact⟨⟨rfl,.inl ⟨rfl,rfl⟩⟩,by simp[Value.ownBlock],by rw[hκA];rfl⟩
  ·rw[hκA] at h1;cases h1
 ·rcases hvA with⟨h1,_⟩|⟨b',cur',cap',h1,h2,h3,rfl⟩
  ·rw[hκA] at h1;cases h1
  ·rw[hκA] at h1;cases h1
   rw[hb2] at h2;cases h2
   have hcap:cap'=cap:=by omega
   subst hcap
   rw[iL] at hlc
   refine⟨⟨by rw[Lib.byteCells_length];omega,.inr ⟨b2,cap',cur2,by rw[iL],Nat.zero_le _,hb2,hlc,hcm,hcs,?_⟩⟩,?_,by rw[hκA];rfl⟩
   ·apply List.ext_getElem?
    intro j
    rw[Nat.mul_one,List.getElem?_take]
    by_cases hj:j<l.length
    ·rw[if_pos hj]
     obtain⟨u,hu,hpr⟩:=hcell j 0 [.int .u8 (l[j].toNat:Int)] (.int .u8 (l[j].toNat:Int)) (by simp[bts,hj]) rfl
     rw[Nat.mul_one,Nat.add_zero] at hu
     rw[Array.getElem?_toList,hu]
     cases hpr
     simp[Lib.byteCells,hj]
    ·rw[if_neg hj,List.getElem?_eq_none (by rw[Lib.byteCells_length];omega)]
   ·intro e
    have he:b2=b:=by simpa [Value.ownBlock] using e
    have:=hi.inj 7 18007 b (by show zV bT (bO a l) 7≠none;rw[tZ];simp) (by show zV bT (bO a l) 18007≠none;rw[pB];simp) hκ (by rw[hκA,he])
    cases this
theorem zmB {w0:Base} {Z0:Bk→Prop} {κ:Kap} {w w':World} {vs:Array Value} {t:Nat→V} {a:K} {l l':Txt} {b:Nat} {v v' res:Value} {r:V} (hi:Inv w0 Z0 κ ⟨t,zV bT (bO a l)⟩ vs w)
  (hκ:κ 7=some b) (hvκ:v.ownBlock=κ 18007) (hb':w'.heap[b]?=some (.cells #[.pointer (some ⟨b,0,none⟩),v'] 80 (0,0)))
  (hown:w'.ownsRow 0 5 1 v' l'.length (Lib.byteCells l')) (hne:v'.ownBlock≠some b) (hat:v'.ownBlock=v.ownBlock∨v'.ownBlock=some w.heap.size) (hF:BFrame b v w w')
  (hr: ∀κ o Z,zF w' Z κ o r res):
  Inv w0 Z0 (fun s=>if s=18007 then v'.ownBlock else κ s) ⟨fun s=>if s=0 then r else .any,zV bT (bO (.ptr 7 0) l')⟩ #[res] w':=by
 have h7:zV bT (bO a l) 7≠none:=by rw[tZ];simp
 have hA:zV bT (bO a l) 18007≠none:=by rw[pB];simp
 have hb:=hi.own 7 b h7 hκ
 have hnew: ∀j,v'.ownBlock=some j→ ¬w0.B j∧j<w'.heap.size:=fun j hj=>by
  have hlt:j<w'.heap.size:=(hown.lt j hj).2
  refine⟨?_,hlt⟩
  rcases hat with h|h
  ·rw[hj,hvκ] at h
   exact(hi.own 18007 j hA h.symm).1
  ·rw[hj] at h
   cases h
   exact fun hB=>by have:=w0.lt _ hB;have:=hi.kept.size;omega
 refine⟨⟨hF.os.trans hi.kept.os,hF.tape.trans hi.kept.tape,hF.output.trans hi.kept.output,Nat.le_trans hi.kept.size hF.size,fun k hk=>?_⟩,hi.glob,?_,?_,?_,?_⟩
 ·have h1:=w0.lt k hk
  have h2:=hi.kept.size
  rw[hF.block k (by omega) (fun e=>hb.1 (e▸hk)) (fun e=>?_)]
  ·exact hi.kept.block k hk
  ·rw[hvκ] at e
   exact(hi.own 18007 k hA e.symm).1 hk
 ·intro τ j hτ hj
  rcases iM hτ with rfl|rfl
  ·have hj':κ 7=some j:=hj
   rw[hκ] at hj';cases hj'
   exact⟨hb.1,Nat.lt_of_lt_of_le hb.2 hF.size⟩
  ·exact hnew j (by simpa using hj)
 ·intro τ τ' j hτ hτ' hj hj'
  rcases iM hτ with rfl|rfl<;>rcases iM hτ' with rfl|rfl
  ·rfl
  ·have h1:κ 7=some j:=hj
   rw[hκ] at h1;cases h1
   exact absurd (by simpa using hj') hne
  ·have h1:κ 7=some j:=hj'
   rw[hκ] at h1;cases h1
   exact absurd (by simpa using hj) hne
  ·rfl
 ·intro τ ob hob
  have hτ:zV bT (bO (.ptr 7 0) l') τ≠none:=by
   have:zV bT (bO (.ptr 7 0) l') τ=some ob:=hob
   rw[this];simp
  rcases iM hτ with rfl|rfl
  ·have:some ob=some (.var 80 [.ptr 7 0,.own 18007]):=hob.symm.trans (tZ (.ptr 7 0) l')
   cases this
   refine⟨b,#[.pointer (some ⟨b,0,none⟩),v'],hκ,hb',rfl,fun j k u hk hu=>?_⟩
   match j with
   |0=>
    cases hk;cases hu
    exact⟨rfl,fun e row h=>⟨b,hκ,rfl⟩⟩
   |1=>
    cases hk;cases hu
    refine⟨?_,fun e sz nl rows h=>?_⟩
    ·rcases hown.2 with⟨rfl,_⟩|⟨g,cap,cur,rfl,_⟩<;>rfl
    ·have h2:some (O.arr e sz nl rows)=some (.arr 5 1 none (bts l')):=h.symm.trans (pB (.ptr 7 0) l')
     cases h2
     rcases hown.2 with⟨rfl,_⟩|⟨g,cap,cur,rfl,_,h3,_,_,h4,_⟩
     ·exact .inl ⟨by simp[Value.ownBlock],rfl⟩
     ·exact .inr ⟨g,cur,cap,by simp[Value.ownBlock],h3,h4,by rw[iL]⟩
   |j+2=>simp at hk
  ·have:some ob=some (.arr 5 1 none (bts l')):=hob.symm.trans (pB (.ptr 7 0) l')
   cases this
   rcases hown.2 with⟨rfl,h0⟩|⟨g,cap,cur,rfl,_,h3,h5,h6,h4,h7⟩
   ·exact .inl ⟨by simp[Value.ownBlock],by rw[List.eq_nil_of_length_eq_zero h0];rfl,by simp⟩
   ·refine .inr ⟨g,cur,cap,by simp[Value.ownBlock],h3,by decide,h4,by rw[iL];exact h5,h6,by simp,fun r hr=>?_,fun i j r c hr hc=>?_⟩
    ·obtain⟨x,_,rfl⟩:=List.mem_map.1 hr;rfl
    ·obtain⟨rfl,x,hx,rfl⟩:=zmA hr hc
     refine⟨.int .u8 (x.toNat:Int),?_,.int _ _⟩
     have hil:i<l'.length:=(List.getElem?_eq_some_iff.1 hx).1
     have h8:(cur.toList.take (l'.length*1))[i]?=(Lib.byteCells l')[i]?:=by rw[h7]
     rw[List.getElem?_take,if_pos (by omega),Array.getElem?_toList] at h8
     rw[Nat.mul_one,Nat.add_zero,h8]
     simp[Lib.byteCells,hx]
 ·intro s
  by_cases hs:s=0
  ·subst hs;exact hr _ _ _
  ·simp only[hs,if_false];trivial
theorem zmC {vs:Array Value} (h:vs.size=2): ∃x y,vs= #[x,y]:=by
 obtain⟨l⟩:=vs
 match l,h with
 |[x,y],_=>exact⟨x,y,rfl⟩
theorem s48 (a:K) (ha:fresh a) (l x:Txt) (hlen:l.length+x.length≤140737488355328):
  xU Tryz.prog 48 [.k (.ptr 7 0),.str x] (zV bT (bO a l)) [7] (fun r o'=>r=.tup [.int .i64 x.length,.any]∧o'=zV bT (bO (.ptr 7 0) (l++x))):=by
 refine⟨rR (by kernel_rfl),fun w0 Z0 κ w vs hsz hi=>?_⟩
 obtain⟨v0,v1,rfl⟩:=zmC hsz
 obtain⟨b,p,v,hκ,hbk,hp,hown,hne,hvκ⟩:=zh4 ha hi
 have e0:v0=.pointer (some ⟨b,0,none⟩):=by
  have h:=hi.tmps 0
  have h2:yJ w (Zof w0 Z0 κ (zV bT (bO a l)) w) κ (zV bT (bO a l)) (.ptr 7 0) v0:=h.2
  obtain⟨b',h3,h4⟩:=h2 80 _ (tZ a l)
  rw[hκ] at h3;cases h3;exact h4
 have e1:v1=.string ⟨x.toArray⟩:=by
  have h:=hi.tmps 1
  exact vD h.2
 subst e0 e1
 refine(zmx b p v l x w hp hbk hown hne hlen).mono ?_
 rintro e w' ⟨v',rfl,hb',hown',hne',hat,hF⟩
 refine⟨_,_,_,_,rfl,⟨rfl,rfl⟩,?_,zmB hi hκ hvκ hb' hown' hne' hat hF (fun κ o Z=>⟨_,rfl,rfl,⟨rfl,.int _ _⟩,trivial,trivial⟩)⟩
 intro τ hτ
 rw[List.mem_singleton] at hτ
 subst hτ
 refine⟨by rw[tZ,tZ];rfl,by simp,fun _ b2 hb2 cur e f hc=>?_⟩
 rw[hκ] at hb2;cases hb2
 rw[hbk] at hc;cases hc
 exact⟨_,hb',rfl⟩
theorem zmD {vs:Array Value} (h:vs.size=1): ∃x,vs= #[x]:=by
 obtain⟨l⟩:=vs
 match l,h with
 |[x],_=>exact⟨x,rfl⟩
theorem s55 (a:K) (ha:fresh a) (l:Txt) (hl:l≠[]):xU Tryz.prog 55 [.k (.ptr 7 0)] (zV bT (bO a l)) [] (fun r o'=>r=.str l∧o'=fun _=>none):=by
 refine⟨rR (by kernel_rfl),fun w0 Z0 κ w vs hsz hi=>?_⟩
 obtain⟨v0,rfl⟩:=zmD hsz
 obtain⟨b,p,v,hκ,hbk,hp,hown,hne,hvκ⟩:=zh4 ha hi
 have e0:v0=.pointer (some ⟨b,0,none⟩):=by
  have h:=hi.tmps 0
  have h2:yJ w (Zof w0 Z0 κ (zV bT (bO a l)) w) κ (zV bT (bO a l)) (.ptr 7 0) v0:=h.2
  obtain⟨b',h3,h4⟩:=h2 80 _ (tZ a l)
  rw[hκ] at h3;cases h3;exact h4
 subst e0
 refine(zmy b p v l w hl hbk hown).mono ?_
 rintro e w' ⟨rfl,hF⟩
 have h7:zV bT (bO a l) 7≠none:=by rw[tZ];simp
 have hA:zV bT (bO a l) 18007≠none:=by rw[pB];simp
 have hb:=hi.own 7 b h7 hκ
 refine⟨_,fun _=>none,_,_,rfl,⟨rfl,rfl⟩,fun τ hτ=>absurd hτ (by simp),⟨⟨hF.os.trans hi.kept.os,hF.tape.trans hi.kept.tape,hF.output.trans hi.kept.output,Nat.le_trans hi.kept.size hF.size,fun k hk=>?_⟩,hi.glob,fun τ j h _=>absurd rfl h,fun τ τ' j h=>absurd rfl h,fun τ ob h=>(by cases h),fun s=>?_⟩⟩
 ·have h1:=w0.lt k hk
  have h2:=hi.kept.size
  rw[hF.block k (by omega) (fun e=>hb.1 (e▸hk)) (fun e=>?_)]
  ·exact hi.kept.block k hk
  ·rw[hvκ] at e
   exact(hi.own 18007 k hA e.symm).1 hk
 ·by_cases hs:s=0
  ·subst hs;exact⟨rfl,.str _⟩
  ·simp only[hs,if_false];trivial
theorem aG {a:K} (ha:fresh a) {l:Txt} {τ:Nat} (hτ:τ∈bT) {ob:O} (h:lookO τ (bO a l)=some ob):ob.within bT=true:=by
 simp only[bT,List.mem_cons,List.not_mem_nil,or_false] at hτ
 rcases hτ with rfl|rfl
 ·cases h
  rcases ha with rfl|rfl<;>rfl
 ·cases h;rfl
theorem zmE (a:K) (ha:fresh a) (l:Txt) (ws:List Txt):
  xU Tryz.prog 47 [.bool false,lst 1 (zE ws),.k (.ptr 7 0)] (zV bT (bO a l)) [7] (fun r o'=>r=.tup []∧o'=zV bT (bO a l)):=by
 refine xU.of_awl (anchors:=[(2,7)]) hf47 okf47 (by simp) (by rfl) (by simp[bO,bT]) ?_
 simp only[bO,Qs,forall_eq,List.mem_cons,Nat.reduceAdd,Nat.reduceBEq,List.not_mem_nil,zgP,zgQ,Q47]
 have e: ∀s,s∈bT→lookO s [(7,O.var 80 [a.nrm,K.own 18007]),(18007,O.arr 5 1 none (C.normRows (bts l)))]=lookO s (bO a l):=by
  rw[lB]
  rcases ha with rfl|rfl<;>(intro s _;rfl)
 have hT:(zY bT fun s=>lookO s [(7,O.var 80 [a.nrm,K.own 18007]),(18007,O.arr 5 1 none (C.normRows (bts l)))])=zV bT (bO a l):=zb7 e
 refine⟨hT,rfl,fun τ hτ ob hob=>?_,?_,by simp[bT]⟩
 ·rw[e τ hτ] at hob
  exact aG ha hτ hob
 ·rcases ha with rfl|rfl<;>rfl
theorem s47 (a:K) (ha:fresh a) (l:Txt) (ws:List Txt) (hn:ws.length≤1000) (hlen:zL ws≤1000000) (hl:l.length≤10000000):
  xU Tryz.prog 47 [.bool true,lst 1 (zE ws),.k (.ptr 7 0)] (zV bT (bO a l)) [7] (fun r o'=>r=.tup []∧o'=zV bT (bO (.ptr 7 0) (l++(joinS [32] ws++[10])))):=by
 have hj:=bF [32] ws
 have hj2:(joinS [32] ws).length≤1001000:=by simp at hj;omega
 refine xU.of_awl (anchors:=[(2,7)]) hf47 okf47 (by simp) (by rfl) (by simp[bO,bT]) ?_
 have g49:=c49 ws [32] hn (by decide) (by decide) hlen
 have g48:=s48 a ha l (joinS [32] ws++[10]) (by simp only[List.length_append,List.length_cons,List.length_nil];omega)
 simp only[yT,Qs,Nat.reduceAdd,Nat.reduceBEq,Q47]
 refine zC g49 ?_ (ha:=by simp[zD,V.norm,zW,lst,yT])
 simp only[Qs,Nat.reduceLeDiff,Nat.reduceBEq]
 refine⟨by omega,?_⟩
 refine .inr (.inl (zb8 (dead:=[18007]) g48 ?_ (by simp[V.within,Abs.K.within,bT]) rfl (by simp[bT]) (by simp[V.nrm,Abs.K.nrm]) ?_ ?_ ?_ ?_ (by rfl)))
 ·simp only[Qs,zku,zky,forall_eq,List.mem_cons,Nat.reduceEqDiff,Nat.reduceBEq,List.not_mem_nil,zgP,zgQ]
  have e: ∀s,s∈bT→lookO s (mapO O.nrm (bO (K.ptr 7 0) (l++(joinS [32] ws++[10]))++mapO (O.scrubs [18007]) (bO a l)))=lookO s (bO (K.ptr 7 0) (l++(joinS [32] ws++[10]))):=by
   intro s hs
   simp only[bT,List.mem_cons,List.not_mem_nil,or_false] at hs
   rcases hs with rfl|rfl
   ·rfl
   ·show some (O.arr 5 1 none (C.normRows (bts (l++(joinS [32] ws++[10])))))=_
    rw[lB];rfl
  have hT:(zY bT fun s=>lookO s (mapO O.nrm (bO (K.ptr 7 0) (l++(joinS [32] ws++[10]))++mapO (O.scrubs [18007]) (bO a l))))=zV bT (bO (K.ptr 7 0) (l++(joinS [32] ws++[10]))):=zb7 e
  refine⟨hT,rfl,fun τ hτ ob hob=>?_,?_,by simp[bT]⟩
  ·rw[e τ hτ] at hob
   exact aG (.inr rfl) hτ hob
  ·rw[e 7 (by simp[bT])];rfl
 ·intro τ hτ ob hob
  exact aG ha hτ hob
 ·intro s hs
  simp only[bT,List.mem_cons,List.not_mem_nil,or_false] at hs
  rcases hs with rfl|rfl
  ·rcases ha with rfl|rfl<;>rfl
  ·show some (O.arr 5 1 none (C.normRows (bts l)))=_
   rw[lB];rfl
 ·intro s hs
  simp only[bT,List.mem_cons,List.not_mem_nil,or_false] at hs
  rcases hs with rfl|rfl<;>rfl
 ·intro p hp
  simp only[bO,List.mem_cons,List.not_mem_nil,or_false] at hp
  rcases hp with rfl|rfl<;>exact⟨by simp[bT],rfl⟩
end Go.Abs
set_option maxRecDepth 10000
namespace Go.Wd
open Go.Lib Go.Wire
theorem zmF (n:Int) (h0:0≤n) (h:n≤9223372036854775807):dec n≠[111,110]:=zk3 h0 (fun v h=>by have e:(match atoiAll [111,110] with| .ok _=>true|_=>false)=false:=rfl;rw[h] at e;cases e) h
theorem iN (C:Cal) {x u f:Txt} (hx:x≠[111,110]) (hu:u≠[117,115,97,110,99,101]):whenP C [[112,97,121],x,u,[97,102,116,101,114],f]=⟨if f=[100,97,116,101] then 2 else 1,numberP x,if u=[109,111,110,116,104,115] then 1 else 0⟩:=by
 have w1:wd [[112,97,121],x,u,[97,102,116,101,114],f] 1=x:=rfl
 have w2:wd [[112,97,121],x,u,[97,102,116,101,114],f] 2=u:=rfl
 have w3:wd [[112,97,121],x,u,[97,102,116,101,114],f] 3=[97,102,116,101,114]:=rfl
 have w4:wd [[112,97,121],x,u,[97,102,116,101,114],f] 4=f:=rfl
 unfold whenP
 rw[w1,w2,w3,w4,if_neg hx,if_neg hu,if_pos rfl]
theorem zmG {C:Cal} (hC:CalOk C) {te:Ten} {da:Int} (h0:0≤da) (h:wB te da):whenP C (wP C te)=te:=by
 obtain⟨k,n,u⟩:=te
 rcases h with⟨h1,h2,h3⟩|⟨h1,h2,h3,h4⟩|⟨h1,h2,h3,h4⟩
 ·simp only at h1 h2 h3
  subst h2;subst h3
  rcases h1 with rfl|rfl<;>rfl
 ·simp only at h1 h2 h3 h4
  have e1:=zmF n (by omega) (by omega)
  have e2:=rM (n:=n) (by omega) (by omega)
  rcases h1 with rfl|rfl<;>rcases h4 with rfl|rfl
  ·exact(iN C (u:=[100,97,121,115]) (f:=[115,105,103,104,116]) e1 (by decide)).trans (by rw[e2];rfl)
  ·exact(iN C (u:=[109,111,110,116,104,115]) (f:=[115,105,103,104,116]) e1 (by decide)).trans (by rw[e2];rfl)
  ·exact(iN C (u:=[100,97,121,115]) (f:=[100,97,116,101]) e1 (by decide)).trans (by rw[e2];rfl)
  ·exact(iN C (u:=[109,111,110,116,104,115]) (f:=[100,97,116,101]) e1 (by decide)).trans (by rw[e2];rfl)
 ·simp only at h1 h2 h3 h4
  subst h1;subst h4
  show Ten.mk 3 (sH C (wG C n)) 0=_
  rw[zhi hC (by omega) h3]
theorem zmH {fl:Int} (h0:0≤fl) (h:fl≤7):(if bit 1 fl=true then(1:Int) else 0)+(if bit 2 fl=true then 2 else 0)+(if bit 4 fl=true then 4 else 0)=fl:=by
 have:fl=0∨fl=1∨fl=2∨fl=3∨fl=4∨fl=5∨fl=6∨fl=7:=by omega
 rcases this with rfl|rfl|rfl|rfl|rfl|rfl|rfl|rfl<;>decide
theorem zmI (N:Nms) (hN:NmsOk N) (b:Bil) (hdr:inR N.fi b.dr) (hne:b.ne= -1∨inR N.fi b.ne) (ow:List Txt) (one:Bool):
  restP N ((if one=true then[[117,110,108,101,115,115]::[112,97,114,116]::ow] else[])
   ++((if b.ne= -1 then[] else[[[105,110],[110,101,101,100],[97,115,107],nm N.fi b.ne]])
   ++((if bit 2 b.fl=true then[[[119,105,116,104,111,117,116],[112,114,111,116,101,115,116]]] else[])++[[[115,105,103,110,101,100],nm N.fi b.dr]]))) ⟨-1,false,0⟩=⟨b.ne,bit 2 b.fl,b.dr⟩:=by
 have e1:fstI N.fi (wd [[115,105,103,110,101,100],nm N.fi b.dr] 1)=b.dr:=oT hN.fi.2 hdr
 have e2: ∀x y z,restP N [[[115,105,103,110,101,100],nm N.fi b.dr]] ⟨x,y,z⟩=⟨x,y,b.dr⟩:=fun x y z=>by
  show Lst.mk x y (fstI N.fi (wd [[115,105,103,110,101,100],nm N.fi b.dr] 1))=_
  rw[e1]
 have e3: ∀x z,restP N ((if bit 2 b.fl=true then[[[119,105,116,104,111,117,116],[112,114,111,116,101,115,116]]] else[])++[[[115,105,103,110,101,100],nm N.fi b.dr]]) ⟨x,false,z⟩=⟨x,bit 2 b.fl,b.dr⟩:=fun x z=>by
  cases bit 2 b.fl with
  |false=>exact e2 x false z
  |true=>exact e2 x true z
 have e4: ∀z,restP N ((if b.ne= -1 then[] else[[[105,110],[110,101,101,100],[97,115,107],nm N.fi b.ne]])++((if bit 2 b.fl=true then[[[119,105,116,104,111,117,116],[112,114,111,116,101,115,116]]] else[])++[[[115,105,103,110,101,100],nm N.fi b.dr]])) ⟨-1,false,z⟩=⟨b.ne,bit 2 b.fl,b.dr⟩:=fun z=>by
  by_cases hn:b.ne= -1
  ·rw[if_pos hn,List.nil_append,e3,hn]
  ·have hi:inR N.fi b.ne:=hne.resolve_left hn
   rw[if_neg hn]
   exact(e3 (fstI N.fi (nm N.fi b.ne)) z).trans (by rw[oT hN.fi.2 hi])
 cases one with
 |false=>exact e4 0
 |true=>exact e4 0
theorem zmJ {C:Cal} (hC:CalOk C) {N:Nms} (hN:NmsOk N) {b:Bil} (hb:BilOk N b) {p:Int} (hp0:0≤p) (hp:p<b.pt):xK C N (rows C N b p)=(b,p):=by
 have hpt:=hb.pt
 have hsu:=hb.su
 have hra:=hb.ra
 have d4:(rows C N b p).drop 6=(if b.pt>1 then[[117,110,108,101,115,115]::[112,97,114,116]::(vJ b.pt p++[[119,97,115],[112,97,105,100]])] else[])
   ++((if b.ne= -1 then[] else[[[105,110],[110,101,101,100],[97,115,107],nm N.fi b.ne]])
   ++((if bit 2 b.fl=true then[[[119,105,116,104,111,117,116],[112,114,111,116,101,115,116]]] else[])++[[[115,105,103,110,101,100],nm N.fi b.dr]])):=rfl
 have hr:=zmI N hN b hb.dr hb.ne (vJ b.pt p++[[119,97,115],[112,97,105,100]]) (decide (b.pt>1))
 simp only[decide_eq_true_eq] at hr
 have g0:(rows C N b p).getD 0 []=[if bit 1 b.fl=true then[98,105,108,108] else[112,97,112,101,114],dec (p+1),[111,102],dec b.pt]:=rfl
 have g1:(rows C N b p).getD 1 []=[[100,114,97,119,110],[105,110],nm N.ci b.ci,[111,110],wG C b.da]:=rfl
 have g2:(rows C N b p).getD 2 []=wP C b.te:=rfl
 have g3:(rows C N b p).getD 3 []=if b.pa= -1 then[[116,111],[98,101,97,114,101,114]] else if bit 4 b.fl=true then[[116,111],nm N.fi b.pa,[110,111,116],[116,111],[111,114,100,101,114]] else[[116,111],nm N.fi b.pa,[111,114],[111,114,100,101,114]]:=rfl
 have g4:(rows C N b p).getD 4 []=if b.ra=0 then[dec b.su,nm N.cu b.cu] else[dec b.su,nm N.cu b.cu,[119,105,116,104],[105,110,116,101,114,101,115,116],[97,116],dec b.ra,[112,101,114],[109,105,108,108,101]]:=rfl
 have g5:(rows C N b p).getD 5 []=[[116,111],[98,101],[112,97,105,100],[98,121],nm N.fi b.de,[105,110],nm N.ci b.py]:=rfl
 unfold xK
 simp only[]
 rw[g0,g1,g2,g3,g4,g5,d4,hr]
 have a1:decide (wd [if bit 1 b.fl=true then[98,105,108,108] else[112,97,112,101,114],dec (p+1),[111,102],dec b.pt] 0=[98,105,108,108])=bit 1 b.fl:=by
  cases bit 1 b.fl<;>rfl
 have a2:numberP (wd [if bit 1 b.fl=true then[98,105,108,108] else[112,97,112,101,114],dec (p+1),[111,102],dec b.pt] 3)=b.pt:=rM (by omega) (by omega)
 have a3:numberP (wd [if bit 1 b.fl=true then[98,105,108,108] else[112,97,112,101,114],dec (p+1),[111,102],dec b.pt] 1)=p+1:=rM (by omega) (by omega)
 have b1:fstI N.ci (wd [[100,114,97,119,110],[105,110],nm N.ci b.ci,[111,110],wG C b.da] 2)=b.ci:=oT hN.ci.2 hb.ci
 have b2:sH C (wd [[100,114,97,119,110],[105,110],nm N.ci b.ci,[111,110],wG C b.da] 4)=b.da:=zhi hC hb.da.1 hb.da.2
 have c1:whenP C (wP C b.te)=b.te:=zmG hC hb.da.1 hb.te
 have f1:fstI N.fi (wd [[116,111],[98,101],[112,97,105,100],[98,121],nm N.fi b.de,[105,110],nm N.ci b.py] 4)=b.de:=oT hN.fi.2 hb.de
 have f2:fstI N.ci (wd [[116,111],[98,101],[112,97,105,100],[98,121],nm N.fi b.de,[105,110],nm N.ci b.py] 6)=b.py:=oT hN.ci.2 hb.py
 have hmon: ∀q,q=(if b.ra=0 then[dec b.su,nm N.cu b.cu] else[dec b.su,nm N.cu b.cu,[119,105,116,104],[105,110,116,101,114,101,115,116],[97,116],dec b.ra,[112,101,114],[109,105,108,108,101]])→numberP (wd q 0)=b.su∧wQ N.cu (wd q 1) 0 (-1)=b.cu∧max 0 (numberP (wd q 5))=b.ra:=by
  rintro q rfl
  have e1:=rM (n:=b.su) (by omega) (by omega)
  have e2:=zk2 hN.cu.2 hb.cu
  by_cases hz:b.ra=0
  ·rw[if_pos hz]
   exact⟨e1,e2,by rw[hz];rfl⟩
  ·rw[if_neg hz]
   refine⟨e1,e2,?_⟩
   show max 0 (numberP (dec b.ra))=b.ra
   rw[rM (by omega) (by omega)];omega
 obtain⟨m1,m2,m3⟩:=hmon _ rfl
 have hpay: ∀q,q=(if b.pa= -1 then[[116,111],[98,101,97,114,101,114]] else if bit 4 b.fl=true then[[116,111],nm N.fi b.pa,[110,111,116],[116,111],[111,114,100,101,114]] else[[116,111],nm N.fi b.pa,[111,114],[111,114,100,101,114]])→
   (if decide (q.length>2)=true then fstI N.fi (wd q 1) else-1)=b.pa∧(decide (q.length>2)&&decide (wd q 2=[110,111,116]))=bit 4 b.fl:=by
  rintro q rfl
  by_cases hz:b.pa= -1
  ·rw[if_pos hz]
   refine⟨hz.symm,?_⟩
   cases h4:bit 4 b.fl with
   |false=>rfl
   |true=>exact absurd ⟨h4,hz⟩ hb.no
  ·have hi:=oT hN.fi.2 (hb.pa.resolve_left hz)
   rw[if_neg hz]
   cases h4:bit 4 b.fl with
   |false=>exact⟨hi,rfl⟩
   |true=>exact⟨hi,rfl⟩
 obtain⟨y1,y2⟩:=hpay _ rfl
 rw[a1,a2,a3,b1,b2,c1,f1,f2,m1,m2,m3,y1,y2,zmH hb.fl.1 hb.fl.2]
 simp
theorem zmK (pt p:Int): ∀w∈vJ pt p,(32:UInt8) ∉ w∧(10:UInt8) ∉ w:=by
 have h: ∀l:List Int,∀w∈orW (l.map fun i=>dec (i+1)),(32:UInt8) ∉ w∧(10:UInt8) ∉ w:=by
  intro l
  induction l with
  |nil=>intro w hw;simp[orW] at hw
  |cons a r ih=>
   intro w hw
   cases r with
   |nil=>
    rw[List.map_cons,List.map_nil,orW,List.mem_singleton] at hw
    subst hw
    have:=qR (oS (a+1).toNat)
    exact⟨this.1,this.2.1⟩
   |cons c r=>
    rw[List.map_cons,List.map_cons,orW,List.mem_cons,List.mem_cons] at hw
    rcases hw with rfl|rfl|hw
    ·have:=qR (oS (a+1).toNat)
     exact⟨this.1,this.2.1⟩
    ·decide
    ·exact ih w hw
 exact h _
theorem pC {l:List Txt} (h: ∀w∈l,qQ w) {i:Int} (hi:inR l i):(32:UInt8) ∉ nm l i∧(10:UInt8) ∉ nm l i:=by
 have:=qR (h _ (zhk hi))
 exact⟨this.1,this.2.1⟩
theorem zmL {C:Cal} {N:Nms} (hN:NmsOk N) {b:Bil} (hb:BilOk N b) (p:Int):cleanL (rows C N b p):=by
 have hd: ∀n,(32:UInt8) ∉ dec n∧(10:UInt8) ∉ dec n:=fun n=>by
  have:=qR (oS n.toNat)
  exact⟨this.1,this.2.1⟩
 have two: ∀{ws:List Txt},ws≠[]→(∀w∈ws,(32:UInt8) ∉ w∧(10:UInt8) ∉ w)→ws≠[]∧ ∀w∈ws,(32:UInt8) ∉ w∧(10:UInt8) ∉ w:=fun h1 h2=>⟨h1,h2⟩
 intro ws hws
 unfold rows at hws
 rw[List.mem_append] at hws
 rcases hws with hws|hws
 ·simp only[List.mem_cons,List.not_mem_nil,or_false] at hws
  rcases hws with rfl|rfl|rfl|rfl|rfl|rfl
  ·refine two (by simp) fun w hw=>?_
   simp only[List.mem_cons,List.not_mem_nil,or_false] at hw
   rcases hw with rfl|rfl|rfl|rfl
   ·cases bit 1 b.fl<;>decide
   ·exact hd _
   ·decide
   ·exact hd _
  ·refine two (by simp) fun w hw=>?_
   simp only[List.mem_cons,List.not_mem_nil,or_false] at hw
   rcases hw with rfl|rfl|rfl|rfl|rfl
   ·decide
   ·decide
   ·exact pC hN.ci.1 hb.ci
   ·decide
   ·exact zhj _
  ·unfold wP
   split
   ·exact two (by simp) (by decide)
   split
   ·refine two (by simp) fun w hw=>?_
    simp only[List.mem_cons,List.not_mem_nil,or_false] at hw
    rcases hw with rfl|rfl|rfl
    ·decide
    ·decide
    ·exact zhj _
   split
   ·exact two (by simp) (by decide)
   ·refine two (by simp) fun w hw=>?_
    simp only[List.mem_cons,List.not_mem_nil,or_false] at hw
    rcases hw with rfl|rfl|rfl|rfl|rfl
    ·decide
    ·exact hd _
    ·split<;>decide
    ·decide
    ·split<;>decide
  ·split
   ·exact two (by simp) (by decide)
   ·rename_i hz
    have hi:=pC hN.fi.1 (hb.pa.resolve_left hz)
    split
    ·refine two (by simp) fun w hw=>?_
     simp only[List.mem_cons,List.not_mem_nil,or_false] at hw
     rcases hw with rfl|rfl|rfl|rfl|rfl
     ·decide
     ·exact hi
     ·decide
     ·decide
     ·decide
    ·refine two (by simp) fun w hw=>?_
     simp only[List.mem_cons,List.not_mem_nil,or_false] at hw
     rcases hw with rfl|rfl|rfl|rfl
     ·decide
     ·exact hi
     ·decide
     ·decide
  ·have hi:=pC hN.cu.1 hb.cu
   split
   ·refine two (by simp) fun w hw=>?_
    simp only[List.mem_cons,List.not_mem_nil,or_false] at hw
    rcases hw with rfl|rfl
    ·exact hd _
    ·exact hi
   ·refine two (by simp) fun w hw=>?_
    simp only[List.mem_cons,List.not_mem_nil,or_false] at hw
    rcases hw with rfl|rfl|rfl|rfl|rfl|rfl|rfl|rfl
    ·exact hd _
    ·exact hi
    ·decide
    ·decide
    ·decide
    ·exact hd _
    ·decide
    ·decide
  ·refine two (by simp) fun w hw=>?_
   simp only[List.mem_cons,List.not_mem_nil,or_false] at hw
   rcases hw with rfl|rfl|rfl|rfl|rfl|rfl|rfl
   ·decide
   ·decide
   ·decide
   ·decide
   ·exact pC hN.fi.1 hb.de
   ·decide
   ·exact pC hN.ci.1 hb.py
 ·simp only[List.mem_append] at hws
  rcases hws with hws|hws|hws|hws
  ·split at hws
   ·rw[List.mem_singleton] at hws
    subst hws
    refine two (by simp) fun w hw=>?_
    simp only[List.mem_cons,List.mem_append,List.not_mem_nil,or_false] at hw
    rcases hw with rfl|rfl|hw|rfl|rfl
    ·decide
    ·decide
    ·exact zmK _ _ _ hw
    ·decide
    ·decide
   ·simp at hws
  ·split at hws
   ·simp at hws
   ·rename_i hz
    rw[List.mem_singleton] at hws
    subst hws
    refine two (by simp) fun w hw=>?_
    simp only[List.mem_cons,List.not_mem_nil,or_false] at hw
    rcases hw with rfl|rfl|rfl|rfl
    ·decide
    ·decide
    ·decide
    ·exact pC hN.fi.1 (hb.ne.resolve_left hz)
  ·split at hws
   ·rw[List.mem_singleton] at hws
    subst hws
    exact two (by simp) (by decide)
   ·simp at hws
  ·rw[List.mem_singleton] at hws
   subst hws
   refine two (by simp) fun w hw=>?_
   simp only[List.mem_cons,List.not_mem_nil,or_false] at hw
   rcases hw with rfl|rfl
   ·decide
   ·exact pC hN.fi.1 hb.dr
def eatT:Txt→Txt→Txt×Bool:=fun s h=>if s.take h.length=h then(s.drop h.length,true) else(s,false)
theorem znS (h t:Txt):eatT (h++t) h=(t,true):=by
 unfold eatT
 rw[List.take_left,if_pos rfl,List.drop_left]
theorem zn8 {s h:Txt} (he:s.take h.length≠h):eatT s h=(s,false):=by
 unfold eatT
 rw[if_neg he]
def wordT:Txt→Txt×Txt
 |[]=>([],[])
 |c::t=>if cH c=true then(c::(wordT t).1,(wordT t).2) else([],c::t)
theorem zop: ∀{w t:Txt},(∀c∈w,cH c=true)→(∀c r,t=c::r→cH c=false)→wordT (w++t)=(w,t)
 |[],[],_,_=>rfl
 |[],c::t,_,h=>by rw[List.nil_append,wordT,if_neg (by rw[h c t rfl];simp)]
 |c::w,t,hw,h=>by
  rw[List.cons_append,wordT,if_pos (hw c (by simp)),zop (fun x hx=>hw x (List.mem_cons_of_mem _ hx)) h]
def aX (c:UInt8):Bool:=decide (48≤c.toNat)&&decide (c.toNat≤57)
def aY:Nat→Int→Txt→Int×Txt
 |0,n,s=>(n,s)
 |_+1,n,[]=>(n,[])
 |k+1,n,c::s=>if aX c=true then aY k (10*n+c.toNat-48) s else(n,c::s)
def numT (s:Txt):Int×Txt:=match s with
 |[]=>(-1,[])
 |c::t=>if aX c=true then aY 13 0 (c::t) else(-1,c::t)
def znT (n:Int):Txt→Int
 |[]=>n
 |c::s=>znT (10*n+c.toNat-48) s
theorem zoq: ∀(n:Int) (a b:Txt),znT n (a++b)=znT (znT n a) b
 |_,[],_=>rfl
 |n,c::a,b=>by rw[List.cons_append,znT,znT,zoq]
theorem zor {c:UInt8} (h:48≤c.toNat∧c.toNat≤57):aX c=true:=by unfold aX;simp[h]
theorem zoM (u:Nat):znT 0 (decDigits u)=u:=by
 induction u using Nat.strongRecOn with
 |_ u ih=>
  by_cases h:u<10
  ·rw[mI h,znT,znT,cE h];omega
  ·rw[jQ h,zoq,ih (u/10) (by omega),znT,znT,cE (by omega)];omega
theorem zos: ∀{k:Nat} {n:Int} {w t:Txt},(∀c∈w,aX c=true)→w.length≤k→(∀c r,t=c::r→aX c=false)→aY k n (w++t)=(znT n w,t)
 |0,n,[],t,_,_,_=>rfl
 |0,n,c::w,t,_,hl,_=>absurd hl (by simp)
 |k+1,n,[],[],_,_,_=>rfl
 |k+1,n,[],c::t,_,_,h=>by rw[List.nil_append,aY,if_neg (by rw[h c t rfl];simp)];rfl
 |k+1,n,c::w,t,hw,hl,h=>by
  rw[List.cons_append,aY,if_pos (hw c (by simp)),zos (fun x hx=>hw x (List.mem_cons_of_mem _ hx)) (by simpa using hl) h,znT]
theorem znV {n:Int} {t:Txt} (h0:0≤n) (h1:n<10000000000000) (ht: ∀c r,t=c::r→aX c=false):numT (dec n++t)=(n,t):=by
 have hd: ∀c∈dec n,aX c=true:=fun c hc=>zor (zha _ c hc)
 have hl:(dec n).length≤13:=dec_len 12 n.toNat (by omega)
 have hv:znT 0 (dec n)=n:=by unfold dec;rw[zoM];omega
 have:=zos (k:=13) (n:=0) hd hl ht
 rw[hv] at this
 cases hw:dec n with
 |nil=>exact absurd hw (cF _)
 |cons c w=>
  rw[hw] at this hd
  rw[List.cons_append] at this⊢
  rw[numT,if_pos (hd c (by simp))]
  exact this
def lineT:Txt→Txt
 |[]=>[]
 |c::t=>if c=10 then t else lineT t
theorem zot: ∀{w t:Txt},(10:UInt8) ∉ w→lineT (w++10::t)=t
 |[],t,_=>by rw[List.nil_append,lineT,if_pos rfl]
 |c::w,t,h=>by
  rw[List.cons_append,lineT,if_neg (fun e=>h (by simp[e])),zot (fun e=>h (List.mem_cons_of_mem _ e))]
def rdDate (C:Cal) (s:Txt):Int×Txt:=
 let y:=numT s
 let m:=numT (eatT y.2 [45]).1
 let d:=numT (eatT m.2 [45]).1
 (C.day y.1 m.1 d.1,d.2)
theorem zou {C:Cal} (hC:CalOk C) {d:Int} (h0:0≤d) (h1:d≤100000) {t:Txt} (ht: ∀c r,t=c::r→aX c=false):rdDate C (wG C d++t)=(d,t):=by
 have no: ∀(u:Txt) c r,(45:UInt8)::u=c::r→aX c=false:=fun u c r e=>by
  injection e with e1 e2;rw[←e1];decide
 have e:wG C d++t=dec (C.date d).1++45::(dec (C.date d).2.1++45::(dec (C.date d).2.2++t)):=by
  show(dec _++45::(dec _++45::dec _))++t=_
  simp
 have a1: ∀u:Txt,eatT (45::u) [45]=(u,true):=fun u=>znS [45] u
 unfold rdDate
 simp only[]
 rw[e,znV (hC.y d h0 h1).1 (hC.y d h0 h1).2 (no _)]
 simp only[]
 rw[a1,znV (hC.m d h0 h1).1 (hC.m d h0 h1).2 (no _)]
 simp only[]
 rw[a1,znV (hC.d d h0 h1).1 (hC.d d h0 h1).2 ht,hC.back d h0 h1]
def rdTen (C:Cal) (s:Txt):Ten:=
 if (eatT s [112,97,121,32,97,116,32,117,115,97,110,99,101]).2=true then⟨4,0,0⟩
 else if (eatT s [112,97,121,32,111,110,32]).2=true then⟨3,(rdDate C (eatT s [112,97,121,32,111,110,32]).1).1,0⟩
 else if (eatT s [112,97,121,32,97,116,32,115,105,103,104,116]).2=true then⟨0,0,0⟩
 else
  let n:=numT (eatT s [112,97,121,32]).1
  let a:=eatT n.2 [32,100,97,121,115,32,97,102,116,101,114,32]
  if a.2=true then⟨if (eatT a.1 [100,97,116,101]).2=true then 2 else 1,n.1,0⟩
  else⟨if (eatT (eatT a.1 [32,109,111,110,116,104,115,32,97,102,116,101,114,32]).1 [100,97,116,101]).2=true then 2 else 1,n.1,1⟩
def zn5 (N:Nms) (s:Txt):Int×Bool:=
 if (eatT s [116,111,32,98,101,97,114,101,114,10]).2=true then(-1,false)
 else
  let w:=wordT (eatT s [116,111,32]).1
  (fstI N.fi w.1,(eatT w.2 [32,110,111,116]).2)
structure Mon where
 su:Int
 cu:Int
 ra:Int
def zn6 (N:Nms) (s:Txt):Mon:=
 let n:=numT s
 let w:=wordT (eatT n.2 [32]).1
 let h:=eatT w.2 [32,119,105,116,104,32,105,110,116,101,114,101,115,116,32,97,116,32]
 ⟨n.1,wQ N.cu w.1 0 (-1),if h.2=true then(numT h.1).1 else 0⟩
def zn9 (N:Nms) (s:Txt):Lst:=
 let s1:=if (eatT s [117,110,108,101,115,115,32]).2=true then lineT s else s
 let a:=eatT s1 [105,110,32,110,101,101,100,32,97,115,107,32]
 let ne:=if a.2=true then fstI N.fi (wordT a.1).1 else-1
 let s2:=if a.2=true then lineT s1 else s1
 let np:=(eatT s2 [119,105,116,104,111,117,116,32]).2
 let s3:=if np=true then lineT s2 else s2
 ⟨ne,np,fstI N.fi (wordT (eatT s3 [115,105,103,110,101,100,32]).1).1⟩
def znU (C:Cal) (N:Nms) (s:Txt):Bil×Int:=
 let a:=eatT s [98,105,108,108,32]
 let n1:=numT (if a.2=true then a.1 else(eatT s [112,97,112,101,114,32]).1)
 let n2:=numT (eatT n1.2 [32,111,102,32]).1
 let w1:=wordT (eatT (lineT n2.2) [100,114,97,119,110,32,105,110,32]).1
 let d1:=rdDate C (eatT w1.2 [32,111,110,32]).1
 let s5:=lineT d1.2
 let s6:=lineT s5
 let pf:=zn5 N s6
 let s7:=lineT s6
 let m:=zn6 N s7
 let w2:=wordT (eatT (lineT s7) [116,111,32,98,101,32,112,97,105,100,32,98,121,32]).1
 let w3:=wordT (eatT w2.2 [32,105,110,32]).1
 let la:=zn9 N (lineT w3.2)
 (⟨la.dr,fstI N.fi w2.1,pf.1,m.su,m.cu,rdTen C s5,d1.1,fstI N.ci w1.1,fstI N.ci w3.1,la.ne,m.ra,(if a.2=true then 1 else 0)+(if la.np=true then 2 else 0)+(if pf.2=true then 4 else 0),n2.1⟩,n1.1)
theorem lC (ws:List Txt) (L:List (List Txt)):yH (ws::L)=zT 32 ws++10::yH L:=by
 unfold yH;simp
theorem aH: ∀(L M:List (List Txt)),yH (L++M)=yH L++yH M:=fun L M=>by unfold yH;simp
theorem zn1 {c:UInt8} (h:aX c=false) (u:Txt): ∀x r,c::u=x::r→aX x=false:=fun x r e=>by
 injection e with e1 e2;rw[←e1];exact h
theorem zoN {c:UInt8} (h:cH c=false) (u:Txt): ∀x r,c::u=x::r→cH x=false:=fun x r e=>by
 injection e with e1 e2;rw[←e1];exact h
theorem line_row {ws:List Txt} {t:Txt} (h: ∀w∈ws,(10:UInt8) ∉ w):lineT (zT 32 ws++10::t)=t:=zot fun hm=>by
 rcases jR hm with e|⟨w,hw,e⟩
 ·exact absurd e (by decide)
 ·exact h w hw e
theorem zoi {n:Int} {c:UInt8} (h:aX c=false): ∀{t w:Txt},dec n++t≠c::w:=fun{t w} e=>by
 cases hd:dec n with
 |nil=>exact absurd hd (cF _)
 |cons x r=>
  rw[hd] at e
  injection e with e1 e2
  have:=zha n.toNat x (by show x∈dec n;rw[hd];simp)
  have hx:aX x=true:=zor this
  rw[show x=c from e1] at hx
  rw[hx] at h;cases h
theorem zoO {C:Cal} (hC:CalOk C) {te:Ten} {da:Int} (h0:0≤da) (h:wB te da) (t:Txt):rdTen C (zT 32 (wP C te)++10::t)=te:=by
 obtain⟨k,n,u⟩:=te
 have nd10: ∀x r,(10:UInt8)::t=x::r→aX x=false:=zn1 (by decide) t
 rcases h with⟨h1,h2,h3⟩|⟨h1,h2,h3,h4⟩|⟨h1,h2,h3,h4⟩
 ·simp only at h1 h2 h3
  subst h2;subst h3
  rcases h1 with rfl|rfl<;>rfl
 ·simp only at h1 h2 h3 h4
  have key: ∀(v f:Txt),zT 32 [[112,97,121],dec n,v,[97,102,116,101,114],f]++10::t=[112,97,121,32]++(dec n++32::(v++[32,97,102,116,101,114,32]++(f++10::t))):=fun v f=>by
   show([112,97,121]++32::(dec n++32::(v++32::([97,102,116,101,114]++32::f))))++10::t=_
   simp
  have k1: ∀X:Txt,(eatT ([112,97,121,32]++(dec n++X)) [112,97,121,32,97,116,32,117,115,97,110,99,101]).2=false:=fun X=>by
   rw[zn8]
   intro e
   have e2:(dec n++X).take 9=[97,116,32,117,115,97,110,99,101]:=by
    have:=congrArg (List.drop 4) e
    rw[List.drop_take] at this
    exact this
   cases hd:dec n++X with
   |nil=>rw[hd] at e2;cases e2
   |cons x r=>rw[hd] at e2;injection e2 with e3 e4;rw[e3] at hd;exact absurd hd (zoi (by decide))
  have k2: ∀X:Txt,(eatT ([112,97,121,32]++(dec n++X)) [112,97,121,32,111,110,32]).2=false:=fun X=>by
   rw[zn8]
   intro e
   have e2:(dec n++X).take 3=[111,110,32]:=by
    have:=congrArg (List.drop 4) e
    rw[List.drop_take] at this
    exact this
   cases hd:dec n++X with
   |nil=>rw[hd] at e2;cases e2
   |cons x r=>rw[hd] at e2;injection e2 with e3 e4;rw[e3] at hd;exact absurd hd (zoi (by decide))
  have k3: ∀X:Txt,(eatT ([112,97,121,32]++(dec n++X)) [112,97,121,32,97,116,32,115,105,103,104,116]).2=false:=fun X=>by
   rw[zn8]
   intro e
   have e2:(dec n++X).take 8=[97,116,32,115,105,103,104,116]:=by
    have:=congrArg (List.drop 4) e
    rw[List.drop_take] at this
    exact this
   cases hd:dec n++X with
   |nil=>rw[hd] at e2;cases e2
   |cons x r=>rw[hd] at e2;injection e2 with e3 e4;rw[e3] at hd;exact absurd hd (zoi (by decide))
  have nd: ∀X:Txt,∀x r,(32:UInt8)::X=x::r→aX x=false:=zn1 (by decide)
  have fin: ∀(v f:Txt) (kk uu:Int),(let a:=eatT (32::(v++[32,97,102,116,101,114,32]++(f++10::t))) [32,100,97,121,115,32,97,102,116,101,114,32]
    if a.2=true then(⟨if (eatT a.1 [100,97,116,101]).2=true then 2 else 1,n,0⟩:Ten) else⟨if (eatT (eatT a.1 [32,109,111,110,116,104,115,32,97,102,116,101,114,32]).1 [100,97,116,101]).2=true then 2 else 1,n,1⟩)=⟨kk,n,uu⟩→rdTen C (zT 32 [[112,97,121],dec n,v,[97,102,116,101,114],f]++10::t)=⟨kk,n,uu⟩:=by
   intro v f kk uu hq
   rw[key]
   unfold rdTen
   rw[if_neg (by rw[k1];simp),if_neg (by rw[k2];simp),if_neg (by rw[k3];simp),znS]
   simp only[]
   rw[znV (by omega) (by omega) (nd _)]
   exact hq
  rcases h1 with rfl|rfl<;>rcases h4 with rfl|rfl
  ·exact fin [100,97,121,115] [115,105,103,104,116] 1 0 rfl
  ·exact fin [109,111,110,116,104,115] [115,105,103,104,116] 1 1 rfl
  ·exact fin [100,97,121,115] [100,97,116,101] 2 0 rfl
  ·exact fin [109,111,110,116,104,115] [100,97,116,101] 2 1 rfl
 ·simp only at h1 h2 h3 h4
  subst h1;subst h4
  have e:zT 32 (wP C ⟨3,n,0⟩)++10::t=[112,97,121,32,111,110,32]++(wG C n++10::t):=by
   show([112,97,121]++32::([111,110]++32::wG C n))++10::t=_
   simp
  rw[e]
  unfold rdTen
  have k1:(eatT ([112,97,121,32,111,110,32]++(wG C n++10::t)) [112,97,121,32,97,116,32,117,115,97,110,99,101]).2=false:=rfl
  rw[if_neg (by rw[k1];simp),znS,if_pos rfl,zou hC (by omega) h3 nd10]
theorem znW {w:Txt} (h:qQ w) {c:UInt8} {t:Txt} (hc:cH c=false):wordT (w++c::t)=(w,c::t):=zop h.2 (zoN hc t)
theorem zoP {N:Nms} (hN:NmsOk N) {b:Bil} (hp:b.pa= -1∨inR N.fi b.pa) (hno: ¬(bit 4 b.fl=true∧b.pa= -1)) (t:Txt):
  zn5 N (zT 32 (if b.pa= -1 then[[116,111],[98,101,97,114,101,114]] else if bit 4 b.fl=true then[[116,111],nm N.fi b.pa,[110,111,116],[116,111],[111,114,100,101,114]] else[[116,111],nm N.fi b.pa,[111,114],[111,114,100,101,114]])++10::t)=(b.pa,bit 4 b.fl):=by
 by_cases hz:b.pa= -1
 ·rw[if_pos hz]
  have h4:bit 4 b.fl=false:=by
   cases h:bit 4 b.fl with
   |false=>rfl
   |true=>exact absurd ⟨h,hz⟩ hno
  rw[h4,hz];rfl
 ·rw[if_neg hz]
  have hi:=hp.resolve_left hz
  have hw:=hN.fi.1 _ (zhk hi)
  have hf:=oT hN.fi.2 hi
  have nb: ∀(X:Txt),(eatT ([116,111,32]++(nm N.fi b.pa++32::X)) [116,111,32,98,101,97,114,101,114,10]).2=false:=fun X=>by
   rw[zn8]
   intro e
   have e2:(nm N.fi b.pa++32::X).take 7=[98,101,97,114,101,114,10]:=by
    have:=congrArg (List.drop 3) e
    rw[List.drop_take] at this
    exact this
   have e3:=congrArg (fun l:Txt=>l.contains 10) e2
   have e4:[98,101,97,114,101,114,10].contains 10=true:=rfl
   generalize nm N.fi b.pa=w at e2 hw
   have hmem: ∀j,j<w.length→(w++32::X)[j]?=w[j]?:=fun j hj=>by rw[List.getElem?_append_left hj]
   by_cases hl:w.length≤6
   ·have h1:(w++32::X)[w.length]?=some 32:=by rw[List.getElem?_append_right (Nat.le_refl _),Nat.sub_self];rfl
    have h2:((w++32::X).take 7)[w.length]?=some 32:=by rw[List.getElem?_take_of_lt (by omega)];exact h1
    rw[e2] at h2
    have:w.length=0∨w.length=1∨w.length=2∨w.length=3∨w.length=4∨w.length=5∨w.length=6:=by omega
    rcases this with h|h|h|h|h|h|h<;>rw[h] at h2<;>cases h2
   ·have h1:((w++32::X).take 7)[6]?=w[6]?:=by rw[List.getElem?_take_of_lt (by omega)];exact hmem 6 (by omega)
    rw[e2] at h1
    have h2:w[6]?=some 10:=h1.symm
    have:=hw.2 10 (List.mem_of_getElem? h2)
    exact absurd this (by decide)
  cases h4:bit 4 b.fl with
  |true=>
   have e:zT 32 (if True then[[116,111],nm N.fi b.pa,[110,111,116],[116,111],[111,114,100,101,114]] else[[116,111],nm N.fi b.pa,[111,114],[111,114,100,101,114]])++10::t=[116,111,32]++(nm N.fi b.pa++32::([110,111,116,32,116,111,32,111,114,100,101,114]++10::t)):=by
    rw[if_pos trivial]
    show([116,111]++32::(nm N.fi b.pa++32::([110,111,116]++32::([116,111]++32::[111,114,100,101,114]))))++10::t=_
    simp
   rw[if_pos rfl]
   rw[if_pos trivial] at e
   rw[e]
   unfold zn5
   rw[if_neg (by rw[nb];simp),znS,znW hw (by decide)]
   simp only[]
   rw[hf];rfl
  |false=>
   have e:zT 32 [[116,111],nm N.fi b.pa,[111,114],[111,114,100,101,114]]++10::t=[116,111,32]++(nm N.fi b.pa++32::([111,114,32,111,114,100,101,114]++10::t)):=by
    show([116,111]++32::(nm N.fi b.pa++32::([111,114]++32::[111,114,100,101,114])))++10::t=_
    simp
   rw[if_neg (by simp),e]
   unfold zn5
   rw[if_neg (by rw[nb];simp),znS,znW hw (by decide)]
   simp only[]
   rw[hf];rfl
theorem zoQ {N:Nms} (hN:NmsOk N) {b:Bil} (hsu:1≤b.su∧b.su≤1099511627776) (hcu:inR N.cu b.cu) (hra:0≤b.ra∧b.ra≤1000) (t:Txt):
  zn6 N (zT 32 (if b.ra=0 then[dec b.su,nm N.cu b.cu] else[dec b.su,nm N.cu b.cu,[119,105,116,104],[105,110,116,101,114,101,115,116],[97,116],dec b.ra,[112,101,114],[109,105,108,108,101]])++10::t)=⟨b.su,b.cu,b.ra⟩:=by
 have hw:=hN.cu.1 _ (zhk hcu)
 have hf:=zk2 hN.cu.2 hcu
 have a1: ∀u:Txt,eatT (32::u) [32]=(u,true):=fun u=>znS [32] u
 by_cases hz:b.ra=0
 ·have e:zT 32 [dec b.su,nm N.cu b.cu]++10::t=dec b.su++32::(nm N.cu b.cu++10::t):=by
   show(dec b.su++32::nm N.cu b.cu)++10::t=_
   simp
  rw[if_pos hz,e]
  unfold zn6
  simp only[]
  rw[znV (by omega) (by omega) (zn1 (by decide) _)]
  simp only[]
  rw[a1,znW hw (by decide)]
  simp only[]
  rw[hf,hz];rfl
 ·have e:zT 32 [dec b.su,nm N.cu b.cu,[119,105,116,104],[105,110,116,101,114,101,115,116],[97,116],dec b.ra,[112,101,114],[109,105,108,108,101]]++10::t=dec b.su++32::(nm N.cu b.cu++32::([119,105,116,104,32,105,110,116,101,114,101,115,116,32,97,116,32]++(dec b.ra++32::([112,101,114,32,109,105,108,108,101]++10::t)))):=by
   show(dec b.su++32::(nm N.cu b.cu++32::([119,105,116,104]++32::([105,110,116,101,114,101,115,116]++32::([97,116]++32::(dec b.ra++32::([112,101,114]++32::[109,105,108,108,101])))))))++10::t=_
   simp
  have a2: ∀u:Txt,eatT (32::([119,105,116,104,32,105,110,116,101,114,101,115,116,32,97,116,32]++u)) [32,119,105,116,104,32,105,110,116,101,114,101,115,116,32,97,116,32]=(u,true):=fun u=>znS [32,119,105,116,104,32,105,110,116,101,114,101,115,116,32,97,116,32] u
  rw[if_neg hz,e]
  unfold zn6
  simp only[]
  rw[znV (by omega) (by omega) (zn1 (by decide) _)]
  simp only[]
  rw[a1,znW hw (by decide)]
  simp only[]
  rw[a2,if_pos rfl,znV (by omega) (by omega) (zn1 (by decide) _),hf]
theorem zoR {N:Nms} (hN:NmsOk N) {b:Bil} (hdr:inR N.fi b.dr) (hne:b.ne= -1∨inR N.fi b.ne) {ow:List Txt} (ho: ∀w∈ow,(10:UInt8) ∉ w) (one:Bool):
  zn9 N (yH ((if one=true then[[117,110,108,101,115,115]::[112,97,114,116]::ow] else[])
   ++((if b.ne= -1 then[] else[[[105,110],[110,101,101,100],[97,115,107],nm N.fi b.ne]])
   ++((if bit 2 b.fl=true then[[[119,105,116,104,111,117,116],[112,114,111,116,101,115,116]]] else[])++[[[115,105,103,110,101,100],nm N.fi b.dr]]))))=⟨b.ne,bit 2 b.fl,b.dr⟩:=by
 have hwd:=hN.fi.1 _ (zhk hdr)
 have hfd:=oT hN.fi.2 hdr
 obtain⟨S,hS⟩: ∃S,yH [[[115,105,103,110,101,100],nm N.fi b.dr]]=S:=⟨_,rfl⟩
 have eS:S=[115,105,103,110,101,100,32]++(nm N.fi b.dr++10::[]):=by
  rw[←hS,lC]
  show([115,105,103,110,101,100]++32::nm N.fi b.dr)++10::[]=_
  simp
 have sS:fstI N.fi (wordT (eatT S [115,105,103,110,101,100,32]).1).1=b.dr:=by rw[eS,znS,znW hwd (by decide),hfd]
 obtain⟨W,hW⟩: ∃W,yH ((if bit 2 b.fl=true then[[[119,105,116,104,111,117,116],[112,114,111,116,101,115,116]]] else[])++[[[115,105,103,110,101,100],nm N.fi b.dr]])=W:=⟨_,rfl⟩
 have w1:(eatT W [119,105,116,104,111,117,116,32]).2=bit 2 b.fl∧(if bit 2 b.fl=true then lineT W else W)=S:=by
  rw[←hW]
  cases bit 2 b.fl with
  |false=>rw[if_neg (by simp),if_neg (by simp),List.nil_append,hS];exact⟨by rw[eS];rfl,rfl⟩
  |true=>rw[if_pos rfl,if_pos rfl,List.singleton_append,lC,hS];exact⟨rfl,rfl⟩
 have w2:(eatT W [105,110,32,110,101,101,100,32,97,115,107,32]).2=false∧(eatT W [117,110,108,101,115,115,32]).2=false:=by
  rw[←hW]
  cases bit 2 b.fl with
  |false=>rw[if_neg (by simp),List.nil_append,hS,eS];exact⟨rfl,rfl⟩
  |true=>exact⟨rfl,rfl⟩
 obtain⟨D,hD⟩: ∃D,yH ((if b.ne= -1 then[] else[[[105,110],[110,101,101,100],[97,115,107],nm N.fi b.ne]])++((if bit 2 b.fl=true then[[[119,105,116,104,111,117,116],[112,114,111,116,101,115,116]]] else[])++[[[115,105,103,110,101,100],nm N.fi b.dr]]))=D:=⟨_,rfl⟩
 have d1:(if (eatT D [105,110,32,110,101,101,100,32,97,115,107,32]).2=true then fstI N.fi (wordT (eatT D [105,110,32,110,101,101,100,32,97,115,107,32]).1).1 else-1)=b.ne∧(if (eatT D [105,110,32,110,101,101,100,32,97,115,107,32]).2=true then lineT D else D)=W∧(eatT D [117,110,108,101,115,115,32]).2=false:=by
  rw[←hD]
  by_cases hn:b.ne= -1
  ·rw[if_pos hn,List.nil_append,hW,w2.1,if_neg (by simp),if_neg (by simp)]
   exact⟨hn.symm,rfl,w2.2⟩
  ·have hi:=hne.resolve_left hn
   have hw:=hN.fi.1 _ (zhk hi)
   have e:zT 32 [[105,110],[110,101,101,100],[97,115,107],nm N.fi b.ne]++10::W=[105,110,32,110,101,101,100,32,97,115,107,32]++(nm N.fi b.ne++10::W):=by
    show([105,110]++32::([110,101,101,100]++32::([97,115,107]++32::nm N.fi b.ne)))++10::W=_
    simp
   rw[if_neg hn,List.singleton_append,lC,hW]
   refine⟨?_,?_,rfl⟩
   ·rw[e,znS,if_pos rfl,znW hw (by decide),oT hN.fi.2 hi]
   ·rw[if_pos (by rw[e,znS])]
    refine line_row fun w hw2=>?_
    simp only[List.mem_cons,List.not_mem_nil,or_false] at hw2
    rcases hw2 with rfl|rfl|rfl|rfl
    ·decide
    ·decide
    ·decide
    ·exact(qR hw).2.1
 have u1:(if (eatT (yH ((if one=true then[[117,110,108,101,115,115]::[112,97,114,116]::ow] else[])++((if b.ne= -1 then[] else[[[105,110],[110,101,101,100],[97,115,107],nm N.fi b.ne]])++((if bit 2 b.fl=true then[[[119,105,116,104,111,117,116],[112,114,111,116,101,115,116]]] else[])++[[[115,105,103,110,101,100],nm N.fi b.dr]])))) [117,110,108,101,115,115,32]).2=true then lineT (yH ((if one=true then[[117,110,108,101,115,115]::[112,97,114,116]::ow] else[])++((if b.ne= -1 then[] else[[[105,110],[110,101,101,100],[97,115,107],nm N.fi b.ne]])++((if bit 2 b.fl=true then[[[119,105,116,104,111,117,116],[112,114,111,116,101,115,116]]] else[])++[[[115,105,103,110,101,100],nm N.fi b.dr]])))) else yH ((if one=true then[[117,110,108,101,115,115]::[112,97,114,116]::ow] else[])++((if b.ne= -1 then[] else[[[105,110],[110,101,101,100],[97,115,107],nm N.fi b.ne]])++((if bit 2 b.fl=true then[[[119,105,116,104,111,117,116],[112,114,111,116,101,115,116]]] else[])++[[[115,105,103,110,101,100],nm N.fi b.dr]]))))=D:=by
  cases one with
  |false=>rw[if_neg (show¬(false=true) by simp),List.nil_append,hD,d1.2.2,if_neg (by simp)]
  |true=>
   rw[if_pos (show(true=true) from rfl),List.singleton_append,lC,hD]
   have hl:lineT (zT 32 ([117,110,108,101,115,115]::[112,97,114,116]::ow)++10::D)=D:=line_row fun w hw=>by
    simp only[List.mem_cons] at hw
    rcases hw with rfl|rfl|hw
    ·decide
    ·decide
    ·exact ho w hw
   have he:(eatT (zT 32 ([117,110,108,101,115,115]::[112,97,114,116]::ow)++10::D) [117,110,108,101,115,115,32]).2=true:=by
    have:zT 32 ([117,110,108,101,115,115]::[112,97,114,116]::ow)++10::D=[117,110,108,101,115,115,32]++(zT 32 ([112,97,114,116]::ow)++10::D):=by
     show([117,110,108,101,115,115]++32::zT 32 ([112,97,114,116]::ow))++10::D=_
     simp
    rw[this,znS]
   rw[he,if_pos rfl,hl]
 unfold zn9
 simp only[]
 rw[u1,d1.2.1,d1.1,w1.1,w1.2,sS]
theorem zoS {C:Cal} (hC:CalOk C) {N:Nms} (hN:NmsOk N) {b:Bil} (hb:BilOk N b) {p:Int} (hp0:0≤p) (hp:p<b.pt):znU C N (yH (rows C N b p))=(b,p+1):=by
 have hpt:=hb.pt
 have hcl:=zmL (C:=C) hN hb p
 obtain⟨R,hR⟩: ∃R,((if b.pt>1 then[[117,110,108,101,115,115]::[112,97,114,116]::(vJ b.pt p++[[119,97,115],[112,97,105,100]])] else[])
   ++((if b.ne= -1 then[] else[[[105,110],[110,101,101,100],[97,115,107],nm N.fi b.ne]])
   ++((if bit 2 b.fl=true then[[[119,105,116,104,111,117,116],[112,114,111,116,101,115,116]]] else[])++[[[115,105,103,110,101,100],nm N.fi b.dr]])))=R:=⟨_,rfl⟩
 have ho: ∀w∈vJ b.pt p++[[119,97,115],[112,97,105,100]],(10:UInt8) ∉ w:=fun w hw=>by
  rw[List.mem_append] at hw
  rcases hw with hw|hw
  ·exact(zmK _ _ w hw).2
  ·simp only[List.mem_cons,List.not_mem_nil,or_false] at hw
   rcases hw with rfl|rfl<;>decide
 have hl:=zoR hN hb.dr hb.ne ho (decide (b.pt>1))
 simp only[decide_eq_true_eq] at hl
 rw[hR] at hl
 have hrows:rows C N b p=[if bit 1 b.fl=true then[98,105,108,108] else[112,97,112,101,114],dec (p+1),[111,102],dec b.pt]::[[100,114,97,119,110],[105,110],nm N.ci b.ci,[111,110],wG C b.da]::wP C b.te::
   (if b.pa= -1 then[[116,111],[98,101,97,114,101,114]] else if bit 4 b.fl=true then[[116,111],nm N.fi b.pa,[110,111,116],[116,111],[111,114,100,101,114]] else[[116,111],nm N.fi b.pa,[111,114],[111,114,100,101,114]])::
   (if b.ra=0 then[dec b.su,nm N.cu b.cu] else[dec b.su,nm N.cu b.cu,[119,105,116,104],[105,110,116,101,114,101,115,116],[97,116],dec b.ra,[112,101,114],[109,105,108,108,101]])::[[116,111],[98,101],[112,97,105,100],[98,121],nm N.fi b.de,[105,110],nm N.ci b.py]::R:=by
  rw[←hR];rfl
 have hrow: ∀ws∈rows C N b p,∀t:Txt,lineT (zT 32 ws++10::t)=t:=fun ws hws t=>line_row fun w hw=>((hcl ws hws).2 w hw).2
 rw[hrows] at hrow⊢
 obtain⟨P,hP⟩: ∃P,wP C b.te=P:=⟨_,rfl⟩
 have ht:=fun t=>zoO hC hb.da.1 hb.te t
 have hq:=fun t=>zoP hN hb.pa hb.no t
 have hm:=fun t=>zoQ hN hb.su hb.cu hb.ra t
 rw[hP] at ht hrow⊢
 obtain⟨Q,hQ⟩: ∃Q,(if b.pa= -1 then[[116,111],[98,101,97,114,101,114]] else if bit 4 b.fl=true then[[116,111],nm N.fi b.pa,[110,111,116],[116,111],[111,114,100,101,114]] else[[116,111],nm N.fi b.pa,[111,114],[111,114,100,101,114]])=Q:=⟨_,rfl⟩
 rw[hQ] at hq hrow⊢
 obtain⟨M,hM⟩: ∃M,(if b.ra=0 then[dec b.su,nm N.cu b.cu] else[dec b.su,nm N.cu b.cu,[119,105,116,104],[105,110,116,101,114,101,115,116],[97,116],dec b.ra,[112,101,114],[109,105,108,108,101]])=M:=⟨_,rfl⟩
 rw[hM] at hm hrow⊢
 have r2:=hrow P (by simp)
 have r3:=hrow Q (by simp)
 have r4:=hrow M (by simp)
 clear hrow hrows hP hQ hM hR
 rw[lC,lC,lC,lC,lC,lC]
 obtain⟨T6,h6⟩: ∃T,yH R=T:=⟨_,rfl⟩
 rw[h6] at hl⊢
 obtain⟨T5,h5⟩: ∃T,zT 32 [[116,111],[98,101],[112,97,105,100],[98,121],nm N.fi b.de,[105,110],nm N.ci b.py]++10::T6=T:=⟨_,rfl⟩
 have e5:T5=[116,111,32,98,101,32,112,97,105,100,32,98,121,32]++(nm N.fi b.de++32::([105,110,32]++(nm N.ci b.py++10::T6))):=by
  rw[←h5]
  show([116,111]++32::([98,101]++32::([112,97,105,100]++32::([98,121]++32::(nm N.fi b.de++32::([105,110]++32::nm N.ci b.py))))))++10::T6=_
  simp
 rw[h5]
 have a2: ∀u:Txt,eatT (32::([105,110,32]++u)) [32,105,110,32]=(u,true):=fun u=>znS [32,105,110,32] u
 have c5:(wordT (eatT T5 [116,111,32,98,101,32,112,97,105,100,32,98,121,32]).1).1=nm N.fi b.de∧wordT (eatT (wordT (eatT T5 [116,111,32,98,101,32,112,97,105,100,32,98,121,32]).1).2 [32,105,110,32]).1=(nm N.ci b.py,10::T6):=by
  rw[e5,znS,znW (hN.fi.1 _ (zhk hb.de)) (by decide)]
  exact⟨rfl,by rw[a2,znW (hN.ci.1 _ (zhk hb.py)) (by decide)]⟩
 obtain⟨T4,h4⟩: ∃T,zT 32 M++10::T5=T:=⟨_,rfl⟩
 have c4:=r4 T5
 have m4:=hm T5
 rw[h4] at c4 m4⊢
 obtain⟨T3,h3⟩: ∃T,zT 32 Q++10::T4=T:=⟨_,rfl⟩
 have c3:=r3 T4
 have m3:=hq T4
 rw[h3] at c3 m3⊢
 obtain⟨T2,h2⟩: ∃T,zT 32 P++10::T3=T:=⟨_,rfl⟩
 have c2:=r2 T3
 have m2:=ht T3
 rw[h2] at c2 m2⊢
 obtain⟨T1,h1⟩: ∃T,zT 32 [[100,114,97,119,110],[105,110],nm N.ci b.ci,[111,110],wG C b.da]++10::T2=T:=⟨_,rfl⟩
 have e1:T1=[100,114,97,119,110,32,105,110,32]++(nm N.ci b.ci++32::([111,110,32]++(wG C b.da++10::T2))):=by
  rw[←h1]
  show([100,114,97,119,110]++32::([105,110]++32::(nm N.ci b.ci++32::([111,110]++32::wG C b.da))))++10::T2=_
  simp
 have a1: ∀u:Txt,eatT (32::([111,110,32]++u)) [32,111,110,32]=(u,true):=fun u=>znS [32,111,110,32] u
 have c1:(wordT (eatT T1 [100,114,97,119,110,32,105,110,32]).1).1=nm N.ci b.ci∧rdDate C (eatT (wordT (eatT T1 [100,114,97,119,110,32,105,110,32]).1).2 [32,111,110,32]).1=(b.da,10::T2):=by
  rw[e1,znS,znW (hN.ci.1 _ (zhk hb.ci)) (by decide)]
  exact⟨rfl,by rw[a1,zou hC hb.da.1 hb.da.2 (zn1 (by decide) _)]⟩
 rw[h1]
 have l10: ∀T:Txt,lineT (10::T)=T:=fun T=>rfl
 have a3: ∀u:Txt,eatT (32::([111,102,32]++u)) [32,111,102,32]=(u,true):=fun u=>znS [32,111,102,32] u
 have e0: ∀h:Txt,zT 32 [h,dec (p+1),[111,102],dec b.pt]++10::T1=h++32::(dec (p+1)++32::([111,102,32]++(dec b.pt++10::T1))):=fun h=>by
  show(h++32::(dec (p+1)++32::([111,102]++32::dec b.pt)))++10::T1=_
  simp
 have hh: ∀X:Txt,(eatT ((if bit 1 b.fl=true then[98,105,108,108] else[112,97,112,101,114])++32::X) [98,105,108,108,32]).2=bit 1 b.fl∧
   (if (eatT ((if bit 1 b.fl=true then[98,105,108,108] else[112,97,112,101,114])++32::X) [98,105,108,108,32]).2=true then(eatT ((if bit 1 b.fl=true then[98,105,108,108] else[112,97,112,101,114])++32::X) [98,105,108,108,32]).1 else(eatT ((if bit 1 b.fl=true then[98,105,108,108] else[112,97,112,101,114])++32::X) [112,97,112,101,114,32]).1)=X:=fun X=>by
  cases bit 1 b.fl with
  |true=>exact⟨rfl,rfl⟩
  |false=>exact⟨rfl,rfl⟩
 rw[e0]
 unfold znU
 simp only[]
 rw[(hh _).2,(hh _).1,znV (by omega) (by omega) (zn1 (by decide) _)]
 simp only[]
 rw[a3,znV (by omega) (by omega) (zn1 (by decide) _)]
 simp only[]
 rw[l10,c1.1,c1.2]
 simp only[]
 rw[l10,m2,c2,m3,c3,m4,c4,c5.1,c5.2]
 simp only[]
 rw[l10,hl,oT hN.ci.2 hb.ci,oT hN.fi.2 hb.de,oT hN.ci.2 hb.py]
 simp only[]
 rw[zmH hb.fl.1 hb.fl.2]
end Go.Wd
set_option maxRecDepth 100000
set_option maxHeartbeats 16000000
namespace Go.Abs
open Go.Proofs Go.RowKit Go.Lib Go.Wd
theorem xN (K:KK) (ts:TS) (os:OS):rK [] K ts os=K ts os:=id rfl
theorem xO (τ:Nat) (l:List Nat) (K:KK) (ts:TS) (os:OS):rK (τ::l) K ts os=rK l K (uV τ ts os (lookO τ os)) (tJ τ os (lookO τ os)):=id rfl
theorem xP (P:Program) (l1 l2:List AI) (τs:List Nat) (Q:AE→KK) (ts:TS) (os:OS):awl P (.regf l1 τs l2) Q ts os=wpLs P l1 (rK τs (wpLs P l2 (Q .normal))) ts os:=id rfl
theorem wC (P:Program) (l:List AI) (a:AI) (p:List (List Nat)) (Q:AE→KK) (ts:TS) (os:OS):awl P (.drawl l a p) Q ts os=wpLQs P l (wpLs P [a] (Q .normal)) ts os:=id rfl
theorem wE (r:V) (K:KK) (ts:TS) (os:OS) (d:Nat):putDK r K ts os (some d)=K (insT d r ts) os:=id rfl
theorem xQ (a:K) (l:Txt):bO a l=[(7,.var 80 [a,.own 18007]),(18007,.arr 5 1 none (bts l))]:=id rfl
theorem zmM (a:K) (ha:fresh a) (is:Bool) (hf:a=.ptr 7 0∨is=true) (l ws':Txt) (ws:List Txt) (hn:ws.length≤1000) (hlen:zL ws≤1000000) (hl:l.length≤10000000) (he:(if is=true then l++(joinS [32] ws++[10]) else l)=ws'):
  xU Tryz.prog 47 [.bool is,lst 1 (zE ws),.k (.ptr 7 0)] (zV bT (bO a l)) [7] (fun r o'=>r=.tup []∧o'=zV bT (bO (.ptr 7 0) ws')):=by
 cases is with
 |true=>rw[if_pos rfl] at he;rw[←he];exact s47 a ha l ws hn hlen hl
 |false=>
  rw[if_neg (by simp)] at he
  rcases hf with rfl|hf
  ·rw[←he];exact zmE _ ha l ws
  ·cases hf
theorem uF {a:K} (ha:fresh a) {is:Bool} (hf:a=.ptr 7 0∨is=true) {l l':Txt} {ws:List Txt} (hn:ws.length≤1000) (hlen:zL ws≤1000000) (hl:l.length≤10000000)
  (he:(if is=true then l++(joinS [32] ws++[10]) else l)=l') {nl:Option Bool} {vs:List V} {Kk:KK} {d:Option Nat} {ts:TS} {os:OS} {X:Prop}
  (hvs:vs.map V.nrm=[.bool is,lst 1 (zE ws)]) (hin:vs.all (V.within bT)=true)
  (h7:lookO 7 os=some (.var 80 [a,.own 18007])) (hA:lookO 18007 os=some (.arr 5 1 nl (bts l)))
  (hk:putDK (.tup []) Kk (mapT (V.scrubs [18007]) ts) (bO (.ptr 7 0) l'++mapO (O.scrubs [18007]) os) d):
  X∨ ∃f caps,V.k (K.fnk 47 [Cap.tok 7])=.k (.fnk f caps)∧pV Tryz.prog f vs caps Kk d ts os:=by
 refine .inr ⟨_,_,rfl,?_⟩
 refine zb8 (dead:=[18007]) (zmM a ha is hf l l' ws hn hlen hl he) hk ?_ ?_ (by simp[bT]) ?_ ?_ ?_ ?_ ?_ (by rfl)
 ·rw[List.all_append,hin];rfl
 ·simp[Cap.live,h7,isVarO]
 ·rw[List.map_append,hvs];rfl
 ·intro τ hτ ob hob
  simp only[bT,List.mem_cons,List.not_mem_nil,or_false] at hτ
  rcases hτ with rfl|rfl
  ·rw[h7] at hob;cases hob
   rcases ha with rfl|rfl<;>rfl
  ·rw[hA] at hob;cases hob;rfl
 ·intro s hs
  simp only[bT,List.mem_cons,List.not_mem_nil,or_false] at hs
  rcases hs with rfl|rfl
  ·rw[h7]
   rcases ha with rfl|rfl<;>rfl
  ·rw[hA]
   show some (O.arr 5 1 none (C.normRows (bts l)))=_
   rw[lB];rfl
 ·intro s hs
  simp only[bT,List.mem_cons,List.not_mem_nil,or_false] at hs
  rcases hs with rfl|rfl<;>rfl
 ·intro p hp
  simp only[bO,List.mem_cons,List.not_mem_nil,or_false] at hp
  rcases hp with rfl|rfl<;>exact⟨by simp[bT],rfl⟩
theorem c50 (b:Bil) (hb:0≤b.fl∧b.fl≤7) (k:Int) (hk:k=1∨k=2∨k=4) (y n:Txt):Spec Tryz.prog 50 [.int .i64 k,.str y,.str n,.k (.c (.ro (yF b) 0))] (fun v=>v=.str (if bit k b.fl=true then y else n)):=by
 refine Spec.of_awlS hf50 okf50 (by simp) fun S hS=>?_
 have h8:=aB hb.1 hb.2 k hk
 simp only[yF,Qs,Nat.reduceAdd,Nat.reduceLeDiff,Nat.reduceBEq,zbX,Q50]
 refine⟨fun h=>?_,fun h=>?_⟩
 ·rw[if_pos (by cases hb:bit k b.fl with|true=>rfl|false=>exact absurd (h8.2 hb) h)] at hS
  exact hS
 ·rw[if_neg (by rw[h8.1 h];simp)] at hS
  exact hS
theorem aI (c:UInt8): ∀ws:List Txt,(zT c ws).length≤zL ws+ws.length
 |[]=>by simp[zT]
 |[w]=>by simp[zT,zL]
 |w::v::r=>by
  have ih:=aI c (v::r)
  simp only[zT,zL,List.length_append,List.length_cons] at ih⊢
  omega
theorem zh5: ∀l:List Txt,zL (orW l)≤zL l+2*l.length∧(orW l).length≤2*l.length
 |[]=>by simp[orW,zL]
 |[w]=>by simp[orW,zL]
 |w::v::r=>by
  have ih:=zh5 (v::r)
  simp only[orW,zL,List.length_cons,List.length_nil] at ih⊢
  omega
theorem zh6 (pt p:Int) (h0:0≤pt) (h:pt≤4):zL (vJ pt p)≤60∧(vJ pt p).length≤8:=by
 have h1:=zh5 (wZ pt p)
 have h2:=iG p pt.toNat
 have h3:=aD p pt.toNat (by omega)
 rw[Int.toNat_of_nonneg h0] at h2 h3
 show zL (orW (wZ pt p))≤60∧(orW (wZ pt p)).length≤8
 omega
theorem sR {n:Int} (h0:0≤n) (h:n<10000000000000):(dec n).length≤13:=Go.Wire.dec_len 12 _ (by omega)
theorem aJ {r:Rlm} (hN:RlmOk r) {b:Bil} (hb:BilOk (nms r) b) {p:Int} (hp0:0≤p) (hp:p<b.pt): ∀ws∈rows zI (nms r) b p,(zT 32 ws).length≤150:=by
 have hpt:=hb.pt
 have hsu:=hb.su
 have hra:=hb.ra
 have hda:=hb.da
 have l1:=sR (n:=p+1) (by omega) (by omega)
 have l2:=sR (n:=b.pt) (by omega) (by omega)
 have l3:=sR (n:=b.su) (by omega) (by omega)
 have l4:=sR (n:=b.ra) (by omega) (by omega)
 have l5:=iF (d:=b.da) hda.1 hda.2
 have n1:=vP hN.ci hb.ci
 have n2:=vP hN.ci hb.py
 have n3:=vP hN.fi hb.de
 have n4:=vP hN.fi hb.dr
 have n5:=vP hN.cu hb.cu
 have ho:=zh6 b.pt p (by omega) hpt.2
 intro ws hws
 refine Nat.le_trans (aI 32 ws) ?_
 unfold rows at hws
 rw[List.mem_append] at hws
 rcases hws with hws|hws
 ·simp only[List.mem_cons,List.not_mem_nil,or_false] at hws
  rcases hws with rfl|rfl|rfl|rfl|rfl|rfl
  ·cases bit 1 b.fl<;>simp[zL]<;>omega
  ·simp only[zL,nms,List.length_cons,List.length_nil];omega
  ·have hte:=hb.te
   unfold wP
   split
   ·simp[zL]
   split
   ·rename_i hk
    have:0≤b.te.n∧b.te.n≤100000:=by
     rcases hte with⟨h1,h2,h3⟩|⟨h1,h2,h3,h4⟩|⟨h1,h2,h3,h4⟩<;>omega
    have l6:=iF (d:=b.te.n) this.1 this.2
    simp only[zL,List.length_cons,List.length_nil];omega
   split
   ·simp[zL]
   ·have:0≤b.te.n∧b.te.n≤100000:=by
     rcases hte with⟨h1,h2,h3⟩|⟨h1,h2,h3,h4⟩|⟨h1,h2,h3,h4⟩<;>omega
    have l6:=sR (n:=b.te.n) this.1 (by omega)
    split<;>split<;>(simp only[zL,List.length_cons,List.length_nil];omega)
  ·split
   ·simp[zL]
   ·rename_i hz
    have n6:=vP hN.fi (hb.pa.resolve_left hz)
    split<;>(simp only[zL,nms,List.length_cons,List.length_nil];omega)
  ·split<;>(simp only[zL,nms,List.length_cons,List.length_nil];omega)
  ·simp only[zL,nms,List.length_cons,List.length_nil];omega
 ·simp only[List.mem_append] at hws
  rcases hws with hws|hws|hws|hws
  ·split at hws
   ·rw[List.mem_singleton] at hws
    subst hws
    simp only[zL,jW,List.length_append,List.length_cons,List.length_nil];omega
   ·simp at hws
  ·split at hws
   ·simp at hws
   ·rename_i hz
    have n6:=vP hN.fi (hb.ne.resolve_left hz)
    rw[List.mem_singleton] at hws
    subst hws
    simp only[zL,nms,List.length_cons,List.length_nil];omega
  ·split at hws
   ·rw[List.mem_singleton] at hws
    subst hws
    simp[zL]
   ·simp at hws
  ·rw[List.mem_singleton] at hws
   subst hws
   simp only[zL,nms,List.length_cons,List.length_nil];omega
theorem aK: ∀{L:List (List Txt)},(∀ws∈L,(zT 32 ws).length≤150)→(yH L).length≤L.length*151
 |[],_=>by simp[yH]
 |ws::L,h=>by
  have ih:=aK (L:=L) fun v hv=>h v (List.mem_cons_of_mem _ hv)
  have h1:=h ws (by simp)
  rw[lC,List.length_append,List.length_cons,List.length_cons];omega
theorem iO (C:Cal) (N:Nms) (b:Bil) (p:Int):7≤(rows C N b p).length∧(rows C N b p).length≤10:=by
 unfold rows
 simp only[List.length_append,List.length_cons,List.length_nil]
 split<;>split<;>split<;>simp
theorem zmN {fl:Int} (h0:0≤fl) (h:fl≤7) (k:Int) (hk:k=1∨k=2∨k=4):(IntKind.i64.wrap ↑(BitVec.ofInt IntKind.i64.bits fl&&&BitVec.ofInt IntKind.i64.bits k).toNat !=0)=bit k fl:=by
 have h8:=aB h0 h k hk
 cases hb:bit k fl with
 |false=>rw[h8.2 hb];rfl
 |true=>simp only[bne_iff_ne,ne_eq];exact fun e=>by rw[h8.1 e] at hb;cases hb
theorem uG {is:Bool} {L:List (List Txt)} {ws ws':List Txt} (hj:joinS [32] ws=zT 32 ws'):(if is=true then yH L++(joinS [32] ws++[10]) else yH L)=yH (L++if is=true then[ws'] else[]):=by
 cases is with
 |false=>simp
 |true=>rw[if_pos rfl,if_pos rfl,hj,aH,lC];simp[yH]
theorem aL (L M:List (List Txt)):(yH L).length≤(yH (L++M)).length:=by rw[aH,List.length_append];omega
theorem zmO (L:List (List Txt)) (ws:List Txt):yH (L++[ws])≠[]:=by rw[aH,lC];simp
theorem zmP (ts:TS) (os:OS) (hos: ∀s,s ∉ bT→lookO s os=none):(mkS ts os).back bT bT (fun _=>none)=mkS (mapT (V.scrubs bT) ts) []:=by
 simp only[St.back,mkS,St.mk.injEq]
 refine⟨by funext s;rw[qO _ (dI bT)],?_⟩
 funext s
 by_cases hs:bT.contains s=true
 ·rw[if_pos hs];rfl
 ·rw[if_neg hs,hos s (by simpa using hs)];rfl
theorem zmQ {l:Txt} (hl:l≠[]) {nl:Option Bool} {xs:List AX} {Kk:KK} {d:Nat} {ts:TS} {os:OS} {X:Prop}
  (h7:lookO 7 os=some (.var 80 [.ptr 7 0,.own 18007])) (hA:lookO 18007 os=some (.arr 5 1 nl (bts l))) (hos: ∀s,s ∉ bT→lookO s os=none)
  (hk:Kk (insT d (.str l) (mapT (V.scrubs bT) ts)) []):X∨eW Tryz.prog 55 [.k (.ptr 7 0)] xs Kk (some d) ts os:=by
 refine .inr (.inl ?_)
 have hw: ∀τ,τ∈bT→ ∀ob,lookO τ os=some ob→ob.within bT=true:=by
  intro τ hτ ob hob
  simp only[bT,List.mem_cons,List.not_mem_nil,or_false] at hτ
  rcases hτ with rfl|rfl
  ·rw[h7] at hob;cases hob;rfl
  ·rw[hA] at hob;cases hob;rfl
 refine⟨bT,[],bT,fun r o'=>r=.str l∧o'=fun _=>none,by rfl,by rfl,hw,fun τ hτ=> .inr hτ,?_,?_⟩
 ·have e:(zY bT fun τ=>(lookO τ os).map O.nrm)=zV bT (bO (.ptr 7 0) l):=by
   funext s
   unfold zV zY
   by_cases hs:bT.contains s=true
   ·rw[if_pos hs,if_pos hs]
    have hm:s∈bT:=by simpa using hs
    simp only[bT,List.mem_cons,List.not_mem_nil,or_false] at hm
    rcases hm with rfl|rfl
    ·show(lookO 7 os).map O.nrm=_
     rw[h7];rfl
    ·show(lookO 18007 os).map O.nrm=_
     rw[hA]
     show some (O.arr 5 1 none (C.normRows (bts l)))=_
     rw[lB];rfl
   ·rw[if_neg hs,if_neg hs]
  rw[e]
  exact s55 _ (.inr rfl) l hl
 ·rintro r o' ⟨rfl,rfl⟩
  refine⟨fun _ _=>rfl,rfl,fun τ ob h=>(by cases h),?_⟩
  rw[zmP ts os hos]
  exact⟨_,_,uA _ _ d _,hk⟩
def stT (r:Rlm) (b:Bil):TS:=[(3,.k (.c (.ro (zS r) 0))),(4,.k (.c (.ro (yF b) 0))),(7,.k (.ptr 7 0)),(8,.k (.fnk 47 [.tok 7]))]
theorem zmR {S:V→Prop} (r:Rlm) (b:Bil) (hfl:0≤b.fl∧b.fl≤7) (hdr:inR (fnm r) b.dr) (hN:RlmOk r) (L:List (List Txt))
  (hlen:(yH (L++((if bit 2 b.fl=true then[[[119,105,116,104,111,117,116],[112,114,111,116,101,115,116]]] else[])++[[[115,105,103,110,101,100],nm (fnm r) b.dr]]))).length≤2000)
  (hS:S (.str (yH (L++((if bit 2 b.fl=true then[[[119,105,116,104,111,117,116],[112,114,111,116,101,115,116]]] else[])++[[[115,105,103,110,101,100],nm (fnm r) b.dr]]))))):
  awl Tryz.prog f14b8 (endK [RX.t 6] S) (stT r b) (bO (.ptr 7 0) (yH L)):=by
 have hL:=xZ r
 have hB:yF b=[.int .i64 b.dr,.int .i64 b.de,.int .i64 b.pa,.int .i64 b.su,.int .i64 b.cu,.int .i64 b.te.k,.int .i64 b.te.n,.int .i64 b.te.u,.int .i64 b.da,.int .i64 b.ci,.int .i64 b.py,.int .i64 b.ne,.int .i64 b.ra,.int .i64 b.fl,.int .i64 b.pt]:=rfl
 have hdl:b.dr<r.firms.length:=by have:=hdr.2;rw[sK] at this;exact this
 have hd0:=hdr.1
 have hat:=mR r (i:=b.dr.toNat) (by omega)
 have hnm:(fnm r).getD b.dr.toNat []=nm (fnm r) b.dr:=rfl
 rw[hnm] at hat
 have hnl:=vP hN.fi hdr
 have h2:=zmN hfl.1 hfl.2 2 (by simp)
 rw[←List.append_assoc] at hlen hS
 have hp1:=aL (L++if bit 2 b.fl=true then[[[119,105,116,104,111,117,116],[112,114,111,116,101,115,116]]] else[]) [[[115,105,103,110,101,100],nm (fnm r) b.dr]]
 have hp2:=aL L (if bit 2 b.fl=true then[[[119,105,116,104,111,117,116],[112,114,111,116,101,115,116]]] else[])
 have q1:=Nat.le_trans hp1 (Nat.le_trans hlen (show 2000≤10000000 by decide))
 have q2:=Nat.le_trans hp2 q1
 clear hp1 hp2
 generalize bit 2 b.fl=q at h2 hlen hS q1
 generalize nm (fnm r) b.dr=x at hat hnl hlen hS
 unfold stT
 rw[hL,hB]
 simp only[xQ,h2,xP,xN,xO,Qs,oE,forall_eq,bne_iff_ne,ne_eq,List.mem_cons,Nat.reduceAdd,Nat.reduceEqDiff,Nat.reduceLeDiff,Nat.reduceLT,Nat.reduceBEq,List.not_mem_nil,oF,oG,oH,zgO,oN,oO,oP,Q14,uu f14b8.eq_1]
 refine uF (.inr rfl) (.inl rfl) (is:=q) (ws:=[[119,105,116,104,111,117,116,32,112,114,111,116,101,115,116]]) (by simp) (by simp[zL]) q2 (uG (ws':=[[119,105,116,104,111,117,116],[112,114,111,116,101,115,116]]) rfl) (by rfl) (by rfl) (by rfl) (by rfl) ?_
 have i1:b.dr<(xX r.firms).length:=by rw[yW];exact hdl
 simp only[xQ,wE,hat,hd0,i1,yW,hdl,xP,xN,xO,Qs,oE,jJ,forall_eq_or_imp,forall_eq,bne_iff_ne,ne_eq,List.mem_cons,Nat.reduceAdd,Nat.reduceEqDiff,Nat.reduceLeDiff,Nat.reduceLT,Nat.reduceBEq,List.not_mem_nil,oF,jL,mC,jM,oG,oH,zgO,oN,oO,oP,Q14,uu f14b8.eq_1]
 refine uF (.inr rfl) (.inl rfl) (is:=true) (ws:=[[115,105,103,110,101,100],x]) (by simp) (by simp[zL];omega) q1 (uG (ws':=[[115,105,103,110,101,100],x]) rfl) (by rfl) (by rfl) (by rfl) (by rfl) ?_
 simp only[xQ,wE,xP,xN,xO,Qs,ze1,bne_iff_ne,ne_eq,Nat.reduceEqDiff,Nat.reduceBEq,Q14,uu f14b8.eq_1]
 refine zmQ (zmO _ _) (by rfl) (by rfl) ?_ ?_
 ·intro s hs
  have h1: ¬7=s:=fun e=>hs (by simp[bT,←e])
  have h2: ¬18007=s:=fun e=>hs (by simp[bT,←e])
  simp[lookO,h1,h2]
 ·simp only[Qs]
  exact hS
theorem rU {L M N:List (List Txt)} (h:L++M=N) (hN:(yH N).length≤2000):(yH L).length≤10000000:=by
 have:=aL L M
 rw[h] at this
 exact Nat.le_trans this (Nat.le_trans hN (by decide))
theorem zmS {is:Bool} {L:List (List Txt)} {ws ws':List Txt} (hj:is=true→joinS [32] ws=zT 32 ws'):(if is=true then yH L++(joinS [32] ws++[10]) else yH L)=yH (L++if is=true then[ws'] else[]):=by
 cases is with
 |false=>simp
 |true=>exact uG (hj rfl)
theorem zh7 (c:UInt8): ∀{l m:List Txt},l≠[]→m≠[]→zT c (l++m)=zT c l++c::zT c m
 |[],_,h,_=>absurd rfl h
 |[w],[],_,h=>absurd rfl h
 |[w],v::m,_,_=>rfl
 |w::v::l,m,_,hm=>by
  have ih:=zh7 c (l:=v::l) (by simp) hm
  rw[List.cons_append,List.cons_append,zT,←List.cons_append,ih,zT,List.append_assoc,List.cons_append]
theorem unless_row (l:List Txt) (hl:l≠[]):joinS [32] [[117,110,108,101,115,115,32,112,97,114,116],zT 32 l,[119,97,115,32,112,97,105,100]]=zT 32 ([117,110,108,101,115,115]::[112,97,114,116]::(l++[[119,97,115],[112,97,105,100]])):=by
 have h1:=zh7 32 hl (m:=[[119,97,115],[112,97,105,100]]) (by simp)
 obtain⟨w,m,e⟩: ∃w m,l++[[119,97,115],[112,97,105,100]]=w::m:=by cases l with|nil=>exact absurd rfl hl|cons w m=>exact⟨w,_,rfl⟩
 have h2:zT 32 ([117,110,108,101,115,115]::[112,97,114,116]::(l++[[119,97,115],[112,97,105,100]]))=[117,110,108,101,115,115]++32::([112,97,114,116]++32::zT 32 (l++[[119,97,115],[112,97,105,100]])):=by rw[e];rfl
 rw[h2,h1]
 simp[joinS,zT]
theorem zmT {pt p:Int} (h:pt>1):vJ pt p≠[]:=by
 have hm:vV pt p≠[]:=by
  by_cases hp:p=0
  ·have:(1:Int)∈vV pt p:=by
    unfold vV
    rw[List.mem_filter]
    exact⟨List.mem_map.2 ⟨1,List.mem_range.2 (by omega),rfl⟩,by simp[hp]⟩
   exact List.ne_nil_of_mem this
  ·have:(0:Int)∈vV pt p:=by
    unfold vV
    rw[List.mem_filter]
    exact⟨List.mem_map.2 ⟨0,List.mem_range.2 (by omega),rfl⟩,by simp;omega⟩
   exact List.ne_nil_of_mem this
 unfold vJ
 cases ho:vV pt p with
 |nil=>exact absurd ho hm
 |cons a t=>cases t<;>simp[orW]
def stU (r:Rlm) (b:Bil) (p:Int):TS:=[(2,.int .i64 p),(3,.k (.c (.ro (zS r) 0))),(4,.k (.c (.ro (yF b) 0))),(7,.k (.ptr 7 0)),(8,.k (.fnk 47 [.tok 7]))]
theorem zmU {S:V→Prop} (r:Rlm) (b:Bil) (p:Int) (hN:RlmOk r) (hb:BilOk (nms r) b) (hp0:0≤p) (hp:p<b.pt) (L:List (List Txt))
  (hlen:(yH (L++(rows zI (nms r) b p).drop 4)).length≤2000)
  (hS:S (.str (yH (L++(rows zI (nms r) b p).drop 4)))):
  awl Tryz.prog f14b28 (endK [RX.t 6] S) (stU r b p) (bO (.ptr 7 0) (yH L)):=by
 have hL:=xZ r
 have hB:yF b=[.int .i64 b.dr,.int .i64 b.de,.int .i64 b.pa,.int .i64 b.su,.int .i64 b.cu,.int .i64 b.te.k,.int .i64 b.te.n,.int .i64 b.te.u,.int .i64 b.da,.int .i64 b.ci,.int .i64 b.py,.int .i64 b.ne,.int .i64 b.ra,.int .i64 b.fl,.int .i64 b.pt]:=rfl
 have hpt:=hb.pt
 have hsu:=hb.su
 have hra:=hb.ra
 have T2:=@zmR S r b hb.fl hb.dr hN
 have e4:(rows zI (nms r) b p).drop 4=[if b.ra=0 then[dec b.su,nm r.cur b.cu] else[dec b.su,nm r.cur b.cu,[119,105,116,104],[105,110,116,101,114,101,115,116],[97,116],dec b.ra,[112,101,114],[109,105,108,108,101]],[[116,111],[98,101],[112,97,105,100],[98,121],nm (fnm r) b.de,[105,110],nm (cnm r) b.py]]
  ++((if b.pt>1 then[[117,110,108,101,115,115]::[112,97,114,116]::(vJ b.pt p++[[119,97,115],[112,97,105,100]])] else[])
   ++((if b.ne= -1 then[] else[[[105,110],[110,101,101,100],[97,115,107],nm (fnm r) b.ne]])
   ++((if bit 2 b.fl=true then[[[119,105,116,104,111,117,116],[112,114,111,116,101,115,116]]] else[])++[[[115,105,103,110,101,100],nm (fnm r) b.dr]]))):=rfl
 rw[e4] at hlen hS
 clear e4
 have gs:=c51 b.su (by omega) (by omega)
 rw[pA (by omega)] at gs
 have gr:=c51 b.ra (by omega) (by omega)
 rw[pA (by omega)] at gr
 have ls:=sR (n:=b.su) (by omega) (by omega)
 have lr:=sR (n:=b.ra) (by omega) (by omega)
 have go:=c54 b.pt.toNat p (by omega)
 rw[Int.toNat_of_nonneg (by omega)] at go
 have lo:=zh6 b.pt p (by omega) hpt.2
 have cl:b.cu<(zE r.cur).length:=by rw[zK];exact hb.cu.2
 have c0:=hb.cu.1
 have hcu:(zE r.cur).getD b.cu.toNat []=[.str (nm r.cur b.cu)]:=by
  have h1:b.cu.toNat<r.cur.length:=by have:=hb.cu.2;simp only[nms] at this;omega
  simp[zE,nm,List.getD,h1]
 have nl1:=vP hN.cu hb.cu
 have dl:b.de<(xX r.firms).length:=by rw[yW];have:=hb.de.2;simp only[nms] at this;rwa [sK] at this
 have d0:=hb.de.1
 have hde:=mR r (i:=b.de.toNat) (by rw[yW] at dl;omega)
 rw[show(fnm r).getD b.de.toNat []=nm (fnm r) b.de from rfl] at hde
 have nl2:=vP hN.fi hb.de
 have yl:b.py<(xW r.cities).length:=by rw[yE];have:=hb.py.2;simp only[nms] at this;rwa [rO] at this
 have y0:=hb.py.1
 have hpy:=bD r (i:=b.py.toNat) (by rw[yE] at yl;omega)
 rw[show(cnm r).getD b.py.toNat []=nm (cnm r) b.py from rfl] at hpy
 have nl3:=vP hN.ci hb.py
 have hne:=hb.ne
 change b.ne= -1∨inR (fnm r) b.ne at hne
 unfold stU
 rw[hL,hB]
 simp only[cl,c0,hcu,xQ,xP,wC,xN,xO,Qs,Nat.reduceAdd,Nat.reduceLeDiff,Nat.reduceBEq,Q14,uu f14b28.eq_1]
 refine yV gs ?_
 simp only[cl,c0,hcu,xQ,xP,wC,xN,xO,Qs,oE,forall_eq,bne_iff_ne,ne_eq,List.mem_cons,Nat.reduceAdd,Nat.reduceEqDiff,Nat.reduceLeDiff,Nat.reduceLT,Nat.reduceBEq,List.not_mem_nil,oF,mC,oG,oH,zgO,oN,oO,oP,Q14,uu f14b28.eq_1]
 repeat refine⟨by first|omega|(simp only[List.length_append,List.length_cons,List.length_nil];omega),?_⟩
 have hm:dec b.su++[32]++nm r.cur b.cu=zT 32 [dec b.su,nm r.cur b.cu]:=by simp[zT]
 have hml:(dec b.su++[32]++nm r.cur b.cu).length≤40:=by simp only[List.length_append,List.length_cons,List.length_nil];omega
 generalize dec b.su++[32]++nm r.cur b.cu=m at hm hml
 have hz:(if (b.ra==0)=true then[[dec b.su,nm r.cur b.cu]] else[])++(if decide (b.ra>0)=true then[[dec b.su,nm r.cur b.cu,[119,105,116,104],[105,110,116,101,114,101,115,116],[97,116],dec b.ra,[112,101,114],[109,105,108,108,101]]] else[])=[if b.ra=0 then[dec b.su,nm r.cur b.cu] else[dec b.su,nm r.cur b.cu,[119,105,116,104],[105,110,116,101,114,101,115,116],[97,116],dec b.ra,[112,101,114],[109,105,108,108,101]]]:=by
  by_cases h:b.ra=0
  ·simp[h]
  ·have:b.ra>0:=by omega
   simp[h,this]
 have hj2:joinS [32] [m,[119,105,116,104,32,105,110,116,101,114,101,115,116,32,97,116],dec b.ra,[112,101,114,32,109,105,108,108,101]]=zT 32 [dec b.su,nm r.cur b.cu,[119,105,116,104],[105,110,116,101,114,101,115,116],[97,116],dec b.ra,[112,101,114],[109,105,108,108,101]]:=by
  rw[joinS,joinS,joinS,joinS,hm];simp[zT]
 generalize (if b.ra=0 then[dec b.su,nm r.cur b.cu] else[dec b.su,nm r.cur b.cu,[119,105,116,104],[105,110,116,101,114,101,115,116],[97,116],dec b.ra,[112,101,114],[109,105,108,108,101]])=mon at hz hlen hS
 generalize hA:(if b.pt>1 then[[117,110,108,101,115,115]::[112,97,114,116]::(vJ b.pt p++[[119,97,115],[112,97,105,100]])] else[])=A at hlen hS
 generalize hBn:(if b.ne= -1 then[] else[[[105,110],[110,101,101,100],[97,115,107],nm (fnm r) b.ne]])=B at hlen hS
 obtain⟨L1,e1⟩: ∃x,L++(if (b.ra==0)=true then[[dec b.su,nm r.cur b.cu]] else[])=x:=⟨_,rfl⟩
 obtain⟨L2,e2⟩: ∃x,L++[mon]=x:=⟨_,rfl⟩
 obtain⟨L3,e3⟩: ∃x,L2++[[[116,111],[98,101],[112,97,105,100],[98,121],nm (fnm r) b.de,[105,110],nm (cnm r) b.py]]=x:=⟨_,rfl⟩
 obtain⟨L4,e4⟩: ∃x,L3++A=x:=⟨_,rfl⟩
 have e12:L1++(if decide (b.ra>0)=true then[[dec b.su,nm r.cur b.cu,[119,105,116,104],[105,110,116,101,114,101,115,116],[97,116],dec b.ra,[112,101,114],[109,105,108,108,101]]] else[])=L2:=by rw[←e1,←e2,←hz,List.append_assoc]
 have q0:=rU (L:=L) rfl hlen
 have q1:=rU (L:=L1) (M:=(if decide (b.ra>0)=true then[[dec b.su,nm r.cur b.cu,[119,105,116,104],[105,110,116,101,114,101,115,116],[97,116],dec b.ra,[112,101,114],[109,105,108,108,101]]] else[])++([[[116,111],[98,101],[112,97,105,100],[98,121],nm (fnm r) b.de,[105,110],nm (cnm r) b.py]]++(A++(B++((if bit 2 b.fl=true then[[[119,105,116,104,111,117,116],[112,114,111,116,101,115,116]]] else[])++[[[115,105,103,110,101,100],nm (fnm r) b.dr]]))))) (by rw[←List.append_assoc,e12,←e2];simp) hlen
 have q2:=rU (L:=L2) (M:=[[[116,111],[98,101],[112,97,105,100],[98,121],nm (fnm r) b.de,[105,110],nm (cnm r) b.py]]++(A++(B++((if bit 2 b.fl=true then[[[119,105,116,104,111,117,116],[112,114,111,116,101,115,116]]] else[])++[[[115,105,103,110,101,100],nm (fnm r) b.dr]])))) (by simp[←e2]) hlen
 have q3:=rU (L:=L3) (M:=A++(B++((if bit 2 b.fl=true then[[[119,105,116,104,111,117,116],[112,114,111,116,101,115,116]]] else[])++[[[115,105,103,110,101,100],nm (fnm r) b.dr]]))) (by simp[←e2,←e3]) hlen
 have q4:=rU (L:=L4) (M:=B++((if bit 2 b.fl=true then[[[119,105,116,104,111,117,116],[112,114,111,116,101,115,116]]] else[])++[[[115,105,103,110,101,100],nm (fnm r) b.dr]])) (by simp[←e2,←e3,←e4]) hlen
 have T3:=T2 (L4++B) (by rw[←e4,←e3,←e2];simpa using hlen) (by rw[←e4,←e3,←e2];simpa using hS)
 clear T2 hlen hS
 refine uF (.inr rfl) (.inl rfl) (is:=b.ra==0) (ws:=[m]) (by simp) (by simp[zL];omega) q0 ((uG (ws:=[m]) (ws':=[dec b.su,nm r.cur b.cu]) hm).trans (by rw[e1])) (by rfl) (by rfl) (by rfl) (by rfl) ?_
 simp only[xQ,wE,xP,wC,xN,xO,hde,dl,d0,hpy,yl,y0,Qs,bne_iff_ne,ne_eq,Nat.reduceAdd,Nat.reduceEqDiff,Nat.reduceLeDiff,Nat.reduceBEq,Q14,uu f14b28.eq_1]
 refine yV gr ?_
 simp only[xQ,wE,xP,wC,xN,xO,hde,dl,d0,hpy,yl,y0,Qs,oB,oD,forall_eq_or_imp,forall_eq,List.mem_cons,Nat.reduceAdd,Nat.reduceLT,Nat.reduceBEq,List.not_mem_nil]
 refine uF (.inr rfl) (.inl rfl) (is:=decide (b.ra>0)) (ws:=[m,[119,105,116,104,32,105,110,116,101,114,101,115,116,32,97,116],dec b.ra,[112,101,114,32,109,105,108,108,101]]) (by simp) (by simp[zL];omega) q1 ((uG hj2).trans (by rw[e12])) (by rfl) (by rfl) (by rfl) (by rfl) ?_
 simp only[xQ,wE,xP,wC,xN,xO,hde,dl,d0,hpy,yl,y0,Qs,oB,oD,mA,forall_eq_or_imp,forall_eq,bne_iff_ne,ne_eq,List.mem_cons,Nat.reduceAdd,Nat.reduceEqDiff,Nat.reduceLeDiff,Nat.reduceLT,Nat.reduceBEq,List.not_mem_nil,Q14,uu f14b28.eq_1]
 refine uF (.inr rfl) (.inl rfl) (is:=true) (ws:=[[116,111,32,98,101,32,112,97,105,100,32,98,121],nm (fnm r) b.de,[105,110],nm (cnm r) b.py]) (by simp) (by simp[zL];omega) q2 ((uG (ws':=[[116,111],[98,101],[112,97,105,100],[98,121],nm (fnm r) b.de,[105,110],nm (cnm r) b.py]) (by simp[joinS,zT])).trans (by rw[if_pos rfl,e3])) (by rfl) (by rfl) (by rfl) (by rfl) ?_
 simp only[xQ,wE,xP,wC,xN,xO,hde,dl,d0,hpy,yl,y0,Qs,mA,ze1,bne_iff_ne,ne_eq,Nat.reduceAdd,Nat.reduceEqDiff,Nat.reduceBEq,Q14,uu f14b28.eq_1]
 refine yV go ?_
 simp only[xQ,wE,xP,wC,xN,xO,hde,dl,d0,hpy,yl,y0,Qs,oB,oD,forall_eq_or_imp,forall_eq,List.mem_cons,Nat.reduceAdd,Nat.reduceLT,Nat.reduceBEq,List.not_mem_nil]
 refine uF (.inr rfl) (.inl rfl) (l':=yH L4) (is:=decide (b.pt>1)) (ws:=[[117,110,108,101,115,115,32,112,97,114,116],zT 32 (vJ b.pt p),[119,97,115,32,112,97,105,100]]) (by simp) (by simp[zL];have:=aI 32 (vJ b.pt p);omega) q3 ((zmS (ws':=[117,110,108,101,115,115]::[112,97,114,116]::(vJ b.pt p++[[119,97,115],[112,97,105,100]])) ?_).trans ?_) (by rfl) (by rfl) (by rfl) (by rfl) ?_
 ·intro h
  exact unless_row _ (zmT (by simpa using h))
 ·rw[←e4,←hA];simp only[decide_eq_true_eq]
 simp only[xQ,wE,xP,wC,xN,xO,hde,dl,d0,hpy,yl,y0,Qs,dR,oE,jJ,mA,ze1,forall_eq_or_imp,forall_eq,bne_iff_ne,ne_eq,Int.reduceNeg,List.mem_cons,Nat.reduceAdd,Nat.reduceEqDiff,Nat.reduceLeDiff,Nat.reduceLT,Nat.reduceBEq,zbX,List.not_mem_nil,oF,dU,jL,mC,jM,oG,oH,zgO,oN,oO,oP,Q14,uu f14b28.eq_1]
 refine⟨fun hn=>?_,fun hn=>?_⟩
 ·rw[if_neg hn] at hBn
  have hni:=hne.resolve_left hn
  have nl:b.ne<(xX r.firms).length:=by rw[yW];have:=hni.2;rwa [sK] at this
  have n0:=hni.1
  have hnn:=mR r (i:=b.ne.toNat) (by rw[yW] at nl;omega)
  rw[show(fnm r).getD b.ne.toNat []=nm (fnm r) b.ne from rfl] at hnn
  have nl4:=vP hN.fi hni
  simp only[nl,n0,hnn,xQ,wE,xP,wC,xN,xO,hde,dl,d0,hpy,yl,y0,Qs,Int.reduceNeg]
  refine uF (.inr rfl) (.inl rfl) (is:=true) (ws:=[[105,110,32,110,101,101,100,32,97,115,107],nm (fnm r) b.ne]) (by simp) (by simp[zL];omega) q4 ((uG (ws':=[[105,110],[110,101,101,100],[97,115,107],nm (fnm r) b.ne]) (by simp[joinS,zT])).trans (by rw[if_pos rfl,hBn])) (by rfl) (by rfl) (by rfl) (by rfl) ?_
  simp only[xQ,wE,xP,wC,xN,xO,hde,dl,d0,hpy,yl,y0,Qs,ze1,bne_iff_ne,ne_eq,Int.reduceNeg,Nat.reduceEqDiff,Nat.reduceBEq]
  exact T3
 ·rw[if_pos hn] at hBn
  rw[←hBn,List.append_nil] at T3
  exact T3
theorem zh8 {P:Program} {f:FuncId} {vs:List V} {Kk:KK} {d:Nat} {ts:TS} {os:OS} {cs:List C} {args:List V} {v:V} (hs:Spec P f args (fun r'=>r'=v)) (hk:Kk (insT d v.fz ts) os)
  (hp:vs.all (fun v=>(zD os v).isPure)=true) (ha:(vs.map (fun v=>(zD os v).norm)++cs.map fun c=> .k (.c c.norm))=args) (hr:v.scalar=true):eV P (.k (.c (.fn f cs))) vs Kk d ts os:=
 ⟨hp,v,by rw[ha];exact hs,.inl hr,hk⟩
theorem c14 (r:Rlm) (hr:RlmIn r) (hod: ∀o∈r.orders,o.choices.length≤1000000∧o.rules.length≤1000000) (b:Bil) (p:Int):Spec Tryz.prog 14 [.agg (zS r),.agg (yF b),.int .i64 p] (fun v=>v=.str (textG r b p)):=by
 refine Spec.of_awlS hf14 okf14 (by simp) fun S hS=>?_
 have hno:=xY r
 have hL:=xZ r
 have gC:=c12 r hr hod b
 have g38:Spec _ _ _ (fun v=>v=.bool (inB p b.pt)):=c38 p b.pt
 have hB:yF b=[.int .i64 b.dr,.int .i64 b.de,.int .i64 b.pa,.int .i64 b.su,.int .i64 b.cu,.int .i64 b.te.k,.int .i64 b.te.n,.int .i64 b.te.u,.int .i64 b.da,.int .i64 b.ci,.int .i64 b.py,.int .i64 b.ne,.int .i64 b.ra,.int .i64 b.fl,.int .i64 b.pt]:=rfl
 have hbn:=zhW b
 by_cases hok:okT r b p
 ·rw[nC hok] at hS
  obtain⟨hck,hp0,hp⟩:=hok
  have hb:=hck.bil
  have hN:=aF hck.rl
  have hc:=sP.2 hck
  have hin:inB p b.pt=true:=iJ.2 ⟨hp0,hp⟩
  have hpt:=hb.pt
  have T1:=@zmU S r b p hN hb hp0 hp
  rw[hL,hB]
  rw[hL] at hno
  rw[hB] at hbn
  simp only[Qs,bne_iff_ne,ne_eq,Nat.reduceAdd,Nat.reduceEqDiff,Nat.reduceBEq,Q14]
  refine zC gC ?_ (ha:=by simp only[List.map_cons,List.map_nil,zD,V.norm,xT,hL,hB,hno,hbn])
  simp only[Qs,Nat.reduceAdd,Nat.reduceBEq,zbX,Q14]
  refine⟨fun h=>absurd hc h,fun _=>?_⟩
  refine zC g38 ?_
  have eR:rows zI (nms r) b p=[[if bit 1 b.fl=true then[98,105,108,108] else[112,97,112,101,114],dec (p+1),[111,102],dec b.pt],[[100,114,97,119,110],[105,110],nm (cnm r) b.ci,[111,110],wG zI b.da],wP zI b.te,(if b.pa= -1 then[[116,111],[98,101,97,114,101,114]] else if bit 4 b.fl=true then[[116,111],nm (fnm r) b.pa,[110,111,116],[116,111],[111,114,100,101,114]] else[[116,111],nm (fnm r) b.pa,[111,114],[111,114,100,101,114]])]++(rows zI (nms r) b p).drop 4:=rfl
  have hlen:(yH (rows zI (nms r) b p)).length≤2000:=by
   have h1:=aK (aJ hN hb hp0 hp)
   have h2:=(iO zI (nms r) b p).2
   omega
  have lp:(zT 32 (wP zI b.te)).length≤150:=aJ hN hb hp0 hp _ (by rw[eR];simp)
  rw[eR] at hlen hS
  have T2:=T1 [[if bit 1 b.fl=true then[98,105,108,108] else[112,97,112,101,114],dec (p+1),[111,102],dec b.pt],[[100,114,97,119,110],[105,110],nm (cnm r) b.ci,[111,110],wG zI b.da],wP zI b.te,(if b.pa= -1 then[[116,111],[98,101,97,114,101,114]] else if bit 4 b.fl=true then[[116,111],nm (fnm r) b.pa,[110,111,116],[116,111],[111,114,100,101,114]] else[[116,111],nm (fnm r) b.pa,[111,114],[111,114,100,101,114]])] hlen hS
  obtain⟨L1,e1⟩: ∃x:List (List Txt),[[if bit 1 b.fl=true then[98,105,108,108] else[112,97,112,101,114],dec (p+1),[111,102],dec b.pt]]=x:=⟨_,rfl⟩
  obtain⟨L2,e2⟩: ∃x:List (List Txt),L1++[[[100,114,97,119,110],[105,110],nm (cnm r) b.ci,[111,110],wG zI b.da]]=x:=⟨_,rfl⟩
  obtain⟨L3,e3⟩: ∃x:List (List Txt),L2++[wP zI b.te]=x:=⟨_,rfl⟩
  have q1:=rU (L:=L1) (M:=[[[100,114,97,119,110],[105,110],nm (cnm r) b.ci,[111,110],wG zI b.da],wP zI b.te,(if b.pa= -1 then[[116,111],[98,101,97,114,101,114]] else if bit 4 b.fl=true then[[116,111],nm (fnm r) b.pa,[110,111,116],[116,111],[111,114,100,101,114]] else[[116,111],nm (fnm r) b.pa,[111,114],[111,114,100,101,114]])]++(rows zI (nms r) b p).drop 4) (by rw[←e1];rfl) hlen
  have q2:=rU (L:=L2) (M:=[wP zI b.te,(if b.pa= -1 then[[116,111],[98,101,97,114,101,114]] else if bit 4 b.fl=true then[[116,111],nm (fnm r) b.pa,[110,111,116],[116,111],[111,114,100,101,114]] else[[116,111],nm (fnm r) b.pa,[111,114],[111,114,100,101,114]])]++(rows zI (nms r) b p).drop 4) (by rw[←e2,←e1];rfl) hlen
  have q3:=rU (L:=L3) (M:=[(if b.pa= -1 then[[116,111],[98,101,97,114,101,114]] else if bit 4 b.fl=true then[[116,111],nm (fnm r) b.pa,[110,111,116],[116,111],[111,114,100,101,114]] else[[116,111],nm (fnm r) b.pa,[111,114],[111,114,100,101,114]])]++(rows zI (nms r) b p).drop 4) (by rw[←e3,←e2,←e1];rfl) hlen
  clear T1 hlen hS eR
  rw[show[[if bit 1 b.fl=true then[98,105,108,108] else[112,97,112,101,114],dec (p+1),[111,102],dec b.pt],[[100,114,97,119,110],[105,110],nm (cnm r) b.ci,[111,110],wG zI b.da],wP zI b.te,(if b.pa= -1 then[[116,111],[98,101,97,114,101,114]] else if bit 4 b.fl=true then[[116,111],nm (fnm r) b.pa,[110,111,116],[116,111],[111,114,100,101,114]] else[[116,111],nm (fnm r) b.pa,[111,114],[111,114,100,101,114]])]=L3++[(if b.pa= -1 then[[116,111],[98,101,97,114,101,114]] else if bit 4 b.fl=true then[[116,111],nm (fnm r) b.pa,[110,111,116],[116,111],[111,114,100,101,114]] else[[116,111],nm (fnm r) b.pa,[111,114],[111,114,100,101,114]])] by rw[←e3,←e2,←e1];rfl] at T2
  have c4:IntKind.i64.wrap (p+1)=p+1:=wrap_in (by omega) (by omega)
  have gp:=c51 (p+1) (by omega) (by omega)
  rw[pA (by omega)] at gp
  have gt:=c51 b.pt (by omega) (by omega)
  rw[pA (by omega)] at gt
  have l1:=sR (n:=p+1) (by omega) (by omega)
  have l2:=sR (n:=b.pt) (by omega) (by omega)
  have gd:=c52 b.da hb.da.1 hb.da.2
  have l3:=iF hb.da.1 hb.da.2
  have gy:Spec _ _ [.agg [.int .i64 b.te.k,.int .i64 b.te.n,.int .i64 b.te.u]] _:=c53 b.te b.da hb.da.1 hb.te
  have cl:b.ci<(xW r.cities).length:=by rw[yE];have:=hb.ci.2;simp only[nms] at this;rwa [rO] at this
  have c0:=hb.ci.1
  have hci:=bD r (i:=b.ci.toNat) (by rw[yE] at cl;omega)
  rw[show(cnm r).getD b.ci.toNat []=nm (cnm r) b.ci from rfl] at hci
  have nl1:=vP hN.ci hb.ci
  have hpa:=hb.pa
  change b.pa= -1∨inR (fnm r) b.pa at hpa
  have g50a:=c50 b hb.fl 1 (by simp) [98,105,108,108] [112,97,112,101,114]
  have g50b:=c50 b hb.fl 4 (by simp) [110,111,116,32,116,111,32,111,114,100,101,114] [111,114,32,111,114,100,101,114]
  rw[hB] at g50a g50b
  simp only[hin,xQ,xP,wC,xN,xO,Qs,zcG,zc2,bne_iff_ne,ne_eq,Nat.reduceEqDiff,Nat.reduceBEq,zgL,zgM,zkC,zgN,oI,oJ,zkD,oK,zgO,oL,zkE,zkF,zkc,Q14]
  refine zh8 g50a ?_ (by rfl) (by rfl) (by rfl)
  simp only[xQ,wE,xP,wC,xN,xO,c4,hci,cl,c0,Qs,Nat.reduceBEq]
  have leb:(if bit 1 b.fl=true then[98,105,108,108] else[112,97,112,101,114]:Txt).length≤5:=by split<;>decide
  generalize (if bit 1 b.fl=true then[98,105,108,108] else[112,97,112,101,114]:Txt)=eb at e1 leb
  refine yV gp ?_
  simp only[xQ,wE,xP,wC,xN,xO,c4,hci,cl,c0,Qs,Nat.reduceAdd,Nat.reduceBEq]
  refine yV gt ?_
  simp only[xQ,wE,xP,wC,xN,xO,c4,hci,cl,c0,Qs,oB,oD,forall_eq_or_imp,forall_eq,List.mem_cons,Nat.reduceAdd,Nat.reduceLT,Nat.reduceBEq,List.not_mem_nil]
  refine uF (l:=yH []) (.inl rfl) (.inr rfl) (is:=true) (ws:=[eb,dec (p+1),[111,102],dec b.pt]) (by simp) (by simp[zL];omega) (by simp[yH]) ((uG (ws':=[eb,dec (p+1),[111,102],dec b.pt]) (by simp[joinS,zT])).trans (by rw[if_pos rfl,List.nil_append,e1])) (by rfl) (by rfl) (by rfl) (by rfl) ?_
  simp only[xQ,wE,xP,wC,xN,xO,c4,hci,cl,c0,Qs,bne_iff_ne,ne_eq,Nat.reduceAdd,Nat.reduceEqDiff,Nat.reduceLeDiff,Nat.reduceBEq,Q14]
  refine yV gd ?_
  simp only[xQ,wE,xP,wC,xN,xO,c4,hci,cl,c0,Qs,oB,oD,forall_eq_or_imp,forall_eq,List.mem_cons,Nat.reduceAdd,Nat.reduceLT,Nat.reduceBEq,List.not_mem_nil]
  refine uF (.inr rfl) (.inl rfl) (is:=true) (ws:=[[100,114,97,119,110,32,105,110],nm (cnm r) b.ci,[111,110],wG zI b.da]) (by simp) (by simp[zL];omega) q1 ((uG (ws':=[[100,114,97,119,110],[105,110],nm (cnm r) b.ci,[111,110],wG zI b.da]) (by simp[joinS,zT])).trans (by rw[if_pos rfl,e2])) (by rfl) (by rfl) (by rfl) (by rfl) ?_
  simp only[xQ,wE,xP,wC,xN,xO,c4,hci,cl,c0,Qs,mA,bne_iff_ne,ne_eq,Nat.reduceAdd,Nat.reduceEqDiff,Nat.reduceLeDiff,Nat.reduceBEq,Q14]
  refine zC gy ?_
  simp only[xQ,wE,xP,wC,xN,xO,c4,hci,cl,c0,Qs,dR,oE,jJ,forall_eq,bne_iff_ne,ne_eq,List.mem_cons,Nat.reduceEqDiff,Nat.reduceLT,Nat.reduceBEq,List.not_mem_nil,oF,dU,jL,mC,jM,oG,oH,zgO,oN,oO,oP]
  refine uF (.inr rfl) (.inl rfl) (is:=true) (ws:=[zT 32 (wP zI b.te)]) (by simp) (by simp[zL];omega) q2 ((uG (ws:=[zT 32 (wP zI b.te)]) (ws':=wP zI b.te) rfl).trans (by rw[if_pos rfl,e3])) (by rfl) (by rfl) (by rfl) (by rfl) ?_
  simp only[xQ,wE,xP,wC,xN,xO,c4,hci,cl,c0,Qs,zc2,dR,oE,jJ,ze1,forall_eq,bne_iff_ne,ne_eq,Int.reduceNeg,List.mem_cons,Nat.reduceAdd,Nat.reduceEqDiff,Nat.reduceLeDiff,Nat.reduceLT,Nat.reduceBEq,List.not_mem_nil,oF,dU,jL,mC,jM,oG,oH,zgO,oN,oO,oP,Q14]
  refine⟨fun hz=>?_,fun hz=>?_⟩
  ·rw[if_pos hz] at T2
   refine uF (.inr rfl) (.inl rfl) (is:=true) (ws:=[[116,111,32,98,101,97,114,101,114]]) (by simp) (by simp[zL]) q3 ((uG (ws':=[[116,111],[98,101,97,114,101,114]]) (by simp[joinS,zT])).trans (by rw[if_pos rfl])) (by rfl) (by rfl) (by rfl) (by rfl) ?_
   simp only[xQ,wE,xP,wC,xN,xO,Qs,ze1,bne_iff_ne,ne_eq,Int.reduceNeg,Nat.reduceEqDiff,Nat.reduceBEq]
   exact T2
  ·rw[if_neg hz] at T2
   have hpi:=hpa.resolve_left hz
   have al:b.pa<(xX r.firms).length:=by rw[yW];have:=hpi.2;rwa [sK] at this
   have a0:=hpi.1
   have hpn:=mR r (i:=b.pa.toNat) (by rw[yW] at al;omega)
   rw[show(fnm r).getD b.pa.toNat []=nm (fnm r) b.pa from rfl] at hpn
   have nl4:=vP hN.fi hpi
   simp only[al,a0,hpn,xQ,wE,xP,wC,xN,xO,Qs,Int.reduceNeg]
   refine zh8 g50b ?_ (by rfl) (by rfl) (by rfl)
   simp only[xQ,wE,xP,wC,xN,xO,Qs,oB,oD,forall_eq_or_imp,forall_eq,Int.reduceNeg,List.mem_cons,Nat.reduceAdd,Nat.reduceLT,Nat.reduceBEq,List.not_mem_nil]
   have lo4:(if bit 4 b.fl=true then[110,111,116,32,116,111,32,111,114,100,101,114] else[111,114,32,111,114,100,101,114]:Txt).length≤12:=by split<;>decide
   have hj:joinS [32] [[116,111],nm (fnm r) b.pa,(if bit 4 b.fl=true then[110,111,116,32,116,111,32,111,114,100,101,114] else[111,114,32,111,114,100,101,114]:Txt)]=zT 32 (if bit 4 b.fl=true then[[116,111],nm (fnm r) b.pa,[110,111,116],[116,111],[111,114,100,101,114]] else[[116,111],nm (fnm r) b.pa,[111,114],[111,114,100,101,114]]):=by
    cases bit 4 b.fl<;>simp[joinS,zT]
   generalize (if bit 4 b.fl=true then[[116,111],nm (fnm r) b.pa,[110,111,116],[116,111],[111,114,100,101,114]] else[[116,111],nm (fnm r) b.pa,[111,114],[111,114,100,101,114]])=r3 at hj T2
   generalize (if bit 4 b.fl=true then[110,111,116,32,116,111,32,111,114,100,101,114] else[111,114,32,111,114,100,101,114]:Txt)=w4 at hj lo4
   refine uF (.inr rfl) (.inl rfl) (is:=true) (ws:=[[116,111],nm (fnm r) b.pa,w4]) (by simp) (by simp[zL];omega) q3 ((uG hj).trans (by rw[if_pos rfl])) (by rfl) (by rfl) (by rfl) (by rfl) ?_
   simp only[xQ,wE,xP,wC,xN,xO,Qs,mA,ze1,bne_iff_ne,ne_eq,Int.reduceNeg,Nat.reduceEqDiff,Nat.reduceBEq]
   exact T2
 ·rw[iK hok] at hS
  rw[hL,hB]
  rw[hL] at hno
  rw[hB] at hbn
  simp only[Qs,bne_iff_ne,ne_eq,Nat.reduceAdd,Nat.reduceEqDiff,Nat.reduceBEq,Q14]
  refine zC gC ?_ (ha:=by simp only[List.map_cons,List.map_nil,zD,V.norm,xT,hL,hB,hno,hbn])
  simp only[Qs,Nat.reduceAdd,Nat.reduceBEq,zbX,Q14]
  refine⟨fun _=>hS,fun hc=>?_⟩
  have hin:inB p b.pt=false:=by
   cases h:inB p b.pt with
   |false=>rfl
   |true=>exact absurd ⟨sP.1 hc,iJ.1 h⟩ hok
  refine zC g38 ?_
  simp only[hin,Qs,Nat.reduceBEq,Q14]
  exact hS
end Go.Abs
set_option maxRecDepth 100000
set_option maxHeartbeats 4000000
namespace Go.Proofs
open Go.RowKit Go.Shelf Go.Abs Go.Wd
attribute [local go_sem] Oper.semAt_some
def vG:Bil:=⟨0,0,0,0,0,⟨0,0,0⟩,0,0,0,0,0,0,0⟩
def rdL (t:Txt):List (List Txt):=(xJ t).map (cutC 32)
def parseP (r:Rlm) (t:Txt):Bil×Int×Int:=
 if t.length>4000 then(vG,0,9)
 else if t.count 10<7 then(vG,0,9)
 else if t=[] then(vG,0,9)
 else if textG r (xK zI (nms r) (rdL t)).1 (xK zI (nms r) (rdL t)).2≠t then(vG,0,9)
 else((xK zI (nms r) (rdL t)).1,(xK zI (nms r) (rdL t)).2,0)
def uY (b:Bil):Value:=.agg ((yF b).map vK).toArray
theorem zh9 (t:Txt) (w:World):Calls Tryz.prog 21 #[.string ⟨t.toArray⟩,.string ⟨#[10]⟩] w fun e w'=>e=.returned (.int .i64 ((t.count 10:Nat):Int))∧w'=w:=by
 have:=Any.strings_Count_one Tryz.laysCount ⟨t.toArray⟩ 10 w
 exact this
theorem zmV (t:Txt) (w:World):Calls Tryz.prog 22 #[.string ⟨t.toArray⟩] w fun e w'=>e=.returned (.func (.func 63) #[] #[.pointer (some ⟨w.heap.size,0,none⟩)])∧w'=w.alloc (.cells #[.string ⟨t.toArray⟩] 9):=by
 go_enter Tryz.func22,Tryz.ntmps22
 go_wp2
 go_ret
 exact⟨rfl,rfl⟩
theorem aM {W:World} {base e k:Nat} {v:Value} {xs:List Value} (h:W.ownsRow base e 1 v k xs) {row:Option Nat} (hr: ∀r,row=some r→r<base∨ ∀cur e' fr,W.heap[r]?=some (.cells cur e' fr)→e'≠e):v.ownBlock=none∨v.ownBlock≠row:=by
 rcases h.2 with⟨rfl,_⟩|⟨g,cap,cur,rfl,hb,hg,_⟩
 ·exact .inl rfl
 ·refine .inr fun hrow=>?_
  rcases hr g (by rw[←hrow];rfl) with h1|h1
  ·omega
  ·exact h1 _ _ _ hg rfl
def nE (base:Nat) (W:World) (vs:List Value) (L:List (List Txt)):Prop:= ∀(i:Nat) x ws,vs[i]?=some x→L[i]?=some ws→W.ownsRow base 9 1 x ws.length (wH (zE ws))
def uH (base:Nat) (W:World) (v:Value) (L:List (List Txt)):Prop:= ∃vs:List Value,W.ownsRow base 22 1 v L.length vs∧nE base W vs L
theorem nE.kept {base:Nat} {W W':World} {vs:List Value} {L:List (List Txt)} (h:nE base W vs L) {row:Option Nat} (hg:W.grownBy W' row) (hr: ∀r,row=some r→r<base∨ ∀cur e' fr,W.heap[r]?=some (.cells cur e' fr)→e'≠9):nE base W' vs L:=
 fun i x ws hx hw=>(h i x ws hx hw).kept hg (aM (h i x ws hx hw) hr)
theorem uH.kept {base:Nat} {W W':World} {v:Value} {L:List (List Txt)} (h:uH base W v L) {row:Option Nat} (hg:W.grownBy W' row) (hr: ∀r,row=some r→r<base∨ ∀cur e' fr,W.heap[r]?=some (.cells cur e' fr)→e'≠22∧e'≠9):uH base W' v L:=by
 obtain⟨vs,h1,h2⟩:=h
 exact⟨vs,h1.kept hg (aM h1 fun r e=>(hr r e).imp_right fun h c e' f hc=>(h c e' f hc).1),h2.kept hg fun r e=>(hr r e).imp_right fun h c e' f hc=>(h c e' f hc).2⟩
theorem uH.nil (base:Nat) (W:World):uH base W (.slice none 0 0) []:=⟨[],World.ownsRow_nil _ _ _ _,fun i x ws h=>by simp at h⟩
theorem uH.snoc {base:Nat} {W W1:World} {v v' x:Value} {vs:List Value} {L:List (List Txt)} {ws:List Txt} (h1:W.ownsRow base 22 1 v L.length vs) (h2:nE base W vs L) (hg:W.grownBy W1 v.ownBlock)
  (h3:W1.ownsRow base 22 1 v' (L.length+1) (vs++[x])) (hx:W.ownsRow base 9 1 x ws.length (wH (zE ws))):uH base W1 v' (L++[ws]):=by
 have hr: ∀r,v.ownBlock=some r→r<base∨ ∀cur e' fr,W.heap[r]?=some (.cells cur e' fr)→e'≠9:=by
  intro r hr
  rcases h1.2 with⟨rfl,_⟩|⟨g,cap,cur,rfl,hb,hgg,_⟩
  ·cases hr
  ·cases hr
   refine .inr fun cur' e' fr hc=>?_
   rw[hgg] at hc;cases hc;decide
 have hl:vs.length=L.length:=by have:=h1.1;omega
 refine⟨vs++[x],by rw[List.length_append];exact h3,fun i y u hy hu=>?_⟩
 by_cases hi:i<L.length
 ·rw[List.getElem?_append_left (by omega)] at hy hu
  exact h2.kept hg hr i y u hy hu
 ·by_cases hi2:i=L.length
  ·subst hi2
   rw[List.getElem?_append_right (by omega),Nat.sub_self] at hu
   rw[←hl,List.getElem?_append_right (by omega),Nat.sub_self] at hy
   cases hu;cases hy
   exact hx.kept hg (aM hx hr)
  ·rw[List.getElem?_eq_none (by simp;omega)] at hu;cases hu
theorem zmW {W:World} {Z:Bk→Prop} {base:Nat} {x:Value} {ws:List Txt} (hz: ∀b:Bk,b.2<W.heap.size→Z b) (h:W.ownsRow base 9 1 x ws.length (wH (zE ws))) (hne:ws≠[]):PRep W Z (zB 1 (zE ws)) x:=by
 rcases h.2 with⟨_,h0⟩|⟨g,cap,cur,rfl,hb,hg,hcap,hmax,hsz,htk⟩
 ·exact absurd (List.eq_nil_of_length_eq_zero h0) hne
 have hS:zE ws≠[]:=by rw[Ne,←List.length_eq_zero_iff,zK];exact fun e=>hne (List.eq_nil_of_length_eq_zero e)
 have e1:zB 1 (zE ws)=.list 1 none (zE ws):=by
  unfold zB
  cases hh:zE ws with
  |nil=>exact absurd hh hS
  |cons a b=>rfl
 rw[e1,←zK ws]
 refine .list g 0 cap 1 none (zE ws) (fun i j=>(wH (zE ws)).getD (i*1+j) (.bool false)) (by simp) (by rw[zK];exact hcap) hmax (fun _=>hz _ (Array.getElem?_eq_some_iff.1 hg).1) (fun r hr=>(oZ ws).len r hr) (fun i j r c hr hc=>?_) (fun i j r c hr hc=>?_)
 ·obtain⟨h1,h2⟩:=(oZ ws).at hr hc
  have h3:(cur.toList.take (ws.length*1))[i*1+j]?=some (vK c):=by rw[htk];exact h1
  have h4:cur.toList[i*1+j]?=some (vK c):=by
   rw[List.getElem?_take] at h3
   split at h3
   ·exact h3
   ·cases h3
  have h5:(wH (zE ws)).getD (i*1+j) (.bool false)=vK c:=by rw[List.getD_eq_getElem?_getD,h1];rfl
  rw[h5]
  simp only[World.cell?,hg,Nat.zero_add]
  rw[←Array.getElem?_toList];exact h4
 ·obtain⟨h1,h2⟩:=(oZ ws).at hr hc
  have h5:(wH (zE ws)).getD (i*1+j) (.bool false)=vK c:=by rw[List.getD_eq_getElem?_getD,h1];rfl
  rw[h5]
  exact mV h2
theorem uH.prep {W:World} {Z:Bk→Prop} {base:Nat} {v:Value} {L:List (List Txt)} (hz: ∀b:Bk,b.2<W.heap.size→Z b) (h:uH base W v L) (hne:L≠[]) (hws: ∀ws∈L,ws≠[]):PRep W Z (zB 1 (wss L)) v:=by
 obtain⟨vs,h1,h2⟩:=h
 rcases h1.2 with⟨_,h0⟩|⟨g,cap,cur,rfl,hb,hg,hcap,hmax,hsz,htk⟩
 ·exact absurd (List.eq_nil_of_length_eq_zero h0) hne
 have hS:wss L≠[]:=by rw[Ne,←List.length_eq_zero_iff,vQ];exact fun e=>hne (List.eq_nil_of_length_eq_zero e)
 have e1:zB 1 (wss L)=.list 1 none (wss L):=by
  unfold zB
  cases hh:wss L with
  |nil=>exact absurd hh hS
  |cons a b=>rfl
 have hl:vs.length=L.length:=by have:=h1.1;omega
 have key: ∀(i j:Nat) r c,(wss L)[i]?=some r→r[j]?=some c→j=0∧ ∃ws,L[i]?=some ws∧c=zB 1 (zE ws):=fun i j r c hr hc=>by
  rw[wss,List.getElem?_map] at hr
  cases hL:L[i]? with
  |none=>rw[hL] at hr;cases hr
  |some ws=>
   rw[hL] at hr;cases hr
   cases j with
   |zero=>cases hc;exact⟨rfl,ws,rfl,rfl⟩
   |succ j=>simp at hc
 rw[e1,←vQ L]
 refine .list g 0 cap 1 none (wss L) (fun i j=>vs.getD i (.bool false)) (by simp) (by rw[vQ];exact hcap) hmax (fun _=>hz _ (Array.getElem?_eq_some_iff.1 hg).1) (fun r hr=>?_) (fun i j r c hr hc=>?_) (fun i j r c hr hc=>?_)
 ·obtain⟨ws,_,rfl⟩:=List.mem_map.1 hr;rfl
 ·obtain⟨rfl,ws,hw,rfl⟩:=key i j r c hr hc
  have hi:i<vs.length:=by rw[hl];exact(List.getElem?_eq_some_iff.1 hw).1
  have h5:vs.getD i (.bool false)=vs[i]:=by simp[List.getD,hi]
  have h3:(cur.toList.take (L.length*1))[i]?=some vs[i]:=by rw[htk];simp[hi]
  rw[List.getElem?_take] at h3
  split at h3
  ·rw[h5]
   simp only[World.cell?,hg,Nat.zero_add,Nat.mul_one,Nat.add_zero]
   rw[←Array.getElem?_toList];exact h3
  ·cases h3
 ·obtain⟨rfl,ws,hw,rfl⟩:=key i j r c hr hc
  have hi:i<vs.length:=by rw[hl];exact(List.getElem?_eq_some_iff.1 hw).1
  have h5:vs.getD i (.bool false)=vs[i]:=by simp[List.getD,hi]
  rw[h5]
  exact zmW hz (h2 i vs[i] ws (by simp[hi]) hw) (hws ws (List.mem_of_getElem? hw))
theorem zia (c:UInt8): ∀t:Txt,(cutC c t).length=t.count c+1
 |[]=>rfl
 |x::t=>by
  have ih:=zia c t
  unfold cutC
  split
  ·rename_i h
   rw[List.length_cons,ih,h,List.count_cons_self]
  ·rename_i h
   rw[List.count_cons_of_ne h]
   cases hq:cutC c t with
   |nil=>exact absurd hq (mJ c t)
   |cons a b=>rw[hq] at ih;simpa using ih
theorem zmX {t:Txt} (h:t≠[]):t.count 10≤(xJ t).length∧(xJ t).length≤t.length+1:=by
 have hc:=zia 10 t
 have hle:t.count (10:UInt8)≤t.length:=List.count_le_length
 unfold xJ
 rw[if_neg h]
 split
 ·rw[List.length_dropLast];omega
 ·omega
theorem zmY {t w:Txt} (h:w∈xJ t):w.length≤t.length:=by
 unfold xJ at h
 split at h
 ·cases h
 ·split at h
  ·exact qZ ((List.dropLast_sublist _).subset h)
  ·exact qZ h
theorem zmZ {t:Txt} (ht:t.length≤4000) (hc:7≤t.count 10):7≤(rdL t).length∧(rdL t).length≤10000∧mX (rdL t)∧ ∀ws∈rdL t,ws≠[]:=by
 have hne:t≠[]:=by rintro rfl;simp at hc
 have h1:=zmX hne
 unfold rdL
 rw[List.length_map]
 refine⟨by omega,by omega,fun l hl w hw=>?_,fun ws hws=>?_⟩
 ·obtain⟨u,hu,rfl⟩:=List.mem_map.1 hl
  have:=qZ hw
  have:=zmY hu
  omega
 ·obtain⟨u,hu,rfl⟩:=List.mem_map.1 hws
  exact mJ 32 u
end Go.Proofs
set_option maxRecDepth 100000
set_option maxHeartbeats 4000000
namespace Go.Abs
open Go.Proofs Go.RowKit Go.Wd
theorem zm0 {w:World} {Z:Bk→Prop} {r:List C} {cs:List Value} (hr: ∀c∈r,c.sc=true) (h:zZ w Z r cs):cs=r.map vK:=by
 apply List.ext_getElem?
 intro j
 rw[List.getElem?_map]
 cases hj:r[j]? with
 |none=>
  rw[List.getElem?_eq_none_iff] at hj
  rw[List.getElem?_eq_none (by rw[h.1];exact hj)];rfl
 |some c=>
  have hlt:j<cs.length:=by rw[h.1];exact(List.getElem?_eq_some_iff.1 hj).1
  have h1:cs[j]?=some cs[j]:=by simp[hlt]
  rw[h1,zhN (hr c (List.mem_of_getElem? hj)) (h.2 j c _ hj h1)];rfl
theorem Spec.bil {P:Program} {f:FuncId} {xs:List V} {b:Bil} {p:Int} (h:Spec P f xs (fun r'=>r'=.tup [.agg (yF b),.int .i64 p])) {W:World} (hG:aZ (base W)) {Z:Bk→Prop} (hz: ∀b,Z b→b.2<W.heap.size) {vs:Array Value} (ha:rX W Z xs vs.toList):
  Calls P f vs W fun e W'=>e=.returned (.tuple #[uY b,.int .i64 p])∧Below W.heap.size W W':=by
 refine(h.2 W Z vs hG hz ha).mono ?_
 rintro e w' ⟨v,r',rfl,rfl,_,hrep⟩
 obtain⟨κ,hi⟩:=hrep 0
 refine⟨?_,bU hi.kept⟩
 have h0:=hi.tmps 0
 simp only[if_pos] at h0
 have e3:(#[v]:Array Value).getD 0 undef=v:=rfl
 have e4:((V.tup [.agg (yF b),.int .i64 p]).reg 0).1=.tup [.agg (yF b),.int .i64 p]:=rfl
 rw[e3,e4] at h0
 obtain⟨us,rfl,hl,hv⟩:=h0
 obtain⟨l⟩:=us
 match l,hl,hv with
 |[x,y],_,hv=>
  obtain⟨⟨cs,rfl,hc⟩,hy,_⟩:=hv
  have h1:=zm0 (r:=yF b) (by simp[yF,C.sc]) hc
  have h2:=uR hy.2
  subst h2
  obtain⟨cl⟩:=cs
  have h3:cl=(yF b).map vK:=h1
  subst h3
  rfl
theorem Spec.strA {P:Program} {f:FuncId} {xs:List V} {s:Txt} (h:Spec P f xs (fun r'=>r'=.str s)) {W:World} (hG:aZ (base W)) {Z:Bk→Prop} (hz: ∀b,Z b→b.2<W.heap.size) {vs:Array Value} (ha:rX W Z xs vs.toList):
  Calls P f vs W fun e W'=>e=.returned (.string ⟨s.toArray⟩)∧Below W.heap.size W W':=by
 refine(h.2 W Z vs hG hz ha).mono ?_
 rintro e w' ⟨v,r',rfl,rfl,_,hrep⟩
 obtain⟨κ,hi⟩:=hrep 0
 refine⟨?_,bU hi.kept⟩
 have h0:=hi.tmps 0
 simp only[if_pos] at h0
 have e3:(#[v]:Array Value).getD 0 undef=v:=rfl
 have e4:((V.str s).reg 0).1=.str s:=rfl
 rw[e3,e4] at h0
 rw[vD h0.2]
theorem zib {Z:Bk→Prop} {w W:World} (hz: ∀b,Z b→b.2<w.heap.size) (hb:Below w.heap.size w W):xD Z w W:=fun b h=>hb.block b.2 (hz b h)
theorem zm1 {W:World} {Z:Bk→Prop} {r:Rlm} {us:Array Value} {L:List (List Txt)} {v:Value} (h1:zZ W Z (zS r) us.toList) (h2:PRep W Z (zB 1 (wss L)) v):rX W Z [.agg (zS r),lst 1 (wss L)] [.agg us,v]:=by
 refine⟨rfl,fun j x u hx hu=>?_⟩
 match j with
 |0=>cases hx;cases hu;exact⟨rfl,us,rfl,h1⟩
 |1=>cases hx;cases hu;exact⟨rfl,h2.oneCell,h2⟩
 |j+2=>simp at hx
theorem zm2 {W:World} {Z:Bk→Prop} {r:Rlm} {us:Array Value} {b:Bil} {p:Int} (h1:zZ W Z (zS r) us.toList):rX W Z [.agg (zS r),.agg (yF b),.int .i64 p] [.agg us,uY b,.int .i64 p]:=by
 refine⟨rfl,fun j x u hx hu=>?_⟩
 match j with
 |0=>cases hx;cases hu;exact⟨rfl,us,rfl,h1⟩
 |1=>
  cases hx;cases hu
  refine⟨rfl,_,rfl,by simp,fun i c v hc hv=>?_⟩
  rw[List.getElem?_map,hc] at hv
  cases hv
  exact mV (by have: ∀c∈yF b,c.sc=true:=by simp[yF,C.sc]
               exact this c (List.mem_of_getElem? hc))
 |2=>cases hx;cases hu;exact⟨rfl,rfl,.int _ _⟩
 |j+3=>simp at hx
end Go.Abs
set_option maxRecDepth 100000
set_option maxHeartbeats 4000000
namespace Go.Proofs
open Go.RowKit Go.Shelf Go.Abs Go.Wd
attribute [local go_sem] Oper.semAt_some
def znX:Array Value:= #[.int .i64 0,.int .i64 0,.int .i64 0,.int .i64 0,.int .i64 0,.int .i64 0,.int .i64 0,.int .i64 0,.int .i64 0,.int .i64 0,.int .i64 0,.int .i64 0,.int .i64 0,.int .i64 0,.int .i64 0]
def zic (f:Func):Code:=f.body.getD .skip
def lD:Code→Code
 | .seq _ b=>b
 |c=>c
theorem zm3 {W:World} {a:Addr} {v:Value} (h:W.cell? a=some v):(loadVar 53 a).run Tryz.prog W=.ok v W:=by
 have h0:=Tryz.isAgg53
 go_simp
theorem iP {fn:Func} {p u q:Tmp} {ty:TypeId} (h:fn.results= #[.cell p ty,.tmp u,.tmp q]) (tmps:Array Value) (w:World) {g:Nat} {t:TypeId} {cs:Array Value} {fr:Nat×Nat}
  (hp:tmps.getD p undef=.pointer (some ⟨g,0,none⟩)) (hg:w.heap[g]?=some (.cells cs t fr))
  {fs:Array Field} (hu:Tryz.prog.underlying ty=some (.struct fs)) (hi:(Tryz.prog.info? ty).map (·.size)=some cs.size):
  (results fn tmps).run Tryz.prog w=.ok (.tuple #[.agg cs,tmps.getD u undef,tmps.getD q undef]) w:=by
 have hp':tmps[p]?.getD undef=.pointer (some ⟨g,0,none⟩):=by simpa using hp
 simp[results,h,hp',asAddr,run_loadVar_row w g t ty cs fr _ hg hu rfl hi]
def xF (b:Bil):Array Value:=((yF b).map vK).toArray
theorem pD (b:Bil):(xF b).size=15:=rfl
theorem iQ (W:World) (g:Nat) (old:Array Value) (ho:old.size=15) (b:Bil) (h:W.heap[g]?=some (.cells old 35 (0,0))):(storeVar 35 ⟨g,0,none⟩ (uY b)).run Tryz.prog W=.ok () (W.setRow g (xF b)):=
 run_storeVar_row W g 35 35 old (xF b) h (by rw[pD];kernel_rfl) (by rw[ho,pD]) (by simp[xF,yF,vK,Value.oneCell'])
theorem aN (W:World) (g:Nat) (b:Bil) (h:W.heap[g]?=some (.cells (xF b) 35 (0,0))):(loadVar 35 ⟨g,0,none⟩).run Tryz.prog W=.ok (uY b) W:=
 run_loadVar_row W g 35 35 (xF b) (0,0) _ h Tryz.underlying35 rfl (by rw[pD];kernel_rfl)
theorem aO (W:World) (g:Nat) (us:Array Value) (hus:us.size=8) (h:W.heap[g]?=some (.cells us 31 (0,0))):(loadVar 31 ⟨g,0,none⟩).run Tryz.prog W=.ok (.agg us) W:=
 run_loadVar_row W g 31 31 us (0,0) _ h Tryz.underlying31 rfl (by rw[hus];kernel_rfl)
theorem uZ (W:World) (g:Nat) (cs:Array Value):W.grownBy (W.setRow g cs) (some g):=by
 refine⟨rfl,rfl,rfl,by simp[World.setRow],fun k _ hk=>?_⟩
 show(W.heap.modify g _)[k]?=_
 rw[Array.getElem?_modify,if_neg (fun e=>hk (by rw[e]))]
theorem zm4 {s t:Txt}:((⟨s.toArray⟩:ByteArray)=⟨t.toArray⟩) ↔ s=t:=by
 constructor
 ·intro h;injection h with h;simpa using h
 ·rintro rfl;rfl
attribute [-go_sem] loadVar storeVar
theorem zm5 (us:Array Value) (hus:us.size=8) (t:Txt) (htne:t≠[]) (w:World) (R:Bil×Int×Int) (b:Bil) (p:Int) (s:Txt) (hR:R=if s≠t then(vG,0,9) else(b,p,0)) {D:Nat} {W:World} {v:Value}
  (hv:Boxed W (w.heap.size+1+1) 53 v) (hrb:W.heap[w.heap.size]?=some (.cells us 31 (0,0))) (hbb:W.heap[w.heap.size+1]?=some (.cells znX 35 (0,0))) (hB:Below w.heap.size w W) (hS:w.heap.size+1+1+1+1≤W.heap.size)
  (hD:w.heap.size+1+1+1+1≤D) (hK:W.heap[D]?=some (.deferred (some [])))
  (h25:Calls Tryz.prog 25 #[.agg us,v] W fun e W'=>e=.returned (.tuple #[uY b,.int .i64 p])∧Below W.heap.size W W')
  (h14: ∀W',Below w.heap.size w W'→Calls Tryz.prog 14 #[.agg us,uY b,.int .i64 p] W' fun e W''=>e=.returned (.string ⟨s.toArray⟩)∧Below W'.heap.size W' W'') (z8 z9 z10 z11 z12 z13 z14 z15 z16 z18 z19 z20:Value):
  Code.wpIn Fence.wide 8 Tryz.prog (lD (lD (lD (lD (zic Tryz.f10))))) (bodyPostM Fence.wide 8 Tryz.prog Tryz.f10 (fun e w'=>e=.returned (.tuple #[uY R.1,.int .i64 R.2.1,.int .i64 R.2.2])∧Below w.heap.size w w'))
   {tmps:= #[.agg us,.string ⟨t.toArray⟩,.pointer (some ⟨w.heap.size,0,none⟩),undef,.pointer (some ⟨w.heap.size+1,0,none⟩),.int .i64 0,.int .i64 0,.pointer (some ⟨w.heap.size+1+1,0,none⟩),z8,z9,z10,z11,z12,z13,z14,z15,z16,undef,z18,z19,z20,undef,undef,undef,undef,undef,undef,undef,undef,undef,undef,undef,undef,undef,undef,undef,undef,undef,undef,undef,undef,undef,undef,undef,undef,undef],defers:=[{target:=.collected D,args:= #[]}]} W:=by
 have hn1:1≤8:=by decide
 have L31:=aO W w.heap.size us hus hrb
 have L53:=zm3 hv.cell
 have t0: ¬(⟨t.toArray⟩:ByteArray)=⟨#[]⟩:=fun e=>htne (zm4 (t:=[]).1 e)
 obtain⟨Q,hQ⟩: ∃Q,bodyPostM Fence.wide 8 Tryz.prog Tryz.f10 (fun e w'=>e=.returned (.tuple #[uY R.1,.int .i64 R.2.1,.int .i64 R.2.2])∧Below w.heap.size w w')=Q:=⟨_,rfl⟩
 rw[hQ]
 dsimp only[lD,zic,Tryz.f10,Option.getD]
 have te:t.isEmpty=false:=by cases t<;>simp_all
 have arm: ∀W2,Below W.heap.size W W2→Below w.heap.size w (W2.setRow (w.heap.size+1) (xF b)):=fun W2 hb2=>(hB.trans (hb2.mono hB.size)).grown (uZ W2 _ _) (Nat.le_trans hB.size hb2.size) (fun k e=>by cases e;omega)
 by_cases hst:s=t
 ·subst hst
  rw[if_neg (by simp)] at hR
  subst hR
  gi_wp2_with (first
   |(refine⟨trivial,?_⟩;gi_at_call 25;refine(callsIn_wide.2 h25).mono ?_;rintro e W2 ⟨rfl,hb2⟩;have hbb2:=(hb2.block (w.heap.size+1) (by omega)).trans hbb;have S35:=iQ W2 (w.heap.size+1) znX rfl b hbb2;have hrb3:=((uZ W2 (w.heap.size+1) (xF b)).block w.heap.size (by have:=hb2.size;omega) (by simp)).trans ((hb2.block w.heap.size (by omega)).trans hrb);have L31b:=aO _ w.heap.size us hus hrb3;have hbb3:=setRow_heap W2 (w.heap.size+1) znX (xF b) 35 (0,0) hbb2;have L35:=aN _ (w.heap.size+1) b hbb3;have hB3:=arm W2 hb2)
   |(refine⟨trivial,?_⟩;gi_at_call 14;refine(callsIn_wide.2 (h14 _ hB3)).mono ?_;rintro e W4 ⟨rfl,hb4⟩;have hbb4:=(hb4.block (w.heap.size+1) (by have:=hB3.size;have:=hb2.size;have:=(uZ W2 (w.heap.size+1) (xF b)).size;omega)).trans hbb3;have S35b:=iQ W4 (w.heap.size+1) (xF b) (pD b) b hbb4;have L35b:=aN _ (w.heap.size+1) b hbb4))
  rw[←hQ]
  have hg5:=uZ W4 (w.heap.size+1) (xF b)
  have hs3:=(uZ W2 (w.heap.size+1) (xF b)).size
  have hs2:=hb2.size
  have hs4:=hb4.size
  have hDlt:D<W.heap.size:=(Array.getElem?_eq_some_iff.1 hK).1
  have hK5:(W4.setRow (w.heap.size+1) (xF b)).heap[D]?=some (.deferred (some [])):=(hg5.block D (by omega) (by simp;omega)).trans ((hb4.block D (by omega)).trans (((uZ W2 (w.heap.size+1) (xF b)).block D (by omega) (by simp;omega)).trans ((hb2.block D hDlt).trans hK)))
  have hh5:=setRow_heap W4 (w.heap.size+1) (xF b) (xF b) 35 (0,0) hbb4
  have hB4:=hB3.trans (hb4.mono hB3.size)
  have hB5:=hB4.grown hg5 hB4.size (fun k e=>by cases e;omega)
  refine⟨by simp,.inl ⟨_,_,rfl,run_takeDeferred hK5,?_⟩⟩
  exact⟨_,iP rfl _ _ rfl ((World.putObj_heap_other (by omega)).trans hh5) Tryz.underlying35 (by rw[pD];kernel_rfl),rfl,hB5.grown (grownBy_putObj' _ D _) hB5.size (fun k e=>by cases e;omega)⟩
 ·rw[if_pos hst] at hR
  subst hR
  have hst2:(s==t)=false:=by simp[hst]
  gi_wp2_with (first
   |(refine⟨trivial,?_⟩;gi_at_call 25;refine(callsIn_wide.2 h25).mono ?_;rintro e W2 ⟨rfl,hb2⟩;have hbb2:=(hb2.block (w.heap.size+1) (by omega)).trans hbb;have S35:=iQ W2 (w.heap.size+1) znX rfl b hbb2;have hrb3:=((uZ W2 (w.heap.size+1) (xF b)).block w.heap.size (by have:=hb2.size;omega) (by simp)).trans ((hb2.block w.heap.size (by omega)).trans hrb);have L31b:=aO _ w.heap.size us hus hrb3;have hbb3:=setRow_heap W2 (w.heap.size+1) znX (xF b) 35 (0,0) hbb2;have L35:=aN _ (w.heap.size+1) b hbb3;have hB3:=arm W2 hb2)
   |(refine⟨trivial,?_⟩;gi_at_call 14;refine(callsIn_wide.2 (h14 _ hB3)).mono ?_;rintro e W4 ⟨rfl,hb4⟩;have hbb4:=(hb4.block (w.heap.size+1) (by have:=hB3.size;have:=hb2.size;have:=(uZ W2 (w.heap.size+1) (xF b)).size;omega)).trans hbb3;have S35b:(storeVar 35 ⟨w.heap.size+1,0,none⟩ (.agg #[.int .i64 0,.int .i64 0,.int .i64 0,.int .i64 0,.int .i64 0,.int .i64 0,.int .i64 0,.int .i64 0,.int .i64 0,.int .i64 0,.int .i64 0,.int .i64 0,.int .i64 0,.int .i64 0,.int .i64 0])).run Tryz.prog W4=.ok () (W4.setRow (w.heap.size+1) (xF vG)):=iQ W4 (w.heap.size+1) (xF b) (pD b) vG hbb4))
  rw[←hQ]
  have hg5:=uZ W4 (w.heap.size+1) (xF vG)
  have hs3:=(uZ W2 (w.heap.size+1) (xF b)).size
  have hs2:=hb2.size
  have hs4:=hb4.size
  have hDlt:D<W.heap.size:=(Array.getElem?_eq_some_iff.1 hK).1
  have hK5:(W4.setRow (w.heap.size+1) (xF vG)).heap[D]?=some (.deferred (some [])):=(hg5.block D (by omega) (by simp;omega)).trans ((hb4.block D (by omega)).trans (((uZ W2 (w.heap.size+1) (xF b)).block D (by omega) (by simp;omega)).trans ((hb2.block D hDlt).trans hK)))
  have hh5:=setRow_heap W4 (w.heap.size+1) (xF b) (xF vG) 35 (0,0) hbb4
  have hB4:=hB3.trans (hb4.mono hB3.size)
  have hB5:=hB4.grown hg5 hB4.size (fun k e=>by cases e;omega)
  refine⟨by simp,.inl ⟨_,_,rfl,run_takeDeferred hK5,?_⟩⟩
  exact⟨_,iP rfl _ _ rfl ((World.putObj_heap_other (by omega)).trans hh5) Tryz.underlying35 (by rw[pD];kernel_rfl),rfl,hB5.grown (grownBy_putObj' _ D _) hB5.size (fun k e=>by cases e;omega)⟩
end Go.Proofs
set_option maxRecDepth 100000
set_option maxHeartbeats 4000000
namespace Go.Proofs
open Go.RowKit Go.Shelf Go.Abs Go.Wd
attribute [local go_sem] Oper.semAt_some
attribute [-go_sem] Builtin.append_
theorem aP (w:World) (A B:Obj):((w.alloc A).alloc B).heap[w.heap.size+1]?=some B:=by
 have h:=World.alloc_heap_new (w.alloc A) B
 rwa [World.size_alloc] at h
theorem Tryz.infoE22:(Tryz.prog.info? 22).map (fun i=>(i.zero,i.size,i.bytes))=some (some (.slice none 0 0),1,24):=by kernel_rfl
theorem nF {W W':World} (hb:Below W.heap.size W W'):W.grownBy W' none:=⟨hb.os,hb.tape,hb.output,hb.size,fun k hk _=>hb.block k hk⟩
theorem zm6 {n:Nat} {W W':World} (hg:W.grownBy W' none) (hn:n≤W.heap.size):Below n W W':=⟨hg.os,hg.tape,hg.output,hg.size,fun k hk=>hg.block k (by omega) (by simp)⟩
theorem nG (w:World):w.grownBy w.drew none:=⟨rfl,rfl,rfl,Nat.le_refl _,fun _ _ _=>rfl⟩
def vY (x:tY):List Txt:=cutC 32 (wR x.1 [10])
structure PI (us:Array Value) (w:World) (pre:List tY) (W:World):Prop where
 row: ∃v,Boxed W (w.heap.size+1+1) 53 v∧uH (w.heap.size+1+1+1+1) W v (pre.map vY)
 rlm:W.heap[w.heap.size]?=some (.cells us 31 (0,0))
 bil:W.heap[w.heap.size+1]?=some (.cells znX 35 (0,0))
 bel:Below w.heap.size w W
 siz:w.heap.size+1+1+1+1≤W.heap.size
theorem PI.kept {us:Array Value} {w:World} {pre:List tY} {A B:World} (h:PI us w pre A) {row:Option Nat} (hg:A.grownBy B row) (hr: ∀r,row=some r→r=w.heap.size+1+1+1∨(w.heap.size+1+1+1+1≤r∧ ∃o:Obj,A.heap[r]?=some o∧o.isCells=false)):PI us w pre B:=by
 have hs:=h.siz
 have hlt: ∀r,row=some r→w.heap.size+1+1+1≤r:=fun r e=>by rcases hr r e with h|h<;>omega
 obtain⟨⟨v,h1,h2⟩,h3,h4,h5,_⟩:=h
 refine⟨⟨v,h1.kept hg (fun e=>by have:=hlt _ e.symm;omega),h2.kept hg fun r e=>?_⟩,(hg.block _ (by omega) (fun e=>by have:=hlt _ e.symm;omega)).trans h3,(hg.block _ (by omega) (fun e=>by have:=hlt _ e.symm;omega)).trans h4,h5.grown hg h5.size (fun r e=>by have:=hlt r e;omega),Nat.le_trans hs hg.size⟩
 rcases hr r e with h|⟨h,o,ho,hc⟩
 ·exact .inl (by omega)
 ·refine .inr fun cur e' fr hcc=>?_
  rw[ho] at hcc;cases hcc;cases hc
theorem zm7 {W:World} {base base' e k:Nat} {v:Value} {xs:List Value} (hb:base≤base') (h:W.ownsRow base' e 1 v k xs):W.ownsRow base e 1 v k xs:=by
 refine⟨h.1,h.2.imp_right ?_⟩
 rintro⟨g,cap,cur,h1,h2,h3⟩
 exact⟨g,cap,cur,h1,Nat.le_trans hb h2,h3⟩
theorem zm8 {us:Array Value} {w W W2 W3 w1:World} {pre:List tY} {x:tY} {v v' x2:Value} {vs:List Value} {ob:Obj} (hI:PI us w pre W)
  (ho:W.ownsRow (w.heap.size+1+1+1+1) 22 1 v (pre.map vY).length vs) (hin:nE (w.heap.size+1+1+1+1) W vs (pre.map vY))
  (hb2:Below W.drew.heap.size W.drew W2) (hb3:Below W2.heap.size W2 W3) (ho2:W3.ownsRow W2.heap.size 9 1 x2 (vY x).length (wH (zE (vY x))))
  (hgrow:(W3.alloc ob).grownBy w1 v.ownBlock) (hown:w1.ownsRow (w.heap.size+1+1+1+1) 22 1 v' (pre.length+1) (vs++[x2])) (hv4:Boxed w1 (w.heap.size+1+1) 53 v):
  KeepsOthers W (w1.setCell ⟨w.heap.size+1+1,0,none⟩ v')∧uD (w.heap.size+1+1+1) W (w1.setCell ⟨w.heap.size+1+1,0,none⟩ v')∧PI us w (pre++[x]) (w1.setCell ⟨w.heap.size+1+1,0,none⟩ v'):=by
 have hs:=hI.siz
 have g3:W.grownBy (W3.alloc ob) none:=(((nG W).trans (nF hb2)).trans (nF hb3)).trans (World.grownBy_alloc W3 ob none)
 have hrow: ∀r,v.ownBlock=some r→w.heap.size+1+1+1+1≤r∧ ∃cur,(W3.alloc ob).heap[r]?=some (.cells cur 22 (0,0)):=by
  intro r hr
  have ho3:=ho.kept g3 (Classical.em _)
  rcases ho3.2 with⟨rfl,_⟩|⟨g,cap,cur,rfl,h1,h2,_⟩
  ·cases hr
  ·cases hr;exact⟨h1,cur,h2⟩
 have gs:=grownBy_setCell' w1 (w.heap.size+1+1) v'
 have blk: ∀k,k<w.heap.size+1+1+1+1→k≠w.heap.size+1+1→(w1.setCell ⟨w.heap.size+1+1,0,none⟩ v').heap[k]?=W.heap[k]?:=fun k hk hne=>by
  rw[gs.block k (by have:=hgrow.size;have:=g3.size;omega) (by simpa using hne),hgrow.block k (by have:=g3.size;omega) (fun e=>by have:=(hrow k e.symm).1;omega),g3.block k (by omega) (by simp)]
 refine⟨?_,blk _ (by omega) (by omega),⟨⟨v',hv4.set v',?_⟩,(blk _ (by omega) (by omega)).trans hI.rlm,(blk _ (by omega) (by omega)).trans hI.bil,?_,?_⟩⟩
 ·refine⟨Nat.le_trans g3.size (Nat.le_trans hgrow.size gs.size),fun k o hk hc=>?_⟩
  have hk1:k<W.heap.size:=(Array.getElem?_eq_some_iff.1 hk).1
  have h1:(W3.alloc ob).heap[k]?=some o:=(g3.block k hk1 (by simp)).trans hk
  have h2:w1.heap[k]?=some o:=(hgrow.block k (Nat.lt_of_lt_of_le hk1 g3.size) (fun e=>by
   obtain⟨_,cur,hcur⟩:=hrow k e.symm
   rw[h1] at hcur;cases hcur;cases hc)).trans h1
  refine(gs.block k (Nat.lt_of_lt_of_le hk1 (Nat.le_trans g3.size hgrow.size)) (fun e=>?_)).trans h2
  cases e
  rw[show w1.heap[w.heap.size+1+1]?=_ from hv4] at h2;cases h2;cases hc
 ·have hx:(W3.alloc ob).ownsRow (w.heap.size+1+1+1+1) 9 1 x2 (vY x).length (wH (zE (vY x))):=
   zm7 (Nat.le_trans hs (Nat.le_trans (nG W).size hb2.size)) (ho2.kept (World.grownBy_alloc W3 ob none) (Classical.em _))
  have hH:=uH.snoc (ho.kept g3 (Classical.em _)) (hin.kept g3 (fun r e=>by cases e)) hgrow (by rw[List.length_map];exact hown) hx
  rw[List.map_append]
  exact hH.kept gs (fun r e=> .inl (by cases e;omega))
 ·have b1:=hI.bel.grown g3 hI.bel.size (fun r e=>by cases e)
  have b2:=b1.grown hgrow b1.size (fun r e=>by have:=(hrow r e).1;omega)
  exact b2.grown gs b2.size (fun r e=>by cases e;omega)
 ·exact Nat.le_trans hs (Nat.le_trans g3.size (Nat.le_trans hgrow.size gs.size))
theorem zm9 (r:Rlm) (hr:RlmIn r) (hod: ∀o∈r.orders,o.choices.length≤1000000∧o.rules.length≤1000000) (us:Array Value) (hus:us.size=8) (t:Txt) (w:World) (hG:aZ (base w)) {Z0:Bk→Prop} (hz0: ∀b,Z0 b→b.2<w.heap.size) (hrl:zZ w Z0 (zS r) us.toList):
  Calls Tryz.prog 10 #[.agg us,.string ⟨t.toArray⟩] w fun e w'=>e=.returned (.tuple #[uY (parseP r t).1,.int .i64 (parseP r t).2.1,.int .i64 (parseP r t).2.2])∧Below w.heap.size w w':=by
 refine(callsIn_wide (n:=8)).1 ?_
 have hsz:=nA t
 by_cases h1:t.length>4000
 ·have h1i:(t.length:Int)>4000:=by omega
  have hP:parseP r t=(vG,0,9):=if_pos h1
  rw[hP]
  refine callsIn_of_wp_marks Tryz.func10 rfl trivial ?_
  simp only[Tryz.ntmps10,List.size_toArray,List.length_cons,List.length_nil,Nat.reduceAdd,Nat.reduceSub,Array.replicate_succ,Array.replicate_zero,List.push_toArray,List.append_toArray,List.nil_append,List.cons_append]
  gi_wp2
  refine⟨trivial,?_⟩
  gi_wp2
  refine⟨_,iP rfl _ _ rfl (aP _ _ _) Tryz.underlying35 (by kernel_rfl),rfl,((Below.refl _ w).alloc (Nat.le_refl _) _).alloc (by simp) _⟩
 have h1i: ¬(t.length:Int)>4000:=by omega
 have hn1:1≤8:=by decide
 by_cases h2:t.count 10<7
 ·have h2i:((t.count 10:Nat):Int)<7:=by omega
  have hP:parseP r t=(vG,0,9):=by unfold parseP;rw[if_neg h1,if_pos h2]
  rw[hP]
  have hc:=fun w=>zh9 t w
  refine callsIn_of_wp_marks Tryz.func10 rfl trivial ?_
  simp only[Tryz.ntmps10,List.size_toArray,List.length_cons,List.length_nil,Nat.reduceAdd,Nat.reduceSub,Array.replicate_succ,Array.replicate_zero,List.push_toArray,List.append_toArray,List.nil_append,List.cons_append]
  gi_wp2_with (refine⟨trivial,?_⟩;gi_at_call 21;refine(callsIn_wide.2 (hc _)).mono ?_;rintro e w' ⟨rfl,rfl⟩)
  refine⟨_,iP rfl _ _ rfl (aP _ _ _) Tryz.underlying35 (by kernel_rfl),rfl,((Below.refl _ w).alloc (Nat.le_refl _) _).alloc (by simp) _⟩
 have h2i: ¬((t.count 10:Nat):Int)<7:=by omega
 obtain⟨R,hR⟩: ∃R,parseP r t=R:=⟨_,rfl⟩
 rw[hR]
 have hc:=fun w=>zh9 t w
 have hl:=fun w=>zmV t w
 refine callsIn_of_wp_marks Tryz.func10 rfl trivial ?_
 simp only[Tryz.ntmps10,List.size_toArray,List.length_cons,List.length_nil,Nat.reduceAdd,Nat.reduceSub,Array.replicate_succ,Array.replicate_zero,List.push_toArray,List.append_toArray,List.nil_append,List.cons_append]
 gi_wp2_with (first|(refine⟨trivial,?_⟩;gi_at_call 21;refine(callsIn_wide.2 (hc _)).mono ?_;rintro e w' ⟨rfl,rfl⟩)|(refine⟨trivial,?_⟩;gi_at_call 22;refine(callsIn_wide.2 (hl _)).mono ?_;rintro e w' ⟨rfl,rfl⟩))
 have ht4:t.length≤4000:=by omega
 refine zkY (bs:=w.heap.size+1+1+1) rfl (by decide) (gf:=63) (lb:= #[.pointer (some ⟨w.heap.size+1+1+1,0,none⟩)]) rfl trivial (enters_of Tryz.func63 (by kernel_rfl) rfl)
  (zma 7 (by decide) (w.heap.size+1+1+1) t ht4 _ ?hcell ?hfroz) ?hbs (Below.refl _ _) (fun _=>rfl) (PI us w)
  (fun s A B row hs hg hr=>hs.kept hg fun r e=> .inr (by have:=hr r e;simpa using this))
  (fun pre W v hs=>hs.kept (grownBy_setCell' W _ v) fun r e=> .inl (by cases e;rfl))
  (fun pre W hs=>hs.kept (nG W) fun r e=>by cases e) ?h0
  (fun x=>{tmps:= #[.agg us,.string ⟨t.toArray⟩,.pointer (some ⟨w.heap.size,0,none⟩),undef,.pointer (some ⟨w.heap.size+1,0,none⟩),.int .i64 0,.int .i64 0,.pointer (some ⟨w.heap.size+1+1,0,none⟩),.string ⟨x.1.toArray⟩,.string ⟨t.toArray⟩,.int .i64 (t.length:Int),.bool false,.bool false,.string ⟨t.toArray⟩,.int .i64 ((t.count 10:Nat):Int),.bool (decide (((t.count 10:Nat):Int)<7)),.bool (decide (((t.count 10:Nat):Int)<7)),undef,.string ⟨t.toArray⟩,.func (.func 63) #[] #[.pointer (some ⟨w.heap.size+1+1+1,0,none⟩)],.string ⟨x.1.toArray⟩,undef,undef,undef,undef,undef,undef,undef,undef,undef,undef,undef,undef,undef,undef,undef,undef,undef,undef,undef,undef,undef,undef,undef,undef,undef],defers:=[]}) ?assign ?body ?done
 case hcell=>
  have h:=Boxed.new (((w.alloc (.cells us 31)).alloc (.cells znX 35)).alloc (.cells #[.slice none 0 0] 53)) 9 (.string ⟨t.toArray⟩)
  rw[World.size_alloc,World.size_alloc,World.size_alloc] at h
  exact h.cell
 case hfroz=>
  have h:=Boxed.new (((w.alloc (.cells us 31)).alloc (.cells znX 35)).alloc (.cells #[.slice none 0 0] 53)) 9 (.string ⟨t.toArray⟩)
  rw[World.size_alloc,World.size_alloc,World.size_alloc] at h
  exact h.frozen
 case hbs=>simp
 case h0=>
  have h:=Boxed.new ((w.alloc (.cells us 31)).alloc (.cells znX 35)) 53 (.slice none 0 0)
  rw[World.size_alloc,World.size_alloc] at h
  refine⟨⟨_,h.alloc _,uH.nil _ _⟩,?_,?_,((((Below.refl _ w).alloc (Nat.le_refl _) _).alloc (by simp) _).alloc (by simp;omega) _).alloc (by simp;omega) _,by simp⟩
  ·exact(Below.heap_alloc _ _ _ (by simp;omega)).trans ((Below.heap_alloc _ _ _ (by simp;omega)).trans ((Below.heap_alloc _ _ _ (by simp)).trans (World.alloc_heap_new w _)))
  ·exact(Below.heap_alloc _ _ _ (by simp)).trans ((Below.heap_alloc _ _ _ (by simp)).trans (aP w _ _))
 case assign=>
  intro l x W K hK
  simp only[iD]
  gi_wp2
  exact hK
 case body=>
  rintro l pre x W hI hlen
  have hI2:=hI
  obtain⟨⟨v,hv,vs,ho,hin⟩,hr3,hb3,hB,hS⟩:=hI
  have hvc:=hv.cell
  have hx4:=x.2
  have h24: ∀W',Below w.heap.size w W'→Calls Tryz.prog 24 #[.string ⟨x.1.toArray⟩,.string ⟨#[10]⟩] W' fun e W''=>e=.returned (.string ⟨(wR x.1 [10]).toArray⟩)∧Below W'.heap.size W' W'':=fun W' hb=>(c24 x.1 [10] (by omega) (by decide)).scal rfl rfl (hG.later (sO hb))
  have htl:(wR x.1 [10]).length≤4000:=by
   unfold wR;split
   ·exact Nat.le_trans (List.length_take_le' _ _) hx4
   ·exact hx4
  have h23: ∀W',Below w.heap.size w W'→Calls Tryz.prog 23 #[.string ⟨(wR x.1 [10]).toArray⟩,.string ⟨#[32]⟩] W' fun e W''=> ∃v,e=.returned v∧W''.ownsRow W'.heap.size 9 1 v (vY x).length (wH (zE (vY x)))∧Below W'.heap.size W' W'':=fun W' hb=>zhV (wR x.1 [10]) 32 (by omega) (hG.later (sO hb))
  obtain⟨k,hk⟩: ∃k,(vY x).length=k+1:=⟨(vY x).length-1,by have:=mJ 32 (wR x.1 [10]);have:0<(vY x).length:=List.length_pos_iff.2 this;omega⟩
  have hn1:1≤8-1-1:=by decide
  have mixed:Tryz.prog.follows Departure.mixedOrders=true:=by kernel_rfl
  have hBd:Below w.heap.size w W.drew:=hB.trans (zm6 (nG W) hB.size)
  have hvd:Boxed W.drew (w.heap.size+1+1) 53 v:=hv.kept (nG W) (by simp)
  obtain⟨i0,hi,hz0,hz1,hz2⟩:=info_parts Tryz.infoE22
  have ho2d:=ho.kept (nG W) (Classical.em _)
  gi_wp2
  gi_region_with_o (first
   |(refine⟨trivial,?_⟩;gi_at_call 24;refine(CallsIn.inRound l (callsIn_wide.2 (h24 _ hBd))).mono ?_;rintro e W2 ⟨rfl,hb2⟩;have hB2:=hBd.trans (hb2.mono hBd.size);have hv2:=hvd.kept (nF hb2) (by simp);have hvc2:=hv2.cell)
   |(refine⟨trivial,?_⟩;gi_at_call 23;refine(CallsIn.inRound l (callsIn_wide.2 (h23 _ hB2))).mono ?_;rintro e W3 ⟨v2,rfl,ho2,hb3⟩;rw[hk] at ho2;obtain⟨g2,cap2,rfl⟩:=ownsRow_succ ho2;have hv3:=hv2.kept (nF hb3) (by simp);have hvc3:=hv3.cell;have hvc3a:=(hv3.alloc (.cells #[.slice (some ⟨g2,0,none⟩) (k+1) cap2] 22)).cell;have ho3:=((ho2d.kept (nF hb2) (Classical.em _)).kept (nF hb3) (Classical.em _)).kept (World.grownBy_alloc W3 (.cells #[.slice (some ⟨g2,0,none⟩) (k+1) cap2] 22) none) (Classical.em _);obtain⟨v',w1,hrun,hown',hgrow,-⟩:=run_append_own (P:=Tryz.prog) _ _ 53 53 22 i0 (.slice none 0 0) 1 24 Tryz.underlying53 hi hz0 hz1 hz2 rfl (by decide) v _ _ ho3 ⟨W3.heap.size,0,none⟩ 1 1 [.slice (some ⟨g2,0,none⟩) (k+1) cap2] rfl (cell_one_new _ _ _) (by simp[Value.oneCell']) (by rw[List.length_map];unfold maxLen;omega) (by rw[List.length_map];omega) (by have:=hb2.size;have:=hb3.size;simp at*;omega);have hv4:=(hv3.alloc _).kept hgrow (Boxed.not_row (hv3.alloc _) (by decide) ho3);have hvc4:=hv4.cell;have hvf4:=hv4.frozen;obtain⟨g',cap',rfl⟩:=ownsRow_succ hown'))
  all_goals
   rw[List.length_map] at hown'
   exact zm8 hI2 ho hin hb2 hb3 (by rw[hk];exact ho2) hgrow hown' hv4
 case done=>
  rintro D xs W hD hxs hI hK
  obtain⟨⟨v,hv,hH⟩,hrb,hbb,hB,hS⟩:=hI
  have hxs2:xs.map vY=rdL t:=by
   have:(xs.map fun x=>wR x.1 [10])=xJ t:=hxs
   unfold rdL;rw[←this,List.map_map];rfl
  rw[hxs2] at hH
  obtain⟨k1,k2,k3,k4⟩:=zmZ ht4 (by omega:7≤t.count 10)
  have hLne:rdL t≠[]:=fun e=>by rw[e] at k1;simp at k1
  have h25:Calls Tryz.prog 25 #[.agg us,v] W fun e W'=>e=.returned (.tuple #[uY (xK zI (nms r) (rdL t)).1,.int .i64 (xK zI (nms r) (rdL t)).2])∧Below W.heap.size W W':=
   (c25 r hr (rdL t) k1 k2 k3).bil (hG.later (sO hB)) (Z:=fun b=>b.2<W.heap.size) (fun _ h=>h) (zm1 (hrl.mono (zib hz0 hB) fun b h=>Nat.lt_of_lt_of_le (hz0 b h) hB.size) (hH.prep (fun _ h=>h) hLne k4))
  have h14: ∀W',Below w.heap.size w W'→Calls Tryz.prog 14 #[.agg us,uY (xK zI (nms r) (rdL t)).1,.int .i64 (xK zI (nms r) (rdL t)).2] W' fun e W''=>e=.returned (.string ⟨(textG r (xK zI (nms r) (rdL t)).1 (xK zI (nms r) (rdL t)).2).toArray⟩)∧Below W'.heap.size W' W'':=fun W' hb=>
   (c14 r hr hod (xK zI (nms r) (rdL t)).1 (xK zI (nms r) (rdL t)).2).strA (hG.later (sO hb)) (Z:=fun b=>b.2<W'.heap.size) (fun _ h=>h) (zm2 (hrl.mono (zib hz0 hb) fun b h=>Nat.lt_of_lt_of_le (hz0 b h) hb.size))
  have hP:parseP r t=if t=[] then(vG,0,9) else if textG r (xK zI (nms r) (rdL t)).1 (xK zI (nms r) (rdL t)).2≠t then(vG,0,9) else((xK zI (nms r) (rdL t)).1,(xK zI (nms r) (rdL t)).2,0):=by
   unfold parseP;rw[if_neg h1,if_neg h2]
  have htne:t≠[]:=by rintro rfl;simp at h2
  rw[if_neg htne,hR] at hP
  clear hR
  refine(‹∀(a:Act) (w:World),Code.wpIn Fence.wide 8 Tryz.prog _ _ a w→_›) _ _ ?_
  exact zm5 us hus t htne w R _ _ _ hP hv hrb hbb hB hS (by simpa using hD) hK h25 h14 _ _ _ _ _ _ _ _ _ _ _ _
end Go.Proofs
set_option maxRecDepth 100000
set_option maxHeartbeats 4000000
namespace Go.Abs
open Go.Proofs Go.RowKit Go.Lib Go.Wd
theorem c10 (r:Rlm) (hr:RlmIn r) (hod: ∀o∈r.orders,o.choices.length≤1000000∧o.rules.length≤1000000) (t:Txt):Spec Tryz.prog 10 [.agg (zS r),.str t] (fun v=>v=.tup [.agg (yF (parseP r t).1),.int .i64 (parseP r t).2.1,.int .i64 (parseP r t).2.2]):=by
 refine⟨rR (by kernel_rfl),fun w Z vs hG hz ha=>?_⟩
 obtain⟨vl⟩:=vs
 match vl,ha with
 |[],ha=>exact absurd ha.1 (by simp)
 |[_],ha=>exact absurd ha.1 (by simp)
 |_::_::_::_,ha=>exact absurd ha.1 (by simp)
 |[v,v2],ha=>
  have e2:=vD (ha.2 1 _ v2 rfl rfl).2.2
  subst e2
  obtain⟨us,rfl,hrow⟩:=(ha.2 0 _ v rfl rfl).2
  have hus:us.size=8:=by have:=hrow.1;simpa [zS] using this
  refine(zm9 r hr hod us hus t w hG hz hrow).mono ?_
  rintro e w' ⟨rfl,hb⟩
  refine⟨_,_,rfl,rfl,fun _=>rfl,mD hG (sO hb) (fun _=>rfl) (fun _=>⟨_,rfl,rfl,⟨_,rfl,by simp,fun i c u hc hu=>?_⟩,⟨rfl,.int _ _⟩,⟨rfl,.int _ _⟩,trivial⟩)⟩
  rw[List.getElem?_map,hc] at hu
  cases hu
  exact mV ((show∀c∈yF (parseP r t).1,c.sc=true by simp[yF,C.sc]) c (List.mem_of_getElem? hc))
theorem zna (a b:Bil):(a.dr==b.dr&&(a.de==b.de&&(a.pa==b.pa&&(a.su==b.su&&(a.cu==b.cu&&(a.te.k==b.te.k&&(a.te.n==b.te.n&&(a.te.u==b.te.u&&(a.da==b.da&&(a.ci==b.ci&&(a.py==b.py&&(a.ne==b.ne&&(a.ra==b.ra&&(a.fl==b.fl&&a.pt==b.pt))))))))))))))=decide (a=b):=by
 obtain⟨a1,a2,a3,a4,a5,⟨a6,a7,a8⟩,a9,a10,a11,a12,a13,a14,a15⟩:=a
 obtain⟨b1,b2,b3,b4,b5,⟨b6,b7,b8⟩,b9,b10,b11,b12,b13,b14,b15⟩:=b
 rw[Bool.eq_iff_iff]
 simp only[Bool.and_eq_true,beq_iff_eq,decide_eq_true_eq,Bil.mk.injEq,Ten.mk.injEq,and_assoc]
def alikeP (r:Rlm) (s t:Txt):Bool:=decide ((parseP r s).2.2=0)&&(decide ((parseP r t).2.2=0)&&decide ((parseP r s).1=(parseP r t).1))
theorem c16 (r:Rlm) (hr:RlmIn r) (hod: ∀o∈r.orders,o.choices.length≤1000000∧o.rules.length≤1000000) (s t:Txt):Spec Tryz.prog 16 [.agg (zS r),.str s,.str t] (fun v=>v=.bool (alikeP r s t)):=by
 refine Spec.of_awlS hf16 okf16 (by simp) fun S hS=>?_
 have hL:=xZ r
 have hno:=xY r
 have g1:=c10 r hr hod s
 have g2:=c10 r hr hod t
 unfold alikeP at hS
 rw[hL] at g1 g2 hno
 rw[hL]
 unfold yF at g1 g2
 simp only[Qs,Nat.reduceAdd,Nat.reduceBEq,Q16]
 refine sG g1 ?_ (ha:=by simp only[List.map_cons,List.map_nil,zD,V.norm,xT,hno];rfl)
 simp only[Qs,bne_iff_ne,ne_eq,List.append_nil,Nat.reduceAdd,Nat.reduceMul,Nat.reduceEqDiff,Nat.reduceBEq,Q16]
 refine sG g2 ?_ (ha:=by simp only[List.map_cons,List.map_nil,zD,V.norm,xT,hno];rfl)
 simp only[Qs,jB,jC,jD,jE,jF,jG,jH,bne_iff_ne,ne_eq,List.append_nil,Nat.reduceAdd,Nat.reduceMul,Nat.reduceEqDiff,Nat.reduceBEq,Option.bind_some,Q16]
 rw[zna]
 refine⟨fun h1=>⟨fun h2=>?_,fun h2=>?_⟩,fun h1=>?_⟩
 ·rw[h1,h2] at hS;exact hS
 ·rw[h1,decide_eq_false h2] at hS;exact hS
 ·rw[decide_eq_false h1] at hS;exact hS
def rV (c:Cty):Bool:=decide (c.feasts.length≤70)&&(decide (c.shut.length≤210)&&decide (c.rest.length≤8))
def vR (o:Order):Bool:=decide (o.choices.length≤40)&&decide (o.rules.length≤40)
def fewR (r:Rlm):Bool:=(r.cities.take 50).all rV&&((r.orders.take 50).all vR&&decide (r.cur.length<50∧r.cities.length<50∧r.groups.length<50∧r.firms.length<210∧r.orders.length<50∧r.usances.length<110∧r.rates.length<110∧r.halts.length<50))
theorem aQ {α:Type} {p:α→Bool} {l:List α} {i:Nat} (h:(l.take i).all p=true) (hi:i<l.length) (hp:p l[i]=true):(l.take (i+1)).all p=true:=by
 rw[List.take_succ_eq_append_getElem hi,List.all_append,h];simp[hp]
theorem aR {α:Type} {p:α→Bool} {l:List α} {i:Nat} (hi:i<l.length) (h5:i<50) (hp:p l[i]=false):(l.take 50).all p=false:=by
 rw[List.all_eq_false]
 exact⟨l[i],by rw[List.mem_take_iff_getElem];exact⟨i,by omega,rfl⟩,by rw[hp];simp⟩
theorem nH {α:Type} {p:α→Bool} {l:List α} {i:Nat} (h:(l.take i).all p=true) (hi:i≤l.length) (hx: ¬(i<l.length∧i<50)) (h5:i≤50):(l.take 50).all p=true:=by
 by_cases h50:i=50
 ·rw[←h50];exact h
 ·have:i=l.length:=by omega
  rw[List.take_of_length_le (by omega)]
  rw[this,List.take_length] at h;exact h
theorem c20 (r:Rlm):Spec Tryz.prog 20 [.agg (zS r)] (fun v=>v=.bool (fewR r)):=by
 refine Spec.of_awlS hf20 okf20 (by simp) fun S hS=>?_
 have hL:=xZ r
 unfold fewR at hS
 rw[hL]
 simp only[Qs,Nat.reduceBEq,Q20]
 rw[uu f20l32.eq_1]
 refine yY (fun i:Nat=>[(1,.k (.ptr 1 0)),(3,.int .i64 i)]) (fun _=>[(1,.var 31 [.c (zB 1 (zE r.cur)),.c (zB 6 (xW r.cities)),.c (zB 1 (zN r.groups)),.c (zB 3 (xX r.firms)),.c (zB 4 (wK r.orders)),.c (zB 3 (t3s r.usances)),.c (zB 5 (t5s r.rates)),.c (zB 3 (t3s r.halts))])]) (fun i=>i≤r.cities.length∧i≤50∧Aside ((r.cities.take i).all rV=true)) (fun i=>r.cities.length-i) 0 rfl rfl ⟨Nat.zero_le _,Nat.zero_le _,rfl⟩ ?_
 rintro i ⟨hi,h50,hall⟩
 have c4:IntKind.i64.wrap ((i:Int)+1)=(i:Int)+1:=wrap_in (by omega) (by omega)
 by_cases hlt:i<r.cities.length
 ·have c1:(i:Int)<r.cities.length:=by omega
  by_cases h5:i<50
  ·have c2:(i:Int)<50:=by omega
   have hat:=mK hlt
   have ii:(i:Int)<(xW r.cities).length:=by rw[yE];exact c1
   have hb:=@aR Cty rV r.cities i hlt h5
   have hg:=@aQ Cty rV r.cities i hall.out hlt
   generalize r.cities[i]=c at hat hb hg
   unfold xL at hat
   by_cases q1:c.feasts.length≤70
   ·by_cases q2:c.shut.length≤210
    ·by_cases q3:c.rest.length≤8
     ·have w1: ¬(c.feasts.length:Int)>70:=by omega
      have w2: ¬(c.shut.length:Int)>210:=by omega
      have w3: ¬(c.rest.length:Int)>8:=by omega
      simp only[c1,c2,c4,ii,hat,w1,w2,w3,yE,zU,Qs,Nat.reduceAdd,Nat.reduceLeDiff,Nat.reduceBEq,Q20]
      exact Next.intro (i+1) rfl rfl ⟨by omega,by omega,hg (by simp[rV,q1,q2,q3])⟩ (by omega)
     ·have w1: ¬(c.feasts.length:Int)>70:=by omega
      have w2: ¬(c.shut.length:Int)>210:=by omega
      have w3:(c.rest.length:Int)>8:=by omega
      rw[hb (by simp[rV,q3]),Bool.false_and] at hS
      simp only[c1,c2,c4,ii,hat,w1,w2,w3,yE,zU,Qs,Nat.reduceAdd,Nat.reduceLeDiff,Nat.reduceBEq,Q20]
      exact hS
    ·have w1: ¬(c.feasts.length:Int)>70:=by omega
     have w2:(c.shut.length:Int)>210:=by omega
     rw[hb (by simp[rV,q2]),Bool.false_and] at hS
     simp only[c1,c2,c4,ii,hat,w1,w2,yE,zU,Qs,Nat.reduceAdd,Nat.reduceLeDiff,Nat.reduceBEq,Q20]
     exact hS
   ·have w1:(c.feasts.length:Int)>70:=by omega
    rw[hb (by simp[rV,q1]),Bool.false_and] at hS
    simp only[c1,c2,c4,ii,hat,w1,yE,zU,Qs,Nat.reduceAdd,Nat.reduceLeDiff,Nat.reduceBEq,Q20]
    exact hS
  ·have c2: ¬(i:Int)<50:=by omega
   rw[nH hall.out hi (by omega) h50,Bool.true_and] at hS
   simp only[c1,c2,yE,Qs,Nat.reduceAdd,Nat.reduceLeDiff,Nat.reduceBEq,Q20]
   rw[uu f20l15.eq_1]
   refine yY (fun j:Nat=>[(1,.k (.ptr 1 0)),(4,.int .i64 j)]) (fun _=>[(1,.var 31 [.c (zB 1 (zE r.cur)),.c (zB 6 (xW r.cities)),.c (zB 1 (zN r.groups)),.c (zB 3 (xX r.firms)),.c (zB 4 (wK r.orders)),.c (zB 3 (t3s r.usances)),.c (zB 5 (t5s r.rates)),.c (zB 3 (t3s r.halts))])]) (fun j=>j≤r.orders.length∧j≤50∧Aside ((r.orders.take j).all vR=true)) (fun j=>r.orders.length-j) 0 rfl rfl ⟨Nat.zero_le _,Nat.zero_le _,rfl⟩ ?_
   clear hall c4
   rintro j ⟨hj,hj50,hall⟩
   have c4:IntKind.i64.wrap ((j:Int)+1)=(j:Int)+1:=wrap_in (by omega) (by omega)
   by_cases hjl:j<r.orders.length
   ·have d1:(j:Int)<r.orders.length:=by omega
    by_cases h5j:j<50
    ·have d2:(j:Int)<50:=by omega
     have hat:=jS hjl
     have ij:(j:Int)<(wK r.orders).length:=by rw[xH];exact d1
     have hb:=@aR Order vR r.orders j hjl h5j
     have hg:=@aQ Order vR r.orders j hall.out hjl
     generalize r.orders[j]=o at hat hb hg
     unfold wF at hat
     by_cases q1:o.choices.length≤40
     ·by_cases q2:o.rules.length≤40
      ·have w1: ¬(o.choices.length:Int)>40:=by omega
       have w2: ¬(o.rules.length:Int)>40:=by omega
       simp only[d1,d2,c4,ij,hat,w1,w2,xH,Qs,Nat.reduceAdd,Nat.reduceLeDiff,Nat.reduceBEq,List.length_map,Q20]
       exact Next.intro (j+1) rfl rfl ⟨by omega,by omega,hg (by simp[vR,q1,q2])⟩ (by omega)
      ·have w1: ¬(o.choices.length:Int)>40:=by omega
       have w2:(o.rules.length:Int)>40:=by omega
       rw[hb (by simp[vR,q2]),Bool.false_and] at hS
       simp only[d1,d2,c4,ij,hat,w1,w2,xH,Qs,Nat.reduceAdd,Nat.reduceLeDiff,Nat.reduceBEq,mG,dZ,List.length_map,Q20]
       exact hS
     ·have w1:(o.choices.length:Int)>40:=by omega
      rw[hb (by simp[vR,q1]),Bool.false_and] at hS
      simp only[d1,d2,c4,ij,hat,w1,xH,Qs,Nat.reduceAdd,Nat.reduceLeDiff,Nat.reduceBEq,mG,List.length_map,Q20]
      exact hS
    ·have d2: ¬(j:Int)<50:=by omega
     rw[nH hall.out hj (by omega) hj50,Bool.true_and] at hS
     simp only[xH,d1,d2,Qs,Nat.reduceAdd,Nat.reduceLeDiff,Nat.reduceBEq,zbV,Q20]
     by_cases hq:r.cur.length<50∧r.cities.length<50∧r.groups.length<50∧r.firms.length<210∧r.orders.length<50∧r.usances.length<110∧r.rates.length<110∧r.halts.length<50
     ·rw[decide_eq_true hq] at hS
      obtain⟨y1,y2,y3,y4,y5,y6,y7,y8⟩:=hq
      have v1:(r.cur.length:Int)<50:=by omega
      have v2:(r.cities.length:Int)<50:=by omega
      have v3:(r.groups.length:Int)<50:=by omega
      have v4:(r.firms.length:Int)<210:=by omega
      have v5:(r.orders.length:Int)<50:=by omega
      have v6:(r.usances.length:Int)<110:=by omega
      have v7:(r.rates.length:Int)<110:=by omega
      have v8:(r.halts.length:Int)<50:=by omega
      simp only[zK,yE,zU,yW,xH,xB,vW,v1,v2,v3,v4,v5,v6,v7,v8,Qs,and_true,false_implies,forall_const,not_true_eq_false]
      exact hS
     ·rw[decide_eq_false hq] at hS
      simp only[zK,yE,zU,yW,xH,xB,vW]
      refine⟨fun e1=>⟨fun e2=>⟨fun e3=>⟨fun e4=>⟨fun e5=>⟨fun e6=>⟨fun e7=>?_,fun _=>hS⟩,fun _=>hS⟩,fun _=>hS⟩,fun _=>hS⟩,fun _=>hS⟩,fun _=>hS⟩,fun _=>hS⟩
      rw[decide_eq_false (by omega)]
      exact hS
   ·have d1: ¬(j:Int)<r.orders.length:=by omega
    rw[nH hall.out hj (by omega) hj50,Bool.true_and] at hS
    simp only[xH,d1,Qs,Nat.reduceAdd,Nat.reduceLeDiff,Nat.reduceBEq,zbV,Q20]
    by_cases hq:r.cur.length<50∧r.cities.length<50∧r.groups.length<50∧r.firms.length<210∧r.orders.length<50∧r.usances.length<110∧r.rates.length<110∧r.halts.length<50
    ·rw[decide_eq_true hq] at hS
     obtain⟨y1,y2,y3,y4,y5,y6,y7,y8⟩:=hq
     have v1:(r.cur.length:Int)<50:=by omega
     have v2:(r.cities.length:Int)<50:=by omega
     have v3:(r.groups.length:Int)<50:=by omega
     have v4:(r.firms.length:Int)<210:=by omega
     have v5:(r.orders.length:Int)<50:=by omega
     have v6:(r.usances.length:Int)<110:=by omega
     have v7:(r.rates.length:Int)<110:=by omega
     have v8:(r.halts.length:Int)<50:=by omega
     simp only[zK,yE,zU,yW,xH,xB,vW,v1,v2,v3,v4,v5,v6,v7,v8,Qs,and_true,false_implies,forall_const,not_true_eq_false]
     exact hS
    ·rw[decide_eq_false hq] at hS
     simp only[zK,yE,zU,yW,xH,xB,vW]
     refine⟨fun e1=>⟨fun e2=>⟨fun e3=>⟨fun e4=>⟨fun e5=>⟨fun e6=>⟨fun e7=>?_,fun _=>hS⟩,fun _=>hS⟩,fun _=>hS⟩,fun _=>hS⟩,fun _=>hS⟩,fun _=>hS⟩,fun _=>hS⟩
     rw[decide_eq_false (by omega)]
     exact hS
 ·have c1: ¬(i:Int)<r.cities.length:=by omega
  rw[nH hall.out hi (by omega) h50,Bool.true_and] at hS
  simp only[c1,yE,Qs,Nat.reduceAdd,Nat.reduceLeDiff,Nat.reduceBEq,Q20]
  rw[uu f20l15.eq_1]
  refine yY (fun j:Nat=>[(1,.k (.ptr 1 0)),(4,.int .i64 j)]) (fun _=>[(1,.var 31 [.c (zB 1 (zE r.cur)),.c (zB 6 (xW r.cities)),.c (zB 1 (zN r.groups)),.c (zB 3 (xX r.firms)),.c (zB 4 (wK r.orders)),.c (zB 3 (t3s r.usances)),.c (zB 5 (t5s r.rates)),.c (zB 3 (t3s r.halts))])]) (fun j=>j≤r.orders.length∧j≤50∧Aside ((r.orders.take j).all vR=true)) (fun j=>r.orders.length-j) 0 rfl rfl ⟨Nat.zero_le _,Nat.zero_le _,rfl⟩ ?_
  clear hall c4
  rintro j ⟨hj,hj50,hall⟩
  have c4:IntKind.i64.wrap ((j:Int)+1)=(j:Int)+1:=wrap_in (by omega) (by omega)
  by_cases hjl:j<r.orders.length
  ·have d1:(j:Int)<r.orders.length:=by omega
   by_cases h5j:j<50
   ·have d2:(j:Int)<50:=by omega
    have hat:=jS hjl
    have ij:(j:Int)<(wK r.orders).length:=by rw[xH];exact d1
    have hb:=@aR Order vR r.orders j hjl h5j
    have hg:=@aQ Order vR r.orders j hall.out hjl
    generalize r.orders[j]=o at hat hb hg
    unfold wF at hat
    by_cases q1:o.choices.length≤40
    ·by_cases q2:o.rules.length≤40
     ·have w1: ¬(o.choices.length:Int)>40:=by omega
      have w2: ¬(o.rules.length:Int)>40:=by omega
      simp only[d1,d2,c4,ij,hat,w1,w2,xH,Qs,Nat.reduceAdd,Nat.reduceLeDiff,Nat.reduceBEq,List.length_map,Q20]
      exact Next.intro (j+1) rfl rfl ⟨by omega,by omega,hg (by simp[vR,q1,q2])⟩ (by omega)
     ·have w1: ¬(o.choices.length:Int)>40:=by omega
      have w2:(o.rules.length:Int)>40:=by omega
      rw[hb (by simp[vR,q2]),Bool.false_and] at hS
      simp only[d1,d2,c4,ij,hat,w1,w2,xH,Qs,Nat.reduceAdd,Nat.reduceLeDiff,Nat.reduceBEq,mG,dZ,List.length_map,Q20]
      exact hS
    ·have w1:(o.choices.length:Int)>40:=by omega
     rw[hb (by simp[vR,q1]),Bool.false_and] at hS
     simp only[d1,d2,c4,ij,hat,w1,xH,Qs,Nat.reduceAdd,Nat.reduceLeDiff,Nat.reduceBEq,mG,List.length_map,Q20]
     exact hS
   ·have d2: ¬(j:Int)<50:=by omega
    rw[nH hall.out hj (by omega) hj50,Bool.true_and] at hS
    simp only[xH,d1,d2,Qs,Nat.reduceAdd,Nat.reduceLeDiff,Nat.reduceBEq,zbV,Q20]
    by_cases hq:r.cur.length<50∧r.cities.length<50∧r.groups.length<50∧r.firms.length<210∧r.orders.length<50∧r.usances.length<110∧r.rates.length<110∧r.halts.length<50
    ·rw[decide_eq_true hq] at hS
     obtain⟨y1,y2,y3,y4,y5,y6,y7,y8⟩:=hq
     have v1:(r.cur.length:Int)<50:=by omega
     have v2:(r.cities.length:Int)<50:=by omega
     have v3:(r.groups.length:Int)<50:=by omega
     have v4:(r.firms.length:Int)<210:=by omega
     have v5:(r.orders.length:Int)<50:=by omega
     have v6:(r.usances.length:Int)<110:=by omega
     have v7:(r.rates.length:Int)<110:=by omega
     have v8:(r.halts.length:Int)<50:=by omega
     simp only[zK,yE,zU,yW,xH,xB,vW,v1,v2,v3,v4,v5,v6,v7,v8,Qs,and_true,false_implies,forall_const,not_true_eq_false]
     exact hS
    ·rw[decide_eq_false hq] at hS
     simp only[zK,yE,zU,yW,xH,xB,vW]
     refine⟨fun e1=>⟨fun e2=>⟨fun e3=>⟨fun e4=>⟨fun e5=>⟨fun e6=>⟨fun e7=>?_,fun _=>hS⟩,fun _=>hS⟩,fun _=>hS⟩,fun _=>hS⟩,fun _=>hS⟩,fun _=>hS⟩,fun _=>hS⟩
     rw[decide_eq_false (by omega)]
     exact hS
  ·have d1: ¬(j:Int)<r.orders.length:=by omega
   rw[nH hall.out hj (by omega) hj50,Bool.true_and] at hS
   simp only[xH,d1,Qs,Nat.reduceAdd,Nat.reduceLeDiff,Nat.reduceBEq,zbV,Q20]
   by_cases hq:r.cur.length<50∧r.cities.length<50∧r.groups.length<50∧r.firms.length<210∧r.orders.length<50∧r.usances.length<110∧r.rates.length<110∧r.halts.length<50
   ·rw[decide_eq_true hq] at hS
    obtain⟨y1,y2,y3,y4,y5,y6,y7,y8⟩:=hq
    have v1:(r.cur.length:Int)<50:=by omega
    have v2:(r.cities.length:Int)<50:=by omega
    have v3:(r.groups.length:Int)<50:=by omega
    have v4:(r.firms.length:Int)<210:=by omega
    have v5:(r.orders.length:Int)<50:=by omega
    have v6:(r.usances.length:Int)<110:=by omega
    have v7:(r.rates.length:Int)<110:=by omega
    have v8:(r.halts.length:Int)<50:=by omega
    simp only[zK,yE,zU,yW,xH,xB,vW,v1,v2,v3,v4,v5,v6,v7,v8,Qs,and_true,false_implies,forall_const,not_true_eq_false]
    exact hS
   ·rw[decide_eq_false hq] at hS
    simp only[zK,yE,zU,yW,xH,xB,vW]
    refine⟨fun e1=>⟨fun e2=>⟨fun e3=>⟨fun e4=>⟨fun e5=>⟨fun e6=>⟨fun e7=>?_,fun _=>hS⟩,fun _=>hS⟩,fun _=>hS⟩,fun _=>hS⟩,fun _=>hS⟩,fun _=>hS⟩,fun _=>hS⟩
    rw[decide_eq_false (by omega)]
    exact hS
def nI (r:Rlm) (s:Txt):Bool:=fewR r&&decide (s.length≤1000)
theorem c9 (r:Rlm) (s:Txt):Spec Tryz.prog 9 [.agg (zS r),.str s] (fun v=>v=.bool (nI r s)):=by
 refine Spec.of_awlS hf9 okf9 (by simp) fun S hS=>?_
 have hL:=xZ r
 have hno:=xY r
 have g:=c20 r
 unfold nI at hS
 rw[hL] at g hno
 rw[hL]
 generalize fewR r=q at g hS
 simp only[Qs,Nat.reduceAdd,Nat.reduceBEq,Q9]
 refine zC g ?_ (ha:=by simp only[List.map_cons,List.map_nil,zD,V.norm,xT,hno])
 cases q with
 |false=>
  simp only[Qs,Nat.reduceBEq]
  exact hS
 |true=>
  rw[Bool.true_and] at hS
  by_cases h:s.length≤1000
  ·have c1:(s.length:Int)≤1000:=by omega
   rw[decide_eq_true h] at hS
   simp only[c1,Qs,Nat.reduceBEq]
   exact hS
  ·have c1: ¬(s.length:Int)≤1000:=by omega
   rw[decide_eq_false h] at hS
   simp only[c1,Qs,Nat.reduceBEq]
   exact hS
def exR:Rlm:={cur:=[[102,114,97,110,99]],cities:=[⟨[76,121,111,110],0,0,[],[],[]⟩],groups:=[3],firms:=[⟨[66,111,100,109,101,114],0,0⟩,⟨[72,111,112,101],0,0⟩],orders:=[⟨[103,101,110,101,118,97],false,[],[]⟩],usances:=[],rates:=[],halts:=[]}
def exB:Bil:=⟨0,1,-1,500,0,⟨0,0,0⟩,59,0,0,-1,0,1,2⟩
theorem c19:Spec Tryz.prog 19 [] (fun v=>v=.tup [.agg (zS exR),.agg (yF exB)]):=by
 refine Spec.of_awlP hf19 okf19 (by simp) fun S hS=>?_
 simp only[Qs,zcd,zce,jA,zcf,zdb,zkq,zkr,zeo,zks,zkt,zkv,zfw,zkw,zfE,jK,zkA,zkB,zgq,and_true,reduceCtorEq,forall_eq_or_imp,forall_eq,bne_iff_ne,ne_eq,Int.reduceNeg,List.append_nil,List.mem_cons,List.nodup_cons,Nat.reduceAdd,Nat.reduceEqDiff,Nat.reduceLeDiff,Nat.reduceLT,Nat.reduceBEq,Nat.succ_ne_self,Nat.zero_ne_one,List.not_mem_nil,Q19,vv f19r1o0.eq_1,vv f19r1o1.eq_1,vv f19r1o2.eq_1,vv f19r1o3.eq_1,zkN,Q19]
 exact hS _ rfl
theorem znb (L:List (List Txt)) (h:cleanL L):(yH L).count 10=L.length:=by
 induction L with
 |nil=>rfl
 |cons ws L ih=>
  have h1:(10:UInt8) ∉ zT 32 ws:=fun hm=>by
   rcases jR hm with e|⟨w,hw,e⟩
   ·exact absurd e (by decide)
   ·exact((h ws (by simp)).2 w hw).2 e
  rw[lC,List.count_append,List.count_eq_zero.2 h1,List.count_cons_self,ih (fun v hv=>h v (List.mem_cons_of_mem _ hv)),List.length_cons];omega
theorem zid {r:Rlm} {b:Bil} {p:Int} (h:okT r b p):(textG r b p).length≤2000:=by
 rw[nC h]
 have h1:=aK (aJ (aF h.1.rl) h.1.bil h.2.1 h.2.2)
 have h2:=(iO zI (nms r) b p).2
 omega
theorem zie {r:Rlm} {b:Bil} {p:Int} (h:okT r b p):textG r b p≠[]:=by
 rw[nC h]
 have h2:=(iO zI (nms r) b p).1
 cases hq:rows zI (nms r) b p with
 |nil=>rw[hq] at h2;simp at h2
 |cons a l=>rw[lC];simp
theorem aS {r:Rlm} {b:Bil} {p:Int} (h:okT r b p):parseP r (textG r b p)=(b,p,0):=by
 have hn:=(aF h.1.rl).nms
 have hb:=h.1.bil
 have hcl:=zmL (C:=zI) hn hb p
 have hl:=zid h
 have hne:=zie h
 have hc:7≤(textG r b p).count 10:=by
  rw[nC h,znb _ hcl];exact(iO zI (nms r) b p).1
 have hr:xK zI (nms r) (rdL (textG r b p))=(b,p):=by
  unfold rdL
  rw[nC h,zk1 hcl,zmJ zlR hn hb h.2.1 h.2.2]
 unfold parseP
 rw[if_neg (by omega),if_neg (by omega),if_neg hne,hr,if_neg (by simp)]
theorem znc {r:Rlm} {s:Txt} (h:(parseP r s).2.2=0):okT r (parseP r s).1 (parseP r s).2.1∧textG r (parseP r s).1 (parseP r s).2.1=s∧s≠[]:=by
 unfold parseP at h⊢
 split at h
 ·cases h
 split at h
 ·cases h
 split at h
 ·cases h
 split at h
 ·cases h
 rename_i a1 a2 a3 a4
 rw[if_neg a1,if_neg a2,if_neg a3,if_neg a4]
 have e:=Classical.not_not.1 a4
 refine⟨?_,e,a3⟩
 by_cases hk:okT r (xK zI (nms r) (rdL s)).1 (xK zI (nms r) (rdL s)).2
 ·exact hk
 ·rw[iK hk] at e;exact absurd e.symm a3
theorem zif {r:Rlm} {s:Txt} (h:(parseP r s).2.2≠0):parseP r s=(vG,0,9):=by
 unfold parseP at h⊢
 split at h
 ·rename_i a;rw[if_pos a]
 rename_i a1;rw[if_neg a1]
 split at h
 ·rename_i a;rw[if_pos a]
 rename_i a2;rw[if_neg a2]
 split at h
 ·rename_i a;rw[if_pos a]
 rename_i a3;rw[if_neg a3]
 split at h
 ·rename_i a;rw[if_pos a]
 ·exact absurd rfl h
theorem aT:chkE exR exB=0:=by decide
end Go.Abs
set_option maxRecDepth 100000
set_option maxHeartbeats 8000000
namespace Go.Abs
open Go.Proofs Go.RowKit Go.Lib Go.Wd
def exT:Txt:=[98,105,108,108,32,50,32,111,102,32,50,10,100,114,97,119,110,32,105,110,32,76,121,111,110,32,111,110,32,50,48,48,48,45,50,45,50,57,10,112,97,121,32,97,116,32,115,105,103,104,116,10,116,111,32,98,101,97,114,101,114,10,53,48,48,32,102,114,97,110,99,10,116,111,32,98,101,32,112,97,105,100,32,98,121,32,72,111,112,101,32,105,110,32,76,121,111,110,10,117,110,108,101,115,115,32,112,97,114,116,32,49,32,119,97,115,32,112,97,105,100,10,115,105,103,110,101,100,32,66,111,100,109,101,114,10]
theorem zig:okT exR exB 1:=⟨sP.1 aT,by decide,by decide⟩
theorem zih:okT exR exB 0:=⟨sP.1 aT,by decide,by decide⟩
theorem znd:yH (rows zI (nms exR) exB 1)=exT:=by decide+kernel
theorem zne:(parseP exR (exT++[10])).2.2≠0:=by decide+kernel
theorem znf:chkE exR {exB with pt:=5}=15:=by decide
theorem zng:chkE exR {exB with te:=⟨4,0,0⟩}=4:=by decide
theorem znh:chkE ⟨[],[],[],[],[],[],[],[]⟩ exB=1:=by decide
theorem sT:RlmIn exR:=⟨by decide,by decide,by decide,by decide,by decide,by decide,by decide,by decide,by simp[exR],by simp[exR]⟩
theorem zni:RlmIn ⟨[],[],[],[],[],[],[],[]⟩:=⟨by decide,by decide,by decide,by decide,by decide,by decide,by decide,by decide,by simp,by simp⟩
theorem sU: ∀o∈exR.orders,o.choices.length≤1000000∧o.rules.length≤1000000:=by simp[exR]
theorem zii:textG exR exB 1=exT:=by rw[nC zig,znd]
theorem znj:textG exR exB 2=[]:=iK fun h=>by have:=h.2.2;revert this;decide
theorem zij:parseP exR exT=(exB,1,0):=by rw[←zii];exact aS zig
theorem znk:alikeP exR exT (textG exR exB 0)=true:=by
 unfold alikeP;rw[zij,aS zih];simp
theorem c8:Spec Tryz.prog 8 [] (fun v=>v=.bool true):=by
 refine Spec.of_awlS hf8 okf8 (by simp) fun S hS=>?_
 have g1:=c10 exR sT sU exT
 rw[zij] at g1
 have g2:=c10 exR sT sU (exT++[10])
 rw[zif zne] at g2
 have g0:=c14 exR sT sU exB 0
 have l0:=zid zih
 have ga:=c16 exR sT sU exT (textG exR exB 0)
 rw[znk] at ga
 generalize textG exR exB 0=t0 at g0 l0 ga
 have gt1:=c14 exR sT sU exB 1
 rw[zii] at gt1
 have gt2:=c14 exR sT sU exB 2
 rw[znj] at gt2
 have gc:=c12 exR sT sU exB
 rw[aT] at gc
 have gc5:=c12 exR sT sU {exB with pt:=5}
 rw[znf] at gc5
 have gc4:=c12 exR sT sU {exB with te:=⟨4,0,0⟩}
 rw[zng] at gc4
 have gc0:=c12 ⟨[],[],[],[],[],[],[],[]⟩ zni (by simp) exB
 rw[znh] at gc0
 have g19:=c19
 have eR:zS exR=[.list 1 none [[.str [102,114,97,110,99]]],.list 6 none [[.str [76,121,111,110],.int .i64 0,.int .i64 0,.list 0 none [],.list 0 none [],.list 0 none []]],.list 1 none [[.int .i64 3]],.list 3 none [[.str [66,111,100,109,101,114],.int .i64 0,.int .i64 0],[.str [72,111,112,101],.int .i64 0,.int .i64 0]],.list 4 none [[.str [103,101,110,101,118,97],.bool false,.list 0 none [],.list 0 none []]],.list 0 none [],.list 0 none [],.list 0 none []]:=rfl
 have eB:yF exB=[.int .i64 0,.int .i64 1,.int .i64 (-1),.int .i64 500,.int .i64 0,.int .i64 0,.int .i64 0,.int .i64 0,.int .i64 59,.int .i64 0,.int .i64 0,.int .i64 (-1),.int .i64 0,.int .i64 1,.int .i64 2]:=rfl
 unfold exT at g1 g2 gt1 ga
 rw[eR] at g1 g2 g0 ga gt1 gt2 gc gc5 gc4 g19
 rw[eB] at g1 g0 gt1 gt2 gc gc0 g19
 unfold yF at g2 gc5 gc4
 simp only[Qs,Q8]
 refine sG g19 ?_ (ha:=by rfl)
 simp only[Qs,bne_iff_ne,ne_eq,Int.reduceNeg,List.append_nil,Nat.reduceAdd,Nat.reduceMul,Nat.reduceEqDiff,Nat.reduceBEq,Q8]
 refine sG g1 ?_ (ha:=by rfl)
 simp only[Qs,bne_iff_ne,ne_eq,Int.reduceNeg,List.append_nil,Nat.reduceAdd,Nat.reduceMul,Nat.reduceEqDiff,Nat.reduceLeDiff,Nat.reduceBEq,Q8]
 repeat refine⟨by first|omega|decide,?_⟩
 refine sG g2 ?_ (ha:=by rfl)
 simp only[Qs,bne_iff_ne,ne_eq,Int.reduceNeg,List.append_nil,Nat.reduceAdd,Nat.reduceMul,Nat.reduceEqDiff,Nat.reduceBEq,Q8]
 refine zC g0 ?_ (ha:=by rfl)
 simp only[Qs,bne_iff_ne,ne_eq,Int.reduceNeg,List.append_nil,Nat.reduceAdd,Nat.reduceEqDiff,Nat.reduceLeDiff,Nat.reduceBEq,Q8]
 refine zC gc ?_ (ha:=by rfl)
 simp only[Qs,Int.reduceNeg,BEq.rfl,Nat.reduceAdd,Nat.reduceBEq]
 refine zC gt1 ?_ (ha:=by rfl)
 simp only[Qs,jB,jC,jD,jE,jF,jG,jH,Int.reduceNeg,BEq.rfl,Nat.reduceAdd,Nat.reduceBEq,Option.bind_some]
 refine zC ga ?_ (ha:=by rfl)
 simp only[Qs,Int.reduceNeg,Nat.reduceAdd,Nat.reduceBEq]
 refine zC gt2 ?_ (ha:=by rfl)
 simp only[Qs,Int.reduceNeg,BEq.rfl,Nat.reduceAdd,Nat.reduceBEq]
 refine zC gc5 ?_ (ha:=by rfl)
 simp only[Qs,Int.reduceNeg,BEq.rfl,Nat.reduceAdd,Nat.reduceBEq]
 refine zC gc4 ?_ (ha:=by rfl)
 simp only[Qs,zcl,Int.reduceNeg,BEq.rfl,Nat.reduceAdd,Nat.reduceBEq]
 refine zC gc0 ?_ (ha:=by rfl)
 simp only[Qs,jK,zgq,zkz,Int.reduceNeg,BEq.rfl,Nat.reduceBEq]
 exact hS
def iS (r:Rlm):Prop:=(∀c∈r.cities,∀n∈c.feasts,xM n)∧ ∀x∈r.rates,xM x.c∧xM x.d
theorem zik {r:Rlm} (h:fewR r=true) (hw:iS r):RlmIn r∧ ∀o∈r.orders,o.choices.length≤1000000∧o.rules.length≤1000000:=by
 unfold fewR at h
 rw[Bool.and_eq_true,Bool.and_eq_true,decide_eq_true_eq] at h
 obtain⟨_,h2,a1,a2,a3,a4,a5,a6,a7,a8⟩:=h
 refine⟨⟨by omega,by omega,by omega,by omega,by omega,by omega,by omega,by omega,hw.1,hw.2⟩,fun o ho=>?_⟩
 rw[List.take_of_length_le (by omega),List.all_eq_true] at h2
 have h3:=h2 o ho
 unfold vR at h3
 rw[Bool.and_eq_true,decide_eq_true_eq,decide_eq_true_eq] at h3
 omega
theorem znl (r:Rlm):nI r []=fewR r:=by unfold nI;simp
theorem l4 (r:Rlm) (hw:iS r) (b:Bil) (p:Int):Spec Tryz.prog 4 [.agg (zS r),.agg (yF b),.int .i64 p] (fun v=>v=.bool true):=by
 refine Spec.of_awlS hf4 okf4 (by simp) fun S hS=>?_
 have hL:=xZ r
 have hno:=xY r
 have hB:yF b=[.int .i64 b.dr,.int .i64 b.de,.int .i64 b.pa,.int .i64 b.su,.int .i64 b.cu,.int .i64 b.te.k,.int .i64 b.te.n,.int .i64 b.te.u,.int .i64 b.da,.int .i64 b.ci,.int .i64 b.py,.int .i64 b.ne,.int .i64 b.ra,.int .i64 b.fl,.int .i64 b.pt]:=rfl
 have hbn:=zhW b
 have g9:=c9 r []
 rw[znl] at g9
 rw[hL] at g9 hno
 rw[hB] at hbn
 rw[hL,hB]
 simp only[Qs,bne_iff_ne,ne_eq,Nat.reduceAdd,Nat.reduceEqDiff,Nat.reduceBEq,Q4]
 refine zC c8 ?_ (ha:=by rfl)
 simp only[Qs,Nat.reduceAdd,Nat.reduceBEq,Q4]
 refine zC g9 ?_ (ha:=by simp only[List.map_cons,List.map_nil,zD,V.norm,xT,hno]<;>rfl)
 cases hf:fewR r with
 |false=>
  simp only[Qs,Nat.reduceBEq,Q4]
  exact hS
 |true=>
  obtain⟨hr,hod⟩:=zik hf hw
  have gC:=c12 r hr hod b
  have gT:=c14 r hr hod b p
  have gP:=c10 r hr hod (textG r b p)
  rw[hL] at gC gT gP
  rw[hB] at gC gT
  simp only[Qs,Nat.reduceAdd,Nat.reduceBEq,Q4]
  refine zC gT ?_ (ha:=by simp only[List.map_cons,List.map_nil,zD,V.norm,xT,hno,hbn]<;>rfl)
  simp only[Qs,Nat.reduceAdd,Nat.reduceBEq,Q4]
  refine zC gC ?_ (ha:=by simp only[List.map_cons,List.map_nil,zD,V.norm,xT,hno,hbn]<;>rfl)
  by_cases hok:okT r b p
  ·have hne:=zie hok
   have hp:=aS hok
   rw[hp] at gP
   have hc:=sP.2 hok.1
   have h1:=hok.2.1
   have h2:=hok.2.2
   have w0:(chkE r b !=0)=false:=by simp[hc]
   have w1: ¬p<0:=by omega
   have w2: ¬p≥b.pt:=by omega
   generalize textG r b p=t at gP hne
   unfold yF at gP
   simp only[w0,w1,w2,Qs,Nat.reduceAdd,Nat.reduceBEq,Q4]
   refine sG gP ?_ (ha:=by simp only[List.map_cons,List.map_nil,zD,V.norm,xT,hno]<;>rfl)
   simp only[Qs,jB,jC,zdP,jD,jE,jF,jG,jH,bne_iff_ne,ne_eq,BEq.rfl,List.append_nil,Nat.reduceAdd,Nat.reduceMul,Nat.reduceEqDiff,Nat.reduceBEq,zbY,Option.bind_some,Q4]
   exact⟨fun e=>absurd e hne,fun _=>hS⟩
  ·have hn:=iK hok
   rw[hn]
   by_cases hc:chkE r b=0
   ·have w0:(chkE r b !=0)=false:=by simp[hc]
    by_cases h1:p<0
    ·simp only[w0,h1,Qs,BEq.rfl,Nat.reduceBEq,Q4]
     exact hS
    ·have h2:p≥b.pt:=by
      by_cases h2:p<b.pt
      ·exact absurd ⟨sP.1 hc,by omega,h2⟩ hok
      ·omega
     simp only[w0,h1,h2,Qs,BEq.rfl,Nat.reduceAdd,Nat.reduceBEq,Q4]
     exact hS
   ·have w0:(chkE r b !=0)=true:=by simp[hc]
    simp only[w0,Qs,BEq.rfl,Nat.reduceBEq,Q4]
    exact hS
theorem l5 (r:Rlm) (hw:iS r) (s:Txt):Spec Tryz.prog 5 [.agg (zS r),.str s] (fun v=>v=.bool true):=by
 refine Spec.of_awlS hf5 okf5 (by simp) fun S hS=>?_
 have hL:=xZ r
 have hno:=xY r
 have g9:=c9 r s
 rw[hL] at g9 hno
 rw[hL]
 simp only[Qs,Nat.reduceAdd,Nat.reduceBEq,Q5]
 refine zC c8 ?_ (ha:=by rfl)
 simp only[Qs,Nat.reduceAdd,Nat.reduceBEq,Q5]
 refine zC g9 ?_ (ha:=by simp only[List.map_cons,List.map_nil,zD,V.norm,xT,hno]<;>rfl)
 cases hf:nI r s with
 |false=>
  simp only[Qs,Nat.reduceBEq,Q5]
  exact hS
 |true=>
  have hf2:fewR r=true:=by unfold nI at hf;rw[Bool.and_eq_true] at hf;exact hf.1
  obtain⟨hr,hod⟩:=zik hf2 hw
  have gP:=c10 r hr hod s
  rw[hL] at gP
  by_cases h0:(parseP r s).2.2=0
  ·obtain⟨hok,ht,hne⟩:=znc h0
   have gC:=c12 r hr hod (parseP r s).1
   have gT:=c14 r hr hod (parseP r s).1 (parseP r s).2.1
   rw[sP.2 hok.1] at gC
   rw[ht] at gT
   rw[hL] at gC gT
   rw[h0] at gP
   unfold yF at gP gC gT
   simp only[Qs,Nat.reduceAdd,Nat.reduceBEq,Q5]
   refine sG gP ?_ (ha:=by simp only[List.map_cons,List.map_nil,zD,V.norm,xT,hno]<;>rfl)
   simp only[Qs,zdP,bne_iff_ne,ne_eq,List.append_nil,Nat.reduceAdd,Nat.reduceMul,Nat.reduceEqDiff,Nat.reduceBEq,zbY,Int.reduceBNe,Q5]
   refine⟨fun e=>absurd e hne,fun _=>?_⟩
   refine zC gC ?_ (ha:=by simp only[List.map_cons,List.map_nil,zD,V.norm,xT,hno]<;>rfl)
   simp only[Qs,BEq.rfl,Nat.reduceAdd,Nat.reduceBEq]
   refine zC gT ?_ (ha:=by simp only[List.map_cons,List.map_nil,zD,V.norm,xT,hno]<;>rfl)
   simp only[Qs,BEq.rfl,Nat.reduceBEq]
   exact hS
  ·rw[zif h0] at gP
   unfold vG yF at gP
   simp only[Qs,Nat.reduceAdd,Nat.reduceBEq,Q5]
   refine sG gP ?_ (ha:=by simp only[List.map_cons,List.map_nil,zD,V.norm,xT,hno]<;>rfl)
   simp only[Qs,zcl,jB,jC,jD,jE,jF,jG,jH,bne_iff_ne,ne_eq,BEq.rfl,List.append_nil,Nat.reduceAdd,Nat.reduceMul,Nat.reduceEqDiff,Nat.reduceBEq,Int.reduceBNe,Option.bind_some,Q5]
   exact hS
end Go.Abs
