/- A part of the proof; the last text states what is proved. -/
import Derived.Test.YtpmicgjdckeejaaGreatDoorP7
import Derived.DataShut
import Derived.Test.YtpmicgjdckeejaaGreatDoorRows
import Derived.Test.YtpmicgjdckeejaaGreatDoorCards
import Derived.Test.YtpmicgjdckeejaaGreatDoorTie
import Derived.ProofKit
import Derived.LaidMore
import Derived.Lib.LaidTab
import Derived.Lib.LaidU8
import Derived.OpenShut
import Derived.SevenTiedAt
import Derived.Deep.DeepHandedRow
import Derived.Deep.DeepWitnessRowRef
import Derived.Shelf.Vars
set_option linter.unusedVariables false
set_option linter.unusedSimpArgs false
set_option maxRecDepth 100000
set_option maxHeartbeats 4000000
namespace Go.Ex
open Go.Lib Go.Wd Go.Wire Go.Abs
theorem zaq {α:Type} [DecidableEq α] (a:α): ∀l:List α,l.Nodup→l.countP (fun x=>decide (x=a))=if a∈l then 1 else 0
 |[],_=>by simp
 |b::l,h=>by
  obtain⟨h1,h2⟩:=List.nodup_cons.1 h
  rw[List.countP_cons,zaq a l h2]
  by_cases e:b=a
  ·subst e;simp[h1]
  ·simp[e,Ne.symm e]
theorem fH {α β:Type} (f:α→β) (p:β→Bool): ∀l:List α,(l.map f).countP p=l.countP fun x=>p (f x)
 |[]=>rfl
 |a::l=>by rw[List.map_cons,List.countP_cons,List.countP_cons,fH f p l]
theorem zar {α:Type} {p q:α→Bool}: ∀{l:List α},(∀x∈l,p x=q x)→l.countP p=l.countP q
 |[],_=>rfl
 |a::l,h=>by rw[List.countP_cons,List.countP_cons,zar fun x hx=>h x (List.mem_cons_of_mem _ hx),h a (by simp)]
theorem zoP {a b:Nat} (h:(1:Nat)<<<a=1<<<b):a=b:=by
 have:=congrArg (fun x:Nat=>x.testBit a) h
 simp only[tF,decide_true] at this
 exact(of_decide_eq_true this.symm).symm
theorem zoQ {m:Nat} {F:List Nat} (hm:m≤8) (h0:F≠[]) (hF: ∀f∈F,f<2 ^ m):(conflP (rQ m F)).Nodup:=by
 have h256:2 ^ m≤256:=(Nat.pow_le_pow_right (n:=2) (by decide) hm:2 ^ m≤2 ^ 8)
 have hd:=qM hF
 unfold conflP
 rw[aK _ (by omega),List.nodup_append]
 refine⟨?_,?_,?_⟩
 ·exact List.pairwise_map.2 ((List.nodup_range.filter _).imp fun hne e=>hne (zoP e))
 ·have h1:(kJ (rQ m F).doubt).Nodup:=by
   unfold kJ
   exact List.pairwise_reverse.2 ((List.nodup_range.filter _).imp fun hne=>Ne.symm hne)
  exact h1.filter _
 ·intro s hs t ht e
  subst e
  obtain⟨k,hk,rfl⟩:=List.mem_map.1 hs
  rw[List.mem_filter,gP h0 hF] at hk
  have:=(aL (by omega)).1 (List.mem_filter.1 ht).1
  have hb:=aM.1 this.2 k (by rw[tF];simp)
  rw[kL h0 hF] at hb
  obtain⟨_,f,hf,h1⟩:=hb
  rw[hk.2 f hf] at h1;cases h1
theorem zoR: ∀s,s<256→ ∀k,k<8→(decide (bitsN s=[k]))=decide (s=1<<<k):=by decide+kernel
theorem zoS {c:List Nat} {k:Nat}:decide (natI c=[(k:Int)])=decide (c=[k]):=by
 rw[Bool.eq_iff_iff,decide_eq_true_eq,decide_eq_true_eq]
 constructor
 ·intro h
  unfold natI at h
  match c,h with
  |[a],h=>
   simp at h
   have e:a=k:=by omega
   rw[e]
 ·rintro rfl;rfl
theorem zjn {L:List Dmd} {D:List Dcm} (hA:AskS L D) (h0:lookE L D=0) {k:Nat} (hk: ∃f∈yH L D,f.testBit k=true):(flawsE L D).countP (fun x=>decide (x.dem=[(k:Int)]))=1:=by
 have hcn:=rE h0
 have hne:=pZ hA hcn
 have hF:=rR L D
 have h8:=hA.l8
 have h256:2 ^ L.length≤256:=(Nat.pow_le_pow_right (by decide) hA.l8:2 ^ L.length≤2 ^ 8)
 have hdl:(viewD L D).doubt<2 ^ L.length:=qM hF
 have hkL:k<L.length:=by
  obtain⟨f,hf,h1⟩:=hk
  exact xK.1 (hF f hf) k h1
 have hm: ∀s,s∈conflP (viewD L D) ↔ _:=kM hA.l8 hne hF
 have hnd:(conflP (viewD L D)).Nodup:=zoQ (F:=yH L D) h8 hne hF
 have hlt:(1:Nat)<<<k<2 ^ L.length:=xK.2 fun j hj=>by rw[tF,decide_eq_true_eq] at hj;omega
 unfold flawsE
 rw[if_pos h0]
 unfold kO rS
 rw[List.countP_append,fH,fH,(tG ltC _).countP_eq,fH]
 have e1:(conflP (viewD L D)).countP (fun s=>decide ((List.map (fun(k:Nat)=>(k:Int)) (bitsN s))=[(k:Int)]))=if (1:Nat)<<<k∈conflP (viewD L D) then 1 else 0:=by
  rw[←zaq _ _ hnd]
  refine zar fun s hs=>?_
  have hs2:=((hm s).1 hs).1
  have e:=zoS (c:=bitsN s) (k:=k)
  unfold natI at e
  rw[e,zoR s (by omega) k (by omega)]
 have e2:(bitsN (viewD L D).doubt).countP (fun j:Nat=>decide ([(j:Int)]=[(k:Int)]))=if k∈bitsN (viewD L D).doubt then 1 else 0:=by
  rw[←zaq k _ (zjf _)]
  refine zar fun j _=>?_
  rw[Bool.eq_iff_iff,decide_eq_true_eq,decide_eq_true_eq]
  constructor
  ·intro h;simp at h;omega
  ·rintro rfl;rfl
 refine Eq.trans (congr (congrArg HAdd.hAdd e1) e2) ?_
 have hb:=vU (s:=(viewD L D).doubt) (k:=k) (by omega)
 have hdo:(viewD L D).doubt.testBit k=true ↔ _:=kL hne hF k
 have hcf:(1:Nat)<<<k∈conflP (viewD L D) ↔ ∀f∈yH L D,f.testBit k=true:=by
  rw[hm,qL (by omega)]
  constructor
  ·rintro⟨_,h1,_⟩ f hf
   obtain⟨j,j1,j2⟩:=uH.1 h1 f hf
   rw[tF,decide_eq_true_eq] at j2
   subst j2;exact j1
  ·intro h
   refine⟨hlt,uH.2 fun f hf=>⟨k,h f hf,by rw[tF];simp⟩,fun j hj=>?_⟩
   rw[tF,decide_eq_true_eq] at hj
   subst hj
   rw[Bool.eq_false_iff]
   intro q
   obtain⟨f,hf⟩:=List.exists_mem_of_ne_nil _ hne
   obtain⟨i,_,i2⟩:=uH.1 q f hf
   rw[sY] at i2
   cases h:((1:Nat)<<<k).testBit i<;>rw[h] at i2<;>cases i2
 by_cases hall: ∀f∈yH L D,f.testBit k=true
 ·rw[if_pos (hcf.2 hall),if_neg]
  rw[hb,hdo]
  rintro⟨_,f,hf,h1⟩
  rw[hall f hf] at h1;cases h1
 ·rw[if_neg (fun q=>hall (hcf.1 q)),if_pos]
  rw[hb,hdo]
  refine⟨hk,?_⟩
  by_cases q: ∃f∈yH L D,f.testBit k=false
  ·exact q
  ·exact absurd (fun f hf=>by
    cases h:f.testBit k with
    |true=>rfl
    |false=>exact absurd ⟨f,hf,h⟩ q) hall
def aloneN (FL:List Flw) (fs:List Int):Nat:=(FL.map fun x=>fs.countP fun k=>decide (x.dem=[k])).sum
theorem zoT (FL:List Flw): ∀fs:List Int,aloneN FL fs=(fs.map fun k=>FL.countP fun x=>decide (x.dem=[k])).sum:=by
 intro fs
 induction FL with
 |nil=>
  show 0=_
  induction fs with
  |nil=>rfl
  |cons k fs ih=>rw[List.map_cons,List.sum_cons,←ih];rfl
 |cons x FL ih=>
  have e:aloneN (x::FL) fs=fs.countP (fun k=>decide (x.dem=[k]))+aloneN FL fs:=by unfold aloneN;rw[List.map_cons,List.sum_cons]
  rw[e,ih]
  clear e ih
  induction fs with
  |nil=>rfl
  |cons k fs ih=>
   rw[List.map_cons,List.sum_cons,List.map_cons,List.sum_cons,List.countP_cons,List.countP_cons,←ih]
   omega
theorem zjo {α:Type} {g:α→Nat}: ∀{l:List α},(∀x∈l,g x=1)→(l.map g).sum=l.length
 |[],_=>rfl
 |a::l,h=>by rw[List.map_cons,List.sum_cons,h a (by simp),zjo fun x hx=>h x (List.mem_cons_of_mem _ hx),List.length_cons];omega
theorem l4C {L:List Dmd} {D:List Dcm} (hA:AskS L D) (h0:lookE L D=0) {i:Nat} (hi:i<yJ D):aloneN (flawsE L D) (failI L (rdsD D i))=(failI L (rdsD D i)).length:=by
 rw[zoT]
 refine zjo fun z hz=>?_
 obtain⟨k,hk,rfl⟩:=List.mem_map.1 hz
 refine zjn hA h0 ⟨wM (tP L (rdsD D i)),List.mem_map.2 ⟨i,List.mem_range.2 hi,rfl⟩,?_⟩
 rw[kN,decide_eq_true_eq];exact hk
def sureB (FL:List Flw):Bool:=FL.any fun x=>x.sure
theorem zjp {L:List Dmd} {D:List Dcm} (hA:AskS L D) (h0:lookE L D=0):sureB (flawsE L D)=true ↔ ¬0∈yH L D:=by
 have hcn:=rE h0
 have hne:=pZ hA hcn
 have hF:=rR L D
 have h8:=hA.l8
 unfold sureB
 rw[List.any_eq_true]
 constructor
 ·rintro⟨x,hx,hs⟩ hz
  obtain⟨s,h1,h2,e⟩:=(mT hA h0 x.dem).1 ⟨x,hx,hs,rfl⟩
  obtain⟨h3,h4⟩:=nM hA.l8 h1
  obtain⟨k,k1,_⟩:=uH.1 ((qL (by omega)).1 h2).1 0 hz
  rw[Nat.zero_testBit] at k1;cases k1
 ·intro hz
  have hit:hitP (yH L D) (2 ^ L.length-1)=true:=uH.2 fun f hf=>by
   have hf0:f≠0:=fun e=>hz (e▸hf)
   obtain⟨k,hk⟩:=Nat.exists_testBit_of_ne_zero hf0
   exact⟨k,hk,by rw[Nat.testBit_two_pow_sub_one,decide_eq_true_eq];exact xK.1 (hF f hf) k hk⟩
  have hlt:2 ^ L.length-1<2 ^ L.length:=Nat.sub_lt (Nat.pow_pos (by decide)) (by decide)
  obtain⟨c,h1,h2,_⟩:=zh1 h8 _ _ hlt (Nat.le_refl _) hit
  obtain⟨x,hx,hs,_⟩:=(mT hA h0 (natI (bitsN c))).2 ⟨c,h1,h2,rfl⟩
  exact⟨x,hx,hs⟩
theorem zoU {L:List Dmd} {D:List Dcm} (hA:AskS L D) (h0:lookE L D=0):decide (stateE L D=0)=sureB (flawsE L D):=by
 rw[Bool.eq_iff_iff,decide_eq_true_eq,zjp hA h0]
 unfold stateE
 rw[if_pos h0]
 have hs: ∀x,x∈(viewD L D).sets ↔ x∈yH L D:=fun x=>by
  show x∈yU (yH L D) [] ↔ _
  rw[mP];simp
 unfold gS
 rw[←hs 0]
 constructor
 ·intro h hz
  rw[if_pos hz] at h
  split at h<;>cases h
 ·intro hz
  rw[if_neg hz]
theorem zoV {L:List Dmd} {D:List Dcm} (hA:AskS L D) (h0:lookE L D=0):flawsE L D=[] ↔ ∀f∈yH L D,f=0:=by
 have hcn:=rE h0
 have hne:=pZ hA hcn
 have hF:=rR L D
 constructor
 ·intro he f hf
  by_cases q:f=0
  ·exact q
  ·obtain⟨k,hk⟩:=Nat.exists_testBit_of_ne_zero q
   have:=zjn hA h0 ⟨f,hf,hk⟩
   rw[he] at this;cases this
 ·intro hz
  have hsb:sureB (flawsE L D)=false:=by
   rw[Bool.eq_false_iff,ne_eq,zjp hA h0,Decidable.not_not]
   obtain⟨f,hf⟩:=List.exists_mem_of_ne_nil _ hne
   rwa [hz f hf] at hf
  have hdb:bitsN (viewD L D).doubt=[]:=by
   rw[List.eq_nil_iff_forall_not_mem]
   intro k hk
   have h256:2 ^ L.length≤256:=(Nat.pow_le_pow_right (by decide) hA.l8:2 ^ L.length≤2 ^ 8)
   have hdl:(viewD L D).doubt<2 ^ L.length:=qM hF
   have:=(kL hne hF k).1 ((vU (s:=(viewD L D).doubt) (by omega)).1 hk)
   obtain⟨⟨f,hf,h1⟩,_⟩:=this
   rw[hz f hf,Nat.zero_testBit] at h1;cases h1
  have:flawsE L D=rS L (viewD L D) (rdsD D 0):=by unfold flawsE;rw[if_pos h0];rfl
  rw[this] at hsb⊢
  unfold rS at hsb⊢
  rw[hdb,List.map_nil,List.append_nil] at hsb⊢
  cases hc:sortO ltC ((conflP (viewD L D)).map bitsN) with
  |nil=>rfl
  |cons c cs=>rw[hc] at hsb;simp[sureB] at hsb
theorem zoW {L:List Dmd} {D:List Dcm} (hA:AskS L D) (h0:lookE L D=0):decide (stateE L D=1)=decide ((flawsE L D).length=0):=by
 have hcn:=rE h0
 have hne:=pZ hA hcn
 rw[Bool.eq_iff_iff,decide_eq_true_eq,decide_eq_true_eq,List.length_eq_zero_iff,zoV hA h0]
 unfold stateE
 rw[if_pos h0]
 have hs: ∀x,x∈(viewD L D).sets ↔ x∈yH L D:=fun x=>by
  show x∈yU (yH L D) [] ↔ _
  rw[mP];simp
 have hnd:(viewD L D).sets.Nodup:=zh0 _ _ List.nodup_nil
 unfold gS
 generalize (viewD L D).sets=S at hs hnd
 constructor
 ·intro h f hf
  split at h
  ·rename_i hz
   split at h
   ·rename_i hl
    obtain⟨a,rfl⟩:=List.length_eq_one_iff.1 hl
    have h1:=List.mem_singleton.1 hz
    have h2:=List.mem_singleton.1 ((hs f).2 hf)
    omega
   ·cases h
  ·cases h
 ·intro hz
  obtain⟨f,hf⟩:=List.exists_mem_of_ne_nil _ hne
  have hf0:0∈S:=(hs 0).2 (by have:=hf;rwa [hz f hf] at this)
  have h1:S.length=1:=by
   match S,hs,hnd,hf0 with
   |[a],_,_,_=>rfl
   |a::b::r,hs,hnd,_=>
    have ha:=hz a ((hs a).1 (by simp))
    have hb:=hz b ((hs b).1 (by simp))
    subst ha hb
    simp at hnd
  rw[if_pos hf0,if_pos h1]
def zjq (a b:Pln):Prop:=a.kind=b.kind∧a.names=b.names∧a.texts.length=b.texts.length
theorem zjr (m:Dmd): ∀{a b:List Pln} (i:Nat),a.length=b.length→(∀k,k<a.length→zjq (a.getD k ⟨[],[],[]⟩) (b.getD k ⟨[],[],[]⟩))→vW m a i=vW m b i
 |[],[],_,_,_=>rfl
 |x::a,y::b,i,h,hk=>by
  rw[vW,vW]
  have h0:=hk 0 (by simp)
  simp only[List.getD_cons_zero] at h0
  obtain⟨h1,h2,h3⟩:=h0
  have e:qN m x i=qN m y i:=by
   unfold qN
   have:pQ m x=pQ m y:=by funext k;unfold pQ;rw[h1,h2,h3]
   rw[this,h2]
  rw[e,zjr m (i+1) (by simpa using h) fun k hkl=>by
   have:=hk (k+1) (by simp;omega)
   simpa using this]
theorem zjs: ∀(D:List Dcm) (cs:List Nat) (i j:Nat),(yV D cs i).1.length=(yV D cs j).1.length∧ ∀k,k<(yV D cs i).1.length→zjq ((yV D cs i).1.getD k ⟨[],[],[]⟩) ((yV D cs j).1.getD k ⟨[],[],[]⟩)
 |[],cs,i,j=>by cases cs<;>simp[yV]
 |d::D,[],i,j=>by simp[yV]
 |d::D,c::cs,i,j=>by
  have ih:=zjs D cs i j
  rw[yV,yV]
  refine⟨by simp[ih.1],fun k hk=>?_⟩
  cases k with
  |zero=>
   simp only[List.getD_cons_zero]
   exact⟨rfl,rfl,by show(wN _ _).1.length=(wN _ _).1.length;rw[(fD _ _).1,(fD _ _).1]⟩
  |succ k=>
   simp only[List.getD_cons_succ]
   exact ih.2 k (by simpa using hk)
theorem zoX (m:Dmd) (D:List Dcm) (i j:Nat):xO m (rdsD D i)=xO m (rdsD D j):=by
 unfold xO
 split
 ·rfl
 ·obtain⟨h1,h2⟩:=zjs D (vV D) i j
  exact zjr m 0 h1 h2
def manyN (L:List Dmd) (p:List Pln) (d:List Int):Nat:=(d.map fun k=>(xO (L.getD k.toNat yL) p).length).sum
theorem zoY (L:List Dmd) (p:List Pln) (c:List Nat):manyN L p (natI c)=(c.map fun k=>xO (L.getD k yL) p).flatten.length:=by
 unfold manyN natI
 rw[List.length_flatten,List.map_map,List.map_map]
 rfl
theorem zoZ {l:List Plc} (h:vK l=[]):l=[]:=by
 induction l with
 |nil=>rfl
 |cons a l ih=>
  cases l with
  |nil=>simp[vK] at h
  |cons b l=>
   rw[vK] at h
   split at h
   ·exact absurd (ih h) (by simp)
   ·cases h
structure FlwOk (L:List Dmd) (D:List Dcm) (p:List Pln) (x:Flw):Prop where
 len:x.dem.length≤8
 rng: ∀k,k<x.dem.length→ ∃j:Nat,x.dem.getD k 0=j∧j<L.length
 m1: ¬manyN L p x.dem<x.pls.length
 m2: ¬(manyN L p x.dem>0∧x.pls.length=0)
 one:x.sure=false→x.dem.length=1∧someB L D x.dem=true∧(List.range (yJ D)).all (fun r:Nat=>meetsB L D x.dem r)=false
theorem l4F {L:List Dmd} {D:List Dcm} (hA:AskS L D) (h0:lookE L D=0) (i:Nat): ∀x∈flawsE L D,FlwOk L D (rdsD D i) x:=by
 have hcn:=rE h0
 have hne:=pZ hA hcn
 have hF:=rR L D
 have h8:=hA.l8
 have h256:2 ^ L.length≤256:=(Nat.pow_le_pow_right (by decide) hA.l8:2 ^ L.length≤2 ^ 8)
 have hdl:(viewD L D).doubt<2 ^ L.length:=qM hF
 have hm: ∀s,s∈conflP (viewD L D) ↔ _:=kM hA.l8 hne hF
 have key: ∀(c:List Nat) (b:Bool),c.length≤8→(∀k∈c,k<L.length)→(b=false→c.length=1∧someB L D (natI c)=true∧(List.range (yJ D)).all (fun r:Nat=>meetsB L D (natI c) r)=false)→FlwOk L D (rdsD D i) ⟨natI c,xL L c (rdsD D 0),b⟩:=by
  intro c b hc hk hone
  have hmn:manyN L (rdsD D i) (natI c)=(c.map fun k=>xO (L.getD k yL) (rdsD D 0)).flatten.length:=by
   rw[zoY]
   congr 2
   exact List.map_congr_left fun k _=>zoX _ D i 0
  refine⟨by rw[vL];exact hc,fun k hkl=>?_,?_,?_,fun q=>?_⟩
  ·rw[vL] at hkl
   exact⟨c[k],by simp[natI,hkl],hk _ (List.getElem_mem hkl)⟩
  ·show¬manyN L (rdsD D i) (natI c)<(xL L c (rdsD D 0)).length
   rw[hmn]
   unfold xL
   have:=znX (sortO vJ (c.map fun k=>xO (L.getD k yL) (rdsD D 0)).flatten)
   rw[(tG vJ _).length_eq] at this
   omega
  ·show¬(manyN L (rdsD D i) (natI c)>0∧(xL L c (rdsD D 0)).length=0)
   rw[hmn]
   rintro⟨g1,g2⟩
   have:=zoZ (List.eq_nil_of_length_eq_zero g2)
   have e:=congrArg List.length this
   rw[(tG vJ _).length_eq] at e
   simp only[List.length_nil] at e
   omega
  ·have q2:b=false:=q
   obtain⟨g1,g2,g3⟩:=hone q2
   exact⟨(vL c).trans g1,g2,g3⟩
 intro x hx
 have:flawsE L D=rS L (viewD L D) (rdsD D 0):=by unfold flawsE;rw[if_pos h0];rfl
 rw[this] at hx
 unfold rS at hx
 rcases List.mem_append.1 hx with hx|hx
 ·obtain⟨c,hc,rfl⟩:=List.mem_map.1 hx
  obtain⟨s,hs2,rfl⟩:=List.mem_map.1 ((tG ltC _).mem_iff.1 hc)
  have h1:=((hm s).1 hs2).1
  exact key (bitsN s) true (qP s (by omega)) (nM h8 h1).2 (fun q=>by cases q)
 ·obtain⟨k,hk,rfl⟩:=List.mem_map.1 hx
  have hkd:=(vU (s:=(viewD L D).doubt) (by omega)).1 hk
  have hkL:=xK.1 hdl k hkd
  obtain⟨⟨f1,hf1,b1⟩,f2,hf2,b2⟩:=(kL hne hF k).1 hkd
  have hkk: ∀j∈[k],j<L.length:=fun j hj=>by simp at hj;omega
  refine key [k] false (by simp) hkk fun _=>⟨rfl,(fE hcn hkk).2 ⟨f2,hf2,fun j hj=>by simp at hj;rw[hj];exact b2⟩,?_⟩
  rw[Bool.eq_false_iff]
  intro q
  rw[List.all_eq_true] at q
  obtain⟨r,hr,rfl⟩:=List.mem_map.1 hf1
  have:=(zan hcn (List.mem_range.1 hr) hkk).1 (q r hr) k (by simp)
  rw[this] at b1;cases b1
end Go.Ex
set_option maxRecDepth 100000
set_option maxHeartbeats 8000000
namespace Go.Ex
open Go.Lib Go.Wd Go.Wire Go.Abs
theorem zo0 {FL:List Flw} {fs:List Int} {i:Nat} (h:i<FL.length):aloneN (FL.take (i+1)) fs=aloneN (FL.take i) fs+fs.countP fun k=>decide ((FL.getD i wJ).dem=[k]):=by
 unfold aloneN
 rw[List.take_succ_eq_append_getElem h,List.map_append,List.sum_append]
 simp[h]
theorem zo1 {FL:List Flw} {i:Nat} (h:i<FL.length):sureB (FL.take (i+1))=(sureB (FL.take i)||(FL.getD i wJ).sure):=by
 unfold sureB
 rw[List.take_succ_eq_append_getElem h,List.any_append]
 simp[h]
theorem zas {fs:List Int} {p:Int→Bool} {k:Nat} (h:k<fs.length):(fs.take (k+1)).countP p=(fs.take k).countP p+if p (fs.getD k 0)=true then 1 else 0:=by
 rw[List.take_succ_eq_append_getElem h,List.countP_append]
 simp[h,List.countP_cons]
theorem zat {L:List Dmd} {p:List Pln} {d:List Int} {k:Nat} (h:k<d.length):manyN L p (d.take (k+1))=manyN L p (d.take k)+(xO (L.getD (d.getD k 0).toNat yL) p).length:=by
 unfold manyN
 rw[List.take_succ_eq_append_getElem h,List.map_append,List.sum_append]
 simp[h]
theorem zjt (fs:List Int): ∀FL:List Flw,aloneN FL fs≤FL.length*fs.length
 |[]=>by simp[aloneN]
 |x::FL=>by
  have e:aloneN (x::FL) fs=fs.countP (fun k=>decide (x.dem=[k]))+aloneN FL fs:=by unfold aloneN;rw[List.map_cons,List.sum_cons]
  have h1:=zjt fs FL
  have h2:=List.countP_le_length (p:=fun k=>decide (x.dem=[k])) (l:=fs)
  rw[e,List.length_cons,Nat.succ_mul];omega
theorem fI {L:List Dmd} {p:List Pln} (hp:vA p): ∀d:List Int,manyN L p d≤d.length*1000000000000
 |[]=>by simp[manyN]
 |k::d=>by
  have h1:=fI (L:=L) hp d
  have h2:=aZ (L.getD k.toNat yL) p hp
  have e:manyN L p (k::d)=(xO (L.getD k.toNat yL) p).length+manyN L p d:=by unfold manyN;rw[List.map_cons,List.sum_cons]
  rw[e,List.length_cons,Nat.succ_mul,Nat.add_comm]
  exact Nat.add_le_add h1 h2
theorem zau {d:List Int} {k:Int} (h:d.length=1):decide (d=[k])=decide (d.getD 0 0=k):=by
 match d,h with
 |[a],_=>simp
theorem zav {d:List Int} {k:Int} (h:d.length≠1):decide (d=[k])=false:=by
 rw[decide_eq_false_iff_not];rintro rfl;exact h rfl
end Go.Ex
namespace Go.Abs
open Go.Proofs Go.RowKit Go.Lib Go.Wd Go.Wire Go.Ex
theorem c4 (L:List Dmd) (D:List Dcm) (hI: ∀m∈L,DmdI m) (a:Nat) (ha:a<65536):Spec Tryz.prog 4 [lst 8 (L.map zP),lst 2 (D.map zR),.int .u16 (a:Int)] (fun v=>v=.bool true):=by
 refine Spec.of_awlS hf4 okf4 (by simp) fun S hS=>?_
 have g9:=c9 L D
 by_cases hF:pW L D=true
 ·obtain⟨hA,h128⟩:=kV hI hF
  have hL:=hA.l8
  rw[hF] at g9
  have g10:=c10 L D hA
  have g12:=c12 L D hA
  have g13:=c13 D hA.dc
  by_cases h0:lookE L D=0
  ·have hcn:=rE h0
   have hpos:=zal hA.dc hcn
   have h128:=h128 hcn
   have hn:=(rB hcn).n
   have hir:a % yJ D<yJ D:=Nat.mod_lt _ hpos
   have hC:=l4C hA h0 hir
   have hNo:=zoU hA h0
   have hYes:=zoW hA h0
   have hFO:=l4F hA h0 (a % yJ D)
   have hfl:=(zjl hA).1
   have hp:=zjc hA ((a % yJ D:Nat):Int)
   have g14:=c14 D hA.dc ((a % yJ D:Nat):Int)
   obtain⟨r1,r2⟩:=zjg hcn hir
   rw[r1,r2] at g14
   rw[r2] at hp
   have g15:=c15 L (rdsD D (a % yJ D)) (by omega) hp
   have hfs:(failI L (rdsD D (a % yJ D))).length≤8:=by
    have:=zin L (rdsD D (a % yJ D)) L.length
    rw[zio];omega
   have g11:=fun w hw=>c11 L D hA w hw
   have g17:=fun w hw i=>c17 L D hA w hw i
   have hrem:(a:Int).tmod ((yJ D:Nat):Int)=((a % yJ D:Nat):Int):=by rw[Int.tmod_eq_emod_of_nonneg (by omega)];exact(Int.natCast_emod a (yJ D)).symm
   rw[hn,hcn] at g13
   rw[h0] at g10 g12
   generalize flawsE L D=FL at g10 hC hNo hYes hFO hfl
   generalize rdsD D (a % yJ D)=p at g14 hp g15 hfs hC hFO
   generalize failI L p=fs at g15 hfs hC
   generalize stateE L D=sv at g12 hNo hYes
   have hw64:IntKind.i64.wrap ((a:Int))=(a:Int):=wrap_in (by omega) (by omega)
   have hw65:IntKind.i64.wrap (((a % yJ D:Nat)):Int)=((a % yJ D:Nat):Int):=wrap_in (by omega) (by omega)
   generalize a % yJ D=ix at g14 hrem hir hw65
   generalize hnR:yJ D=n at g13 hpos h128 hir hrem
   have e1: ¬(n:Int)<1:=by omega
   have e2: ¬(n:Int)=0:=by omega
   simp only[Qs,Nat.reduceAdd,uu f4.eq_1,vv f4r108.eq_1,uu f4b109.eq_1,vv f4r110.eq_1,uu f4b111.eq_1]
   refine zD c8 ?_ (ha:=by rfl)
   simp only[Qs,Nat.reduceBEq,vv f4r105.eq_1,uu f4b106.eq_1,uu f4b107.eq_1]
   refine zD g9 ?_ (ha:=by simp only[List.map_cons,List.map_nil,zB,V.norm,zL,zH yF,zH yM,C.norm]<;>rfl)
   simp only[Qs,Nat.reduceBEq,vv f4r100.eq_1,uu f4b101.eq_1,uu f4b104.eq_1]
   refine yS g10 ?_ (ha:=by simp only[List.map_cons,List.map_nil,zB,V.norm,zL,zH yF,zH yM,C.norm]<;>rfl)
   simp only[Qs,List.append_nil,Nat.reduceAdd,Nat.reduceMul,Nat.reduceBEq,vv f4r98.eq_1,uu f4b99.eq_1]
   refine zD g12 ?_ (ha:=by simp only[List.map_cons,List.map_nil,zB,V.norm,zL,zH yF,zH yM,C.norm]<;>rfl)
   simp only[Qs,Nat.reduceBEq,vv f4r96.eq_1,uu f4b97.eq_1]
   refine zD g13 ?_ (ha:=by simp only[List.map_cons,List.map_nil,zB,V.norm,zL,zH yF,zH yM,C.norm]<;>rfl)
   simp only[show((0:Int) !=0)=false from rfl,e1,e2,hw64,hrem,Qs,cM,zd3,cY,if_true,if_false,ne_eq,Nat.reduceBEq,vv f4r82.eq_1,uu f4b83.eq_1,uu f4b86.eq_1,vv f4r87.eq_1,uu f4b88.eq_1,uu f4b89.eq_1,uu f4b92.eq_1,vv f4r93.eq_1,uu f4b94.eq_1,uu f4b95.eq_1]
   refine yS g14 ?_ (ha:=by simp only[List.map_cons,List.map_nil,zB,V.norm,zL,zH yF,zH yM,C.norm]<;>rfl)
   simp only[Qs,List.append_nil,Nat.reduceAdd,Nat.reduceMul,Nat.reduceBEq,vv f4r80.eq_1,uu f4b81.eq_1]
   refine yS g15 ?_ (ha:=by simp only[List.map_cons,List.map_nil,zB,V.norm,zL,zH yF,zH yM,rC,C.norm]<;>rfl)
   simp only[Qs,uu f4b72.eq_1,vv f4r73.eq_1,uu f4b74.eq_1,uu f4b75.eq_1,vv f4r76.eq_1,uu f4b77.eq_1,vv f4r78.eq_1,uu f4b79.eq_1]
   rw[uu f4l71.eq_1]
   refine zS (fun i:Nat=>[(0,lst 8 (L.map zP)),(1,lst 2 (D.map zR)),(7,.bool true),(8,lst 3 (yN FL)),(10,.int .i64 sv),(12,.int .i64 n),(14,lst 3 (xQ p)),(15,.int .i64 0),(16,lst 1 (zK fs)),(17,.int .i64 (aloneN (FL.take i) fs:Nat)),(18,.bool (sureB (FL.take i))),(19,.int .i64 i)])
    (fun _=>[]) (fun i=>i≤FL.length) (fun i=>FL.length-i) 0 rfl rfl (Nat.zero_le _) ?_
   intro i hi
   by_cases hil:i<FL.length
   ·have d2:(i:Int)<FL.length:=by omega
    have c4:IntKind.i64.wrap ((i:Int)+1)=(i:Int)+1:=wrap_in (by omega) (by omega)
    have hat:=fF hil
    have has:=zo0 (fs:=fs) hil
    have hss:=zo1 hil
    have hab:aloneN (FL.take (i+1)) fs≤8008:=by
     have h1:=zjt fs (FL.take (i+1))
     have h2:(FL.take (i+1)).length≤1000:=by rw[List.length_take];omega
     have h3:=Nat.mul_le_mul h2 hfs
     omega
    have hmem:FL.getD i wJ∈FL:=by
     have:FL.getD i wJ=FL[i]:=by simp[hil]
     rw[this];exact List.getElem_mem hil
    have hX:=hFO _ hmem
    generalize FL.getD i wJ=x at hat has hss hX
    clear hmem
    obtain⟨d,pl,sr⟩:=x
    obtain⟨hx8,hrg,hm1,hm2,hone⟩:=hX
    simp only[] at hat has hss hx8 hrg hm1 hm2 hone
    generalize aloneN (FL.take i) fs=al at has
    generalize sureB (FL.take i)=su at hss
    cases sr with
    |true=>
     have hss2:sureB (FL.take (i+1))=true:=by rw[hss,Bool.or_true]
     clear hss
     cases su<;>(
      simp only[d2,hat,vM,Qs,if_true,if_false,List.append_nil,Nat.reduceAdd,Nat.reduceBEq,vv f4r3.eq_1,uu f4b57.eq_1,vv f4r58.eq_1,uu f4b59.eq_1,uu f4b60.eq_1,vv f4r61.eq_1,uu f4b62.eq_1,vv f4r63.eq_1,uu f4b64.eq_1,uu f4b65.eq_1,uu f4b66.eq_1,uu f4b67.eq_1,vv f4r68.eq_1,uu f4b69.eq_1,uu f4b70.eq_1]
      rw[uu f4l56.eq_1]
      refine zS (fun k:Nat=>[(0,lst 8 (L.map zP)),(1,lst 2 (D.map zR)),(7,.bool true),(8,lst 3 (yN FL)),(10,.int .i64 sv),(12,.int .i64 n),(14,lst 3 (xQ p)),(15,.int .i64 0),(16,lst 1 (zK fs)),(17,.int .i64 (al+(fs.take k).countP (fun z=>decide (d=[z])):Nat)),(18,.bool true),(19,.int .i64 i),(20,.k (.c (.ro [zC 1 (zK d),zC 2 (pls pl),.bool true] 0))),(21,.int .i64 k)])
       (fun _=>[]) (fun k=>k≤fs.length) (fun k=>fs.length-k) 0 rfl rfl (Nat.zero_le _) ?_
      intro k hk
      by_cases hkl:k<fs.length
      ·have d3:(k:Int)<fs.length:=by omega
       have c5:IntKind.i64.wrap ((k:Int)+1)=(k:Int)+1:=wrap_in (by omega) (by omega)
       have hatk:=tY hkl
       have hcs:=zas (p:=fun z=>decide (d=[z])) hkl
       have hcl:(fs.take k).countP (fun z=>decide (d=[z]))≤8:=by
        have h1:=List.countP_le_length (p:=fun z=>decide (d=[z])) (l:=fs.take k)
        rw[List.length_take] at h1;omega
       generalize (fs.take k).countP (fun z=>decide (d=[z]))=cn at hcs hcl
       generalize fs.getD k 0=z at hatk hcs
       have hal:al≤8008:=by omega
       by_cases hd1:d.length=1
       ·have d4:(d.length:Int)=1:=by omega
        have d5:(0:Int)<d.length:=by omega
        have hat0:=tY (w:=d) (k:=0) (by omega)
        have hone1:=zau (d:=d) (k:=z) hd1
        simp only[hone1] at hcs
        by_cases hz:d.getD 0 0=z
        ·rw[decide_eq_true hz,if_pos rfl] at hcs
         have c6:IntKind.i64.wrap (((al+cn:Nat):Int)+1)=((al+(cn+1):Nat):Int):=by rw[wrap_in (by omega) (by omega)];omega
         rw[hz] at hat0
         simp only[d3,d4,d5,c5,c6,hatk,hat0,yB,Qs,if_true,if_false,BEq.rfl,Nat.reduceAdd,Nat.reduceLeDiff,Nat.reduceBEq,Int.reduceLT,Int.reduceLE,vv f4r45.eq_1,vv f4r46.eq_1,uu f4b47.eq_1,vv f4r48.eq_1,uu f4b49.eq_1,uu f4b50.eq_1,uu f4b51.eq_1,uu f4b52.eq_1,vv f4r53.eq_1,uu f4b54.eq_1,uu f4b55.eq_1]
         exact Next.intro (k+1) (by rw[hcs];rfl) rfl (by omega) (by omega)
        ·rw[decide_eq_false hz,if_neg (by simp),Nat.add_zero] at hcs
         generalize d.getD 0 0=z0 at hat0 hz
         simp only[d3,d4,d5,c5,hz,hatk,hat0,yB,Qs,if_true,if_false,forall_const,BEq.rfl,Nat.reduceAdd,Nat.reduceLeDiff,Nat.reduceBEq,Int.reduceLT,Int.reduceLE,vv f4r45.eq_1,vv f4r46.eq_1,uu f4b47.eq_1,vv f4r48.eq_1,uu f4b49.eq_1,uu f4b50.eq_1,uu f4b51.eq_1,uu f4b52.eq_1,vv f4r53.eq_1,uu f4b54.eq_1,uu f4b55.eq_1]
         exact Next.intro (k+1) (by rw[hcs];rfl) rfl (by omega) (by omega)
       ·have d4: ¬(d.length:Int)=1:=by omega
        have hno:=zav (d:=d) (k:=z) hd1
        rw[if_neg (by simp only[hno];simp),Nat.add_zero] at hcs
        simp only[d3,d4,c5,hatk,yB,Qs,if_true,if_false,forall_const,Nat.reduceAdd,Nat.reduceLeDiff,Nat.reduceBEq,Int.reduceLE,vv f4r45.eq_1,vv f4r46.eq_1,uu f4b47.eq_1,vv f4r48.eq_1,uu f4b49.eq_1,uu f4b50.eq_1,uu f4b51.eq_1,uu f4b52.eq_1,vv f4r53.eq_1,uu f4b54.eq_1,uu f4b55.eq_1]
        exact Next.intro (k+1) (by rw[hcs];rfl) rfl (by omega) (by omega)
      ·obtain rfl:k=fs.length:=by omega
       have d3: ¬(fs.length:Int)<fs.length:=by omega
       rw[List.take_length,←has]
       obtain⟨al2,hal2⟩: ∃x,aloneN (FL.take (i+1)) fs=x:=⟨_,rfl⟩
       rw[hal2]
       simp only[d3,yB,Qs,if_true,if_false,reduceCtorEq,Nat.reduceBEq,uu f4b39.eq_1,vv f4r40.eq_1,uu f4b41.eq_1,uu f4b42.eq_1,vv f4r43.eq_1,uu f4b44.eq_1,uu f4b52.eq_1,vv f4r53.eq_1,uu f4b54.eq_1,uu f4b55.eq_1]
       rw[uu f4l38.eq_1]
       refine zS (fun k:Nat=>[(0,lst 8 (L.map zP)),(1,lst 2 (D.map zR)),(7,.bool true),(8,lst 3 (yN FL)),(10,.int .i64 sv),(12,.int .i64 n),(14,lst 3 (xQ p)),(15,.int .i64 0),(16,lst 1 (zK fs)),(17,.int .i64 (al2:Nat)),(18,.bool true),(19,.int .i64 i),(20,.k (.c (.ro [zC 1 (zK d),zC 2 (pls pl),.bool true] 0))),(22,.int .i64 (manyN L p (d.take k):Nat)),(23,.int .i64 k)])
        (fun _=>[]) (fun k=>k≤d.length) (fun k=>d.length-k) 0 rfl rfl (Nat.zero_le _) ?_
       intro k hk
       by_cases hkl:k<d.length
       ·have d4:(k:Int)<d.length:=by omega
        have c5:IntKind.i64.wrap ((k:Int)+1)=(k:Int)+1:=wrap_in (by omega) (by omega)
        have hatk:=tY hkl
        have hms:=zat (L:=L) (p:=p) hkl
        have hml:=fI (L:=L) hp (d.take (k+1))
        obtain⟨j,hj,hjL⟩:=hrg k hkl
        rw[hj,Int.toNat_natCast] at hms
        rw[hj] at hatk
        have d5:(j:Int)<L.length:=by omega
        have hm:=nF hjL
        generalize L.getD j yL=m at hms hm
        have g16:=c16 m p hp
        unfold zP at g16
        have hdl:(d.take (k+1)).length≤8:=by rw[List.length_take];omega
        have hml2:=Nat.le_trans hml (Nat.mul_le_mul hdl (Nat.le_refl 1000000000000))
        rw[hms] at hml2
        generalize manyN L p (d.take k)=mn at hms hml2
        clear hml
        simp only[d4,d5,hatk,hm,yB,zJ,Qs,if_true,if_false,Nat.reduceAdd,Nat.reduceLeDiff,Nat.reduceBEq,List.length_map,vv f4r30.eq_1,vv f4r31.eq_1,uu f4b32.eq_1,uu f4b33.eq_1,uu f4b34.eq_1,vv f4r35.eq_1,uu f4b36.eq_1,uu f4b37.eq_1]
        refine yS g16 ?_ (ha:=by simp only[List.map_cons,List.map_nil,zB,V.norm,C.norm,zL,yI uQ,C.normRow,rC]<;>rfl)
        have c6:IntKind.i64.wrap ((mn:Int)+((pls (xO m p)).length:Int))=((mn+(xO m p).length:Nat):Int):=by rw[wO,wrap_in (by omega) (by omega)];omega
        simp only[c5,c6,Qs,if_true,Nat.reduceBEq]
        exact Next.intro (k+1) (by rw[hms];rfl) rfl (by omega) (by omega)
       ·obtain rfl:k=d.length:=by omega
        have d4: ¬(d.length:Int)<d.length:=by omega
        rw[List.take_length]
        generalize manyN L p d=mn at hm1 hm2⊢
        have d5: ¬(mn:Int)<pl.length:=by omega
        have hdd:(mn:Int)>0∧ ¬(pl.length:Int)=0∨ ¬(mn:Int)>0:=by omega
        rcases hdd with⟨d6,d7⟩|d6<;>(
         first|simp only[d4,d5,d6,d7,yB,wO,Qs,if_true,if_false,reduceCtorEq,forall_const,List.nodup_nil,Nat.reduceAdd,Nat.reduceEqDiff,Nat.reduceLeDiff,Nat.reduceBEq,uu f4b18.eq_1,vv f4r19.eq_1,uu f4b20.eq_1,uu f4b21.eq_1,vv f4r22.eq_1,uu f4b23.eq_1,vv f4r24.eq_1,uu f4b25.eq_1,uu f4b26.eq_1,vv f4r27.eq_1,uu f4b28.eq_1,uu f4b29.eq_1,uu f4b34.eq_1,vv f4r35.eq_1,uu f4b36.eq_1,uu f4b37.eq_1]|simp only[d4,d5,d6,yB,wO,Qs,if_true,if_false,reduceCtorEq,Nat.reduceAdd,Nat.reduceEqDiff,Nat.reduceLeDiff,Nat.reduceBEq,uu f4b18.eq_1,vv f4r19.eq_1,uu f4b20.eq_1,uu f4b21.eq_1,vv f4r22.eq_1,uu f4b23.eq_1,uu f4b26.eq_1,vv f4r27.eq_1,uu f4b28.eq_1,uu f4b29.eq_1,uu f4b34.eq_1,vv f4r35.eq_1,uu f4b36.eq_1,uu f4b37.eq_1]
         rw[uu f4l17.eq_1]
         refine zS (fun r:Nat=>[(0,lst 8 (L.map zP)),(1,lst 2 (D.map zR)),(7,.bool true),(8,lst 3 (yN FL)),(10,.int .i64 sv),(12,.int .i64 n),(14,lst 3 (xQ p)),(15,.int .i64 0),(16,lst 1 (zK fs)),(17,.int .i64 (al2:Nat)),(18,.bool true),(19,.int .i64 i),(20,.k (.c (.ro [zC 1 (zK d),zC 2 (pls pl),.bool true] 0))),(24,.bool false),(25,.int .i64 r)])
          (fun _=>[]) (fun r=>r≤n) (fun r=>n-r) 0 rfl rfl (Nat.zero_le _) ?_
         intro r hr
         by_cases hrl:r<n
         ·have d8:(r:Int)<n:=by omega
          have c5:IntKind.i64.wrap ((r:Int)+1)=(r:Int)+1:=wrap_in (by omega) (by omega)
          simp only[d8,c5,Qs,if_true,Nat.reduceBEq,vv f4r9.eq_1,vv f4r10.eq_1,uu f4b11.eq_1,uu f4b12.eq_1,uu f4b13.eq_1,vv f4r14.eq_1,uu f4b15.eq_1,uu f4b16.eq_1]
          exact Next.intro (r+1) rfl rfl (by omega) (by omega)
         ·obtain rfl:r=n:=by omega
          have d8: ¬(r:Int)<r:=by omega
          simp only[d8,c4,Qs,if_true,if_false,reduceCtorEq,Nat.reduceEqDiff,Nat.reduceBEq,uu f4b6.eq_1,vv f4r7.eq_1,uu f4b8.eq_1,uu f4b13.eq_1,vv f4r14.eq_1,uu f4b15.eq_1,uu f4b16.eq_1]
          exact Next.intro (i+1) (by rw[hss2,hal2];rfl) rfl (by omega) (by omega)))
    |false=>
     rw[Bool.or_false] at hss
     cases su with
     |true=>
      simp only[d2,hat,vM,Qs,if_true,List.append_nil,Nat.reduceAdd,Nat.reduceBEq,vv f4r3.eq_1,uu f4b57.eq_1,vv f4r58.eq_1,uu f4b59.eq_1,uu f4b60.eq_1,vv f4r61.eq_1,uu f4b62.eq_1,vv f4r63.eq_1,uu f4b64.eq_1,uu f4b65.eq_1,uu f4b66.eq_1,uu f4b67.eq_1,vv f4r68.eq_1,uu f4b69.eq_1,uu f4b70.eq_1]
      rw[uu f4l56.eq_1]
      refine zS (fun k:Nat=>[(0,lst 8 (L.map zP)),(1,lst 2 (D.map zR)),(7,.bool true),(8,lst 3 (yN FL)),(10,.int .i64 sv),(12,.int .i64 n),(14,lst 3 (xQ p)),(15,.int .i64 0),(16,lst 1 (zK fs)),(17,.int .i64 (al+(fs.take k).countP (fun z=>decide (d=[z])):Nat)),(18,.bool true),(19,.int .i64 i),(20,.k (.c (.ro [zC 1 (zK d),zC 2 (pls pl),.bool false] 0))),(21,.int .i64 k)])
       (fun _=>[]) (fun k=>k≤fs.length) (fun k=>fs.length-k) 0 rfl rfl (Nat.zero_le _) ?_
      intro k hk
      by_cases hkl:k<fs.length
      ·have d3:(k:Int)<fs.length:=by omega
       have c5:IntKind.i64.wrap ((k:Int)+1)=(k:Int)+1:=wrap_in (by omega) (by omega)
       have hatk:=tY hkl
       have hcs:=zas (p:=fun z=>decide (d=[z])) hkl
       have hcl:(fs.take k).countP (fun z=>decide (d=[z]))≤8:=by
        have h1:=List.countP_le_length (p:=fun z=>decide (d=[z])) (l:=fs.take k)
        rw[List.length_take] at h1;omega
       generalize (fs.take k).countP (fun z=>decide (d=[z]))=cn at hcs hcl
       generalize fs.getD k 0=z at hatk hcs
       have hal:al≤8008:=by omega
       by_cases hd1:d.length=1
       ·have d4:(d.length:Int)=1:=by omega
        have d5:(0:Int)<d.length:=by omega
        have hat0:=tY (w:=d) (k:=0) (by omega)
        have hone1:=zau (d:=d) (k:=z) hd1
        simp only[hone1] at hcs
        by_cases hz:d.getD 0 0=z
        ·rw[decide_eq_true hz,if_pos rfl] at hcs
         have c6:IntKind.i64.wrap (((al+cn:Nat):Int)+1)=((al+(cn+1):Nat):Int):=by rw[wrap_in (by omega) (by omega)];omega
         rw[hz] at hat0
         simp only[d3,d4,d5,c5,c6,hatk,hat0,yB,Qs,if_true,if_false,BEq.rfl,Nat.reduceAdd,Nat.reduceLeDiff,Nat.reduceBEq,Int.reduceLT,Int.reduceLE,vv f4r45.eq_1,vv f4r46.eq_1,uu f4b47.eq_1,vv f4r48.eq_1,uu f4b49.eq_1,uu f4b50.eq_1,uu f4b51.eq_1,uu f4b52.eq_1,vv f4r53.eq_1,uu f4b54.eq_1,uu f4b55.eq_1]
         exact Next.intro (k+1) (by rw[hcs];rfl) rfl (by omega) (by omega)
        ·rw[decide_eq_false hz,if_neg (by simp),Nat.add_zero] at hcs
         generalize d.getD 0 0=z0 at hat0 hz
         simp only[d3,d4,d5,c5,hz,hatk,hat0,yB,Qs,if_true,if_false,forall_const,BEq.rfl,Nat.reduceAdd,Nat.reduceLeDiff,Nat.reduceBEq,Int.reduceLT,Int.reduceLE,vv f4r45.eq_1,vv f4r46.eq_1,uu f4b47.eq_1,vv f4r48.eq_1,uu f4b49.eq_1,uu f4b50.eq_1,uu f4b51.eq_1,uu f4b52.eq_1,vv f4r53.eq_1,uu f4b54.eq_1,uu f4b55.eq_1]
         exact Next.intro (k+1) (by rw[hcs];rfl) rfl (by omega) (by omega)
       ·have d4: ¬(d.length:Int)=1:=by omega
        have hno:=zav (d:=d) (k:=z) hd1
        rw[if_neg (by simp only[hno];simp),Nat.add_zero] at hcs
        simp only[d3,d4,c5,hatk,yB,Qs,if_true,if_false,forall_const,Nat.reduceAdd,Nat.reduceLeDiff,Nat.reduceBEq,Int.reduceLE,vv f4r45.eq_1,vv f4r46.eq_1,uu f4b47.eq_1,vv f4r48.eq_1,uu f4b49.eq_1,uu f4b50.eq_1,uu f4b51.eq_1,uu f4b52.eq_1,vv f4r53.eq_1,uu f4b54.eq_1,uu f4b55.eq_1]
        exact Next.intro (k+1) (by rw[hcs];rfl) rfl (by omega) (by omega)
      ·obtain rfl:k=fs.length:=by omega
       have d3: ¬(fs.length:Int)<fs.length:=by omega
       rw[List.take_length,←has]
       obtain⟨al2,hal2⟩: ∃x,aloneN (FL.take (i+1)) fs=x:=⟨_,rfl⟩
       rw[hal2]
       simp only[d3,yB,Qs,if_true,if_false,reduceCtorEq,Nat.reduceBEq,uu f4b39.eq_1,vv f4r40.eq_1,uu f4b41.eq_1,uu f4b42.eq_1,vv f4r43.eq_1,uu f4b44.eq_1,uu f4b52.eq_1,vv f4r53.eq_1,uu f4b54.eq_1,uu f4b55.eq_1]
       rw[uu f4l38.eq_1]
       refine zS (fun k:Nat=>[(0,lst 8 (L.map zP)),(1,lst 2 (D.map zR)),(7,.bool true),(8,lst 3 (yN FL)),(10,.int .i64 sv),(12,.int .i64 n),(14,lst 3 (xQ p)),(15,.int .i64 0),(16,lst 1 (zK fs)),(17,.int .i64 (al2:Nat)),(18,.bool true),(19,.int .i64 i),(20,.k (.c (.ro [zC 1 (zK d),zC 2 (pls pl),.bool false] 0))),(22,.int .i64 (manyN L p (d.take k):Nat)),(23,.int .i64 k)])
        (fun _=>[]) (fun k=>k≤d.length) (fun k=>d.length-k) 0 rfl rfl (Nat.zero_le _) ?_
       intro k hk
       by_cases hkl:k<d.length
       ·have d4:(k:Int)<d.length:=by omega
        have c5:IntKind.i64.wrap ((k:Int)+1)=(k:Int)+1:=wrap_in (by omega) (by omega)
        have hatk:=tY hkl
        have hms:=zat (L:=L) (p:=p) hkl
        have hml:=fI (L:=L) hp (d.take (k+1))
        obtain⟨j,hj,hjL⟩:=hrg k hkl
        rw[hj,Int.toNat_natCast] at hms
        rw[hj] at hatk
        have d5:(j:Int)<L.length:=by omega
        have hm:=nF hjL
        generalize L.getD j yL=m at hms hm
        have g16:=c16 m p hp
        unfold zP at g16
        have hdl:(d.take (k+1)).length≤8:=by rw[List.length_take];omega
        have hml2:=Nat.le_trans hml (Nat.mul_le_mul hdl (Nat.le_refl 1000000000000))
        rw[hms] at hml2
        generalize manyN L p (d.take k)=mn at hms hml2
        clear hml
        simp only[d4,d5,hatk,hm,yB,zJ,Qs,if_true,if_false,Nat.reduceAdd,Nat.reduceLeDiff,Nat.reduceBEq,List.length_map,vv f4r30.eq_1,vv f4r31.eq_1,uu f4b32.eq_1,uu f4b33.eq_1,uu f4b34.eq_1,vv f4r35.eq_1,uu f4b36.eq_1,uu f4b37.eq_1]
        refine yS g16 ?_ (ha:=by simp only[List.map_cons,List.map_nil,zB,V.norm,C.norm,zL,yI uQ,C.normRow,rC]<;>rfl)
        have c6:IntKind.i64.wrap ((mn:Int)+((pls (xO m p)).length:Int))=((mn+(xO m p).length:Nat):Int):=by rw[wO,wrap_in (by omega) (by omega)];omega
        simp only[c5,c6,Qs,if_true,Nat.reduceBEq]
        exact Next.intro (k+1) (by rw[hms];rfl) rfl (by omega) (by omega)
       ·obtain rfl:k=d.length:=by omega
        have d4: ¬(d.length:Int)<d.length:=by omega
        rw[List.take_length]
        generalize manyN L p d=mn at hm1 hm2⊢
        have d5: ¬(mn:Int)<pl.length:=by omega
        have hdd:(mn:Int)>0∧ ¬(pl.length:Int)=0∨ ¬(mn:Int)>0:=by omega
        obtain⟨o1,o2,o3⟩:=hone rfl
        rw[hnR] at o3
        have gd:=g11 d (by omega)
        rw[o2] at gd
        have gm:=g17 d (by omega)
        have d9:(d.length:Int)=1:=by omega
        generalize meetsB L D d=M at gm o3
        rcases hdd with⟨d6,d7⟩|d6<;>(
         first|simp only[d4,d5,d6,d7,yB,wO,d9,Qs,if_true,if_false,reduceCtorEq,forall_const,List.nodup_nil,Nat.reduceAdd,Nat.reduceEqDiff,Nat.reduceLeDiff,Nat.reduceBEq,Int.reduceLT,Int.reduceBNe,vv f4r24.eq_1,uu f4b25.eq_1,uu f4b26.eq_1,vv f4r27.eq_1,uu f4b28.eq_1,uu f4b29.eq_1,uu f4b34.eq_1,vv f4r35.eq_1,uu f4b36.eq_1,uu f4b37.eq_1]|simp only[d4,d5,d6,yB,wO,d9,Qs,if_true,if_false,reduceCtorEq,Nat.reduceAdd,Nat.reduceEqDiff,Nat.reduceLeDiff,Nat.reduceBEq,Int.reduceLT,Int.reduceBNe,vv f4r27.eq_1,uu f4b28.eq_1,uu f4b29.eq_1,uu f4b34.eq_1,vv f4r35.eq_1,uu f4b36.eq_1,uu f4b37.eq_1]
         refine zD gd ?_ (ha:=by simp only[List.map_cons,List.map_nil,zB,V.norm,zL,zH yF,zH yM,wL,C.norm]<;>rfl)
         simp only[Qs,if_true,if_false,Nat.reduceAdd,Nat.reduceBEq,uu f4b18.eq_1,vv f4r19.eq_1,uu f4b20.eq_1,uu f4b21.eq_1,vv f4r22.eq_1,uu f4b23.eq_1,uu f4b26.eq_1]
         rw[uu f4l17.eq_1]
         refine zS (fun r:Nat=>[(0,lst 8 (L.map zP)),(1,lst 2 (D.map zR)),(7,.bool true),(8,lst 3 (yN FL)),(10,.int .i64 sv),(12,.int .i64 n),(14,lst 3 (xQ p)),(15,.int .i64 0),(16,lst 1 (zK fs)),(17,.int .i64 (al2:Nat)),(18,.bool true),(19,.int .i64 i),(20,.k (.c (.ro [zC 1 (zK d),zC 2 (pls pl),.bool false] 0))),(24,.bool ((List.range r).all fun r:Nat=>M r)),(25,.int .i64 r)])
          (fun _=>[]) (fun r=>r≤n) (fun r=>n-r) 0 rfl rfl (Nat.zero_le _) ?_
         intro r hr
         by_cases hrl:r<n
         ·have d8:(r:Int)<n:=by omega
          have c5:IntKind.i64.wrap ((r:Int)+1)=(r:Int)+1:=wrap_in (by omega) (by omega)
          have hrs:(List.range (r+1)).all (fun r:Nat=>M r)=((List.range r).all (fun r:Nat=>M r)&&M r):=by rw[List.range_succ,List.all_append];simp
          have gr:=gm (r:Int)
          cases hb:(List.range r).all (fun r:Nat=>M r) with
          |true=>
           rw[hb,Bool.true_and] at hrs
           simp only[d8,c5,Qs,if_true,if_false,Nat.reduceAdd,Nat.reduceLeDiff,Nat.reduceBEq,vv f4r9.eq_1,vv f4r10.eq_1,uu f4b11.eq_1,uu f4b12.eq_1,uu f4b13.eq_1,vv f4r14.eq_1,uu f4b15.eq_1,uu f4b16.eq_1]
           refine zD gr ?_ (ha:=by simp only[List.map_cons,List.map_nil,zB,V.norm,zL,zH yF,zH yM,wL,C.norm]<;>rfl)
           simp only[c5,Qs,if_true,Nat.reduceBEq]
           exact Next.intro (r+1) (by rw[hrs];rfl) rfl (by omega) (by omega)
          |false=>
           rw[hb,Bool.false_and] at hrs
           simp only[d8,c5,Qs,if_true,Nat.reduceBEq,vv f4r9.eq_1,vv f4r10.eq_1,uu f4b11.eq_1,uu f4b12.eq_1,uu f4b13.eq_1,vv f4r14.eq_1,uu f4b15.eq_1,uu f4b16.eq_1]
           exact Next.intro (r+1) (by rw[hrs];rfl) rfl (by omega) (by omega)
         ·obtain rfl:r=n:=by omega
          have d8: ¬(r:Int)<r:=by omega
          rw[o3]
          simp only[d8,c4,Qs,if_true,if_false,reduceCtorEq,Nat.reduceEqDiff,Nat.reduceBEq,uu f4b6.eq_1,vv f4r7.eq_1,uu f4b8.eq_1,uu f4b13.eq_1,vv f4r14.eq_1,uu f4b15.eq_1,uu f4b16.eq_1]
          exact Next.intro (i+1) (by rw[hss,hal2];rfl) rfl (by omega) (by omega))
     |false=>
      simp only[d2,hat,vM,Qs,if_true,if_false,List.append_nil,Nat.reduceAdd,Nat.reduceBEq,vv f4r3.eq_1,uu f4b57.eq_1,vv f4r58.eq_1,uu f4b59.eq_1,uu f4b60.eq_1,vv f4r61.eq_1,uu f4b62.eq_1,vv f4r63.eq_1,uu f4b64.eq_1,uu f4b65.eq_1,uu f4b66.eq_1,uu f4b67.eq_1,vv f4r68.eq_1,uu f4b69.eq_1,uu f4b70.eq_1]
      rw[uu f4l56.eq_1]
      refine zS (fun k:Nat=>[(0,lst 8 (L.map zP)),(1,lst 2 (D.map zR)),(7,.bool true),(8,lst 3 (yN FL)),(10,.int .i64 sv),(12,.int .i64 n),(14,lst 3 (xQ p)),(15,.int .i64 0),(16,lst 1 (zK fs)),(17,.int .i64 (al+(fs.take k).countP (fun z=>decide (d=[z])):Nat)),(18,.bool false),(19,.int .i64 i),(20,.k (.c (.ro [zC 1 (zK d),zC 2 (pls pl),.bool false] 0))),(21,.int .i64 k)])
       (fun _=>[]) (fun k=>k≤fs.length) (fun k=>fs.length-k) 0 rfl rfl (Nat.zero_le _) ?_
      intro k hk
      by_cases hkl:k<fs.length
      ·have d3:(k:Int)<fs.length:=by omega
       have c5:IntKind.i64.wrap ((k:Int)+1)=(k:Int)+1:=wrap_in (by omega) (by omega)
       have hatk:=tY hkl
       have hcs:=zas (p:=fun z=>decide (d=[z])) hkl
       have hcl:(fs.take k).countP (fun z=>decide (d=[z]))≤8:=by
        have h1:=List.countP_le_length (p:=fun z=>decide (d=[z])) (l:=fs.take k)
        rw[List.length_take] at h1;omega
       generalize (fs.take k).countP (fun z=>decide (d=[z]))=cn at hcs hcl
       generalize fs.getD k 0=z at hatk hcs
       have hal:al≤8008:=by omega
       by_cases hd1:d.length=1
       ·have d4:(d.length:Int)=1:=by omega
        have d5:(0:Int)<d.length:=by omega
        have hat0:=tY (w:=d) (k:=0) (by omega)
        have hone1:=zau (d:=d) (k:=z) hd1
        simp only[hone1] at hcs
        by_cases hz:d.getD 0 0=z
        ·rw[decide_eq_true hz,if_pos rfl] at hcs
         have c6:IntKind.i64.wrap (((al+cn:Nat):Int)+1)=((al+(cn+1):Nat):Int):=by rw[wrap_in (by omega) (by omega)];omega
         rw[hz] at hat0
         simp only[d3,d4,d5,c5,c6,hatk,hat0,yB,Qs,if_true,if_false,BEq.rfl,Nat.reduceAdd,Nat.reduceLeDiff,Nat.reduceBEq,Int.reduceLT,Int.reduceLE,vv f4r45.eq_1,vv f4r46.eq_1,uu f4b47.eq_1,vv f4r48.eq_1,uu f4b49.eq_1,uu f4b50.eq_1,uu f4b51.eq_1,uu f4b52.eq_1,vv f4r53.eq_1,uu f4b54.eq_1,uu f4b55.eq_1]
         exact Next.intro (k+1) (by rw[hcs];rfl) rfl (by omega) (by omega)
        ·rw[decide_eq_false hz,if_neg (by simp),Nat.add_zero] at hcs
         generalize d.getD 0 0=z0 at hat0 hz
         simp only[d3,d4,d5,c5,hz,hatk,hat0,yB,Qs,if_true,if_false,forall_const,BEq.rfl,Nat.reduceAdd,Nat.reduceLeDiff,Nat.reduceBEq,Int.reduceLT,Int.reduceLE,vv f4r45.eq_1,vv f4r46.eq_1,uu f4b47.eq_1,vv f4r48.eq_1,uu f4b49.eq_1,uu f4b50.eq_1,uu f4b51.eq_1,uu f4b52.eq_1,vv f4r53.eq_1,uu f4b54.eq_1,uu f4b55.eq_1]
         exact Next.intro (k+1) (by rw[hcs];rfl) rfl (by omega) (by omega)
       ·have d4: ¬(d.length:Int)=1:=by omega
        have hno:=zav (d:=d) (k:=z) hd1
        rw[if_neg (by simp only[hno];simp),Nat.add_zero] at hcs
        simp only[d3,d4,c5,hatk,yB,Qs,if_true,if_false,forall_const,Nat.reduceAdd,Nat.reduceLeDiff,Nat.reduceBEq,Int.reduceLE,vv f4r45.eq_1,vv f4r46.eq_1,uu f4b47.eq_1,vv f4r48.eq_1,uu f4b49.eq_1,uu f4b50.eq_1,uu f4b51.eq_1,uu f4b52.eq_1,vv f4r53.eq_1,uu f4b54.eq_1,uu f4b55.eq_1]
        exact Next.intro (k+1) (by rw[hcs];rfl) rfl (by omega) (by omega)
      ·obtain rfl:k=fs.length:=by omega
       have d3: ¬(fs.length:Int)<fs.length:=by omega
       rw[List.take_length,←has]
       obtain⟨al2,hal2⟩: ∃x,aloneN (FL.take (i+1)) fs=x:=⟨_,rfl⟩
       rw[hal2]
       simp only[d3,yB,Qs,if_true,if_false,reduceCtorEq,Nat.reduceBEq,uu f4b39.eq_1,vv f4r40.eq_1,uu f4b41.eq_1,uu f4b42.eq_1,vv f4r43.eq_1,uu f4b44.eq_1,uu f4b52.eq_1,vv f4r53.eq_1,uu f4b54.eq_1,uu f4b55.eq_1]
       rw[uu f4l38.eq_1]
       refine zS (fun k:Nat=>[(0,lst 8 (L.map zP)),(1,lst 2 (D.map zR)),(7,.bool true),(8,lst 3 (yN FL)),(10,.int .i64 sv),(12,.int .i64 n),(14,lst 3 (xQ p)),(15,.int .i64 0),(16,lst 1 (zK fs)),(17,.int .i64 (al2:Nat)),(18,.bool false),(19,.int .i64 i),(20,.k (.c (.ro [zC 1 (zK d),zC 2 (pls pl),.bool false] 0))),(22,.int .i64 (manyN L p (d.take k):Nat)),(23,.int .i64 k)])
        (fun _=>[]) (fun k=>k≤d.length) (fun k=>d.length-k) 0 rfl rfl (Nat.zero_le _) ?_
       intro k hk
       by_cases hkl:k<d.length
       ·have d4:(k:Int)<d.length:=by omega
        have c5:IntKind.i64.wrap ((k:Int)+1)=(k:Int)+1:=wrap_in (by omega) (by omega)
        have hatk:=tY hkl
        have hms:=zat (L:=L) (p:=p) hkl
        have hml:=fI (L:=L) hp (d.take (k+1))
        obtain⟨j,hj,hjL⟩:=hrg k hkl
        rw[hj,Int.toNat_natCast] at hms
        rw[hj] at hatk
        have d5:(j:Int)<L.length:=by omega
        have hm:=nF hjL
        generalize L.getD j yL=m at hms hm
        have g16:=c16 m p hp
        unfold zP at g16
        have hdl:(d.take (k+1)).length≤8:=by rw[List.length_take];omega
        have hml2:=Nat.le_trans hml (Nat.mul_le_mul hdl (Nat.le_refl 1000000000000))
        rw[hms] at hml2
        generalize manyN L p (d.take k)=mn at hms hml2
        clear hml
        simp only[d4,d5,hatk,hm,yB,zJ,Qs,if_true,if_false,Nat.reduceAdd,Nat.reduceLeDiff,Nat.reduceBEq,List.length_map,vv f4r30.eq_1,vv f4r31.eq_1,uu f4b32.eq_1,uu f4b33.eq_1,uu f4b34.eq_1,vv f4r35.eq_1,uu f4b36.eq_1,uu f4b37.eq_1]
        refine yS g16 ?_ (ha:=by simp only[List.map_cons,List.map_nil,zB,V.norm,C.norm,zL,yI uQ,C.normRow,rC]<;>rfl)
        have c6:IntKind.i64.wrap ((mn:Int)+((pls (xO m p)).length:Int))=((mn+(xO m p).length:Nat):Int):=by rw[wO,wrap_in (by omega) (by omega)];omega
        simp only[c5,c6,Qs,if_true,Nat.reduceBEq]
        exact Next.intro (k+1) (by rw[hms];rfl) rfl (by omega) (by omega)
       ·obtain rfl:k=d.length:=by omega
        have d4: ¬(d.length:Int)<d.length:=by omega
        rw[List.take_length]
        generalize manyN L p d=mn at hm1 hm2⊢
        have d5: ¬(mn:Int)<pl.length:=by omega
        have hdd:(mn:Int)>0∧ ¬(pl.length:Int)=0∨ ¬(mn:Int)>0:=by omega
        obtain⟨o1,o2,o3⟩:=hone rfl
        rw[hnR] at o3
        have gd:=g11 d (by omega)
        rw[o2] at gd
        have gm:=g17 d (by omega)
        have d9:(d.length:Int)=1:=by omega
        generalize meetsB L D d=M at gm o3
        rcases hdd with⟨d6,d7⟩|d6<;>(
         first|simp only[d4,d5,d6,d7,yB,wO,d9,Qs,if_true,if_false,reduceCtorEq,forall_const,List.nodup_nil,Nat.reduceAdd,Nat.reduceEqDiff,Nat.reduceLeDiff,Nat.reduceBEq,Int.reduceLT,Int.reduceBNe,vv f4r24.eq_1,uu f4b25.eq_1,uu f4b26.eq_1,vv f4r27.eq_1,uu f4b28.eq_1,uu f4b29.eq_1,uu f4b34.eq_1,vv f4r35.eq_1,uu f4b36.eq_1,uu f4b37.eq_1]|simp only[d4,d5,d6,yB,wO,d9,Qs,if_true,if_false,reduceCtorEq,Nat.reduceAdd,Nat.reduceEqDiff,Nat.reduceLeDiff,Nat.reduceBEq,Int.reduceLT,Int.reduceBNe,vv f4r27.eq_1,uu f4b28.eq_1,uu f4b29.eq_1,uu f4b34.eq_1,vv f4r35.eq_1,uu f4b36.eq_1,uu f4b37.eq_1]
         refine zD gd ?_ (ha:=by simp only[List.map_cons,List.map_nil,zB,V.norm,zL,zH yF,zH yM,wL,C.norm]<;>rfl)
         simp only[Qs,if_true,if_false,Nat.reduceAdd,Nat.reduceBEq,uu f4b18.eq_1,vv f4r19.eq_1,uu f4b20.eq_1,uu f4b21.eq_1,vv f4r22.eq_1,uu f4b23.eq_1,uu f4b26.eq_1]
         rw[uu f4l17.eq_1]
         refine zS (fun r:Nat=>[(0,lst 8 (L.map zP)),(1,lst 2 (D.map zR)),(7,.bool true),(8,lst 3 (yN FL)),(10,.int .i64 sv),(12,.int .i64 n),(14,lst 3 (xQ p)),(15,.int .i64 0),(16,lst 1 (zK fs)),(17,.int .i64 (al2:Nat)),(18,.bool false),(19,.int .i64 i),(20,.k (.c (.ro [zC 1 (zK d),zC 2 (pls pl),.bool false] 0))),(24,.bool ((List.range r).all fun r:Nat=>M r)),(25,.int .i64 r)])
          (fun _=>[]) (fun r=>r≤n) (fun r=>n-r) 0 rfl rfl (Nat.zero_le _) ?_
         intro r hr
         by_cases hrl:r<n
         ·have d8:(r:Int)<n:=by omega
          have c5:IntKind.i64.wrap ((r:Int)+1)=(r:Int)+1:=wrap_in (by omega) (by omega)
          have hrs:(List.range (r+1)).all (fun r:Nat=>M r)=((List.range r).all (fun r:Nat=>M r)&&M r):=by rw[List.range_succ,List.all_append];simp
          have gr:=gm (r:Int)
          cases hb:(List.range r).all (fun r:Nat=>M r) with
          |true=>
           rw[hb,Bool.true_and] at hrs
           simp only[d8,c5,Qs,if_true,if_false,Nat.reduceAdd,Nat.reduceLeDiff,Nat.reduceBEq,vv f4r9.eq_1,vv f4r10.eq_1,uu f4b11.eq_1,uu f4b12.eq_1,uu f4b13.eq_1,vv f4r14.eq_1,uu f4b15.eq_1,uu f4b16.eq_1]
           refine zD gr ?_ (ha:=by simp only[List.map_cons,List.map_nil,zB,V.norm,zL,zH yF,zH yM,wL,C.norm]<;>rfl)
           simp only[c5,Qs,if_true,Nat.reduceBEq]
           exact Next.intro (r+1) (by rw[hrs];rfl) rfl (by omega) (by omega)
          |false=>
           rw[hb,Bool.false_and] at hrs
           simp only[d8,c5,Qs,if_true,Nat.reduceBEq,vv f4r9.eq_1,vv f4r10.eq_1,uu f4b11.eq_1,uu f4b12.eq_1,uu f4b13.eq_1,vv f4r14.eq_1,uu f4b15.eq_1,uu f4b16.eq_1]
           exact Next.intro (r+1) (by rw[hrs];rfl) rfl (by omega) (by omega)
         ·obtain rfl:r=n:=by omega
          have d8: ¬(r:Int)<r:=by omega
          rw[o3]
          simp only[d8,c4,Qs,if_true,if_false,reduceCtorEq,Nat.reduceEqDiff,Nat.reduceBEq,uu f4b6.eq_1,vv f4r7.eq_1,uu f4b8.eq_1,uu f4b13.eq_1,vv f4r14.eq_1,uu f4b15.eq_1,uu f4b16.eq_1]
          exact Next.intro (i+1) (by rw[hss,hal2];rfl) rfl (by omega) (by omega))
   ·obtain rfl:i=FL.length:=by omega
    have d2: ¬(FL.length:Int)<FL.length:=by omega
    rw[List.take_length,hC]
    have q1:((fs.length:Int)==fs.length)=true:=by simp
    have q2:((zK fs).length:Int)=fs.length:=by rw[yB]
    have q3:((yN FL).length:Int)=FL.length:=by rw[vM]
    have q4:(sv==0)=sureB FL:=by rw[←hNo,Bool.eq_iff_iff];simp
    have q5:((sv==1)==((FL.length:Int)==0))=true:=by
     have h1:(sv==1)=decide (sv=1):=by rw[Bool.eq_iff_iff];simp
     have h2:((FL.length:Int)==0)=decide (FL.length=0):=by rw[Bool.eq_iff_iff];simp
     rw[h1,h2,hYes];simp
    simp only[d2,q1,q2,q3,q4,q5,Qs,zcJ,zc2,if_true,if_false,BEq.rfl,List.nodup_nil,Nat.reduceBEq,vv f4r1.eq_1,uu f4b2.eq_1,uu f4b67.eq_1,vv f4r68.eq_1,uu f4b69.eq_1,uu f4b70.eq_1]
    exact hS
  ·have hfe:flawsE L D=[]:=by unfold flawsE;rw[if_neg h0]
   have hse:stateE L D=0:=by unfold stateE;rw[if_neg h0]
   rw[hfe] at g10
   rw[hse] at g12
   generalize lookE L D=er at g10 g12 h0
   have e1:(er !=0)=true:=by rw[bne_iff_ne];exact h0
   have e3:(er==er)=true:=by simp
   simp only[Qs,Nat.reduceAdd,uu f4.eq_1,vv f4r108.eq_1,uu f4b109.eq_1,vv f4r110.eq_1,uu f4b111.eq_1]
   refine zD c8 ?_ (ha:=by rfl)
   simp only[Qs,Nat.reduceBEq,vv f4r105.eq_1,uu f4b106.eq_1,uu f4b107.eq_1]
   refine zD g9 ?_ (ha:=by simp only[List.map_cons,List.map_nil,zB,V.norm,zL,zH yF,zH yM,C.norm]<;>rfl)
   simp only[Qs,Nat.reduceBEq,vv f4r100.eq_1,uu f4b101.eq_1,uu f4b104.eq_1]
   refine yS g10 ?_ (ha:=by simp only[List.map_cons,List.map_nil,zB,V.norm,zL,zH yF,zH yM,C.norm]<;>rfl)
   simp only[Qs,List.append_nil,Nat.reduceAdd,Nat.reduceMul,Nat.reduceBEq,vv f4r98.eq_1,uu f4b99.eq_1]
   refine zD g12 ?_ (ha:=by simp only[List.map_cons,List.map_nil,zB,V.norm,zL,zH yF,zH yM,C.norm]<;>rfl)
   simp only[Qs,Nat.reduceBEq,vv f4r96.eq_1,uu f4b97.eq_1]
   refine zD g13 ?_ (ha:=by simp only[List.map_cons,List.map_nil,zB,V.norm,zL,zH yF,zH yM,C.norm]<;>rfl)
   simp only[e1,e3,Qs,if_true,BEq.rfl,List.nodup_nil,Nat.reduceBEq,vv f4r90.eq_1,uu f4b91.eq_1,uu f4b92.eq_1,vv f4r93.eq_1,uu f4b94.eq_1,uu f4b95.eq_1]
   exact hS
 ·have hF:pW L D=false:=by simpa using hF
  rw[hF] at g9
  simp only[Qs,Nat.reduceAdd,uu f4.eq_1,vv f4r108.eq_1,uu f4b109.eq_1,vv f4r110.eq_1,uu f4b111.eq_1]
  refine zD c8 ?_ (ha:=by rfl)
  simp only[Qs,Nat.reduceBEq,vv f4r105.eq_1,uu f4b106.eq_1,uu f4b107.eq_1]
  refine zD g9 ?_ (ha:=by simp only[List.map_cons,List.map_nil,zB,V.norm,zL,zH yF,zH yM,C.norm]<;>rfl)
  simp only[Qs,List.nodup_nil,Nat.reduceBEq,vv f4r102.eq_1,uu f4b103.eq_1,uu f4b104.eq_1]
  exact hS
end Go.Abs
set_option maxRecDepth 100000
namespace Go.Abs
open Go.RowKit Go.Proofs Go.Wd Go.Wire Go.Ex
theorem zju {α:Type} {S:List C→Prop} (enc:α→List C) (Q:α→Prop) (hS: ∀r,S r→ ∃a,r=enc a∧Q a): ∀(rows:List (List C)),(∀r∈rows,S r)→ ∃l:List α,rows=l.map enc∧ ∀a∈l,Q a
 |[],_=>⟨[],rfl,fun _ h=>by cases h⟩
 |r::rows,h=>by
  obtain⟨a,ha,hq⟩:=hS r (h r (by simp))
  obtain⟨l,hl,hQ⟩:=zju enc Q hS rows (fun x hx=>h x (by simp[hx]))
  refine⟨a::l,by rw[ha,hl];rfl,fun x hx=>?_⟩
  rcases List.mem_cons.1 hx with rfl|hx
  ·exact hq
  ·exact hQ x hx
theorem zjv {m:Int} (h:(Lit.int .i64 m).wf=true): -9223372036854775808≤m∧m≤9223372036854775807:=by
 have:=(Lit.wf_int_iff _ _).1 h
 simpa [IntKind.min,IntKind.max,IntKind.signed,IntKind.bits] using this
theorem zo2 {n:Nat} {r:List C} (hr:xA Tryz.prog n 46 r): ∃x:Dmd,r=zP x∧DmdI x:=by
 obtain⟨m,rs,_,rfl,h⟩:=gD Tryz.underlying46 hr
 match rs,h with
 |[x0,x1,x2,x3,x4,x5,x6,x7],⟨h0,h1,h2,h3,h4,h5,h6,h7,_⟩=>
  obtain⟨a0,rfl,_⟩:=gC Tryz.underlying3 h0
  obtain⟨a1,rfl,_⟩:=pO Tryz.underlying9 h1
  obtain⟨a2,rfl,_⟩:=pO Tryz.underlying9 h2
  obtain⟨a3,rfl,_⟩:=pO Tryz.underlying9 h3
  obtain⟨a4,rfl,_⟩:=pO Tryz.underlying9 h4
  obtain⟨a5,rfl,_⟩:=pO Tryz.underlying9 h5
  obtain⟨a6,rfl,q6⟩:=gC Tryz.underlying3 h6
  obtain⟨a7,rfl,q7⟩:=gC Tryz.underlying3 h7
  have w6:=zjv q6
  have w7:=zjv q7
  exact⟨⟨a0,a1,a2,a3,a4,a5,a6,a7⟩,rfl,w6.1,w6.2,w7.1,w7.2⟩
theorem zo3 {n:Nat} {r:List C} (hr:xA Tryz.prog n 22 r): ∃l:List Dmd,uZ Tryz.prog 22 r=lst 8 (l.map zP)∧ ∀m∈l,DmdI m:=by
 obtain⟨m,rows,rfl,rfl,_,h⟩:=kG Tryz.underlying22 hr
 obtain⟨l,rfl,hq⟩:=zju zP DmdI (fun r hr=>zo2 hr) rows h
 exact⟨l,by simp only[uZ,Tryz.underlying22,show Tryz.prog.cellsOf 46=8 by kernel_rfl],hq⟩
theorem zo4 {n:Nat} {r:List C} (hr:xA Tryz.prog n 109 r): ∃x:List Txt,r=wB x:=by
 obtain⟨m,rs,_,rfl,h⟩:=gD Tryz.underlying109 hr
 match rs,h with
 |[x0],⟨h0,_⟩=>
  obtain⟨_,rows,_,rfl,_,h⟩:=kG Tryz.underlying51 h0
  obtain⟨l,rfl⟩:=kH (fun s:Txt=>[C.str s]) (fun r hr=>by obtain⟨x,rfl,_⟩:=pO Tryz.underlying9 hr;exact⟨x,rfl⟩) rows h
  exact⟨l,by rw[show Tryz.prog.cellsOf 9=1 by kernel_rfl];rfl⟩
theorem zo5 {n:Nat} {r:List C} (hr:xA Tryz.prog n 107 r): ∃x:Fld,r=zU x:=by
 obtain⟨m,rs,_,rfl,h⟩:=gD Tryz.underlying107 hr
 match rs,h with
 |[x0,x1],⟨h0,h1,_⟩=>
  obtain⟨a0,rfl,_⟩:=pO Tryz.underlying9 h0
  obtain⟨_,rows,_,rfl,_,h⟩:=kG Tryz.underlying105 h1
  obtain⟨l,rfl⟩:=kH wB (fun r hr=>zo4 hr) rows h
  exact⟨⟨a0,l⟩,by rw[show Tryz.prog.cellsOf 109=1 by kernel_rfl];rfl⟩
theorem zo6 {n:Nat} {r:List C} (hr:xA Tryz.prog n 58 r): ∃x:Dcm,r=zR x:=by
 obtain⟨m,rs,_,rfl,h⟩:=gD Tryz.underlying58 hr
 match rs,h with
 |[x0,x1],⟨h0,h1,_⟩=>
  obtain⟨a0,rfl,_⟩:=pO Tryz.underlying9 h0
  obtain⟨_,rows,_,rfl,_,h⟩:=kG Tryz.underlying56 h1
  obtain⟨l,rfl⟩:=kH zU (fun r hr=>zo5 hr) rows h
  exact⟨⟨a0,l⟩,by rw[show Tryz.prog.cellsOf 107=2 by kernel_rfl];rfl⟩
theorem zo7 {n:Nat} {r:List C} (hr:xA Tryz.prog n 23 r): ∃l:List Dcm,uZ Tryz.prog 23 r=lst 2 (l.map zR):=by
 obtain⟨m,rows,rfl,rfl,_,h⟩:=kG Tryz.underlying23 hr
 obtain⟨l,rfl⟩:=kH zR (fun r hr=>zo6 hr) rows h
 exact⟨l,by simp only[uZ,Tryz.underlying23,show Tryz.prog.cellsOf 58=2 by kernel_rfl]⟩
theorem zo8 {n:Nat} {t:TypeId} {r:List C} {k:IntKind} (ht:Tryz.prog.underlying t=some (.int k)) (hk:k.signed=false) (hr:xA Tryz.prog n t r): ∃m:Nat,uZ Tryz.prog t r=.int k (m:Int)∧m<2 ^ k.bits:=by
 obtain⟨m,rfl,h⟩:=gC ht hr
 have:=(Lit.wf_int_iff _ _).1 h
 simp[IntKind.min,IntKind.max,hk] at this
 obtain⟨j,rfl⟩: ∃j:Nat,m=j:=⟨m.toNat,by omega⟩
 refine⟨j,by simp only[uZ,ht],?_⟩
 have h2:((2 ^ k.bits:Nat):Int)=(2:Int) ^ k.bits:=by simp
 omega
end Go.Abs
set_option maxRecDepth 100000
namespace Go.Abs
section
variable {P : Program}
end
end Go.Abs
namespace Go.Proofs.YtpmicgjdckeejaaGreatDoor
open Go.Abs Go.RowKit Go.ChangeShapes Go.WideShapes Go.ChangeAt Go.WideMaps Go.WideElems Go.Ex
theorem own:ownKnob Tryz.prog.godebug=none:=by kernel_rfl
theorem kids:Kids Tryz.prog (· <Tryz.prog.types.size):=kids_rows (by kernel_rfl) (by kernel_rfl)
theorem full: ∀t e,t<Tryz.prog.types.size→Tryz.prog.underlying t=some (.slice e)→0<Tryz.prog.cellsOf e:=slices_full_of Tryz.prog (by kernel_rfl)
def fJ:List TypeId:=[3,4,5,9,22,23,36,46,51,56,58,105,107,109]
theorem zo9:oT Tryz.prog fJ=true:=by kernel_rfl
theorem zpa: ∀t∈fJ,t<Tryz.prog.types.size:=by
 have:fJ.all (fun t=>decide (t<Tryz.prog.types.size))=true:=by kernel_rfl
 simpa using this
abbrev fK:List (String×DataW Unit):=Rows.examineConflictsRow.laid
theorem zpb {W:World} {name:String} {g:Nat} {cs:Array Value} (hn:Tryz.prog.globalNamed name=some g) (hv:W.var? Tryz.prog name=some cs): ∃t f,W.heap[g]?=some (.cells cs t f):=by
 unfold World.var? at hv
 rw[hn,Option.bind_some] at hv
 split at hv
 ·rename_i h
  cases hv
  exact⟨_,_,h⟩
 ·cases hv
theorem zpc {P:Program} {w:World} {g n:Nat} {t tE:TypeId} {zero:Array Value} {k:IntKind}
  (h:w.ShapedOpen P) (hg:g<P.globals.size) (h0:((begin P (fun _ _=>0) default).world.heap[g]?).bind Obj.row?=some (zero,t)) (hz:zero.size=n)
  (hb:P.buildable t=true) (hc:P.cellTypes P.depth t=some (List.replicate n tE)) (hu:P.underlying tE=some (.int k)):
  ∃cs T f,w.heap[g]?=some (.cells cs T f)∧ ∀i,i<n→ ∃z:Int,cs[i]?=some (.int k z):=by
 obtain⟨cs,hh,hs,hr⟩:=h.1 g zero t hg h0
 obtain⟨ts,hts,_,hall⟩:=hr hb
 rw[hc] at hts
 cases hts
 refine⟨cs,_,_,hh,fun i hi=>?_⟩
 have h1:i<cs.size:=by omega
 obtain⟨u,hu',hok⟩:=hall i cs[i] (by simp[h1])
 have:u=tE:=by simp[List.getElem?_replicate,hi] at hu';exact hu'.2.symm
 subst this
 have hcell:cs[i]?=some cs[i]:=by simp[h1]
 rw[hcell]
 unfold Cell.ok at hok
 rw[hu] at hok
 cases hv:cs[i]<;>rw[hv] at hok<;>simp at hok
 case int k' n=>exact⟨n,by rw[hok.1]⟩
theorem zjw {W:World} (hL:laidMet Tryz.prog fK W) {name:String} {g n:Nat} {T:TypeId} {zs:List Int} {d:DataW Unit} (hm:(name,d)∈fK) (hd0:d=Lib.tabData .u8 zs) (hn:Tryz.prog.globalNamed name=some g)
  (hT:(Tryz.prog.globals[g]?).map (·.type)=some T) (ht:Tryz.prog.underlying T=some (.array n 5)) (hct:Tryz.prog.cellsOf T=n):g<W.heap.size∧ ∃b,W.heap[g]?=some b∧uT (zs.map fun z=>Value.int .u8 z).toArray b:=by
 obtain⟨g',t',cs,fuel,p,hg',hty,hvar,hd⟩:=Lib.laidMet.reads hL (n:=name) hm
 obtain rfl:=Option.some.inj (hn.symm.trans hg')
 obtain rfl:=Option.some.inj (hT.symm.trans hty)
 obtain⟨t,f,hb⟩:=zpb hn hvar
 refine⟨(Array.getElem?_eq_some_iff.1 hb).1,_,hb,?_⟩
 subst hd0
 have e:=Lib.cells_of_tab ht Tryz.underlying5 (by kernel_rfl) hct hd
 show cs=_
 rw[←e]
theorem zpd {W:World} (hL:laidMetH Tryz.prog fK W) (hsh:W.ShapedOpen Tryz.prog):yP (Go.Abs.base W):=by
 rw[MakeChecks.laidMetH_plain _ _ _ (by kernel_rfl)] at hL
 refine⟨(fun _ _ h=>nomatch h),fun g p hg=>?_⟩
 match g,hg with
 |2,hg=>
  cases hg
  obtain⟨m,hm⟩:=cell_of_shapedOpen_int (zero:= #[.int .i64 0]) (t:=3) (k:=.i64) (g:=2) hsh (of_decide_eq_true (by kernel_rfl)) (by kernel_rfl) rfl (by kernel_rfl) (by kernel_rfl) Tryz.underlying3
  unfold World.cell? at hm
  cases hb:W.heap[2]? with
  |none=>rw[hb] at hm;simp at hm
  |some ob=>
   refine⟨(Array.getElem?_eq_some_iff.1 hb).1,ob,rfl,?_⟩
   rw[hb] at hm
   cases ob with
   |cells cs t f=>exact⟨_,by simpa using hm,m,rfl⟩
   |_=>simp at hm
 |0,hg=>cases hg;exact zjw hL (name:= "math/bits.deBruijn32tab") (T:=208) (.head _) rfl (by kernel_rfl) (by kernel_rfl) Tryz.underlying208 (by kernel_rfl)
 |1,hg=>cases hg;exact zjw hL (name:= "math/bits.deBruijn64tab") (T:=209) (.tail _ (.head _)) rfl (by kernel_rfl) (by kernel_rfl) Tryz.underlying209 (by kernel_rfl)
 |5,hg=>
  cases hg
  obtain⟨cs,T,f,hb,hc⟩:=zpc (zero:=(List.replicate 20 (Value.int .u64 0)).toArray) (t:=267) (tE:=154) (k:=.u64) (g:=5) (n:=20) hsh (of_decide_eq_true (by kernel_rfl)) (by kernel_rfl) rfl (by kernel_rfl) (by kernel_rfl) Tryz.underlying154
  exact⟨(Array.getElem?_eq_some_iff.1 hb).1,_,hb,hc⟩
theorem zpe (os:Os) (args:Array Value):laidMetH Tryz.prog fK ((World.doorLaid Tryz.prog 400 os).forCall (fun _ _=>0) ⟨#[],args,[]⟩).memory:=
 laidMetH_of_parts3 (fuel:=8) (laidMet_of_run' 8 (by kernel_rfl) (by kernel_rfl)) (by kernel_rfl) (by kernel_rfl)
end Go.Proofs.YtpmicgjdckeejaaGreatDoor
set_option maxRecDepth 100000
namespace Go.Proofs.YtpmicgjdckeejaaGreatDoor
open Go.Abs Go.RowKit Go.ChangeShapes Go.WideShapes Go.ChangeAt Go.WideMaps Go.WideElems Go.Ex
theorem zpf (xs:List V) (h:kE Tryz.prog [22,23,5] xs):Go.Abs.Spec Tryz.prog 3 xs (fun r=>r=.bool true):=by
 match xs,h with
 |[a0,a1,a2],⟨⟨_,_,h0,q0⟩,⟨_,_,h1,q1⟩,⟨_,_,h2,q2⟩,_⟩=>
  obtain⟨x0,e0,w0⟩:=zo3 h0
  obtain⟨x1,e1⟩:=zo7 h1
  obtain⟨x2,e2,w2⟩:=zo8 Tryz.underlying5 rfl h2
  rw[q0,q1,q2,e0,e1,e2]
  exact c3 x0 x1 w0 x2 w2
theorem zpg (os:Os) {H:Type} (enc:TypeId×Value→H): ∃jS,DataW.whole enc Tryz.prog ((World.doorLaid Tryz.prog 400 os).forCall (fun _ _=>0) ⟨#[],#[Value.slice none 0 0,.slice none 0 0,.int .u8 0],[]⟩).memory Tryz.f3.params.toList Rows.examineConflictsSpec.vars false #[Value.slice none 0 0,.slice none 0 0,.int .u8 0].toList 8=some ([.nil,.nil,.lit (.int .u8 0)],[],jS):=
 ⟨[],by kernel_rfl⟩
theorem zph (os:Os) (started:os.Started) (H:Type) (enc:TypeId×Value→H) (F:Stop.Interp):
  ReturnsInHanded {} Tryz.checked os 3 .any ((OpenSpec.ofChange Rows.examineConflictsSpec).preRow enc Tryz.prog Tryz.f3 Rows.examineConflictsRow.domain false Rows.examineConflictsRow.laid) (((OpenSpec.ofChange Rows.examineConflictsSpec).at F).post enc Tryz.prog Tryz.f3 false true false false):=by
 obtain⟨jS,hx⟩:=zpg os enc
 refine returnsInHanded_of_row (C:=Tryz.checked) (s:=OpenSpec.ofChange Rows.examineConflictsSpec) own started (by kernel_rfl) Tryz.func3
  (witness_row_atRef (enc:=enc) (C:=Tryz.checked) false (World.doorLaid Tryz.prog 400 os) #[Value.slice none 0 0,.slice none 0 0,.int .u8 0] rfl (by kernel_rfl) (by kernel_rfl) (by kernel_rfl)
   (OpenSpec.preRow_of_cond 8 hx (by kernel_rfl) (fun k hk=>by cases hk) (by kernel_rfl) (zpe os _))) ?_
 intro W base args ds gs before hval hW _ hcond _ hL hsh _
 refine zlW (C:=Tryz.checked) (T:=fJ) (tb:=4) (s:=Rows.examineConflictsSpec) zo9 zpa ?_ kids full rfl ?_ ?_ Tryz.underlying4 ?_ W base args ds gs before hval hW (zpd hL hsh)
 ·rw[Tryz.params3];decide
 ·intro ds hds
  rw[Tryz.params3] at hds
  match ds,hds with
  |[a0,a1,a2],_=>rfl
 ·kernel_rfl
 ·intro xs hxs
  rw[Tryz.params3] at hxs
  exact zpf xs hxs
theorem ExamineConflicts_row:Rows.ExamineConflictsSaid:=
 OpenClaim.holds_of_cond 3 Tryz.f3 rfl rfl rfl rfl rfl rfl rfl ⟨rfl,rfl,rfl,rfl,rfl⟩ rfl rfl rfl rfl rfl (by kernel_rfl) Tryz.func3 (by kernel_rfl)
  (of_decide_eq_true (by kernel_rfl)) (by unfold Func.isWrapper;first|(rw[if_pos (by decide+kernel)];kernel_rfl)|(rw[if_neg (by decide+kernel)];exact⟨rfl,rfl⟩))
  (fun os started H enc _ F=>by rw[OpenClaim.pre_eq_preRow];exact zph os started H enc F)
theorem ExamineConflicts_holds:Rows.ExamineConflictsCardSaid:=
 Claim7.holds_tied_plain_at .later [] _ _ _ _ ExamineConflicts_row (fun _ h=>by cases h) (by kernel_rfl) (fun _ h=>by cases h) examineConflicts_row_tie rfl ⟨rfl,rfl⟩ (by kernel_rfl) rfl
  (fun f fn hf hfn=>by
   obtain rfl:f=3:=Option.some.inj ((show Tryz.prog.funcNamed "allonge/allongelaw34.ExamineConflicts" =some 3 by kernel_rfl).symm.trans hf)|>.symm
   obtain rfl:fn=Tryz.f3:=(Option.some.inj (Tryz.func3.symm.trans hfn)).symm
   exact⟨by kernel_rfl,fun j t ht=>by
    rw[Tryz.params3] at ht
    have hm:t∈[22,23,5]:=by simpa using Array.mem_of_getElem? ht
    have hall:([22,23,5].all fun u=> !Tryz.prog.wantsStandIn u)=true:=by kernel_rfl
    exact(show Tryz.prog.wantsStandIn t=false by simpa using List.all_eq_true.1 hall t hm)⟩)
  (by kernel_rfl)
end Go.Proofs.YtpmicgjdckeejaaGreatDoor
