/- A part of the proof; the last text states what is proved. -/
import Derived.Test.YtpmicgjdckeejaaGreatDoorP7
set_option linter.unusedVariables false
set_option linter.unusedSimpArgs false
set_option maxRecDepth 100000
set_option maxHeartbeats 4000000
namespace Go.Ex
open Go.Lib Go.Wd Go.Wire Go.Abs
theorem zo6 {α:Type} [DecidableEq α] (a:α): ∀l:List α,l.Nodup→l.countP (fun x=>decide (x=a))=if a∈l then 1 else 0
 |[],_=>by simp
 |b::l,h=>by
  obtain⟨h1,h2⟩:=List.nodup_cons.1 h
  rw[List.countP_cons,zo6 a l h2]
  by_cases e:b=a
  ·subst e;simp[h1]
  ·simp[e,Ne.symm e]
theorem zo3 {α β:Type} (f:α→β) (p:β→Bool): ∀l:List α,(l.map f).countP p=l.countP fun x=>p (f x)
 |[]=>rfl
 |a::l=>by rw[List.map_cons,List.countP_cons,List.countP_cons,zo3 f p l]
theorem zo7 {α:Type} {p q:α→Bool}: ∀{l:List α},(∀x∈l,p x=q x)→l.countP p=l.countP q
 |[],_=>rfl
 |a::l,h=>by rw[List.countP_cons,List.countP_cons,zo7 fun x hx=>h x (List.mem_cons_of_mem _ hx),h a (by simp)]
theorem zpn {a b:Nat} (h:(1:Nat)<<<a=1<<<b):a=b:=by
 have:=congrArg (fun x:Nat=>x.testBit a) h
 simp only[oN,decide_true] at this
 exact(of_decide_eq_true this.symm).symm
theorem zpo {m:Nat} {F:List Nat} (hm:m≤8) (h0:F≠[]) (hF: ∀f∈F,f<2 ^ m):(conflP (pF m F)).Nodup:=by
 have h256:2 ^ m≤256:=(Nat.pow_le_pow_right (n:=2) (by decide) hm:2 ^ m≤2 ^ 8)
 have hd:=lZ hF
 unfold conflP
 rw[zhG _ (by omega),List.nodup_append]
 refine⟨?_,?_,?_⟩
 ·exact List.pairwise_map.2 ((List.nodup_range.filter _).imp fun hne e=>hne (zpn e))
 ·have h1:(bQ (pF m F).doubt).Nodup:=by
   unfold bQ
   exact List.pairwise_reverse.2 ((List.nodup_range.filter _).imp fun hne=>Ne.symm hne)
  exact h1.filter _
 ·intro s hs t ht e
  subst e
  obtain⟨k,hk,rfl⟩:=List.mem_map.1 hs
  rw[List.mem_filter,bS h0 hF] at hk
  have:=(zhH (by omega)).1 (List.mem_filter.1 ht).1
  have hb:=zhI.1 this.2 k (by rw[oN];simp)
  rw[zmC h0 hF] at hb
  obtain⟨_,f,hf,h1⟩:=hb
  rw[hk.2 f hf] at h1;cases h1
theorem zpp: ∀s,s<256→ ∀k,k<8→(decide (bitsN s=[k]))=decide (s=1<<<k):=by decide+kernel
theorem zpq {c:List Nat} {k:Nat}:decide (natI c=[(k:Int)])=decide (c=[k]):=by
 rw[Bool.eq_iff_iff,decide_eq_true_eq,decide_eq_true_eq]
 constructor
 ·intro h
  unfold natI at h
  match c,h with
  |[a],h=>
   simp at h
   have e:a=k:=by omega
   rw[e]
 ·rintro rfl;rfl
theorem zpe {L:List Dmd} {D:List Dcm} (hA:AskS L D) (h0:lookE L D=0) {k:Nat} (hk: ∃f∈yN L D,f.testBit k=true):(flawsE L D).countP (fun x=>decide (x.dem=[(k:Int)]))=1:=by
 have hcn:=kJ h0
 have hne:=aY hA hcn
 have hF:=mD L D
 have h8:=hA.l8
 have h256:2 ^ L.length≤256:=(Nat.pow_le_pow_right (by decide) hA.l8:2 ^ L.length≤2 ^ 8)
 have hdl:(viewD L D).doubt<2 ^ L.length:=lZ hF
 have hkL:k<L.length:=by
  obtain⟨f,hf,h1⟩:=hk
  exact xT.1 (hF f hf) k h1
 have hm: ∀s,s∈conflP (viewD L D) ↔ _:=bT hA.l8 hne hF
 have hnd:(conflP (viewD L D)).Nodup:=zpo (F:=yN L D) h8 hne hF
 have hlt:(1:Nat)<<<k<2 ^ L.length:=xT.2 fun j hj=>by rw[oN,decide_eq_true_eq] at hj;omega
 unfold flawsE
 rw[if_pos h0]
 unfold gI kB
 rw[List.countP_append,zo3,zo3,(qD ltC _).countP_eq,zo3]
 have e1:(conflP (viewD L D)).countP (fun s=>decide ((List.map (fun(k:Nat)=>(k:Int)) (bitsN s))=[(k:Int)]))=if (1:Nat)<<<k∈conflP (viewD L D) then 1 else 0:=by
  rw[←zo6 _ _ hnd]
  refine zo7 fun s hs=>?_
  have hs2:=((hm s).1 hs).1
  have e:=zpq (c:=bitsN s) (k:=k)
  unfold natI at e
  rw[e,zpp s (by omega) k (by omega)]
 have e2:(bitsN (viewD L D).doubt).countP (fun j:Nat=>decide ([(j:Int)]=[(k:Int)]))=if k∈bitsN (viewD L D).doubt then 1 else 0:=by
  rw[←zo6 k _ (zop _)]
  refine zo7 fun j _=>?_
  rw[Bool.eq_iff_iff,decide_eq_true_eq,decide_eq_true_eq]
  constructor
  ·intro h;simp at h;omega
  ·rintro rfl;rfl
 refine Eq.trans (congr (congrArg HAdd.hAdd e1) e2) ?_
 have hb:=uW (s:=(viewD L D).doubt) (k:=k) (by omega)
 have hdo:(viewD L D).doubt.testBit k=true ↔ _:=zmC hne hF k
 have hcf:(1:Nat)<<<k∈conflP (viewD L D) ↔ ∀f∈yN L D,f.testBit k=true:=by
  rw[hm,oO (by omega)]
  constructor
  ·rintro⟨_,h1,_⟩ f hf
   obtain⟨j,j1,j2⟩:=rJ.1 h1 f hf
   rw[oN,decide_eq_true_eq] at j2
   subst j2;exact j1
  ·intro h
   refine⟨hlt,rJ.2 fun f hf=>⟨k,h f hf,by rw[oN];simp⟩,fun j hj=>?_⟩
   rw[oN,decide_eq_true_eq] at hj
   subst hj
   rw[Bool.eq_false_iff]
   intro q
   obtain⟨f,hf⟩:=List.exists_mem_of_ne_nil _ hne
   obtain⟨i,_,i2⟩:=rJ.1 q f hf
   rw[rI] at i2
   cases h:((1:Nat)<<<k).testBit i<;>rw[h] at i2<;>cases i2
 by_cases hall: ∀f∈yN L D,f.testBit k=true
 ·rw[if_pos (hcf.2 hall),if_neg]
  rw[hb,hdo]
  rintro⟨_,f,hf,h1⟩
  rw[hall f hf] at h1;cases h1
 ·rw[if_neg (fun q=>hall (hcf.1 q)),if_pos]
  rw[hb,hdo]
  refine⟨hk,?_⟩
  by_cases q: ∃f∈yN L D,f.testBit k=false
  ·exact q
  ·exact absurd (fun f hf=>by
    cases h:f.testBit k with
    |true=>rfl
    |false=>exact absurd ⟨f,hf,h⟩ q) hall
def aloneN (FL:List Flw) (fs:List Int):Nat:=(FL.map fun x=>fs.countP fun k=>decide (x.dem=[k])).sum
theorem zpr (FL:List Flw): ∀fs:List Int,aloneN FL fs=(fs.map fun k=>FL.countP fun x=>decide (x.dem=[k])).sum:=by
 intro fs
 induction FL with
 |nil=>
  show 0=_
  induction fs with
  |nil=>rfl
  |cons k fs ih=>rw[List.map_cons,List.sum_cons,←ih];rfl
 |cons x FL ih=>
  have e:aloneN (x::FL) fs=fs.countP (fun k=>decide (x.dem=[k]))+aloneN FL fs:=by unfold aloneN;rw[List.map_cons,List.sum_cons]
  rw[e,ih]
  clear e ih
  induction fs with
  |nil=>rfl
  |cons k fs ih=>
   rw[List.map_cons,List.sum_cons,List.map_cons,List.sum_cons,List.countP_cons,List.countP_cons,←ih]
   omega
theorem zpf {α:Type} {g:α→Nat}: ∀{l:List α},(∀x∈l,g x=1)→(l.map g).sum=l.length
 |[],_=>rfl
 |a::l,h=>by rw[List.map_cons,List.sum_cons,h a (by simp),zpf fun x hx=>h x (List.mem_cons_of_mem _ hx),List.length_cons];omega
theorem l4C {L:List Dmd} {D:List Dcm} (hA:AskS L D) (h0:lookE L D=0) {i:Nat} (hi:i<xY D):aloneN (flawsE L D) (failI L (rdsD D i))=(failI L (rdsD D i)).length:=by
 rw[zpr]
 refine zpf fun z hz=>?_
 obtain⟨k,hk,rfl⟩:=List.mem_map.1 hz
 refine zpe hA h0 ⟨wL (sR L (rdsD D i)),List.mem_map.2 ⟨i,List.mem_range.2 hi,rfl⟩,?_⟩
 rw[gG,decide_eq_true_eq];exact hk
def sureB (FL:List Flw):Bool:=FL.any fun x=>x.sure
theorem zpg {L:List Dmd} {D:List Dcm} (hA:AskS L D) (h0:lookE L D=0):sureB (flawsE L D)=true ↔ ¬0∈yN L D:=by
 have hcn:=kJ h0
 have hne:=aY hA hcn
 have hF:=mD L D
 have h8:=hA.l8
 unfold sureB
 rw[List.any_eq_true]
 constructor
 ·rintro⟨x,hx,hs⟩ hz
  obtain⟨s,h1,h2,e⟩:=(gV hA h0 x.dem).1 ⟨x,hx,hs,rfl⟩
  obtain⟨h3,h4⟩:=kK hA.l8 h1
  obtain⟨k,k1,_⟩:=rJ.1 ((oO (by omega)).1 h2).1 0 hz
  rw[Nat.zero_testBit] at k1;cases k1
 ·intro hz
  have hit:hitP (yN L D) (2 ^ L.length-1)=true:=rJ.2 fun f hf=>by
   have hf0:f≠0:=fun e=>hz (e▸hf)
   obtain⟨k,hk⟩:=Nat.exists_testBit_of_ne_zero hf0
   exact⟨k,hk,by rw[Nat.testBit_two_pow_sub_one,decide_eq_true_eq];exact xT.1 (hF f hf) k hk⟩
  have hlt:2 ^ L.length-1<2 ^ L.length:=Nat.sub_lt (Nat.pow_pos (by decide)) (by decide)
  obtain⟨c,h1,h2,_⟩:=zmE h8 _ _ hlt (Nat.le_refl _) hit
  obtain⟨x,hx,hs,_⟩:=(gV hA h0 (natI (bitsN c))).2 ⟨c,h1,h2,rfl⟩
  exact⟨x,hx,hs⟩
theorem zps {L:List Dmd} {D:List Dcm} (hA:AskS L D) (h0:lookE L D=0):decide (stateE L D=0)=sureB (flawsE L D):=by
 rw[Bool.eq_iff_iff,decide_eq_true_eq,zpg hA h0]
 unfold stateE
 rw[if_pos h0]
 have hs: ∀x,x∈(viewD L D).sets ↔ x∈yN L D:=fun x=>by
  show x∈xC (yN L D) [] ↔ _
  rw[gD];simp
 unfold zhT
 rw[←hs 0]
 constructor
 ·intro h hz
  rw[if_pos hz] at h
  split at h<;>cases h
 ·intro hz
  rw[if_neg hz]
theorem zpt {L:List Dmd} {D:List Dcm} (hA:AskS L D) (h0:lookE L D=0):flawsE L D=[] ↔ ∀f∈yN L D,f=0:=by
 have hcn:=kJ h0
 have hne:=aY hA hcn
 have hF:=mD L D
 constructor
 ·intro he f hf
  by_cases q:f=0
  ·exact q
  ·obtain⟨k,hk⟩:=Nat.exists_testBit_of_ne_zero q
   have:=zpe hA h0 ⟨f,hf,hk⟩
   rw[he] at this;cases this
 ·intro hz
  have hsb:sureB (flawsE L D)=false:=by
   rw[Bool.eq_false_iff,ne_eq,zpg hA h0,Decidable.not_not]
   obtain⟨f,hf⟩:=List.exists_mem_of_ne_nil _ hne
   rwa [hz f hf] at hf
  have hdb:bitsN (viewD L D).doubt=[]:=by
   rw[List.eq_nil_iff_forall_not_mem]
   intro k hk
   have h256:2 ^ L.length≤256:=(Nat.pow_le_pow_right (by decide) hA.l8:2 ^ L.length≤2 ^ 8)
   have hdl:(viewD L D).doubt<2 ^ L.length:=lZ hF
   have:=(zmC hne hF k).1 ((uW (s:=(viewD L D).doubt) (by omega)).1 hk)
   obtain⟨⟨f,hf,h1⟩,_⟩:=this
   rw[hz f hf,Nat.zero_testBit] at h1;cases h1
  have:flawsE L D=kB L (viewD L D) (rdsD D 0):=by unfold flawsE;rw[if_pos h0];rfl
  rw[this] at hsb⊢
  unfold kB at hsb⊢
  rw[hdb,List.map_nil,List.append_nil] at hsb⊢
  cases hc:sortO ltC ((conflP (viewD L D)).map bitsN) with
  |nil=>rfl
  |cons c cs=>rw[hc] at hsb;simp[sureB] at hsb
theorem zpu {L:List Dmd} {D:List Dcm} (hA:AskS L D) (h0:lookE L D=0):decide (stateE L D=1)=decide ((flawsE L D).length=0):=by
 have hcn:=kJ h0
 have hne:=aY hA hcn
 rw[Bool.eq_iff_iff,decide_eq_true_eq,decide_eq_true_eq,List.length_eq_zero_iff,zpt hA h0]
 unfold stateE
 rw[if_pos h0]
 have hs: ∀x,x∈(viewD L D).sets ↔ x∈yN L D:=fun x=>by
  show x∈xC (yN L D) [] ↔ _
  rw[gD];simp
 have hnd:(viewD L D).sets.Nodup:=zpd _ _ List.nodup_nil
 unfold zhT
 generalize (viewD L D).sets=S at hs hnd
 constructor
 ·intro h f hf
  split at h
  ·rename_i hz
   split at h
   ·rename_i hl
    obtain⟨a,rfl⟩:=List.length_eq_one_iff.1 hl
    have h1:=List.mem_singleton.1 hz
    have h2:=List.mem_singleton.1 ((hs f).2 hf)
    omega
   ·cases h
  ·cases h
 ·intro hz
  obtain⟨f,hf⟩:=List.exists_mem_of_ne_nil _ hne
  have hf0:0∈S:=(hs 0).2 (by have:=hf;rwa [hz f hf] at this)
  have h1:S.length=1:=by
   match S,hs,hnd,hf0 with
   |[a],_,_,_=>rfl
   |a::b::r,hs,hnd,_=>
    have ha:=hz a ((hs a).1 (by simp))
    have hb:=hz b ((hs b).1 (by simp))
    subst ha hb
    simp at hnd
  rw[if_pos hf0,if_pos h1]
def zph (a b:Pln):Prop:=a.kind=b.kind∧a.names=b.names∧a.texts.length=b.texts.length
theorem zpi (m:Dmd): ∀{a b:List Pln} (i:Nat),a.length=b.length→(∀k,k<a.length→zph (a.getD k ⟨[],[],[]⟩) (b.getD k ⟨[],[],[]⟩))→tJ m a i=tJ m b i
 |[],[],_,_,_=>rfl
 |x::a,y::b,i,h,hk=>by
  rw[tJ,tJ]
  have h0:=hk 0 (by simp)
  simp only[List.getD_cons_zero] at h0
  obtain⟨h1,h2,h3⟩:=h0
  have e:mE m x i=mE m y i:=by
   unfold mE
   have:kA m x=kA m y:=by funext k;unfold kA;rw[h1,h2,h3]
   rw[this,h2]
  rw[e,zpi m (i+1) (by simpa using h) fun k hkl=>by
   have:=hk (k+1) (by simp;omega)
   simpa using this]
theorem zpj: ∀(D:List Dcm) (cs:List Nat) (i j:Nat),(xN D cs i).1.length=(xN D cs j).1.length∧ ∀k,k<(xN D cs i).1.length→zph ((xN D cs i).1.getD k ⟨[],[],[]⟩) ((xN D cs j).1.getD k ⟨[],[],[]⟩)
 |[],cs,i,j=>by cases cs<;>simp[xN]
 |d::D,[],i,j=>by simp[xN]
 |d::D,c::cs,i,j=>by
  have ih:=zpj D cs i j
  rw[xN,xN]
  refine⟨by simp[ih.1],fun k hk=>?_⟩
  cases k with
  |zero=>
   simp only[List.getD_cons_zero]
   exact⟨rfl,rfl,by show(wQ _ _).1.length=(wQ _ _).1.length;rw[(ziV _ _).1,(ziV _ _).1]⟩
  |succ k=>
   simp only[List.getD_cons_succ]
   exact ih.2 k (by simpa using hk)
theorem zpv (m:Dmd) (D:List Dcm) (i j:Nat):uX m (rdsD D i)=uX m (rdsD D j):=by
 unfold uX
 split
 ·rfl
 ·obtain⟨h1,h2⟩:=zpj D (vZ D) i j
  exact zpi m 0 h1 h2
def manyN (L:List Dmd) (p:List Pln) (d:List Int):Nat:=(d.map fun k=>(uX (L.getD k.toNat yZ) p).length).sum
theorem zpw (L:List Dmd) (p:List Pln) (c:List Nat):manyN L p (natI c)=(c.map fun k=>uX (L.getD k yZ) p).flatten.length:=by
 unfold manyN natI
 rw[List.length_flatten,List.map_map,List.map_map]
 rfl
theorem zpx {l:List Plc} (h:uK l=[]):l=[]:=by
 induction l with
 |nil=>rfl
 |cons a l ih=>
  cases l with
  |nil=>simp[uK] at h
  |cons b l=>
   rw[uK] at h
   split at h
   ·exact absurd (ih h) (by simp)
   ·cases h
structure FlwOk (L:List Dmd) (D:List Dcm) (p:List Pln) (x:Flw):Prop where
 len:x.dem.length≤8
 rng: ∀k,k<x.dem.length→ ∃j:Nat,x.dem.getD k 0=j∧j<L.length
 m1: ¬manyN L p x.dem<x.pls.length
 m2: ¬(manyN L p x.dem>0∧x.pls.length=0)
 one:x.sure=false→x.dem.length=1∧someB L D x.dem=true∧(List.range (xY D)).all (fun r:Nat=>meetsB L D x.dem r)=false
theorem l4F {L:List Dmd} {D:List Dcm} (hA:AskS L D) (h0:lookE L D=0) (i:Nat): ∀x∈flawsE L D,FlwOk L D (rdsD D i) x:=by
 have hcn:=kJ h0
 have hne:=aY hA hcn
 have hF:=mD L D
 have h8:=hA.l8
 have h256:2 ^ L.length≤256:=(Nat.pow_le_pow_right (by decide) hA.l8:2 ^ L.length≤2 ^ 8)
 have hdl:(viewD L D).doubt<2 ^ L.length:=lZ hF
 have hm: ∀s,s∈conflP (viewD L D) ↔ _:=bT hA.l8 hne hF
 have key: ∀(c:List Nat) (b:Bool),c.length≤8→(∀k∈c,k<L.length)→(b=false→c.length=1∧someB L D (natI c)=true∧(List.range (xY D)).all (fun r:Nat=>meetsB L D (natI c) r)=false)→FlwOk L D (rdsD D i) ⟨natI c,xU L c (rdsD D 0),b⟩:=by
  intro c b hc hk hone
  have hmn:manyN L (rdsD D i) (natI c)=(c.map fun k=>uX (L.getD k yZ) (rdsD D 0)).flatten.length:=by
   rw[zpw]
   congr 2
   exact List.map_congr_left fun k _=>zpv _ D i 0
  refine⟨by rw[uD];exact hc,fun k hkl=>?_,?_,?_,fun q=>?_⟩
  ·rw[uD] at hkl
   exact⟨c[k],by simp[natI,hkl],hk _ (List.getElem_mem hkl)⟩
  ·show¬manyN L (rdsD D i) (natI c)<(xU L c (rdsD D 0)).length
   rw[hmn]
   unfold xU
   have:=zpm (sortO uA (c.map fun k=>uX (L.getD k yZ) (rdsD D 0)).flatten)
   rw[(qD uA _).length_eq] at this
   omega
  ·show¬(manyN L (rdsD D i) (natI c)>0∧(xU L c (rdsD D 0)).length=0)
   rw[hmn]
   rintro⟨g1,g2⟩
   have:=zpx (List.eq_nil_of_length_eq_zero g2)
   have e:=congrArg List.length this
   rw[(qD uA _).length_eq] at e
   simp only[List.length_nil] at e
   omega
  ·have q2:b=false:=q
   obtain⟨g1,g2,g3⟩:=hone q2
   exact⟨(uD c).trans g1,g2,g3⟩
 intro x hx
 have:flawsE L D=kB L (viewD L D) (rdsD D 0):=by unfold flawsE;rw[if_pos h0];rfl
 rw[this] at hx
 unfold kB at hx
 rcases List.mem_append.1 hx with hx|hx
 ·obtain⟨c,hc,rfl⟩:=List.mem_map.1 hx
  obtain⟨s,hs2,rfl⟩:=List.mem_map.1 ((qD ltC _).mem_iff.1 hc)
  have h1:=((hm s).1 hs2).1
  exact key (bitsN s) true (pG s (by omega)) (kK h8 h1).2 (fun q=>by cases q)
 ·obtain⟨k,hk,rfl⟩:=List.mem_map.1 hx
  have hkd:=(uW (s:=(viewD L D).doubt) (by omega)).1 hk
  have hkL:=xT.1 hdl k hkd
  obtain⟨⟨f1,hf1,b1⟩,f2,hf2,b2⟩:=(zmC hne hF k).1 hkd
  have hkk: ∀j∈[k],j<L.length:=fun j hj=>by simp at hj;omega
  refine key [k] false (by simp) hkk fun _=>⟨rfl,(aX hcn hkk).2 ⟨f2,hf2,fun j hj=>by simp at hj;rw[hj];exact b2⟩,?_⟩
  rw[Bool.eq_false_iff]
  intro q
  rw[List.all_eq_true] at q
  obtain⟨r,hr,rfl⟩:=List.mem_map.1 hf1
  have:=(ziX hcn (List.mem_range.1 hr) hkk).1 (q r hr) k (by simp)
  rw[this] at b1;cases b1
end Go.Ex
set_option maxRecDepth 100000
set_option maxHeartbeats 8000000
namespace Go.Ex
open Go.Lib Go.Wd Go.Wire Go.Abs
theorem zpy {FL:List Flw} {fs:List Int} {i:Nat} (h:i<FL.length):aloneN (FL.take (i+1)) fs=aloneN (FL.take i) fs+fs.countP fun k=>decide ((FL.getD i vG).dem=[k]):=by
 unfold aloneN
 rw[List.take_succ_eq_append_getElem h,List.map_append,List.sum_append]
 simp[h]
theorem zpz {FL:List Flw} {i:Nat} (h:i<FL.length):sureB (FL.take (i+1))=(sureB (FL.take i)||(FL.getD i vG).sure):=by
 unfold sureB
 rw[List.take_succ_eq_append_getElem h,List.any_append]
 simp[h]
theorem zo8 {fs:List Int} {p:Int→Bool} {k:Nat} (h:k<fs.length):(fs.take (k+1)).countP p=(fs.take k).countP p+if p (fs.getD k 0)=true then 1 else 0:=by
 rw[List.take_succ_eq_append_getElem h,List.countP_append]
 simp[h,List.countP_cons]
theorem zo9 {L:List Dmd} {p:List Pln} {d:List Int} {k:Nat} (h:k<d.length):manyN L p (d.take (k+1))=manyN L p (d.take k)+(uX (L.getD (d.getD k 0).toNat yZ) p).length:=by
 unfold manyN
 rw[List.take_succ_eq_append_getElem h,List.map_append,List.sum_append]
 simp[h]
theorem zpk (fs:List Int): ∀FL:List Flw,aloneN FL fs≤FL.length*fs.length
 |[]=>by simp[aloneN]
 |x::FL=>by
  have e:aloneN (x::FL) fs=fs.countP (fun k=>decide (x.dem=[k]))+aloneN FL fs:=by unfold aloneN;rw[List.map_cons,List.sum_cons]
  have h1:=zpk fs FL
  have h2:=List.countP_le_length (p:=fun k=>decide (x.dem=[k])) (l:=fs)
  rw[e,List.length_cons,Nat.succ_mul];omega
theorem zo4 {L:List Dmd} {p:List Pln} (hp:vE p): ∀d:List Int,manyN L p d≤d.length*1000000000000
 |[]=>by simp[manyN]
 |k::d=>by
  have h1:=zo4 (L:=L) hp d
  have h2:=zip (L.getD k.toNat yZ) p hp
  have e:manyN L p (k::d)=(uX (L.getD k.toNat yZ) p).length+manyN L p d:=by unfold manyN;rw[List.map_cons,List.sum_cons]
  rw[e,List.length_cons,Nat.succ_mul,Nat.add_comm]
  exact Nat.add_le_add h1 h2
theorem zpa {d:List Int} {k:Int} (h:d.length=1):decide (d=[k])=decide (d.getD 0 0=k):=by
 match d,h with
 |[a],_=>simp
theorem zpb {d:List Int} {k:Int} (h:d.length≠1):decide (d=[k])=false:=by
 rw[decide_eq_false_iff_not];rintro rfl;exact h rfl
end Go.Ex
namespace Go.Abs
open Go.Proofs Go.RowKit Go.Lib Go.Wd Go.Wire Go.Ex
theorem c4 (L:List Dmd) (D:List Dcm) (hI: ∀m∈L,DmdI m) (a:Nat) (ha:a<65536):Spec Tryz.prog 4 [lst 8 (L.map zQ),lst 2 (D.map zV),.int .u16 (a:Int)] (fun v=>v=.bool true):=by
 refine Spec.of_awlS hf4 okf4 (by simp) fun S hS=>?_
 have g9:=c9 L D
 by_cases hF:mI L D=true
 ·obtain⟨hA,h128⟩:=gU hI hF
  have hL:=hA.l8
  rw[hF] at g9
  have g10:=c10 L D hA
  have g12:=c12 L D hA
  have g13:=c13 D hA.dc
  by_cases h0:lookE L D=0
  ·have hcn:=kJ h0
   have hpos:=ziQ hA.dc hcn
   have h128:=h128 hcn
   have hn:=(rM hcn).n
   have hir:a % xY D<xY D:=Nat.mod_lt _ hpos
   have hC:=l4C hA h0 hir
   have hNo:=zps hA h0
   have hYes:=zpu hA h0
   have hFO:=l4F hA h0 (a % xY D)
   have hfl:=(zot hA).1
   have hp:=zol hA ((a % xY D:Nat):Int)
   have g14:=c14 D hA.dc ((a % xY D:Nat):Int)
   obtain⟨r1,r2⟩:=zoq hcn hir
   rw[r1,r2] at g14
   rw[r2] at hp
   have g15:=c15 L (rdsD D (a % xY D)) (by omega) hp
   have hfs:(failI L (rdsD D (a % xY D))).length≤8:=by
    have:=zm5 L (rdsD D (a % xY D)) L.length
    rw[zm6];omega
   have g11:=fun w hw=>c11 L D hA w hw
   have g17:=fun w hw i=>c17 L D hA w hw i
   have hrem:(a:Int).tmod ((xY D:Nat):Int)=((a % xY D:Nat):Int):=by rw[Int.tmod_eq_emod_of_nonneg (by omega)];exact(Int.natCast_emod a (xY D)).symm
   rw[hn,hcn] at g13
   rw[h0] at g10 g12
   generalize flawsE L D=FL at g10 hC hNo hYes hFO hfl
   generalize rdsD D (a % xY D)=p at g14 hp g15 hfs hC hFO
   generalize failI L p=fs at g15 hfs hC
   generalize stateE L D=sv at g12 hNo hYes
   have hw64:IntKind.i64.wrap ((a:Int))=(a:Int):=wrap_in (by omega) (by omega)
   have hw65:IntKind.i64.wrap (((a % xY D:Nat)):Int)=((a % xY D:Nat):Int):=wrap_in (by omega) (by omega)
   generalize a % xY D=ix at g14 hrem hir hw65
   generalize hnR:xY D=n at g13 hpos h128 hir hrem
   have e1: ¬(n:Int)<1:=by omega
   have e2: ¬(n:Int)=0:=by omega
   simp only[Qs,Nat.reduceAdd,Ψ4]
   refine zF c8 ?_ (ha:=by rfl)
   simp only[Qs,Nat.reduceBEq,Ψ4]
   refine zF g9 ?_ (ha:=by simp only[List.map_cons,List.map_nil,zB,V.norm,zO,zP yU,zP xO,C.norm]<;>rfl)
   simp only[Qs,Nat.reduceBEq,Ψ4]
   refine xI g10 ?_ (ha:=by simp only[List.map_cons,List.map_nil,zB,V.norm,zO,zP yU,zP xO,C.norm]<;>rfl)
   simp only[Qs,List.append_nil,Nat.reduceAdd,Nat.reduceMul,Nat.reduceBEq,Ψ4]
   refine zF g12 ?_ (ha:=by simp only[List.map_cons,List.map_nil,zB,V.norm,zO,zP yU,zP xO,C.norm]<;>rfl)
   simp only[Qs,Nat.reduceBEq,Ψ4]
   refine zF g13 ?_ (ha:=by simp only[List.map_cons,List.map_nil,zB,V.norm,zO,zP yU,zP xO,C.norm]<;>rfl)
   simp only[show((0:Int) !=0)=false from rfl,e1,e2,hw64,hrem,Qs,zcJ,zlc,zdV,ne_eq,Nat.reduceBEq,Ψ4]
   refine xI g14 ?_ (ha:=by simp only[List.map_cons,List.map_nil,zB,V.norm,zO,zP yU,zP xO,C.norm]<;>rfl)
   simp only[Qs,List.append_nil,Nat.reduceAdd,Nat.reduceMul,Nat.reduceBEq,Ψ4]
   refine xI g15 ?_ (ha:=by simp only[List.map_cons,List.map_nil,zB,V.norm,zO,zP yU,zP xO,oT,C.norm]<;>rfl)
   simp only[Qs,Ψ4]
   rw[uu f4l71.eq_1]
   refine yA (fun i:Nat=>[(0,lst 8 (L.map zQ)),(1,lst 2 (D.map zV)),(7,.bool true),(8,lst 3 (xF FL)),(10,.int .i64 sv),(12,.int .i64 n),(14,lst 3 (vF p)),(15,.int .i64 0),(16,lst 1 (zM fs)),(17,.int .i64 (aloneN (FL.take i) fs:Nat)),(18,.bool (sureB (FL.take i))),(19,.int .i64 i)])
    (fun _=>[]) (fun i=>i≤FL.length) (fun i=>FL.length-i) 0 rfl rfl (Nat.zero_le _) ?_
   intro i hi
   by_cases hil:i<FL.length
   ·have d2:(i:Int)<FL.length:=by omega
    have c4:IntKind.i64.wrap ((i:Int)+1)=(i:Int)+1:=wrap_in (by omega) (by omega)
    have hat:=zac hil
    have has:=zpy (fs:=fs) hil
    have hss:=zpz hil
    have hab:aloneN (FL.take (i+1)) fs≤8008:=by
     have h1:=zpk fs (FL.take (i+1))
     have h2:(FL.take (i+1)).length≤1000:=by rw[List.length_take];omega
     have h3:=Nat.mul_le_mul h2 hfs
     omega
    have hmem:FL.getD i vG∈FL:=by
     have:FL.getD i vG=FL[i]:=by simp[hil]
     rw[this];exact List.getElem_mem hil
    have hX:=hFO _ hmem
    generalize FL.getD i vG=x at hat has hss hX
    clear hmem
    obtain⟨d,pl,sr⟩:=x
    obtain⟨hx8,hrg,hm1,hm2,hone⟩:=hX
    simp only[] at hat has hss hx8 hrg hm1 hm2 hone
    generalize aloneN (FL.take i) fs=al at has
    generalize sureB (FL.take i)=su at hss
    cases sr with
    |true=>
     have hss2:sureB (FL.take (i+1))=true:=by rw[hss,Bool.or_true]
     clear hss
     cases su<;>(
      simp only[d2,hat,uM,Qs,List.append_nil,Nat.reduceAdd,Nat.reduceBEq,Ψ4]
      rw[uu f4l56.eq_1]
      refine yA (fun k:Nat=>[(0,lst 8 (L.map zQ)),(1,lst 2 (D.map zV)),(7,.bool true),(8,lst 3 (xF FL)),(10,.int .i64 sv),(12,.int .i64 n),(14,lst 3 (vF p)),(15,.int .i64 0),(16,lst 1 (zM fs)),(17,.int .i64 (al+(fs.take k).countP (fun z=>decide (d=[z])):Nat)),(18,.bool true),(19,.int .i64 i),(20,.k (.c (.ro [zC 1 (zM d),zC 2 (pls pl),.bool true] 0))),(21,.int .i64 k)])
       (fun _=>[]) (fun k=>k≤fs.length) (fun k=>fs.length-k) 0 rfl rfl (Nat.zero_le _) ?_
      intro k hk
      by_cases hkl:k<fs.length
      ·have d3:(k:Int)<fs.length:=by omega
       have c5:IntKind.i64.wrap ((k:Int)+1)=(k:Int)+1:=wrap_in (by omega) (by omega)
       have hatk:=zab hkl
       have hcs:=zo8 (p:=fun z=>decide (d=[z])) hkl
       have hcl:(fs.take k).countP (fun z=>decide (d=[z]))≤8:=by
        have h1:=List.countP_le_length (p:=fun z=>decide (d=[z])) (l:=fs.take k)
        rw[List.length_take] at h1;omega
       generalize (fs.take k).countP (fun z=>decide (d=[z]))=cn at hcs hcl
       generalize fs.getD k 0=z at hatk hcs
       have hal:al≤8008:=by omega
       by_cases hd1:d.length=1
       ·have d4:(d.length:Int)=1:=by omega
        have d5:(0:Int)<d.length:=by omega
        have hat0:=zab (w:=d) (k:=0) (by omega)
        have hone1:=zpa (d:=d) (k:=z) hd1
        simp only[hone1] at hcs
        by_cases hz:d.getD 0 0=z
        ·rw[decide_eq_true hz,if_pos rfl] at hcs
         have c6:IntKind.i64.wrap (((al+cn:Nat):Int)+1)=((al+(cn+1):Nat):Int):=by rw[wrap_in (by omega) (by omega)];omega
         rw[hz] at hat0
         simp only[d3,d4,d5,c5,c6,hatk,hat0,yL,Qs,BEq.rfl,Nat.reduceAdd,Nat.reduceLeDiff,Nat.reduceBEq,Int.reduceLT,Int.reduceLE,Ψ4]
         exact Next.intro (k+1) (by rw[hcs];rfl) rfl (by omega) (by omega)
        ·rw[decide_eq_false hz,if_neg (by simp),Nat.add_zero] at hcs
         generalize d.getD 0 0=z0 at hat0 hz
         simp only[d3,d4,d5,c5,hz,hatk,hat0,yL,Qs,forall_const,BEq.rfl,Nat.reduceAdd,Nat.reduceLeDiff,Nat.reduceBEq,Int.reduceLT,Int.reduceLE,Ψ4]
         exact Next.intro (k+1) (by rw[hcs];rfl) rfl (by omega) (by omega)
       ·have d4: ¬(d.length:Int)=1:=by omega
        have hno:=zpb (d:=d) (k:=z) hd1
        rw[if_neg (by simp only[hno];simp),Nat.add_zero] at hcs
        simp only[d3,d4,c5,hatk,yL,Qs,forall_const,Nat.reduceAdd,Nat.reduceLeDiff,Nat.reduceBEq,Int.reduceLE,Ψ4]
        exact Next.intro (k+1) (by rw[hcs];rfl) rfl (by omega) (by omega)
      ·obtain rfl:k=fs.length:=by omega
       have d3: ¬(fs.length:Int)<fs.length:=by omega
       rw[List.take_length,←has]
       obtain⟨al2,hal2⟩: ∃x,aloneN (FL.take (i+1)) fs=x:=⟨_,rfl⟩
       rw[hal2]
       simp only[d3,yL,Qs,reduceCtorEq,Nat.reduceBEq,Ψ4]
       rw[uu f4l38.eq_1]
       refine yA (fun k:Nat=>[(0,lst 8 (L.map zQ)),(1,lst 2 (D.map zV)),(7,.bool true),(8,lst 3 (xF FL)),(10,.int .i64 sv),(12,.int .i64 n),(14,lst 3 (vF p)),(15,.int .i64 0),(16,lst 1 (zM fs)),(17,.int .i64 (al2:Nat)),(18,.bool true),(19,.int .i64 i),(20,.k (.c (.ro [zC 1 (zM d),zC 2 (pls pl),.bool true] 0))),(22,.int .i64 (manyN L p (d.take k):Nat)),(23,.int .i64 k)])
        (fun _=>[]) (fun k=>k≤d.length) (fun k=>d.length-k) 0 rfl rfl (Nat.zero_le _) ?_
       intro k hk
       by_cases hkl:k<d.length
       ·have d4:(k:Int)<d.length:=by omega
        have c5:IntKind.i64.wrap ((k:Int)+1)=(k:Int)+1:=wrap_in (by omega) (by omega)
        have hatk:=zab hkl
        have hms:=zo9 (L:=L) (p:=p) hkl
        have hml:=zo4 (L:=L) hp (d.take (k+1))
        obtain⟨j,hj,hjL⟩:=hrg k hkl
        rw[hj,Int.toNat_natCast] at hms
        rw[hj] at hatk
        have d5:(j:Int)<L.length:=by omega
        have hm:=gL hjL
        generalize L.getD j yZ=m at hms hm
        have g16:=c16 m p hp
        unfold zQ at g16
        have hdl:(d.take (k+1)).length≤8:=by rw[List.length_take];omega
        have hml2:=Nat.le_trans hml (Nat.mul_le_mul hdl (Nat.le_refl 1000000000000))
        rw[hms] at hml2
        generalize manyN L p (d.take k)=mn at hms hml2
        clear hml
        simp only[d4,d5,hatk,hm,yL,zI,Qs,Nat.reduceAdd,Nat.reduceLeDiff,Nat.reduceBEq,List.length_map,Ψ4]
        refine xI g16 ?_ (ha:=by simp only[List.map_cons,List.map_nil,zB,V.norm,C.norm,zO,yG sQ,C.normRow,oT]<;>rfl)
        have c6:IntKind.i64.wrap ((mn:Int)+((pls (uX m p)).length:Int))=((mn+(uX m p).length:Nat):Int):=by rw[uY,wrap_in (by omega) (by omega)];omega
        simp only[c5,c6,Qs,Nat.reduceBEq]
        exact Next.intro (k+1) (by rw[hms];rfl) rfl (by omega) (by omega)
       ·obtain rfl:k=d.length:=by omega
        have d4: ¬(d.length:Int)<d.length:=by omega
        rw[List.take_length]
        generalize manyN L p d=mn at hm1 hm2⊢
        have d5: ¬(mn:Int)<pl.length:=by omega
        have hdd:(mn:Int)>0∧ ¬(pl.length:Int)=0∨ ¬(mn:Int)>0:=by omega
        rcases hdd with⟨d6,d7⟩|d6<;>(
         first|simp only[d4,d5,d6,d7,yL,uY,Qs,reduceCtorEq,forall_const,Nat.reduceAdd,Nat.reduceEqDiff,Nat.reduceLeDiff,Nat.reduceBEq,Ψ4]|simp only[d4,d5,d6,yL,uY,Qs,reduceCtorEq,Nat.reduceAdd,Nat.reduceEqDiff,Nat.reduceLeDiff,Nat.reduceBEq,Ψ4]
         rw[uu f4l17.eq_1]
         refine yA (fun r:Nat=>[(0,lst 8 (L.map zQ)),(1,lst 2 (D.map zV)),(7,.bool true),(8,lst 3 (xF FL)),(10,.int .i64 sv),(12,.int .i64 n),(14,lst 3 (vF p)),(15,.int .i64 0),(16,lst 1 (zM fs)),(17,.int .i64 (al2:Nat)),(18,.bool true),(19,.int .i64 i),(20,.k (.c (.ro [zC 1 (zM d),zC 2 (pls pl),.bool true] 0))),(24,.bool false),(25,.int .i64 r)])
          (fun _=>[]) (fun r=>r≤n) (fun r=>n-r) 0 rfl rfl (Nat.zero_le _) ?_
         intro r hr
         by_cases hrl:r<n
         ·have d8:(r:Int)<n:=by omega
          have c5:IntKind.i64.wrap ((r:Int)+1)=(r:Int)+1:=wrap_in (by omega) (by omega)
          simp only[d8,c5,Qs,Nat.reduceBEq,Ψ4]
          exact Next.intro (r+1) rfl rfl (by omega) (by omega)
         ·obtain rfl:r=n:=by omega
          have d8: ¬(r:Int)<r:=by omega
          simp only[d8,c4,Qs,reduceCtorEq,Nat.reduceEqDiff,Nat.reduceBEq,Ψ4]
          exact Next.intro (i+1) (by rw[hss2,hal2];rfl) rfl (by omega) (by omega)))
    |false=>
     rw[Bool.or_false] at hss
     cases su with
     |true=>
      simp only[d2,hat,uM,Qs,List.append_nil,Nat.reduceAdd,Nat.reduceBEq,Ψ4]
      rw[uu f4l56.eq_1]
      refine yA (fun k:Nat=>[(0,lst 8 (L.map zQ)),(1,lst 2 (D.map zV)),(7,.bool true),(8,lst 3 (xF FL)),(10,.int .i64 sv),(12,.int .i64 n),(14,lst 3 (vF p)),(15,.int .i64 0),(16,lst 1 (zM fs)),(17,.int .i64 (al+(fs.take k).countP (fun z=>decide (d=[z])):Nat)),(18,.bool true),(19,.int .i64 i),(20,.k (.c (.ro [zC 1 (zM d),zC 2 (pls pl),.bool false] 0))),(21,.int .i64 k)])
       (fun _=>[]) (fun k=>k≤fs.length) (fun k=>fs.length-k) 0 rfl rfl (Nat.zero_le _) ?_
      intro k hk
      by_cases hkl:k<fs.length
      ·have d3:(k:Int)<fs.length:=by omega
       have c5:IntKind.i64.wrap ((k:Int)+1)=(k:Int)+1:=wrap_in (by omega) (by omega)
       have hatk:=zab hkl
       have hcs:=zo8 (p:=fun z=>decide (d=[z])) hkl
       have hcl:(fs.take k).countP (fun z=>decide (d=[z]))≤8:=by
        have h1:=List.countP_le_length (p:=fun z=>decide (d=[z])) (l:=fs.take k)
        rw[List.length_take] at h1;omega
       generalize (fs.take k).countP (fun z=>decide (d=[z]))=cn at hcs hcl
       generalize fs.getD k 0=z at hatk hcs
       have hal:al≤8008:=by omega
       by_cases hd1:d.length=1
       ·have d4:(d.length:Int)=1:=by omega
        have d5:(0:Int)<d.length:=by omega
        have hat0:=zab (w:=d) (k:=0) (by omega)
        have hone1:=zpa (d:=d) (k:=z) hd1
        simp only[hone1] at hcs
        by_cases hz:d.getD 0 0=z
        ·rw[decide_eq_true hz,if_pos rfl] at hcs
         have c6:IntKind.i64.wrap (((al+cn:Nat):Int)+1)=((al+(cn+1):Nat):Int):=by rw[wrap_in (by omega) (by omega)];omega
         rw[hz] at hat0
         simp only[d3,d4,d5,c5,c6,hatk,hat0,yL,Qs,BEq.rfl,Nat.reduceAdd,Nat.reduceLeDiff,Nat.reduceBEq,Int.reduceLT,Int.reduceLE,Ψ4]
         exact Next.intro (k+1) (by rw[hcs];rfl) rfl (by omega) (by omega)
        ·rw[decide_eq_false hz,if_neg (by simp),Nat.add_zero] at hcs
         generalize d.getD 0 0=z0 at hat0 hz
         simp only[d3,d4,d5,c5,hz,hatk,hat0,yL,Qs,forall_const,BEq.rfl,Nat.reduceAdd,Nat.reduceLeDiff,Nat.reduceBEq,Int.reduceLT,Int.reduceLE,Ψ4]
         exact Next.intro (k+1) (by rw[hcs];rfl) rfl (by omega) (by omega)
       ·have d4: ¬(d.length:Int)=1:=by omega
        have hno:=zpb (d:=d) (k:=z) hd1
        rw[if_neg (by simp only[hno];simp),Nat.add_zero] at hcs
        simp only[d3,d4,c5,hatk,yL,Qs,forall_const,Nat.reduceAdd,Nat.reduceLeDiff,Nat.reduceBEq,Int.reduceLE,Ψ4]
        exact Next.intro (k+1) (by rw[hcs];rfl) rfl (by omega) (by omega)
      ·obtain rfl:k=fs.length:=by omega
       have d3: ¬(fs.length:Int)<fs.length:=by omega
       rw[List.take_length,←has]
       obtain⟨al2,hal2⟩: ∃x,aloneN (FL.take (i+1)) fs=x:=⟨_,rfl⟩
       rw[hal2]
       simp only[d3,yL,Qs,reduceCtorEq,Nat.reduceBEq,Ψ4]
       rw[uu f4l38.eq_1]
       refine yA (fun k:Nat=>[(0,lst 8 (L.map zQ)),(1,lst 2 (D.map zV)),(7,.bool true),(8,lst 3 (xF FL)),(10,.int .i64 sv),(12,.int .i64 n),(14,lst 3 (vF p)),(15,.int .i64 0),(16,lst 1 (zM fs)),(17,.int .i64 (al2:Nat)),(18,.bool true),(19,.int .i64 i),(20,.k (.c (.ro [zC 1 (zM d),zC 2 (pls pl),.bool false] 0))),(22,.int .i64 (manyN L p (d.take k):Nat)),(23,.int .i64 k)])
        (fun _=>[]) (fun k=>k≤d.length) (fun k=>d.length-k) 0 rfl rfl (Nat.zero_le _) ?_
       intro k hk
       by_cases hkl:k<d.length
       ·have d4:(k:Int)<d.length:=by omega
        have c5:IntKind.i64.wrap ((k:Int)+1)=(k:Int)+1:=wrap_in (by omega) (by omega)
        have hatk:=zab hkl
        have hms:=zo9 (L:=L) (p:=p) hkl
        have hml:=zo4 (L:=L) hp (d.take (k+1))
        obtain⟨j,hj,hjL⟩:=hrg k hkl
        rw[hj,Int.toNat_natCast] at hms
        rw[hj] at hatk
        have d5:(j:Int)<L.length:=by omega
        have hm:=gL hjL
        generalize L.getD j yZ=m at hms hm
        have g16:=c16 m p hp
        unfold zQ at g16
        have hdl:(d.take (k+1)).length≤8:=by rw[List.length_take];omega
        have hml2:=Nat.le_trans hml (Nat.mul_le_mul hdl (Nat.le_refl 1000000000000))
        rw[hms] at hml2
        generalize manyN L p (d.take k)=mn at hms hml2
        clear hml
        simp only[d4,d5,hatk,hm,yL,zI,Qs,Nat.reduceAdd,Nat.reduceLeDiff,Nat.reduceBEq,List.length_map,Ψ4]
        refine xI g16 ?_ (ha:=by simp only[List.map_cons,List.map_nil,zB,V.norm,C.norm,zO,yG sQ,C.normRow,oT]<;>rfl)
        have c6:IntKind.i64.wrap ((mn:Int)+((pls (uX m p)).length:Int))=((mn+(uX m p).length:Nat):Int):=by rw[uY,wrap_in (by omega) (by omega)];omega
        simp only[c5,c6,Qs,Nat.reduceBEq]
        exact Next.intro (k+1) (by rw[hms];rfl) rfl (by omega) (by omega)
       ·obtain rfl:k=d.length:=by omega
        have d4: ¬(d.length:Int)<d.length:=by omega
        rw[List.take_length]
        generalize manyN L p d=mn at hm1 hm2⊢
        have d5: ¬(mn:Int)<pl.length:=by omega
        have hdd:(mn:Int)>0∧ ¬(pl.length:Int)=0∨ ¬(mn:Int)>0:=by omega
        obtain⟨o1,o2,o3⟩:=hone rfl
        rw[hnR] at o3
        have gd:=g11 d (by omega)
        rw[o2] at gd
        have gm:=g17 d (by omega)
        have d9:(d.length:Int)=1:=by omega
        generalize meetsB L D d=M at gm o3
        rcases hdd with⟨d6,d7⟩|d6<;>(
         first|simp only[d4,d5,d6,d7,yL,uY,d9,Qs,reduceCtorEq,forall_const,Nat.reduceAdd,Nat.reduceEqDiff,Nat.reduceLeDiff,Nat.reduceBEq,Int.reduceLT,Int.reduceBNe,Ψ4]|simp only[d4,d5,d6,yL,uY,d9,Qs,reduceCtorEq,Nat.reduceAdd,Nat.reduceEqDiff,Nat.reduceLeDiff,Nat.reduceBEq,Int.reduceLT,Int.reduceBNe,Ψ4]
         refine zF gd ?_ (ha:=by simp only[List.map_cons,List.map_nil,zB,V.norm,zO,zP yU,zP xO,vC,C.norm]<;>rfl)
         simp only[Qs,Nat.reduceAdd,Nat.reduceBEq,Ψ4]
         rw[uu f4l17.eq_1]
         refine yA (fun r:Nat=>[(0,lst 8 (L.map zQ)),(1,lst 2 (D.map zV)),(7,.bool true),(8,lst 3 (xF FL)),(10,.int .i64 sv),(12,.int .i64 n),(14,lst 3 (vF p)),(15,.int .i64 0),(16,lst 1 (zM fs)),(17,.int .i64 (al2:Nat)),(18,.bool true),(19,.int .i64 i),(20,.k (.c (.ro [zC 1 (zM d),zC 2 (pls pl),.bool false] 0))),(24,.bool ((List.range r).all fun r:Nat=>M r)),(25,.int .i64 r)])
          (fun _=>[]) (fun r=>r≤n) (fun r=>n-r) 0 rfl rfl (Nat.zero_le _) ?_
         intro r hr
         by_cases hrl:r<n
         ·have d8:(r:Int)<n:=by omega
          have c5:IntKind.i64.wrap ((r:Int)+1)=(r:Int)+1:=wrap_in (by omega) (by omega)
          have hrs:(List.range (r+1)).all (fun r:Nat=>M r)=((List.range r).all (fun r:Nat=>M r)&&M r):=by rw[List.range_succ,List.all_append];simp
          have gr:=gm (r:Int)
          cases hb:(List.range r).all (fun r:Nat=>M r) with
          |true=>
           rw[hb,Bool.true_and] at hrs
           simp only[d8,c5,Qs,Nat.reduceAdd,Nat.reduceLeDiff,Nat.reduceBEq,Ψ4]
           refine zF gr ?_ (ha:=by simp only[List.map_cons,List.map_nil,zB,V.norm,zO,zP yU,zP xO,vC,C.norm]<;>rfl)
           simp only[c5,Qs,Nat.reduceBEq]
           exact Next.intro (r+1) (by rw[hrs];rfl) rfl (by omega) (by omega)
          |false=>
           rw[hb,Bool.false_and] at hrs
           simp only[d8,c5,Qs,Nat.reduceBEq,Ψ4]
           exact Next.intro (r+1) (by rw[hrs];rfl) rfl (by omega) (by omega)
         ·obtain rfl:r=n:=by omega
          have d8: ¬(r:Int)<r:=by omega
          rw[o3]
          simp only[d8,c4,Qs,reduceCtorEq,Nat.reduceEqDiff,Nat.reduceBEq,Ψ4]
          exact Next.intro (i+1) (by rw[hss,hal2];rfl) rfl (by omega) (by omega))
     |false=>
      simp only[d2,hat,uM,Qs,List.append_nil,Nat.reduceAdd,Nat.reduceBEq,Ψ4]
      rw[uu f4l56.eq_1]
      refine yA (fun k:Nat=>[(0,lst 8 (L.map zQ)),(1,lst 2 (D.map zV)),(7,.bool true),(8,lst 3 (xF FL)),(10,.int .i64 sv),(12,.int .i64 n),(14,lst 3 (vF p)),(15,.int .i64 0),(16,lst 1 (zM fs)),(17,.int .i64 (al+(fs.take k).countP (fun z=>decide (d=[z])):Nat)),(18,.bool false),(19,.int .i64 i),(20,.k (.c (.ro [zC 1 (zM d),zC 2 (pls pl),.bool false] 0))),(21,.int .i64 k)])
       (fun _=>[]) (fun k=>k≤fs.length) (fun k=>fs.length-k) 0 rfl rfl (Nat.zero_le _) ?_
      intro k hk
      by_cases hkl:k<fs.length
      ·have d3:(k:Int)<fs.length:=by omega
       have c5:IntKind.i64.wrap ((k:Int)+1)=(k:Int)+1:=wrap_in (by omega) (by omega)
       have hatk:=zab hkl
       have hcs:=zo8 (p:=fun z=>decide (d=[z])) hkl
       have hcl:(fs.take k).countP (fun z=>decide (d=[z]))≤8:=by
        have h1:=List.countP_le_length (p:=fun z=>decide (d=[z])) (l:=fs.take k)
        rw[List.length_take] at h1;omega
       generalize (fs.take k).countP (fun z=>decide (d=[z]))=cn at hcs hcl
       generalize fs.getD k 0=z at hatk hcs
       have hal:al≤8008:=by omega
       by_cases hd1:d.length=1
       ·have d4:(d.length:Int)=1:=by omega
        have d5:(0:Int)<d.length:=by omega
        have hat0:=zab (w:=d) (k:=0) (by omega)
        have hone1:=zpa (d:=d) (k:=z) hd1
        simp only[hone1] at hcs
        by_cases hz:d.getD 0 0=z
        ·rw[decide_eq_true hz,if_pos rfl] at hcs
         have c6:IntKind.i64.wrap (((al+cn:Nat):Int)+1)=((al+(cn+1):Nat):Int):=by rw[wrap_in (by omega) (by omega)];omega
         rw[hz] at hat0
         simp only[d3,d4,d5,c5,c6,hatk,hat0,yL,Qs,BEq.rfl,Nat.reduceAdd,Nat.reduceLeDiff,Nat.reduceBEq,Int.reduceLT,Int.reduceLE,Ψ4]
         exact Next.intro (k+1) (by rw[hcs];rfl) rfl (by omega) (by omega)
        ·rw[decide_eq_false hz,if_neg (by simp),Nat.add_zero] at hcs
         generalize d.getD 0 0=z0 at hat0 hz
         simp only[d3,d4,d5,c5,hz,hatk,hat0,yL,Qs,forall_const,BEq.rfl,Nat.reduceAdd,Nat.reduceLeDiff,Nat.reduceBEq,Int.reduceLT,Int.reduceLE,Ψ4]
         exact Next.intro (k+1) (by rw[hcs];rfl) rfl (by omega) (by omega)
       ·have d4: ¬(d.length:Int)=1:=by omega
        have hno:=zpb (d:=d) (k:=z) hd1
        rw[if_neg (by simp only[hno];simp),Nat.add_zero] at hcs
        simp only[d3,d4,c5,hatk,yL,Qs,forall_const,Nat.reduceAdd,Nat.reduceLeDiff,Nat.reduceBEq,Int.reduceLE,Ψ4]
        exact Next.intro (k+1) (by rw[hcs];rfl) rfl (by omega) (by omega)
      ·obtain rfl:k=fs.length:=by omega
       have d3: ¬(fs.length:Int)<fs.length:=by omega
       rw[List.take_length,←has]
       obtain⟨al2,hal2⟩: ∃x,aloneN (FL.take (i+1)) fs=x:=⟨_,rfl⟩
       rw[hal2]
       simp only[d3,yL,Qs,reduceCtorEq,Nat.reduceBEq,Ψ4]
       rw[uu f4l38.eq_1]
       refine yA (fun k:Nat=>[(0,lst 8 (L.map zQ)),(1,lst 2 (D.map zV)),(7,.bool true),(8,lst 3 (xF FL)),(10,.int .i64 sv),(12,.int .i64 n),(14,lst 3 (vF p)),(15,.int .i64 0),(16,lst 1 (zM fs)),(17,.int .i64 (al2:Nat)),(18,.bool false),(19,.int .i64 i),(20,.k (.c (.ro [zC 1 (zM d),zC 2 (pls pl),.bool false] 0))),(22,.int .i64 (manyN L p (d.take k):Nat)),(23,.int .i64 k)])
        (fun _=>[]) (fun k=>k≤d.length) (fun k=>d.length-k) 0 rfl rfl (Nat.zero_le _) ?_
       intro k hk
       by_cases hkl:k<d.length
       ·have d4:(k:Int)<d.length:=by omega
        have c5:IntKind.i64.wrap ((k:Int)+1)=(k:Int)+1:=wrap_in (by omega) (by omega)
        have hatk:=zab hkl
        have hms:=zo9 (L:=L) (p:=p) hkl
        have hml:=zo4 (L:=L) hp (d.take (k+1))
        obtain⟨j,hj,hjL⟩:=hrg k hkl
        rw[hj,Int.toNat_natCast] at hms
        rw[hj] at hatk
        have d5:(j:Int)<L.length:=by omega
        have hm:=gL hjL
        generalize L.getD j yZ=m at hms hm
        have g16:=c16 m p hp
        unfold zQ at g16
        have hdl:(d.take (k+1)).length≤8:=by rw[List.length_take];omega
        have hml2:=Nat.le_trans hml (Nat.mul_le_mul hdl (Nat.le_refl 1000000000000))
        rw[hms] at hml2
        generalize manyN L p (d.take k)=mn at hms hml2
        clear hml
        simp only[d4,d5,hatk,hm,yL,zI,Qs,Nat.reduceAdd,Nat.reduceLeDiff,Nat.reduceBEq,List.length_map,Ψ4]
        refine xI g16 ?_ (ha:=by simp only[List.map_cons,List.map_nil,zB,V.norm,C.norm,zO,yG sQ,C.normRow,oT]<;>rfl)
        have c6:IntKind.i64.wrap ((mn:Int)+((pls (uX m p)).length:Int))=((mn+(uX m p).length:Nat):Int):=by rw[uY,wrap_in (by omega) (by omega)];omega
        simp only[c5,c6,Qs,Nat.reduceBEq]
        exact Next.intro (k+1) (by rw[hms];rfl) rfl (by omega) (by omega)
       ·obtain rfl:k=d.length:=by omega
        have d4: ¬(d.length:Int)<d.length:=by omega
        rw[List.take_length]
        generalize manyN L p d=mn at hm1 hm2⊢
        have d5: ¬(mn:Int)<pl.length:=by omega
        have hdd:(mn:Int)>0∧ ¬(pl.length:Int)=0∨ ¬(mn:Int)>0:=by omega
        obtain⟨o1,o2,o3⟩:=hone rfl
        rw[hnR] at o3
        have gd:=g11 d (by omega)
        rw[o2] at gd
        have gm:=g17 d (by omega)
        have d9:(d.length:Int)=1:=by omega
        generalize meetsB L D d=M at gm o3
        rcases hdd with⟨d6,d7⟩|d6<;>(
         first|simp only[d4,d5,d6,d7,yL,uY,d9,Qs,reduceCtorEq,forall_const,Nat.reduceAdd,Nat.reduceEqDiff,Nat.reduceLeDiff,Nat.reduceBEq,Int.reduceLT,Int.reduceBNe,Ψ4]|simp only[d4,d5,d6,yL,uY,d9,Qs,reduceCtorEq,Nat.reduceAdd,Nat.reduceEqDiff,Nat.reduceLeDiff,Nat.reduceBEq,Int.reduceLT,Int.reduceBNe,Ψ4]
         refine zF gd ?_ (ha:=by simp only[List.map_cons,List.map_nil,zB,V.norm,zO,zP yU,zP xO,vC,C.norm]<;>rfl)
         simp only[Qs,Nat.reduceAdd,Nat.reduceBEq,Ψ4]
         rw[uu f4l17.eq_1]
         refine yA (fun r:Nat=>[(0,lst 8 (L.map zQ)),(1,lst 2 (D.map zV)),(7,.bool true),(8,lst 3 (xF FL)),(10,.int .i64 sv),(12,.int .i64 n),(14,lst 3 (vF p)),(15,.int .i64 0),(16,lst 1 (zM fs)),(17,.int .i64 (al2:Nat)),(18,.bool false),(19,.int .i64 i),(20,.k (.c (.ro [zC 1 (zM d),zC 2 (pls pl),.bool false] 0))),(24,.bool ((List.range r).all fun r:Nat=>M r)),(25,.int .i64 r)])
          (fun _=>[]) (fun r=>r≤n) (fun r=>n-r) 0 rfl rfl (Nat.zero_le _) ?_
         intro r hr
         by_cases hrl:r<n
         ·have d8:(r:Int)<n:=by omega
          have c5:IntKind.i64.wrap ((r:Int)+1)=(r:Int)+1:=wrap_in (by omega) (by omega)
          have hrs:(List.range (r+1)).all (fun r:Nat=>M r)=((List.range r).all (fun r:Nat=>M r)&&M r):=by rw[List.range_succ,List.all_append];simp
          have gr:=gm (r:Int)
          cases hb:(List.range r).all (fun r:Nat=>M r) with
          |true=>
           rw[hb,Bool.true_and] at hrs
           simp only[d8,c5,Qs,Nat.reduceAdd,Nat.reduceLeDiff,Nat.reduceBEq,Ψ4]
           refine zF gr ?_ (ha:=by simp only[List.map_cons,List.map_nil,zB,V.norm,zO,zP yU,zP xO,vC,C.norm]<;>rfl)
           simp only[c5,Qs,Nat.reduceBEq]
           exact Next.intro (r+1) (by rw[hrs];rfl) rfl (by omega) (by omega)
          |false=>
           rw[hb,Bool.false_and] at hrs
           simp only[d8,c5,Qs,Nat.reduceBEq,Ψ4]
           exact Next.intro (r+1) (by rw[hrs];rfl) rfl (by omega) (by omega)
         ·obtain rfl:r=n:=by omega
          have d8: ¬(r:Int)<r:=by omega
          rw[o3]
          simp only[d8,c4,Qs,reduceCtorEq,Nat.reduceEqDiff,Nat.reduceBEq,Ψ4]
          exact Next.intro (i+1) (by rw[hss,hal2];rfl) rfl (by omega) (by omega))
   ·obtain rfl:i=FL.length:=by omega
    have d2: ¬(FL.length:Int)<FL.length:=by omega
    rw[List.take_length,hC]
    have q1:((fs.length:Int)==fs.length)=true:=by simp
    have q2:((zM fs).length:Int)=fs.length:=by rw[yL]
    have q3:((xF FL).length:Int)=FL.length:=by rw[uM]
    have q4:(sv==0)=sureB FL:=by rw[←hNo,Bool.eq_iff_iff];simp
    have q5:((sv==1)==((FL.length:Int)==0))=true:=by
     have h1:(sv==1)=decide (sv=1):=by rw[Bool.eq_iff_iff];simp
     have h2:((FL.length:Int)==0)=decide (FL.length=0):=by rw[Bool.eq_iff_iff];simp
     rw[h1,h2,hYes];simp
    simp only[d2,q1,q2,q3,q4,q5,Qs,zk4,zk5,BEq.rfl,Nat.reduceBEq,Ψ4]
    exact hS
  ·have hfe:flawsE L D=[]:=by unfold flawsE;rw[if_neg h0]
   have hse:stateE L D=0:=by unfold stateE;rw[if_neg h0]
   rw[hfe] at g10
   rw[hse] at g12
   generalize lookE L D=er at g10 g12 h0
   have e1:(er !=0)=true:=by rw[bne_iff_ne];exact h0
   have e3:(er==er)=true:=by simp
   simp only[Qs,Nat.reduceAdd,Ψ4]
   refine zF c8 ?_ (ha:=by rfl)
   simp only[Qs,Nat.reduceBEq,Ψ4]
   refine zF g9 ?_ (ha:=by simp only[List.map_cons,List.map_nil,zB,V.norm,zO,zP yU,zP xO,C.norm]<;>rfl)
   simp only[Qs,Nat.reduceBEq,Ψ4]
   refine xI g10 ?_ (ha:=by simp only[List.map_cons,List.map_nil,zB,V.norm,zO,zP yU,zP xO,C.norm]<;>rfl)
   simp only[Qs,List.append_nil,Nat.reduceAdd,Nat.reduceMul,Nat.reduceBEq,Ψ4]
   refine zF g12 ?_ (ha:=by simp only[List.map_cons,List.map_nil,zB,V.norm,zO,zP yU,zP xO,C.norm]<;>rfl)
   simp only[Qs,Nat.reduceBEq,Ψ4]
   refine zF g13 ?_ (ha:=by simp only[List.map_cons,List.map_nil,zB,V.norm,zO,zP yU,zP xO,C.norm]<;>rfl)
   simp only[e1,e3,Qs,BEq.rfl,Nat.reduceBEq,Ψ4]
   exact hS
 ·have hF:mI L D=false:=by simpa using hF
  rw[hF] at g9
  simp only[Qs,Nat.reduceAdd,Ψ4]
  refine zF c8 ?_ (ha:=by rfl)
  simp only[Qs,Nat.reduceBEq,Ψ4]
  refine zF g9 ?_ (ha:=by simp only[List.map_cons,List.map_nil,zB,V.norm,zO,zP yU,zP xO,C.norm]<;>rfl)
  simp only[Qs,Nat.reduceBEq,Ψ4]
  exact hS
end Go.Abs
set_option maxRecDepth 100000
namespace Go.Proofs.YtpmicgjdckeejaaGreatDoor
open Go.Abs Go.RowKit Go.ChangeShapes Go.WideShapes Go.ChangeAt Go.WideMaps Go.WideElems Go.Ex
theorem zpA (xs:List V) (h:lT Tryz.prog [22,23,36] xs):Go.Abs.Spec Tryz.prog 4 xs (fun r=>r=.bool true):=by
 match xs,h with
 |[a0,a1,a2],⟨⟨_,_,h0,q0⟩,⟨_,_,h1,q1⟩,⟨_,_,h2,q2⟩,_⟩=>
  obtain⟨x0,e0,w0⟩:=zoA h0
  obtain⟨x1,e1⟩:=zoE h1
  obtain⟨x2,e2,w2⟩:=zoF Tryz.underlying36 rfl h2
  rw[q0,q1,q2,e0,e1,e2]
  exact c4 x0 x1 w0 x2 w2
theorem zpB (os:Os) {H:Type} (enc:TypeId×Value→H): ∃jH,DataW.whole enc Tryz.prog ((World.doorLaid Tryz.prog 400 os).forCall (fun _ _=>0) ⟨#[],#[Value.slice none 0 0,.slice none 0 0,.int .u16 0],[]⟩).memory Tryz.f4.params.toList Rows.examineDoubtsSpec.vars false #[Value.slice none 0 0,.slice none 0 0,.int .u16 0].toList 8=some ([.nil,.nil,.lit (.int .u16 0)],[],jH):=
 ⟨[],by kernel_rfl⟩
theorem zpC (os:Os) (started:os.Started) (H:Type) (enc:TypeId×Value→H) (F:Stop.Interp):
  ReturnsInHanded {} Tryz.checked os 4 .any ((OpenSpec.ofChange Rows.examineDoubtsSpec).preRow enc Tryz.prog Tryz.f4 Rows.examineDoubtsRow.domain false Rows.examineDoubtsRow.laid) (((OpenSpec.ofChange Rows.examineDoubtsSpec).at F).post enc Tryz.prog Tryz.f4 false true false false):=by
 obtain⟨jH,hx⟩:=zpB os enc
 refine returnsInHanded_of_row (C:=Tryz.checked) (s:=OpenSpec.ofChange Rows.examineDoubtsSpec) own started (by kernel_rfl) Tryz.func4
  (witness_row_atRef (enc:=enc) (C:=Tryz.checked) false (World.doorLaid Tryz.prog 400 os) #[Value.slice none 0 0,.slice none 0 0,.int .u16 0] rfl (by kernel_rfl) (by kernel_rfl) (by kernel_rfl)
   (OpenSpec.preRow_of_cond 8 hx (by kernel_rfl) (fun k hk=>by cases hk) (by kernel_rfl) (zoL os _))) ?_
 intro W base args ds gs before hval hW _ hcond _ hL hsh _
 refine zly (C:=Tryz.checked) (T:=gX) (tb:=4) (s:=Rows.examineDoubtsSpec) zoG zoH ?_ kids full rfl ?_ ?_ Tryz.underlying4 ?_ W base args ds gs before hval hW (zoK hL hsh)
 ·rw[Tryz.params4];decide
 ·intro ds hds
  rw[Tryz.params4] at hds
  match ds,hds with
  |[a0,a1,a2],_=>rfl
 ·kernel_rfl
 ·intro xs hxs
  rw[Tryz.params4] at hxs
  exact zpA xs hxs
theorem ExamineDoubts_row:Rows.ExamineDoubtsSaid:=
 OpenClaim.holds_of_cond 4 Tryz.f4 rfl rfl rfl rfl rfl rfl rfl ⟨rfl,rfl,rfl,rfl,rfl⟩ rfl rfl rfl rfl rfl (by kernel_rfl) Tryz.func4 (by kernel_rfl)
  (of_decide_eq_true (by kernel_rfl)) (by unfold Func.isWrapper;first|(rw[if_pos (by decide+kernel)];kernel_rfl)|(rw[if_neg (by decide+kernel)];exact⟨rfl,rfl⟩))
  (fun os started H enc _ F=>by rw[OpenClaim.pre_eq_preRow];exact zpC os started H enc F)
theorem ExamineDoubts_holds:Rows.ExamineDoubtsCardSaid:=
 Claim7.holds_tied_plain_at .later [] _ _ _ _ ExamineDoubts_row (fun _ h=>by cases h) (by kernel_rfl) (fun _ h=>by cases h) examineDoubts_row_tie rfl ⟨rfl,rfl⟩ (by kernel_rfl) rfl
  (fun f fn hf hfn=>by
   obtain rfl:f=4:=Option.some.inj ((show Tryz.prog.funcNamed "allonge/allongelaw34.ExamineDoubts" =some 4 by kernel_rfl).symm.trans hf)|>.symm
   obtain rfl:fn=Tryz.f4:=(Option.some.inj (Tryz.func4.symm.trans hfn)).symm
   exact⟨by kernel_rfl,fun j t ht=>by
    rw[Tryz.params4] at ht
    have hm:t∈[22,23,36]:=by simpa using Array.mem_of_getElem? ht
    have hall:([22,23,36].all fun u=> !Tryz.prog.wantsStandIn u)=true:=by kernel_rfl
    exact(show Tryz.prog.wantsStandIn t=false by simpa using List.all_eq_true.1 hall t hm)⟩)
  (by kernel_rfl)
end Go.Proofs.YtpmicgjdckeejaaGreatDoor
