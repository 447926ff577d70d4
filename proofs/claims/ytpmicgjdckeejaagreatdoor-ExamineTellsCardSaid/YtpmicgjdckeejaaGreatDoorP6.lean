/- A part of the proof; the last text states what is proved. -/
import Derived.Test.YtpmicgjdckeejaaGreatDoorP5
import Derived.Laws.IdiomStrings
set_option linter.unusedVariables false
set_option linter.unusedSimpArgs false
set_option maxRecDepth 100000
set_option maxHeartbeats 8000000
open BitVec renaming ofInt → Z2,ofNat → Wm,toNat_ofNat → Xa
open Bool renaming and_assoc → X4,and_eq_false_iff → Xi,and_eq_true → Zp,and_false → Yo,and_true → Y9,eq_false_iff → Yj,eq_iff_iff → Ye,false_and → ZF,false_or → Yd,not_eq_true' → YL,not_false → Yu,not_true → YH,or_eq_true → Yi,or_false → YQ,or_true → Xd,true_and → ZC,true_or → YI
open Function renaming comp → Xf
open Iff renaming rfl → X7
open Int renaming natCast_ediv → X2,natCast_mul → Yq,ofNat_tdiv → XS,ofNat_tmod → XJ,reduceBEq → YN,reduceBNe → Yw,reduceLE → Yy,reduceLT → Xy,reduceNeg → Yp,reduceToNat → X5,toNat_natCast → Ym
open List renaming all_append → Xe,all_cons → Yz,all_eq_true → Zt,all_nil → Xu,any_eq_true → Yx,append_assoc → Z3,append_nil → Zi,cons_append → ZT,drop_eq_getElem_cons → Zx,drop_eq_nil_of_le → ZE,drop_succ_cons → XQ,eq_nil_of_length_eq_zero → Yn,exists_mem_of_ne_nil → Xp,ext_getElem → XA,filter_append → Y6,filter_cons → Xn,filter_eq_nil_iff → Wc,filter_nil → XK,flatten_append → Wj,foldl_cons → YZ,getD_eq_getElem?_getD → Zm,getElem?_eq_getElem → Zk,getElem_mem → Zv,length_append → Zr,length_cons → Zu,length_filter_le → Yr,length_map → Ze,length_pos_iff → Yl,length_take → Yk,map_append → ZV,map_congr_left → XO,map_cons → Zj,map_map → XU,map_nil → Zo,mem_append → Yt,mem_cons → ZB,mem_cons_of_mem → ZH,mem_filter → Z8,mem_flatten → XX,mem_map → ZL,mem_of_mem_drop → Xm,mem_of_mem_take → Xl,mem_range → Yb,nil_append → Z7,nodup_cons → ZJ,not_mem_nil → Zq,pairwise_cons → Xc,pairwise_map → Xt,range' → YX,range_succ → YY,take_length → Yh,take_of_length_le → ZU,take_succ_eq_append_getElem → Zz
open List.Pairwise renaming filter → Xb,nil → Xx
open List.Perm renaming refl → XF
open Nat renaming add_comm → Y4,div_le_self → Xk,eq_of_testBit_eq → XE,le_refl → ZA,le_trans → ZX,lt_of_le_of_lt → XW,lt_of_lt_of_le → ZO,lt_or_ge → Y3,min_eq_left → Y8,mod_eq_of_lt → Xq,mod_lt → XH,mul_comm → Wi,mul_le_mul → XG,mul_le_mul_right → ZY,mul_one → Y5,one_mul → X3,pow_le_pow_right → ZW,pow_lt_pow_right → XD,pow_succ → Wh,reduceAdd → Zb,reduceBEq → Za,reduceEqDiff → Zn,reduceLT → ZN,reduceLeDiff → Zd,reduceMul → Yf,succ_mul → Xw,testBit_lt_two_pow → Wg,testBit_or → XR,zero_add → Z4,zero_le → Zy,zero_testBit → YW
open Option renaming bind_some → Xg
open Option.some renaming inj → YA
namespace Go.Ex
open Go.Lib Go.Wd Go.Wire Go.Abs
def txR (p:Pln) (f:Txt):Txt:=p.texts.getD (zZ p f).toNat []
def xY (d f:Txt):List Pln->Option (List Txt)
 |[]=>some []
 |p::l=>if p.kind=d then(if zZ p f<0 then none else(xY d f l).map (txR p f:: ·)) else xY d f l
theorem mR (d f:Txt): ∀(l:List Pln) (acc:List Txt),fldsF d f l acc=match xY d f l with|none=>([],false)|some ts=>(acc++ts,true)
 |[],acc=>by simp[fldsF,xY]
 |p::l,acc=>by
  rw[fldsF,xY];by_cases hk:p.kind=d
  ·rw[if_pos hk,if_pos hk]
   by_cases h:zZ p f<0
   ·rw[if_pos h,if_pos]
    unfold zZ at h;split at h
    ·exact .inl h
    ·rename_i q;right;exact Int.not_lt.1 q
   ·have e:zZ p f=fstN (fun x=>decide (f=x)) p.names 0/\fstN (fun x=>decide (f=x)) p.names 0<p.texts.length:=by
     unfold zZ at h⊢;split at h
     ·rename_i q;rw[if_pos q];exact⟨rfl,q⟩
     ·omega
    rw[if_neg h,if_neg,<-e.1,mR d f l]
    ·cases xY d f l with
     |none=>rfl
     |some ts=>simp[txR]
    ·rw[e.1] at h
     rintro(q|q)
     ·exact h q
     ·exact absurd e.2 (Int.not_lt.2 q)
  ·rw[if_neg hk,if_neg hk,mR d f l]
def mS (m:Dmd) (s:Int) (b:Bool):Bool:=if m.op=0 then b else if m.op=1\/m.op=2 then true else if m.op=4 then decide (m.lo<=s)&&decide (s<=m.hi) else false
def metG (m:Dmd):List Pln->Int->Bool->Bool
 |[],s,b=>mS m s b
 |p::l,s,b=>
  if p.kind=m.doc then
   if m.op≠0/\zZ p m.fld<0 then false
   else if m.op=1/\txR p m.fld≠m.txt then false
   else if m.op=2\/m.op=4 then
    if (numV (txR p m.fld)).2=true/\ ¬(m.op=2/\((numV (txR p m.fld)).1<m.lo\/(numV (txR p m.fld)).1>m.hi)) then metG m l (s+(numV (txR p m.fld)).1) true else false
   else metG m l s true
  else metG m l s b
theorem zbS {m:Dmd} (h:m.op=0): ∀l s b,metG m l s b=(b||kindP l m.doc)
 |[],s,b=>by simp[metG,mS,h,kindP]
 |p::l,s,b=>by
  rw[metG];by_cases hk:p.kind=m.doc
  ·rw[if_pos hk,if_neg (fun q=>q.1 h),if_neg (by omega),if_neg (by omega),zbS h l];simp[kindP,hk]
  ·rw[if_neg hk,zbS h l];simp[kindP,hk]
theorem zbT {m:Dmd} (h:m.op=1): ∀l s b,metG m l s b=match xY m.doc m.fld l with|none=>false|some ts=> !ts.any fun x=> !decide (x=m.txt)
 |[],s,b=>by simp[metG,mS,h,xY]
 |p::l,s,b=>by
  rw[metG,xY];by_cases hk:p.kind=m.doc
  ·rw[if_pos hk,if_pos hk]
   by_cases hf:zZ p m.fld<0
   ·rw[if_pos ⟨by omega,hf⟩,if_pos hf]
   ·rw[if_neg (fun q=>hf q.2),if_neg hf]
    by_cases ht:txR p m.fld=m.txt
    ·rw[if_neg (fun q=>q.2 ht),if_neg (by omega),zbT h l]
     cases xY m.doc m.fld l with
     |none=>rfl
     |some ts=>simp[ht]
    ·rw[if_pos ⟨h,ht⟩]
     cases xY m.doc m.fld l with
     |none=>rfl
     |some ts=>simp[ht]
  ·rw[if_neg hk,if_neg hk,zbT h l]
theorem zbU {m:Dmd} (h:m.op=2): ∀l s b a,metG m l s b=match xY m.doc m.fld l with|none=>false|some ts=>(wL m.lo m.hi false ts a).isSome
 |[],s,b,a=>by simp[metG,mS,h,xY,wL]
 |p::l,s,b,a=>by
  rw[metG,xY];by_cases hk:p.kind=m.doc
  ·rw[if_pos hk,if_pos hk]
   by_cases hf:zZ p m.fld<0
   ·rw[if_pos ⟨by omega,hf⟩,if_pos hf]
   ·rw[if_neg (fun q=>hf q.2),if_neg hf,if_neg (by omega),if_pos (.inl h)]
    by_cases hn:(numV (txR p m.fld)).2=true
    ·by_cases hr:(numV (txR p m.fld)).1<m.lo\/(numV (txR p m.fld)).1>m.hi
     ·rw[if_neg (fun q=>q.2 ⟨h,hr⟩)]
      cases xY m.doc m.fld l with
      |none=>rfl
      |some ts=>
       show false=(wL _ _ _ (_::_) _).isSome;rw[wL,if_pos hn,if_pos ⟨rfl,hr⟩];rfl
     ·rw[if_pos ⟨hn,fun q=>hr q.2⟩,zbU h l _ _ (a+(numV (txR p m.fld)).1)]
      cases xY m.doc m.fld l with
      |none=>rfl
      |some ts=>
       show _=(wL _ _ _ (_::_) _).isSome;rw[wL,if_pos hn,if_neg (fun q=>hr q.2)]
    ·rw[if_neg (fun q=>hn q.1)]
     cases xY m.doc m.fld l with
     |none=>rfl
     |some ts=>
      show false=(wL _ _ _ (_::_) _).isSome;rw[wL,if_neg hn];rfl
  ·rw[if_neg hk,if_neg hk,zbU h l _ _ a]
theorem zbV {m:Dmd} (h:m.op=4): ∀l s b,metG m l s b=match xY m.doc m.fld l with|none=>false|some ts=>(match wL m.lo m.hi true ts s with|none=>false|some a=>decide (m.lo<=a)&&decide (a<=m.hi))
 |[],s,b=>by simp[metG,mS,h,xY,wL]
 |p::l,s,b=>by
  rw[metG,xY];by_cases hk:p.kind=m.doc
  ·rw[if_pos hk,if_pos hk]
   by_cases hf:zZ p m.fld<0
   ·rw[if_pos ⟨by omega,hf⟩,if_pos hf]
   ·rw[if_neg (fun q=>hf q.2),if_neg hf,if_neg (by omega),if_pos (.inr h)]
    by_cases hn:(numV (txR p m.fld)).2=true
    ·rw[if_pos ⟨hn,by omega⟩,zbV h l]
     cases xY m.doc m.fld l with
     |none=>rfl
     |some ts=>
      show _=match wL _ _ _ (_::_) _ with|none=>false|some a=>_
      rw[wL,if_pos hn,if_neg (fun q=>by simp at q)]
    ·rw[if_neg (fun q=>hn q.1)]
     cases xY m.doc m.fld l with
     |none=>rfl
     |some ts=>
      show _=match wL _ _ _ (_::_) _ with|none=>false|some a=>_
      rw[wL,if_neg hn]
  ·rw[if_neg hk,if_neg hk,zbV h l]
theorem zbW {m:Dmd} (h:m.op≠0/\m.op≠1/\m.op≠2/\m.op≠4): ∀l s b,metG m l s b=false
 |[],s,b=>by simp[metG,mS,h]
 |p::l,s,b=>by
  rw[metG];split
  ·split
   ·rfl
   ·rw[if_neg (fun q=>h.2.1 q.1),if_neg (by omega),zbW h l]
  ·exact zbW h l _ _
theorem zq7 {m:Dmd} (h3:m.op≠3) (l:List Pln):metG m l 0 false=vE m l:=by
 unfold vE;by_cases h0:m.op=0
 ·rw[if_pos h0,zbS h0,Yd]
 rw[if_neg h0];by_cases h1:m.op=1
 ·rw[if_pos h1,zbT h1]
  unfold readsP;rw[mR];cases xY m.doc m.fld l with
  |none=>rfl
  |some ts=>simp
 rw[if_neg h1];by_cases h2:m.op=2
 ·rw[if_pos h2,zbU h2 l 0 false 0]
  unfold limP;rw[mR];cases xY m.doc m.fld l with
  |none=>simp[wL]
  |some ts=>
   simp only[Z7];cases wL m.lo m.hi false ts 0<;>rfl
 rw[if_neg h2,if_neg h3];by_cases h4:m.op=4
 ·rw[if_pos h4,zbV h4]
  unfold limP;rw[mR];cases xY m.doc m.fld l with
  |none=>simp[wL]
  |some ts=>
   simp only[Z7];cases wL m.lo m.hi true ts 0 with
   |none=>rfl
   |some a=>simp
 rw[if_neg h4,zbW ⟨h0,h1,h2,h4⟩]
def okR (d f e g:Txt) (p:Pln):Bool:= !((decide (p.kind=d)&&decide (zZ p f<0))||(decide (p.kind=e)&&decide (zZ p g<0)))
def eqR (d f e g:Txt) (p q:Pln):Bool:= !(decide (p.kind=d)&&decide (q.kind=e))||decide (txR p f=txR q g)
def zbX (d f e g:Txt) (l:List Pln):Bool:=if kindP l d=true/\kindP l e=true then l.all (okR d f e g)&&l.all (fun p=>l.all (eqR d f e g p)) else true
def kdL (d f:Txt) (l:List Pln):List Txt:=(l.filter fun p=>decide (p.kind=d)).map fun p=>txR p f
theorem zbY (d f:Txt): ∀l,xY d f l=if (∀p∈l,p.kind=d-> ¬zZ p f<0) then some (kdL d f l) else none
 |[]=>by simp[xY,kdL]
 |p::l=>by
  rw[xY,zbY d f l];by_cases hk:p.kind=d
  ·rw[if_pos hk]
   by_cases hf:zZ p f<0
   ·rw[if_pos hf,if_neg (fun q=>q p (by simp) hk hf)]
   ·rw[if_neg hf]
    by_cases ha: ∀p∈l,p.kind=d-> ¬zZ p f<0
    ·rw[if_pos ha,if_pos (fun q hq=>by
      rcases ZB.1 hq with rfl|hq
      ·exact fun _=>hf
      ·exact ha q hq)]
     simp[kdL,hk]
    ·rw[if_neg ha,if_neg (fun q=>ha fun x hx=>q x (ZH _ hx))];rfl
  ·rw[if_neg hk]
   by_cases ha: ∀p∈l,p.kind=d-> ¬zZ p f<0
   ·rw[if_pos ha,if_pos (fun q hq=>by
     rcases ZB.1 hq with rfl|hq
     ·exact fun e=>absurd e hk
     ·exact ha q hq)]
    simp[kdL,hk]
   ·rw[if_neg ha,if_neg (fun q=>ha fun x hx=>q x (ZH _ hx))]
theorem kN {d f:Txt} {l:List Pln} {x:Txt}:x∈kdL d f l ↔ ∃p∈l,p.kind=d/\txR p f=x:=by
 unfold kdL;rw[ZL];constructor
 ·rintro⟨p,hp,rfl⟩;rw[Z8,decide_eq_true_eq] at hp;exact⟨p,hp.1,hp.2,rfl⟩
 ·rintro⟨p,h1,h2,rfl⟩;exact⟨p,Z8.2 ⟨h1,by simpa using h2⟩,rfl⟩
theorem zq8 (d f e g:Txt) (l:List Pln):zbX d f e g l=agreesP d f e g l:=by
 unfold zbX agreesP;by_cases hd:kindP l d=true
 ·by_cases he:kindP l e=true
  ·rw[if_pos ⟨hd,he⟩,if_pos hd,if_pos he,mR,mR,zbY,zbY]
   have hok:l.all (okR d f e g)=true ↔ (∀p∈l,p.kind=d-> ¬zZ p f<0)/\(∀p∈l,p.kind=e-> ¬zZ p g<0):=by
    rw[Zt];unfold okR;constructor
    ·intro h
     refine⟨fun p hp hk=>?_,fun p hp hk=>?_⟩
     ·have:=h p hp;simp[hk] at this;omega
     ·have:=h p hp;simp[hk] at this;omega
    ·rintro⟨h1,h2⟩ p hp
     have a:=h1 p hp;have b:=h2 p hp;simp only[YL,Bool.or_eq_false_iff,Xi,decide_eq_false_iff_not];refine⟨?_,?_⟩
     ·by_cases k:p.kind=d
      ·exact .inr (a k)
      ·exact .inl k
     ·by_cases k:p.kind=e
      ·exact .inr (b k)
      ·exact .inl k
   by_cases h1: ∀p∈l,p.kind=d-> ¬zZ p f<0
   ·by_cases h2: ∀p∈l,p.kind=e-> ¬zZ p g<0
    ·rw[if_pos h1,if_pos h2,hok.2 ⟨h1,h2⟩]
     simp only[Z7,ZC];have hA: ∃p∈l,p.kind=d:=by unfold kindP at hd;simpa using hd
     have hB: ∃p∈l,p.kind=e:=by unfold kindP at he;simpa using he
     have ha:kdL d f l≠[]:=fun q=>by
      obtain⟨p,h,hk⟩:=hA;have:=(kN (f:=f)).2 ⟨p,h,hk,rfl⟩;rw[q] at this;cases this
     obtain⟨p0,hp0,hk0⟩:=hB;obtain⟨a0,hh⟩: ∃a0,(kdL d f l).headD []=a0:=⟨_,rfl⟩;have hm:a0∈kdL d f l:=by
      match hq:kdL d f l,ha with
      |x::r,_=>rw[hq] at hh;simp at hh;simp[hh]
     simp only[hh];rw[Ye,Zt,YL,List.any_eq_false];constructor
     ·intro h x hx
      have key: ∀p∈l,∀q∈l,p.kind=d->q.kind=e->txR p f=txR q g:=fun p hp q hq k1 k2=>by
       have:=h p hp;rw[Zt] at this;have:=this q hq;unfold eqR at this;simpa [k1,k2] using this
      obtain⟨pa,ha1,ha2,ha3⟩:=kN.1 hm;simp only[YL,decide_eq_false_iff_not,Decidable.not_not];rcases Yt.1 hx with hx|hx
      ·obtain⟨q,q1,q2,q3⟩:=kN.1 hx
       rw[<-q3,<-ha3,key q q1 p0 hp0 q2 hk0,key pa ha1 p0 hp0 ha2 hk0]
      ·obtain⟨q,q1,q2,q3⟩:=kN.1 hx
       rw[<-q3,<-ha3,key pa ha1 q q1 ha2 q2]
     ·intro h p hp
      rw[Zt];intro q hq;unfold eqR;simp only[Yi,YL,Xi,decide_eq_false_iff_not,decide_eq_true_eq];by_cases k1:p.kind=d
      ·by_cases k2:q.kind=e
       ·right
        have e1:=h _ (Yt.2 (.inl (kN.2 ⟨p,hp,k1,rfl⟩)));have e2:=h _ (Yt.2 (.inr (kN.2 ⟨q,hq,k2,rfl⟩)));simp only[YL,decide_eq_false_iff_not,Decidable.not_not] at e1 e2;rw[e1,e2]
       ·exact .inl (.inr k2)
      ·exact .inl (.inl k1)
    ·rw[if_pos h1,if_neg h2,Yj.2 (fun q=>h2 (hok.1 q).2)];simp
   ·rw[if_neg h1,Yj.2 (fun q=>h1 (hok.1 q).1)];simp
  ·rw[if_neg (fun q=>he q.2),if_pos hd,if_neg he]
 ·rw[if_neg (fun q=>hd q.1),if_neg hd]
theorem zbZ (s:Txt): ∀n i,i+n=s.length->digsV (s.take i)<=digsV s
 |0,i,h=>by rw[ZU (by omega)];exact ZA _
 |n+1,i,h=>by
  have h1:=zbZ s n (i+1) (by omega);rw[kE (by omega)] at h1;omega
theorem zkI {s:Txt} (ha:s.all digB=true) (h0:s.getD 0 0≠48): ∀i,i+1<=s.length->10 ^ i<=digsV (s.take (i+1))
 |0,h=>by
  rw[kE (by omega)];have hd:=dG (Zt.1 ha s[0] (Zv _));have e:s.getD 0 0=s[0]:=by rw[Zm,Zk (by omega)];rfl
  rw[e] at h0;have h1:s[0].toNat≠48:=fun q=>h0 (by
   apply UInt8.toNat_inj.1;rw[q];rfl)
  have h2:10 ^ 0=1:=rfl;omega
 |i+1,h=>by
  have ih:=zkI ha h0 i (by omega);rw[kE (by omega),Wh];omega
theorem zq9 (s:Txt):numV s=if s.all digB=true/\s≠[]/\ ¬(s.getD 0 0=48/\s.length>1)/\digsV s<=1099511627776 then(((digsV s:Nat):Int),true) else(0,false):=by
 unfold numV;by_cases h0:s=[]
 ·rw[if_pos h0,if_neg (fun q=>q.2.1 h0)]
 rw[if_neg h0];by_cases h1:s.all digB=true
 ·rw[if_neg (by rw[ne_eq,Decidable.not_not,lX];exact h1)]
  have hpos:0<s.length:=Yl.2 h0;have h48:(s.getD 0 0=48/\s≠[48]) ↔ (s.getD 0 0=48/\s.length>1):=by
   refine and_congr_right fun h=>?_
   match s,h0,h with
   |[a],_,h=>simp at h;simp[h]
   |a::b::r,_,_=>simp
  by_cases h2:s.getD 0 0=48/\s.length>1
  ·rw[if_pos (h48.2 h2),if_neg (fun q=>q.2.2.1 h2)]
  ·rw[if_neg (fun q=>h2 (h48.1 q))]
   by_cases h3:s.length>13
   ·rw[if_pos h3,if_neg]
    rintro⟨_,_,_,q⟩;have h6:10 ^ 13<=digsV (s.take 14):=zkI h1 (fun z=>h2 ⟨z,by omega⟩) 13 (by omega);have h4:=zbZ s (s.length-14) 14 (by omega);have h5:(10:Nat) ^ 13=10000000000000:=by decide
    omega
   ·rw[if_neg h3]
    by_cases h4:digsV s>1099511627776
    ·rw[if_pos h4,if_neg (fun q=>by omega)]
    ·rw[if_neg h4,if_pos ⟨h1,h0,h2,by omega⟩]
 ·rw[if_pos (by rw[ne_eq,lX];exact h1),if_neg (fun q=>h1 q.1)]
end Go.Ex
namespace Go.Abs
open Go.Proofs Go.RowKit Go.Lib Go.Wd Go.Wire Go.Ex
theorem zra (s:Txt) (hl:s.length<=1000000):Spec Tryz.prog 156 [.str s] (fun v=>v=.tup [.int .i64 (numV s).1,.bool (numV s).2]):=by
 refine Spec.of_awlP hf156 okf156 (by simp) fun S hS=>?_
 rw[zq9] at hS;simp only[Qs,Ψ156];rw[uu f156l23.eq_1];refine zO (fun i:Nat=>[(0,.str s),(4,.int .i64 (digsV (s.take i):Nat)),(5,.int .i64 i)]) (fun _=>[]) (fun i=>i<=s.length/\(s.take i).all digB=true/\digsV (s.take i)<=10995116277769) (fun i=>s.length-i) 0 rfl rfl ⟨Zy _,rfl,by simp[digsV]⟩ ?_;rintro i ⟨hi,hA,hN⟩;by_cases hlt:i<s.length
 ·have d1:(i:Int)<s.length:=by omega
  have c4:IntKind.i64.wrap ((i:Int)+1)=(i:Int)+1:=wrap_in (by omega) (by omega);have hgt:=iI hlt;have hmono:=zbZ s (s.length-i) i (by omega);have g114:=zi7 s[i];have hts:=kE hlt;have hta:(s.take (i+1)).all digB=((s.take i).all digB&&digB s[i]):=by rw[Zz hlt,Xe];simp
  have hall:s.all digB=true->digB s[i]=true:=fun q=>Zt.1 q _ (Zv hlt)
  rw[hA,ZC] at hta;generalize s[i]=c at hgt g114 hts hta hall;cases hd:digB c with
  |false=>
   rw[hd] at g114 hall;rw[if_neg (fun q=>by have:=hall q.1;cases this)] at hS;simp only[d1,hgt,Qs,Za,Ψ156];refine rM g114 ?_ (ha:=by rfl);simp only[Qs,Zi,Za,Ψ156];exact hS _ rfl
  |true=>
   rw[hd] at g114 hta;by_cases hbig:(digsV (s.take i):Int)>1099511627776
   ·rw[if_neg (fun q=>by omega)] at hS
    simp only[d1,hgt,Qs,Za,Ψ156];refine rM g114 ?_ (ha:=by rfl);simp only[hbig,Qs,Zi,Za,Ψ156];exact hS _ rfl
   ·have hr:=dG hd
    have w1:IntKind.i64.wrap (10*(digsV (s.take i):Int))=10*(digsV (s.take i):Int):=wrap_in (by omega) (by omega);have w0:IntKind.i64.wrap (c.toNat:Int)=(c.toNat:Int):=wrap_in (by omega) (by omega);have w2:IntKind.i64.wrap (10*(digsV (s.take i):Int)+(c.toNat:Int))=10*(digsV (s.take i):Int)+(c.toNat:Int):=wrap_in (by omega) (by omega);have w3:IntKind.i64.wrap (10*(digsV (s.take i):Int)+(c.toNat:Int)-48)=((digsV (s.take (i+1)):Nat):Int):=by rw[wrap_in (by omega) (by omega)];omega
    simp only[d1,hgt,Qs,Za,Ψ156];refine rM g114 ?_ (ha:=by rfl);simp only[hbig,hgt,c4,w0,w1,w2,w3,Qs,zaE,oL,zaG,Za,Ψ156];exact⟨by omega,Next.intro (i+1) rfl rfl ⟨by omega,by rw[hta],by omega⟩ (by omega)⟩
 ·obtain rfl:i=s.length:=by omega
  have d1: ¬(s.length:Int)<s.length:=by omega
  rw[Yh] at hA hN;rw[hA] at hS;rw[Yh];simp only[d1,Qs,Zi,Za,Yy,Ψ156];have h48:((s.getD 0 0).toNat:Int)=48 ↔ s.getD 0 0=48:=
   ⟨fun q=>UInt8.toNat_inj.1 (by have:(48:UInt8).toNat=48:=rfl;omega),fun q=>by rw[q];rfl⟩
  have hne:s≠[] ↔ 0<s.length:=Yl.symm;rw[h48];by_cases p1:s.length<1
  ·rw[if_neg (fun q=>by have:=hne.1 q.2.1;omega)] at hS
   exact⟨fun _=>hS _ rfl,fun q=>absurd p1 (by omega)⟩
  refine⟨fun q=>absurd q (by omega),fun _=>⟨fun p2=>⟨by omega,fun p3=>?_,fun p3=>⟨fun p4=>?_,fun p4=>?_⟩⟩,fun p2=>⟨fun p4=>?_,fun p4=>?_⟩⟩⟩
  ·rw[if_neg (fun q=>q.2.2.1 ⟨p3,by omega⟩)] at hS;exact hS _ rfl
  ·rw[if_neg (fun q=>by omega)] at hS;exact hS _ rfl
  ·rw[if_pos ⟨rfl,hne.2 (by omega),fun q=>p3 q.1,by omega⟩] at hS;exact hS _ rfl
  ·rw[if_neg (fun q=>by omega)] at hS;exact hS _ rfl
  ·rw[if_pos ⟨rfl,hne.2 (by omega),fun q=>by omega,by omega⟩] at hS;exact hS _ rfl
end Go.Abs
namespace Go.Ex
open Go.Lib Go.Wd Go.Wire Go.Abs
theorem zb0 {α:Type} {l:List α} {i:Nat} (h:i<l.length) (p:α->Bool):(l.take (i+1)).all p=((l.take i).all p&&p l[i]):=by
 rw[Zz h,Xe];simp
theorem zkJ {l:List Pln} {i:Nat} (h:i<l.length) (d:Txt):kindP (l.take (i+1)) d=(kindP (l.take i) d||decide (l[i].kind=d)):=by
 unfold kindP;rw[Zz h,List.any_append];simp
theorem zkK {d f e g:Txt} {p:Pln} (h:okR d f e g p=true):(p.kind=d->0<=zZ p f)/\(p.kind=e->0<=zZ p g):=by
 unfold okR at h;simp only[YL,Bool.or_eq_false_iff,Xi,decide_eq_false_iff_not] at h;refine⟨fun k=>?_,fun k=>?_⟩
 ·rcases h.1 with q|q
  ·exact absurd k q
  ·omega
 ·rcases h.2 with q|q
  ·exact absurd k q
  ·omega
end Go.Ex
namespace Go.Abs
open Go.Proofs Go.RowKit Go.Lib Go.Wd Go.Wire Go.Ex
theorem cG {P:Program} {a:AQ} {K:AE->KK} {ts:TS} {os:OS} (h: ∀Q:AE->KK,(∀e ts os,K e ts os->Q e ts os)->awl P a Q ts os):awl P a K ts os:=h K fun _ _ _ h=>h
theorem zb1 {p:Pln} {f:Txt} (h:0<=zZ p f):(0<=zZ p f/\zZ p f<p.texts.length)/\(zK p.texts).getD (zZ p f).toNat []=[.str (txR p f)]:=by
 have ht:=zkG p f;refine⟨⟨h,ht⟩,?_⟩;have hlt:(zZ p f).toNat<p.texts.length:=by omega
 rw[vU hlt];unfold txR;rw[Zm,Zk hlt];rfl
theorem zrb (m:Dmd) (l:List Pln) (hl:wU l):Spec Tryz.prog 155 [.agg (zM m),lst 3 (l.map zX)] (fun v=>v=.bool (agreesP m.doc m.fld m.oth m.sec l)):=by
 refine Spec.of_awlS hf155 okf155 (by simp) fun S hS=>?_
 have hlen:=hl.1;rw[<-zq8] at hS;obtain⟨op,d,f,e,g,t,lo,hi⟩:=m;unfold zM;unfold zbX at hS;simp only[] at hS;simp only[zB,Qs,Zb,Za,Ψ155];rw[uu f155l51.eq_1];refine zO (fun i:Nat=>[(1,lst 3 (l.map zX)),(2,.k (.c (.ro [.int .i64 op,.str d,.str f,.str e,.str g,.str t,.int .i64 lo,.int .i64 hi] 0))),(5,.bool (kindP (l.take i) d)),(6,.bool (kindP (l.take i) e)),(7,.bool ((l.take i).all (okR d f e g))),(8,.int .i64 i)]) (fun _=>[]) (fun i=>i<=l.length) (fun i=>l.length-i) 0 rfl rfl (Zy _) ?_;intro i hi0;by_cases hlt:i<l.length
 ·have d1:(i:Int)<l.length:=by omega
  have c4:IntKind.i64.wrap ((i:Int)+1)=(i:Int)+1:=wrap_in (by omega) (by omega);have hat:=qW hlt;have hp:=hl.2 _ (Zv hlt);have k1:=zkJ hlt d;have k2:=zkJ hlt e;have k3:=zb0 hlt (okR d f e g);generalize l[i]=p at hat hp k1 k2 k3;have g1:=mQ p f hp.ns;have g2:=mQ p g hp.ns;unfold zX at g1 g2;generalize kindP (l.take i) d=A at k1⊢;generalize kindP (l.take i) e=B at k2⊢;generalize (l.take i).all (okR d f e g)=O at k3⊢;have k4:okR d f e g p= !((decide (p.kind=d)&&decide (zZ p f<0))||(decide (p.kind=e)&&decide (zZ p g<0))):=rfl;rw[k4] at k3;refine cG fun Q hQ=>?_
  have key3: ∀A' B':Bool,kindP (l.take (i+1)) d=A'->kindP (l.take (i+1)) e=B'->awl Tryz.prog f155b40 (AE.inBlockL 1 (AE.thenL (awl Tryz.prog (.region f155r36) Q) Q)) [(1,lst 3 (l.map zX)),(2,.k (.c (.ro [.int .i64 op,.str d,.str f,.str e,.str g,.str t,.int .i64 lo,.int .i64 hi] 0))),(5,.bool A'),(6,.bool B'),(7,.bool O),(8,.int .i64 i)] []:=by
   intro A' B' hA hB;by_cases q1':p.kind=d
   ·have q1:=eq_true q1'
    by_cases q2':p.kind=e
    ·have q2:=eq_true q2'
     by_cases r1':zZ p f<0
     ·have r1:=eq_true r1'
      simp only[q1,q2,r1,decide_true,decide_false,ZC,Y9,ZF,Yo,YI,Xd,YQ,Yd,YH,Yu] at k3;simp only[d1,q1,q2,r1,hat,zB,c4,Qs,forall_const,Zb,Zd,Za,Ze,Ψ155,uu f155b40.eq_1,vv f155r36.eq_1];refine xI g1 ?_ (ha:=by simp only[Zj,Zo,zC,V.norm,C.norm,C.normRow,zI,yM]<;>rfl);simp only[d1,q1,q2,r1,hat,zB,c4,Qs,Za,Ψ155,uu f155b40.eq_1,vv f155r36.eq_1];exact hQ .normal _ _ (Next.intro (i+1) (by simp only[hA,hB,k3];rfl) rfl (by omega) (by omega))
     ·have r1:=eq_false r1'
      by_cases r2':zZ p g<0
      ·have r2:=eq_true r2'
       simp only[q1,q2,r1,r2,decide_true,decide_false,ZC,Y9,ZF,Yo,YI,Xd,YQ,Yd,YH,Yu] at k3;simp only[d1,q1,q2,r1,r2,hat,zB,c4,Qs,forall_const,Zb,Zd,Za,Ze,Ψ155,uu f155b40.eq_1,vv f155r36.eq_1];refine xI g1 ?_ (ha:=by simp only[Zj,Zo,zC,V.norm,C.norm,C.normRow,zI,yM]<;>rfl);simp only[d1,q1,q2,r1,r2,hat,zB,c4,Qs,forall_const,Zb,Zd,Za,Ze,Ψ155,uu f155b40.eq_1,vv f155r36.eq_1];refine xI g2 ?_ (ha:=by simp only[Zj,Zo,zC,V.norm,C.norm,C.normRow,zI,yM]<;>rfl);simp only[d1,q1,q2,r1,r2,hat,zB,c4,Qs,Za,Ψ155,uu f155b40.eq_1,vv f155r36.eq_1];exact hQ .normal _ _ (Next.intro (i+1) (by simp only[hA,hB,k3];rfl) rfl (by omega) (by omega))
      ·have r2:=eq_false r2'
       simp only[q1,q2,r1,r2,decide_true,decide_false,ZC,Y9,ZF,Yo,YI,Xd,YQ,Yd,YH,Yu] at k3;simp only[d1,q1,q2,r1,r2,hat,zB,c4,Qs,forall_const,Zb,Zd,Za,Ze,Ψ155,uu f155b40.eq_1,vv f155r36.eq_1];refine xI g1 ?_ (ha:=by simp only[Zj,Zo,zC,V.norm,C.norm,C.normRow,zI,yM]<;>rfl);simp only[d1,q1,q2,r1,r2,hat,zB,c4,Qs,forall_const,Zb,Zd,Za,Ze,Ψ155,uu f155b40.eq_1,vv f155r36.eq_1];refine xI g2 ?_ (ha:=by simp only[Zj,Zo,zC,V.norm,C.norm,C.normRow,zI,yM]<;>rfl);simp only[d1,q1,q2,r1,r2,hat,zB,c4,Qs,Za,Ψ155,uu f155b40.eq_1,vv f155r36.eq_1];exact hQ .normal _ _ (Next.intro (i+1) (by simp only[hA,hB,k3];rfl) rfl (by omega) (by omega))
    ·have q2:=eq_false q2'
     by_cases r1':zZ p f<0
     ·have r1:=eq_true r1'
      simp only[q1,q2,r1,decide_true,decide_false,ZC,Y9,ZF,Yo,YI,Xd,YQ,Yd,YH,Yu] at k3;simp only[d1,q1,q2,r1,hat,zB,c4,Qs,forall_const,Zb,Zd,Za,Ze,Ψ155,uu f155b40.eq_1,vv f155r36.eq_1];refine xI g1 ?_ (ha:=by simp only[Zj,Zo,zC,V.norm,C.norm,C.normRow,zI,yM]<;>rfl);simp only[d1,q1,q2,r1,hat,zB,c4,Qs,Za,Ψ155,uu f155b40.eq_1,vv f155r36.eq_1];exact hQ .normal _ _ (Next.intro (i+1) (by simp only[hA,hB,k3];rfl) rfl (by omega) (by omega))
     ·have r1:=eq_false r1'
      simp only[q1,q2,r1,decide_true,decide_false,ZC,Y9,ZF,Yo,YI,Xd,YQ,Yd,YH,Yu] at k3;simp only[d1,q1,q2,r1,hat,zB,c4,Qs,forall_const,Zb,Zd,Za,Ze,Ψ155,uu f155b40.eq_1,vv f155r36.eq_1];refine xI g1 ?_ (ha:=by simp only[Zj,Zo,zC,V.norm,C.norm,C.normRow,zI,yM]<;>rfl);simp only[d1,q1,q2,r1,hat,zB,c4,Qs,forall_const,Zb,Zd,Za,Ze,Ψ155,uu f155b40.eq_1,vv f155r36.eq_1];exact hQ .normal _ _ (Next.intro (i+1) (by simp only[hA,hB,k3];rfl) rfl (by omega) (by omega))
   ·have q1:=eq_false q1'
    by_cases q2':p.kind=e
    ·have q2:=eq_true q2'
     by_cases r2':zZ p g<0
     ·have r2:=eq_true r2'
      simp only[q1,q2,r2,decide_true,decide_false,ZC,Y9,ZF,Yo,YI,Xd,YQ,Yd,YH,Yu] at k3;simp only[d1,q1,q2,r2,hat,zB,c4,Qs,forall_const,Zb,Zd,Za,Ze,Ψ155,uu f155b40.eq_1,vv f155r36.eq_1];refine xI g2 ?_ (ha:=by simp only[Zj,Zo,zC,V.norm,C.norm,C.normRow,zI,yM]<;>rfl);simp only[d1,q1,q2,r2,hat,zB,c4,Qs,Za,Ψ155,uu f155b40.eq_1,vv f155r36.eq_1];exact hQ .normal _ _ (Next.intro (i+1) (by simp only[hA,hB,k3];rfl) rfl (by omega) (by omega))
     ·have r2:=eq_false r2'
      simp only[q1,q2,r2,decide_true,decide_false,ZC,Y9,ZF,Yo,YI,Xd,YQ,Yd,YH,Yu] at k3;simp only[d1,q1,q2,r2,hat,zB,c4,Qs,forall_const,Zb,Zd,Za,Ze,Ψ155,uu f155b40.eq_1,vv f155r36.eq_1];refine xI g2 ?_ (ha:=by simp only[Zj,Zo,zC,V.norm,C.norm,C.normRow,zI,yM]<;>rfl);simp only[d1,q1,q2,r2,hat,zB,c4,Qs,Za,Ψ155,uu f155b40.eq_1,vv f155r36.eq_1];exact hQ .normal _ _ (Next.intro (i+1) (by simp only[hA,hB,k3];rfl) rfl (by omega) (by omega))
    ·have q2:=eq_false q2'
     simp only[q1,q2,decide_true,decide_false,ZC,Y9,ZF,Yo,YI,Xd,YQ,Yd,YH,Yu] at k3;simp only[d1,q1,q2,hat,zB,c4,Qs,forall_const,Zb,Zd,Za,Ze,Ψ155,uu f155b40.eq_1,vv f155r36.eq_1];exact hQ .normal _ _ (Next.intro (i+1) (by simp only[hA,hB,k3];rfl) rfl (by omega) (by omega))
  have key2: ∀A':Bool,kindP (l.take (i+1)) d=A'->awl Tryz.prog f155b42 (AE.inBlockL 1 (AE.thenL (awl Tryz.prog (.region f155r36) Q) Q)) [(1,lst 3 (l.map zX)),(2,.k (.c (.ro [.int .i64 op,.str d,.str f,.str e,.str g,.str t,.int .i64 lo,.int .i64 hi] 0))),(5,.bool A'),(6,.bool B),(7,.bool O),(8,.int .i64 i)] []:=by
   intro A' hA;cases B with
   |true=>
    simp only[d1,hat,zB,Qs,Za,Ψ155,uu f155b42.eq_1];exact key3 A' true hA (by rw[k2];rfl)
   |false=>
    simp only[d1,hat,zB,Qs,Zb,Zd,Za,Ze,Ψ155,uu f155b42.eq_1];exact key3 A' (p.kind==e) hA (by rw[k2,Yd,Ye];simp)
  cases A with
  |true=>
   simp only[d1,hat,zB,Qs,Za,Ze,Ψ155];exact key2 true (by rw[k1];rfl)
  |false=>
   simp only[d1,hat,zB,Qs,Zb,Zd,Za,Ze,Ψ155];exact key2 (p.kind==d) (by rw[k1,Yd,Ye];simp)
 ·obtain rfl:i=l.length:=by omega
  have d1: ¬(l.length:Int)<l.length:=by omega
  rw[Yh];cases hA:kindP l d with
  |false=>
   rw[hA,if_neg (by simp)] at hS;simp only[d1,zB,Qs,Za,Ze,Ψ155];exact hS
  |true=>
   cases hB:kindP l e with
   |false=>
    rw[hA,hB,if_neg (by simp)] at hS;simp only[d1,zB,Qs,Za,Ze,Ψ155];exact hS
   |true=>
    rw[hA,hB,if_pos ⟨rfl,rfl⟩] at hS;have hok:l.all (okR d f e g)=true-> ∀p∈l,okR d f e g p=true:=fun h=>Zt.1 h
    generalize l.all (okR d f e g)=O at hS hok⊢;simp only[d1,zB,Qs,Za,Ze,Ψ155];rw[uu f155l25.eq_1];refine zO (fun i:Nat=>[(1,lst 3 (l.map zX)),(2,.k (.c (.ro [.int .i64 op,.str d,.str f,.str e,.str g,.str t,.int .i64 lo,.int .i64 hi] 0))),(7,.bool (O&&(l.take i).all fun p=>l.all (eqR d f e g p))),(9,.int .i64 i)]) (fun _=>[]) (fun i=>i<=l.length) (fun i=>l.length-i) 0 (by simp;rfl) rfl (Zy _) ?_;intro i hil;by_cases hlt:i<l.length
    ·have e1:(i:Int)<l.length:=by omega
     have e4:IntKind.i64.wrap ((i:Int)+1)=(i:Int)+1:=wrap_in (by omega) (by omega);cases hb:(O&&(l.take i).all fun p=>l.all (eqR d f e g p)) with
     |false=>
      have hall:(O&&l.all fun p=>l.all (eqR d f e g p))=false:=by
       rw[Yj];intro h;rw[Zp,Zt] at h;rw[Xi] at hb;rcases hb with hb|hb
       ·rw[h.1] at hb;cases hb
       ·rw[Yj] at hb
        exact hb (Zt.2 fun x hx=>h.2 x (Xl hx))
      rw[hall] at hS;simp only[e1,zB,Qs,Za,Ze,Ψ155];exact hS
     |true=>
      have hO:O=true:=by rw[Zp] at hb;exact hb.1
      have hok:=hok hO;have hat:=qW hlt;have hp:=hl.2 _ (Zv hlt);have hkp:=zkK (hok _ (Zv hlt));have hnx:(O&&(l.take (i+1)).all fun p=>l.all (eqR d f e g p))=l.all (eqR d f e g l[i]):=by rw[zb0 hlt,<-X4,hb,ZC]
      generalize l[i]=p at hat hp hkp hnx;have g1:=mQ p f hp.ns;unfold zX at g1;simp only[e1,zB,Qs,Za,Ze,Ψ155];rw[uu f155l15.eq_1];refine zO (fun k:Nat=>[(1,lst 3 (l.map zX)),(2,.k (.c (.ro [.int .i64 op,.str d,.str f,.str e,.str g,.str t,.int .i64 lo,.int .i64 hi] 0))),(7,.bool ((l.take k).all (eqR d f e g p))),(9,.int .i64 i),(10,.int .i64 k)]) (fun _=>[]) (fun k=>k<=l.length) (fun k=>l.length-k) 0 rfl rfl (Zy _) ?_;intro k hk;by_cases hkt:k<l.length
      ·have m1:(k:Int)<l.length:=by omega
       have m4:IntKind.i64.wrap ((k:Int)+1)=(k:Int)+1:=wrap_in (by omega) (by omega);cases hc:(l.take k).all (eqR d f e g p) with
       |false=>
        have hall:l.all (eqR d f e g p)=false:=by
         rw[Yj] at hc⊢;intro h;exact hc (Zt.2 fun x hx=>Zt.1 h x (Xl hx))
        rw[hall] at hnx;simp only[m1,e4,zB,Qs,Zn,Za,Ze,Ψ155];exact Next.intro (i+1) (by simp only[hnx];rfl) rfl (by omega) (by omega)
       |true=>
        have hat2:=qW hkt;have hq:=hl.2 _ (Zv hkt);have hkq:=zkK (hok _ (Zv hkt));have hny:(l.take (k+1)).all (eqR d f e g p)=eqR d f e g p l[k]:=by rw[zb0 hkt,hc,ZC]
        generalize l[k]=q at hat2 hq hkq hny;have g2:=mQ q g hq.ns;unfold zX at g2;obtain⟨Y,hY⟩: ∃Y,(l.take (k+1)).all (eqR d f e g p)=Y:=⟨_,rfl⟩;rw[hY] at hny;unfold eqR at hny;refine cG fun Q hQ=>?_
        by_cases q1':p.kind=d
        ·have q1:=eq_true q1'
         obtain⟨tp1,tp2⟩:=zb1 (hkp.1 q1');by_cases q2':q.kind=e
         ·have q2:=eq_true q2'
          obtain⟨tq1,tq2⟩:=zb1 (hkq.2 q2');simp only[m1,e1,hat,hat2,q1,q2,zB,Qs,forall_const,Zb,Zd,Za,Ze,Ψ155];refine xI g1 ?_ (ha:=by simp only[Zj,Zo,zC,V.norm,C.norm,C.normRow,zI,yM]<;>rfl);simp only[m1,e1,hat,hat2,q1,q2,tp1,tp2,zQ,zB,Qs,Zb,Zd,Za,Ze];refine xI g2 ?_ (ha:=by simp only[Zj,Zo,zC,V.norm,C.norm,C.normRow,zI,yM]<;>rfl);simp only[m1,e1,m4,hat,hat2,q1,q2,tq1,tq2,zQ,zB,Qs,Za];have hny2:Y=(txR p f==txR q g):=by rw[hny,decide_eq_true q1',decide_eq_true q2',Ye];simp
          exact hQ .normal _ _ (Next.intro (k+1) (by simp only[hY,hny2];rfl) rfl (by omega) (by omega))
         ·have q2:=eq_false q2'
          simp only[q1,q2,decide_true,decide_false,Yo,Yu,YI] at hny;simp only[m1,e1,m4,hat,hat2,q1,q2,zB,Qs,forall_const,Zb,Zd,Za,Ze,Ψ155];exact hQ .normal _ _ (Next.intro (k+1) (by simp only[hY,hny];rfl) rfl (by omega) (by omega))
        ·have q1:=eq_false q1'
         simp only[q1,decide_false,ZF,Yu,YI] at hny;simp only[m1,e1,m4,hat,hat2,q1,zB,Qs,forall_const,Zb,Zd,Za,Ze,Ψ155];exact hQ .normal _ _ (Next.intro (k+1) (by simp only[hY,hny];rfl) rfl (by omega) (by omega))
      ·obtain rfl:k=l.length:=by omega
       have m1: ¬(l.length:Int)<l.length:=by omega
       rw[Yh];simp only[m1,e4,zB,Qs,Zn,Za,Ze,Ψ155];exact Next.intro (i+1) (by simp only[hnx];rfl) rfl (by omega) (by omega)
    ·obtain rfl:i=l.length:=by omega
     have e1: ¬(l.length:Int)<l.length:=by omega
     rw[Yh];simp only[e1,zB,Qs,Za,Ze,Ψ155];exact hS
end Go.Abs
namespace Go.Ex
def kO (i:Nat):Nat:=i*1099511627776
theorem zrc (i:Nat):kO (i+1)=kO i+1099511627776:=by unfold kO;omega
theorem zrd {i:Nat} (h:i<=1000000):kO i<=1099511627776000000:=by unfold kO;omega
end Go.Ex
namespace Go.Abs
open Go.Proofs Go.RowKit Go.Lib Go.Wd Go.Wire Go.Ex
theorem zre (m:Dmd) (l:List Pln) (hl:wU l):Spec Tryz.prog 121 [.agg (zM m),lst 3 (l.map zX)] (fun v=>v=.bool (vE m l)):=by
 refine Spec.of_awlS hf121 okf121 (by simp) fun S hS=>?_
 have hlen:=hl.1;have g155:=zrb m l hl;by_cases o3:m.op=3
 ·have hm:vE m l=agreesP m.doc m.fld m.oth m.sec l:=by unfold vE;rw[if_neg (by omega),if_neg (by omega),if_neg (by omega),if_pos o3]
  rw[hm] at hS;unfold zM at g155⊢;simp only[o3,Qs,BEq.rfl,Zb,Zd,Za,Ψ121];rw[o3] at g155;refine zD g155 ?_ (ha:=by simp only[Zj,Zo,zC,V.norm,C.norm,zS sJ,C.normRow]<;>rfl);simp only[Qs];exact hS
 rw[<-zq7 o3] at hS;clear g155;obtain⟨op,d,f,e,g,t,lo,hi⟩:=m;unfold zM;simp only[] at o3;simp only[o3,zB,Qs,forall_const,Zb,Zd,Za,Ψ121];rw[uu f121l67.eq_1];refine zO (fun x:Nat×Nat×Bool=>[(1,lst 3 (l.map zX)),(2,.k (.c (.ro [.int .i64 op,.str d,.str f,.str e,.str g,.str t,.int .i64 lo,.int .i64 hi] 0))),(5,.int .i64 (x.2.1:Nat)),(6,.bool x.2.2),(7,.int .i64 x.1)]) (fun _=>[]) (fun x=>x.1<=l.length/\x.2.1<=kO x.1/\metG ⟨op,d,f,e,g,t,lo,hi⟩ (l.drop x.1) (x.2.1:Nat) x.2.2=metG ⟨op,d,f,e,g,t,lo,hi⟩ l 0 false) (fun x=>l.length-x.1) (0,0,false) rfl rfl ⟨Zy _,Zy _,rfl⟩ ?_;rintro⟨i,s,b⟩ ⟨hil,hsb,hD⟩;simp only[] at hil hsb hD;generalize metG ⟨op,d,f,e,g,t,lo,hi⟩ l 0 false=G at hS hD;by_cases hlt:i<l.length
 ·have d1:(i:Int)<l.length:=by omega
  have c4:IntKind.i64.wrap ((i:Int)+1)=(i:Int)+1:=wrap_in (by omega) (by omega);have hB1:=zrc i;have hB2:=zrd (i:=i) (by omega);have hat:=qW hlt;have hp:=hl.2 _ (Zv hlt);rw[Zx hlt,metG] at hD;dsimp only at hD;generalize l[i]=p at hat hp hD;have g1:=mQ p f hp.ns;unfold zX at g1;by_cases q1':p.kind=d
  ·have q1:=eq_true q1'
   rw[if_pos q1'] at hD;refine cG fun Q hQ=>?_
   simp only[d1,hat,q1,zB,Qs,forall_const,Zb,Zd,Za,Ze,Ψ121];refine xI g1 ?_ (ha:=by simp only[Zj,Zo,zC,V.norm,C.norm,C.normRow,zI,yM]<;>rfl);by_cases o0':op=0
   ·have o0:=eq_true o0'
    have o1:(op=1)=False:=eq_false (by omega);have o2:(op=2)=False:=eq_false (by omega);have o4:(op=4)=False:=eq_false (by omega);rw[if_neg (show¬(op≠0/\zZ p f<0) from fun q=>q.1 o0'),if_neg (show¬(op=1/\txR p f≠t) by omega),if_neg (show¬(op=2\/op=4) by omega)] at hD;simp only[d1,c4,hat,q1,o0,o1,o2,o4,zB,Qs,reduceCtorEq,implies_true,forall_const,Zb,Zd,Za,Ze,implies_true,Ψ121];exact hQ .normal _ _ (Next.intro (i+1,s,true) rfl rfl ⟨by simp only;omega,by simp only;omega,hD⟩ (by simp only;omega))
   have o0:=eq_false o0';by_cases r1':zZ p f<0
   ·have r1:=eq_true r1'
    rw[if_pos (show op≠0/\zZ p f<0 from⟨o0',r1'⟩)] at hD;rw[<-hD] at hS;simp only[d1,c4,hat,q1,o0,r1,zB,Qs,reduceCtorEq,implies_true,forall_const,Zb,Zd,Za,Ze,implies_true,Ψ121];refine hQ .ret _ _ ?_;simp only[Qs];exact hS
   have r1:=eq_false r1';rw[if_neg (show¬(op≠0/\zZ p f<0) from fun q=>r1' q.2)] at hD;obtain⟨tp1,tp2⟩:=zb1 (p:=p) (f:=f) (by omega);by_cases o1':op=1
   ·have o1:=eq_true o1'
    have o2:(op=2)=False:=eq_false (by omega);have o4:(op=4)=False:=eq_false (by omega);by_cases ht':txR p f=t
    ·have ht:=eq_true ht'
     rw[if_neg (show¬(op=1/\txR p f≠t) from fun q=>q.2 ht'),if_neg (show¬(op=2\/op=4) by omega)] at hD;simp only[d1,c4,hat,q1,o0,o1,o2,o4,r1,tp1,tp2,ht,zQ,zB,Qs,forall_const,Zb,Zd,Za,Ze,Ψ121];exact hQ .normal _ _ (Next.intro (i+1,s,true) rfl rfl ⟨by simp only;omega,by simp only;omega,hD⟩ (by simp only;omega))
    ·have ht:=eq_false ht'
     rw[if_pos (show op=1/\txR p f≠t from⟨o1',ht'⟩)] at hD;rw[<-hD] at hS;simp only[d1,c4,hat,q1,o0,o1,o2,o4,r1,tp1,tp2,ht,zQ,zB,Qs,forall_const,Zb,Zd,Za,Ze,Ψ121];refine hQ .ret _ _ ?_;simp only[Qs];exact hS
   have o1:=eq_false o1';rw[if_neg (show¬(op=1/\txR p f≠t) from fun q=>o1' q.1)] at hD;by_cases o24:op=2\/op=4
   ·rw[if_pos o24] at hD
    have htl:(txR p f).length<=1000000:=by
     have hft:=zkG p f;have hlt2:(zZ p f).toNat<p.texts.length:=by omega
     have e:txR p f=p.texts[(zZ p f).toNat]:=by unfold txR;rw[Zm,Zk hlt2];rfl
     rw[e];exact hp.tx _ (Zv hlt2)
    have g156:=zra (txR p f) htl;have hnr:=zjf (txR p f);generalize txR p f=T at tp2 g156 hnr hD;generalize numV T=nv at g156 hnr hD;obtain⟨n,is⟩:=nv;simp only[] at g156 hnr hD;obtain⟨n,rfl⟩: ∃k:Nat,n=(k:Int):=⟨n.toNat,by omega⟩;have w1:IntKind.i64.wrap ((s:Int)+(n:Int))=((s+n:Nat):Int):=(wrap_in (by omega) (by omega)).trans (by omega);have hDn:((s:Int)+(n:Int))=((s+n:Nat):Int):=by omega
    rw[hDn] at hD;by_cases o2':op=2
    ·have o2:=eq_true o2'
     simp only[d1,hat,q1,o0,o1,o2,r1,tp1,tp2,zQ,zB,Qs,forall_const,Zb,Zd,Za,Ze,Ψ121];refine zD g156 ?_ (ha:=by rfl);cases is with
     |false=>
      rw[if_neg (by simp)] at hD;rw[<-hD] at hS;simp only[d1,hat,q1,o0,o1,o2,r1,zQ,zB,Qs,Za,Ψ121];refine hQ .ret _ _ ?_;simp only[Qs];exact hS
     |true=>
      by_cases l1':(n:Int)<lo
      ·have l1:=eq_true l1'
       rw[if_neg (fun q=>q.2 ⟨o2',.inl l1'⟩)] at hD;rw[<-hD] at hS;simp only[d1,hat,q1,o0,o1,o2,r1,l1,zQ,zB,Qs,forall_const,Zb,Zd,Za,Ψ121];refine hQ .ret _ _ ?_;simp only[Qs];exact hS
      have l1:=eq_false l1';by_cases l2':(n:Int)>hi
      ·have l2:=eq_true l2'
       rw[if_neg (fun q=>q.2 ⟨o2',.inr l2'⟩)] at hD;rw[<-hD] at hS;simp only[d1,hat,q1,o0,o1,o2,r1,l1,l2,zQ,zB,Qs,forall_const,Zb,Zd,Za,Ψ121];refine hQ .ret _ _ ?_;simp only[Qs];exact hS
      have l2:=eq_false l2';rw[if_pos ⟨rfl,fun q=>by rcases q.2 with q|q;exact l1' q;exact l2' q⟩] at hD;simp only[d1,c4,hat,q1,o0,o1,o2,r1,l1,l2,w1,zQ,zB,Qs,forall_const,Zb,Zd,Za,Ψ121];exact hQ .normal _ _ (Next.intro (i+1,s+n,true) rfl rfl ⟨by simp only;omega,by simp only;omega,hD⟩ (by simp only;omega))
    ·have o2:=eq_false o2'
     have o4:(op=4)=True:=eq_true (by omega);simp only[d1,hat,q1,o0,o1,o2,o4,r1,tp1,tp2,zQ,zB,Qs,forall_const,Zb,Zd,Za,Ze,Ψ121];refine zD g156 ?_ (ha:=by rfl);cases is with
     |false=>
      rw[if_neg (by simp)] at hD;rw[<-hD] at hS;simp only[d1,hat,q1,o0,o1,o2,o4,r1,zQ,zB,Qs,Za,Ψ121];refine hQ .ret _ _ ?_;simp only[Qs];exact hS
     |true=>
      rw[if_pos ⟨rfl,fun q=>o2' q.1⟩] at hD;simp only[d1,c4,hat,q1,o0,o1,o2,o4,r1,w1,zQ,zB,Qs,forall_const,Zb,Zd,Za,Ψ121];exact hQ .normal _ _ (Next.intro (i+1,s+n,true) rfl rfl ⟨by simp only;omega,by simp only;omega,hD⟩ (by simp only;omega))
   ·rw[if_neg o24] at hD
    have o2:(op=2)=False:=eq_false (fun q=>o24 (.inl q));have o4:(op=4)=False:=eq_false (fun q=>o24 (.inr q));simp only[d1,c4,hat,q1,o0,o1,o2,o4,r1,zB,Qs,reduceCtorEq,implies_true,forall_const,Zb,Zd,Za,Ze,implies_true,Ψ121];exact hQ .normal _ _ (Next.intro (i+1,s,true) rfl rfl ⟨by simp only;omega,by simp only;omega,hD⟩ (by simp only;omega))
  ·have q1:=eq_false q1'
   rw[if_neg q1'] at hD;simp only[d1,c4,hat,q1,zB,Qs,forall_const,Zb,Zd,Za,Ze,Ψ121];exact Next.intro (i+1,s,b) rfl rfl ⟨by simp only;omega,by simp only;omega,hD⟩ (by simp only;omega)
 ·obtain rfl:i=l.length:=by omega
  have d1: ¬(l.length:Int)<l.length:=by omega
  rw[List.drop_length,metG] at hD;rw[<-hD] at hS;unfold mS at hS;dsimp only at hS;by_cases o0':op=0
  ·have o0:=eq_true o0'
   rw[if_pos o0'] at hS;simp only[d1,o0,zB,Qs,forall_const,Zb,Zd,Za,Ze,Ψ121];exact hS
  have o0:=eq_false o0';rw[if_neg o0'] at hS;by_cases o1':op=1
  ·have o1:=eq_true o1'
   rw[if_pos (.inl o1')] at hS;simp only[d1,o0,o1,zB,Qs,forall_const,Zb,Zd,Za,Ze,Ψ121];exact hS
  have o1:=eq_false o1';by_cases o2':op=2
  ·have o2:=eq_true o2'
   rw[if_pos (.inr o2')] at hS;simp only[d1,o0,o1,o2,zB,Qs,forall_const,Zb,Zd,Za,Ze,Ψ121];exact hS
  have o2:=eq_false o2';rw[if_neg (by omega)] at hS;by_cases o4':op=4
  ·have o4:=eq_true o4'
   rw[if_pos o4'] at hS;simp only[d1,o0,o1,o2,o4,zB,Qs,forall_const,Zb,Zd,Za,Ze,Ψ121];refine⟨fun q=>?_,fun q=>?_⟩
   ·rw[decide_eq_true q,ZC] at hS;exact hS
   ·rw[decide_eq_false q,ZF] at hS;exact hS
  have o4:=eq_false o4';rw[if_neg o4'] at hS;simp only[d1,o0,o1,o2,o4,zB,Qs,forall_const,Zb,Zd,Za,Ze,Ψ121];exact hS
end Go.Abs
namespace Go.Ex
theorem zrf: ∀s,s<256-> ∀k,k<8->s.testBit k=false->s+2 ^ k=s|||(1<<<k):=by decide+kernel
theorem zrg: ∀s,s<256-> ∀k,k<8->s.testBit k=true->2 ^ k<=s/\s-2 ^ k=andN s (1<<<k):=by decide+kernel
end Go.Ex
namespace Go.Ex
def tJ (s i:Nat):List Nat:=(List.range i).filter fun k=>s.testBit k
theorem zb2 (s i:Nat):tJ s (i+1)=tJ s i++if s.testBit i=true then[i] else[]:=by
 unfold tJ;rw[YY,Y6,Xn,XK]
theorem zkL (s i:Nat):(tJ s i).length<=i:=ZX (Yr _ _) (by simp)
theorem zb3 {s:Nat} (h:s<1024):tJ s 30=bitsN s:=by
 unfold tJ bitsN;rw[show List.range 30=List.range 10++(List.range 20).map (10+ ·) from(List.range_add (n:=10) (m:=20)),Y6];have e:((List.range 20).map (10+ ·)).filter (fun k=>s.testBit k)=[]:=Wc.2 fun k hk q=>by
  obtain⟨j,_,rfl⟩:=ZL.1 hk;have:=(xM (m:=10)).1 h _ q;omega
 rw[e,Zi]
end Go.Ex
namespace Go.Abs
open Go.Proofs Go.RowKit Go.Lib Go.Wd Go.Wire Go.Ex
theorem zkM (s:Nat):Z2 64 (s:Int)=Wm 64 s:=by
 apply BitVec.eq_of_toNat_eq;rw[BitVec.toNat_ofInt,Xa];omega
theorem zkN {s t:Nat} (hs:s<9223372036854775808) (ht:t<9223372036854775808):IntKind.i64.wrap ((Z2 IntKind.i64.bits (s:Int)&&&Z2 IntKind.i64.bits (t:Int)).toNat:Int)=((s&&&t:Nat):Int):=by
 show IntKind.i64.wrap ((Z2 64 (s:Int)&&&Z2 64 (t:Int)).toNat:Int)=_;rw[zkM,zkM,BitVec.toNat_and,Xa,Xa,Xq (by omega),Xq (by omega)];have:=XW (Nat.and_le_left (n:=s) (m:=t)) hs;exact wrap_in (by omega) (by omega)
theorem iV {s k:Nat} (hs:s<9223372036854775808) (hk:k<64):IntKind.i64.wrap ((Z2 IntKind.i64.bits ((s:Int).fdiv (2 ^ min k IntKind.i64.bits))&&&Z2 IntKind.i64.bits 1).toNat:Int)=if s.testBit k=true then 1 else 0:=by
 have e:min k IntKind.i64.bits=k:=Y8 (show k<=64 by omega);rw[e,show((2:Int) ^ k)=((2 ^ k:Nat):Int) by simp,Int.fdiv_eq_ediv_of_nonneg _ (Int.natCast_nonneg _),<-X2];have h:=zkN (s:=s/2 ^ k) (t:=1) (XW (Xk _ _) hs) (by decide);rw[show((1:Nat):Int)=1 from rfl] at h;rw[h,Nat.and_one_is_mod,Nat.testBit_eq_decide_div_mod_eq];have:s/2 ^ k % 2=0\/s/2 ^ k % 2=1:=by omega
 rcases this with h|h<;>rw[h]<;>simp
theorem iW {k:Nat} (hk:k<62):IntKind.i64.wrap (1*2 ^ min k IntKind.i64.bits)=((2 ^ k:Nat):Int):=by
 have e:min k IntKind.i64.bits=k:=Y8 (show k<=64 by omega);rw[e,Int.one_mul,show((2:Int) ^ k)=((2 ^ k:Nat):Int) by simp];have:=XD (a:=2) (by decide) hk;rw[show(2:Nat) ^ 62=4611686018427387904 from rfl] at this;generalize 2 ^ k=x at this;exact wrap_in (by omega) (by omega)
theorem c45 (s:Nat) (h:s<256):Spec Tryz.prog 45 [.int .i64 (s:Int)] (fun v=>v=.int .i64 ((bitsN s).length:Nat)):=by
 refine Spec.of_awlS hf45 okf45 (by simp) fun S hS=>?_
 rw[<-zb3 (by omega)] at hS;simp only[Qs,Ψ45];rw[uu f45l11.eq_1];refine zO (fun i:Nat=>[(0,.int .i64 (s:Int)),(3,.int .i64 ((tJ s i).length:Nat)),(4,.int .i64 i)]) (fun _=>[]) (fun i=>i<=30) (fun i=>30-i) 0 rfl rfl (Zy _) ?_;intro i hi;have hl:=zkL s i;by_cases hlt:i<30
 ·have d1:(i:Int)<30:=by omega
  have c4:IntKind.i64.wrap ((i:Int)+1)=(i:Int)+1:=wrap_in (by omega) (by omega);have c5:=iV (s:=s) (k:=i) (by omega) (by omega);have hs:=zb2 s i;have c6:IntKind.i64.wrap (((tJ s i).length:Nat)+(if s.testBit i=true then(1:Int) else 0))=((tJ s (i+1)).length:Nat):=by
   rw[hs,Zr];split
   ·exact(wrap_in (by omega) (by omega)).trans (by simp)
   ·exact(wrap_in (by omega) (by omega)).trans (by simp)
  simp only[d1,c4,c5,c6,Qs,Za,Ψ45];exact Next.intro (i+1) rfl rfl (by omega) (by omega)
 ·obtain rfl:i=30:=by omega
  have d1: ¬((30:Nat):Int)<30:=by omega
  simp only[d1,Qs,Za,Xy,Ψ45];exact hS
theorem zkO (F:List Nat) (s:Nat) (hF: ∀f∈F,f<256) (hs:s<256) (hl:F.length<=1000000):Spec Tryz.prog 122 [lst 1 (zG (F.map fun(k:Nat)=>(k:Int))),.int .i64 (s:Int)] (fun v=>v=.bool (!hitP F s)):=by
 refine Spec.of_awlS hf122 okf122 (by simp) fun S hS=>?_
 simp only[yF,Ze,Qs,Zb,Ψ122];rw[uu f122l15.eq_1];refine zO (fun i:Nat=>[(0,lst 1 (zG (F.map fun(k:Nat)=>(k:Int)))),(1,.int .i64 (s:Int)),(5,.int .i64 i)]) (fun _=>[]) (fun i=>i<=F.length/\hitP (F.drop i) s=hitP F s) (fun i=>F.length-i) 0 rfl rfl ⟨Zy _,rfl⟩ ?_;rintro i ⟨hi,hD⟩;by_cases hlt:i<F.length
 ·have d1:(i:Int)<F.length:=by omega
  have c4:IntKind.i64.wrap ((i:Int)+1)=(i:Int)+1:=wrap_in (by omega) (by omega);have hat:(zG (F.map fun(k:Nat)=>(k:Int))).getD i []=[.int .i64 (F[i]:Int)]:=by simp[zG,hlt]
  have hf:=hF _ (Zv hlt);rw[Zx hlt] at hD;generalize F[i]=f at hat hf hD;have c5:=zkN (s:=f) (t:=s) (by omega) (by omega);have hD2:(f&&&s !=0&&hitP (F.drop (i+1)) s)=hitP F s:=hD;by_cases hz:f&&&s=0
  ·rw[hz] at c5 hD2
   have hh:hitP F s=false:=by rw[<-hD2];rfl
   rw[hh] at hS;simp only[d1,hat,c5,yF,Ze,Qs,BEq.rfl,Za,Ze,Ψ122];exact hS
  ·have hnz: ¬((f&&&s:Nat):Int)=0:=by omega
   rw[bne_iff_ne.2 hz,ZC] at hD2;simp only[d1,c4,hat,c5,hnz,yF,Ze,Qs,forall_const,Za,Ze,Ψ122];exact Next.intro (i+1) rfl rfl ⟨by omega,hD2⟩ (by omega)
 ·have d1: ¬(i:Int)<F.length:=by omega
  rw[ZE (by omega)] at hD;rw[<-hD] at hS;simp only[d1,yF,Ze,Qs,Za,Ze,Ψ122];exact hS
theorem zkP {s i:Nat} {p:Nat->Bool} (h:(tJ s i).all p=true) (q: ¬s.testBit i=true\/p i=true):(tJ s (i+1)).all p=true:=by
 rw[zb2,Xe,h,ZC];split
 ·rename_i hb;rcases q with q|q
  ·exact absurd hb q
  ·simp[q]
 ·rfl
theorem zrh {s k:Nat} (hs:s<256) (hk:k<8) (hb:s.testBit k=true):IntKind.i64.wrap ((s:Int)-((2 ^ k:Nat):Int))=((andN s (1<<<k):Nat):Int)/\andN s (1<<<k)<256:=by
 have h:=zrg s hs k hk hb;rw[<-h.2];obtain⟨h1,_⟩:=h;generalize 2 ^ k=P at h1;exact⟨(wrap_in (by omega) (by omega)).trans (by omega),by omega⟩
theorem c88 (F:List Nat) (s:Nat) (hF: ∀f∈F,f<256) (hs:s<256) (hl:F.length<=1000000):Spec Tryz.prog 88 [lst 1 (zG (F.map fun(k:Nat)=>(k:Int))),.int .i64 (s:Int)] (fun v=>v=.bool (wZ F s)):=by
 refine Spec.of_awlS hf88 okf88 (by simp) fun S hS=>?_
 have g:=zkO F s hF hs hl;unfold wZ at hS;rw[<-zb3 (by omega)] at hS;simp only[Qs,Zb,Za,Ψ88];cases hh:hitP F s with
 |false=>
  rw[hh] at g hS;refine zD g ?_ (ha:=by simp only[Zj,Zo,zC,V.norm,zI,wD]<;>rfl);simp only[Yu,Qs,Ψ88];exact hS
 |true=>
  rw[hh] at g hS;refine zD g ?_ (ha:=by simp only[Zj,Zo,zC,V.norm,zI,wD]<;>rfl);simp only[YH,Qs,Ψ88];rw[uu f88l15.eq_1];refine zO (fun i:Nat=>[(0,lst 1 (zG (F.map fun(k:Nat)=>(k:Int)))),(1,.int .i64 (s:Int)),(5,.int .i64 i)]) (fun _=>[]) (fun i=>i<=30/\(tJ s i).all (fun k=> !hitP F (andN s (1<<<k)))=true) (fun i=>30-i) 0 rfl rfl ⟨Zy _,rfl⟩ ?_;rintro i ⟨hi,hA⟩;by_cases hlt:i<30
  ·have d1:(i:Int)<30:=by omega
   have c4:IntKind.i64.wrap ((i:Int)+1)=(i:Int)+1:=wrap_in (by omega) (by omega);have c5:=iV (s:=s) (k:=i) (by omega) (by omega);cases hb:s.testBit i with
   |true=>
    have hi8:i<8:=(xM (m:=8)).1 hs i hb;have c6:=iW (k:=i) (by omega);obtain⟨c7,hlt2⟩:=zrh hs hi8 hb;have g2:=zkO F (andN s (1<<<i)) hF hlt2 hl;rw[if_pos hb] at c5;simp only[d1,c4,c5,c6,c7,Qs,oK,oL,BEq.rfl,Za,Ψ88];cases hq:hitP F (andN s (1<<<i)) with
    |true=>
     rw[hq] at g2;refine zD g2 ?_ (ha:=by simp only[Zj,Zo,zC,V.norm,zI,wD]<;>rfl);have hall:(tJ s 30).all (fun k=> !hitP F (andN s (1<<<k)))=false:=by
      rw[Yj];intro h;have:=Zt.1 h i (Z8.2 ⟨Yb.2 hlt,hb⟩);rw[hq] at this;cases this
     rw[hall] at hS;simp only[YH,Qs,Za,Ψ88];exact hS
    |false=>
     rw[hq] at g2;refine zD g2 ?_ (ha:=by simp only[Zj,Zo,zC,V.norm,zI,wD]<;>rfl);simp only[Yu,c4,Qs,Za,Ψ88];exact Next.intro (i+1) rfl rfl ⟨by omega,zkP hA (.inr (by rw[hq];rfl))⟩ (by omega)
   |false=>
    rw[if_neg (by simp[hb])] at c5;simp only[d1,c4,c5,Qs,Za,YN,Ψ88];exact Next.intro (i+1) rfl rfl ⟨by omega,zkP hA (.inl (by simp[hb]))⟩ (by omega)
  ·obtain rfl:i=30:=by omega
   have d1: ¬((30:Nat):Int)<30:=by omega
   rw[hA] at hS;simp only[d1,Qs,Za,Xy,Ψ88];exact hS
end Go.Abs
namespace Go.Ex
def ltB (a b:Nat):Bool:=vA (bitsN a) (bitsN b)
def sP (set:Nat):List Nat->List Nat->Bool->List Nat
 |[],nx,dn=>if dn=true then nx else nx++[set]
 |r::l,nx,dn=>if dn=false/\ltB set r=true then sP set l (nx++[set]++[r]) true else sP set l (nx++[r]) dn
theorem zkQ (s:Nat): ∀l nx,sP s l nx true=nx++l
 |[],nx=>by simp[sP]
 |r::l,nx=>by rw[sP,if_neg (by simp),zkQ s l];simp
theorem zkR (s:Nat): ∀l nx,sP s l nx false=nx++insO ltB s l
 |[],nx=>by simp[sP,insO]
 |r::l,nx=>by
  rw[sP,insO];by_cases h:ltB s r=true
  ·rw[if_pos ⟨rfl,h⟩,if_pos h,zkQ];simp
  ·rw[if_neg (fun q=>h q.2),if_neg h,zkR s l];simp
def okG (F:List Nat) (n s:Nat):Bool:=decide ((bitsN s).length=n)&&wZ F s
def vF (F:List Nat) (n:Nat):List Nat->List Nat->List Nat
 |[],row=>row
 |s::l,row=>vF F n l (if okG F n s=true then insO ltB s row else row)
theorem kP (F:List Nat) (n:Nat): ∀l row,(vF F n l row).Perm (l.filter (okG F n)++row)
 |[],row=>XF _
 |s::l,row=>by
  rw[vF,Xn];by_cases h:okG F n s=true
  ·rw[if_pos h,if_pos h]
   refine(kP F n l _).trans ?_;refine((dO ltB s row).append_left _).trans ?_;rw[ZT];exact List.perm_middle
  ·rw[if_neg h,if_neg h];exact kP F n l row
theorem zkS (s:Nat): ∀l:List Nat,(insO ltB s l).map bitsN=insO vA (bitsN s) (l.map bitsN)
 |[]=>rfl
 |y::l=>by
  rw[insO,Zj,insO];show _=if ltB s y=true then _ else _
  by_cases h:ltB s y=true
  ·rw[if_pos h,if_pos h];rfl
  ·rw[if_neg h,if_neg h,Zj,zkS s l]
theorem zri:Strict vA:=⟨zbl,zbm,zbn⟩
theorem zkT (F:List Nat) (n:Nat): ∀l row,(row.map bitsN).Pairwise (fun a b=>vA b a=false)->((vF F n l row).map bitsN).Pairwise (fun a b=>vA b a=false)
 |[],row,h=>h
 |s::l,row,h=>by
  rw[vF];refine zkT F n l _ ?_;split
  ·rw[zkS];exact zbh zri _ _ h
  ·exact h
def rR (m:Nat):List Nat:=YX 1 (2 ^ m-1)
def conG (F:List Nat) (m:Nat):List Nat:=((List.range m).map fun n=>vF F (n+1) (rR m) []).flatten
theorem mem_row {F:List Nat} {n m s:Nat}:s∈vF F n (rR m) [] ↔ (1<=s/\s<2 ^ m)/\(bitsN s).length=n/\wZ F s=true:=by
 have h2:0<2 ^ m:=Nat.two_pow_pos m;rw[(kP F n _ _).mem_iff,Zi,Z8,rR,List.mem_range'_1,okG,Zp,decide_eq_true_eq];refine and_congr_left fun _=>⟨fun h=>⟨h.1,by omega⟩,fun h=>⟨h.1,by omega⟩⟩
theorem zrj (F:List Nat) (n m:Nat):(vF F n (rR m) []).Nodup:=by
 rw[(kP F n _ _).nodup_iff,Zi];exact Xb _ (List.nodup_range' (step:=1))
theorem zrk (F:List Nat) (m:Nat):(conG F m).Nodup:=by
 unfold conG;refine List.pairwise_flatten.2 ?_;refine⟨fun l hl=>?_,?_⟩
 ·obtain⟨n,_,rfl⟩:=ZL.1 hl;exact zrj F _ m
 ·rw[Xt]
  refine List.nodup_range.imp ?_;intro a b hab x hx y hy e;rw[mem_row] at hx hy;have h1:=hx.2.1;have h2:=hy.2.1;rw[e] at h1;omega
theorem kQ (s:Nat):(bitsN s).length<=10:=by
 unfold bitsN;exact ZX (Yr _ _) (by simp)
theorem zrl {s m:Nat} (h:s<2 ^ m):(bitsN s).length<=m:=by
 rcases Y3 m 10 with hm|hm
 ·unfold bitsN
  have e:List.range 10=List.range m++(List.range (10-m)).map (m+ ·):=by
   rw[<-List.range_add,show m+(10-m)=10 by omega]
  have e2:((List.range (10-m)).map (m+ ·)).filter (fun k=>s.testBit k)=[]:=Wc.2 ?_;rw[e,Y6,e2,Zi]
  ·exact ZX (Yr _ _) (by simp)
  ·intro k hk q
   obtain⟨j,_,rfl⟩:=ZL.1 hk;have:=xM.1 h _ q;omega
 ·exact ZX (kQ s) hm
theorem zrm {s:Nat} (h:0<s) (hb:s<1024):0<(bitsN s).length:=by
 rcases Nat.eq_zero_or_pos (bitsN s).length with h0|h0
 ·exfalso
  have e:=Yn h0;have:s=0:=XE fun i=>by
   rw[YW,Yj];intro q;have:=(qZ hb).2 q;rw[e] at this;cases this
  omega
 ·exact h0
theorem zb4 {F:List Nat} {m s:Nat} (hm:m<=8):s∈conG F m ↔ 1<=s/\s<2 ^ m/\wZ F s=true:=by
 have h256:2 ^ m<=256:=(ZW (n:=2) (by decide) hm:2 ^ m<=2 ^ 8);unfold conG;rw[XX];constructor
 ·rintro⟨l,hl,hs⟩
  obtain⟨n,_,rfl⟩:=ZL.1 hl;rw[mem_row] at hs;exact⟨hs.1.1,hs.1.2,hs.2.2⟩
 ·rintro⟨h1,h2,h3⟩
  have hp:=zrm h1 (by omega);have hl:=zrl h2;refine⟨_,ZL.2 ⟨(bitsN s).length-1,Yb.2 (by omega),rfl⟩,mem_row.2 ⟨⟨h1,h2⟩,by omega,h3⟩⟩
theorem zrn {F:List Nat} (h0:F≠[]):wZ F 0=false:=by
 rw[Yj];intro h;have h1:=((zbb (by decide)).1 h).1;obtain⟨f,hf⟩:=Xp F h0;obtain⟨k,_,hk⟩:=mE.1 h1 f hf;rw[YW] at hk;cases hk
theorem zro (F:List Nat) (m:Nat):((conG F m).map bitsN).Pairwise fun a b=>ltC b a=false:=by
 rw[Xt];unfold conG;rw[List.pairwise_flatten];refine⟨fun l hl=>?_,?_⟩
 ·obtain⟨n,_,rfl⟩:=ZL.1 hl
  have h:=zkT F (n+1) (rR m) [] Xx;rw[Xt] at h;refine h.imp_of_mem ?_;intro a b ha hb hlt;have h1:=(mem_row.1 ha).2.1;have h2:=(mem_row.1 hb).2.1;unfold ltC;rw[if_pos (by omega)];exact hlt
 ·rw[Xt]
  refine List.pairwise_lt_range.imp ?_;intro a b hab x hx y hy;have h1:=(mem_row.1 hx).2.1;have h2:=(mem_row.1 hy).2.1;unfold ltC;rw[if_neg (by omega),decide_eq_false_iff_not];omega
theorem zrp {m:Nat} {F:List Nat} (hm:m<=8) (h0:F≠[]) (hF: ∀f∈F,f<2 ^ m):(conflP (tZ m F)).Nodup:=by
 have h256:2 ^ m<=256:=(ZW (n:=2) (by decide) hm:2 ^ m<=2 ^ 8);have hd:=iN hF;unfold conflP;rw[zbc _ (by omega),List.nodup_append];refine⟨?_,?_,?_⟩
 ·rw[List.nodup_iff_pairwise_ne,Xt]
  refine(Xb _ List.nodup_range).imp ?_;intro a b hab e;apply hab;have:=congrArg (fun x=>x.testBit a) e;simp only[pA,decide_true] at this;exact(of_decide_eq_true this.symm).symm
 ·refine Xb _ ?_
  unfold dL;exact(List.reverse_perm _).nodup_iff.2 (Xb _ List.nodup_range)
 ·intro a ha b hb e
  subst e;obtain⟨k,hk,rfl⟩:=ZL.1 ha;rw[Z8,dN h0 hF] at hk;have hs:=((zbd (by omega)).1 (Z8.1 hb).1).2;have:=zbe.1 hs k (by rw[pA];simp);rw[zbf h0 hF] at this;obtain⟨_,f,hf,h1⟩:=this;rw[hk.2 f hf] at h1;cases h1
theorem zrq {m:Nat} {F:List Nat} (hm:m<=8) (h0:F≠[]) (hF: ∀f∈F,f<2 ^ m):(conG F m).map bitsN=sortO ltC ((conflP (tZ m F)).map bitsN):=by
 refine zbk zbo (List.Perm.map _ ?_) (zro F m);refine(List.perm_ext_iff_of_nodup (zrk F m) (zrp hm h0 hF)).2 fun s=>?_
 rw[zb4 hm,zju hm h0 hF];refine⟨fun h=>h.2,fun h=>⟨?_,h⟩⟩;rcases Nat.eq_zero_or_pos s with rfl|h1
 ·rw[zrn h0] at h;exact absurd h.2 (by simp)
 ·exact h1
end Go.Ex
namespace Go.Abs
open Go.Proofs Go.RowKit Go.Lib Go.Wd Go.Wire Go.Ex
theorem mT {rows:List (List C)} (h:C.normRows rows=rows) (sz:Nat) (e:TypeId):(Abs.K.newl e sz none rows).fz.nrm=.c (zF sz rows):=by
 simp[Abs.K.fz,Abs.K.nrm,C.norm,h,zF]
theorem c50 (s:Nat) (h:s<256):Spec Tryz.prog 50 [.int .i64 (s:Int)] (fun v=>v=lst 1 (zG ((bitsN s).map fun(k:Nat)=>(k:Int)))):=by
 refine Spec.of_awlP hf50 okf50 (by simp) fun S hS=>?_
 rw[<-zb3 (by omega)] at hS;simp only[Qs,implies_true,bne_iff_ne,ne_eq,Zn,Za,Zq,implies_true,Ψ50];rw[uu f50l14.eq_1];refine zO (fun i:Nat=>[(0,.int .i64 (s:Int)),(3,.k (.own 5)),(4,.int .i64 i)]) (fun i=>[(5,.arr 3 1 (some false) (zG ((tJ s i).map fun(k:Nat)=>(k:Int))))]) (fun i=>i<=30) (fun i=>30-i) 0 rfl rfl (Zy _) ?_;intro i hi;have hl:=zkL s i;by_cases hlt:i<30
 ·have d1:(i:Int)<30:=by omega
  have c4:IntKind.i64.wrap ((i:Int)+1)=(i:Int)+1:=wrap_in (by omega) (by omega);have c5:=iV (s:=s) (k:=i) (by omega) (by omega);have hs:=zb2 s i;cases hb:s.testBit i with
  |true=>
   rw[if_pos hb] at c5 hs;simp only[d1,c4,c5,yF,Ze,Qs,forall_eq,bne_iff_ne,ne_eq,BEq.rfl,ZB,Zn,Zd,ZN,Za,Ze,Zq,Ψ50];refine⟨by omega,by omega,Next.intro (i+1) rfl (by simp[hs,eY];rfl) (by omega) (by omega)⟩
  |false=>
   rw[if_neg (by simp[hb])] at c5 hs;rw[Zi] at hs;simp only[d1,c4,c5,Qs,Za,YN,Ψ50];exact Next.intro (i+1) rfl (by rw[hs];rfl) (by omega) (by omega)
 ·obtain rfl:i=30:=by omega
  have d1: ¬((30:Nat):Int)<30:=by omega
  simp only[d1,Qs,ZJ,Za,Xy,Zq,Ψ50];refine hS _ ?_;simp only[V.fz,V.fzL,V.nrm,V.nrmL,mT (wD _)]
  try rfl
def zU (l:List Nat):List Int:=l.map fun(k:Nat)=>(k:Int)
theorem xS (l:List Nat):(zU l).length=l.length:=Ze _
theorem cH (s:Nat) (h:s<256):Spec Tryz.prog 50 [.int .i64 (s:Int)] (fun v=>v=lst 1 (zG (zU (bitsN s)))):=c50 s h
theorem c89 (a b:Nat) (ha:a<256) (hb:b<256) (hl:(bitsN a).length=(bitsN b).length):Spec Tryz.prog 89 [.int .i64 (a:Int),.int .i64 (b:Int)] (fun v=>v=.bool (ltB a b)):=by
 refine Spec.of_awlS hf89 okf89 (by simp) fun S hS=>?_
 have g1:=cH a ha;have g2:=cH b hb;have hla:=kQ a;unfold ltB at hS;generalize bitsN a=X at g1 hS hl hla;generalize bitsN b=Y at g2 hS hl;simp only[Qs,Zb,Za,Ψ89];refine yP g1 ?_ (ha:=by rfl);simp only[Qs,Za,Ψ89];refine yP g2 ?_ (ha:=by rfl);simp only[Qs,Ψ89];rw[uu f89l15.eq_1];refine zO (fun i:Nat=>[(5,lst 1 (zG (zU X))),(6,lst 1 (zG (zU Y))),(7,.int .i64 i)]) (fun _=>[]) (fun i=>i<=X.length/\vA (X.drop i) (Y.drop i)=vA X Y) (fun i=>X.length-i) 0 rfl rfl ⟨Zy _,rfl⟩ ?_;rintro i ⟨hi,hD⟩;by_cases hlt:i<X.length
 ·have d1:(i:Int)<X.length:=by omega
  have d2:(i:Int)<Y.length:=by omega
  have hlt2:i<Y.length:=by omega
  have c4:IntKind.i64.wrap ((i:Int)+1)=(i:Int)+1:=wrap_in (by omega) (by omega);have hat:(zG (zU X)).getD i []=[.int .i64 (X[i]:Int)]:=by simp[zG,zU,hlt]
  have hat2:(zG (zU Y)).getD i []=[.int .i64 (Y[i]:Int)]:=by simp[zG,zU,hlt2]
  rw[Zx hlt,Zx hlt2,vA] at hD;generalize X[i]=x at hat hD;generalize Y[i]=y at hat2 hD;by_cases he:x=y
  ·have he2:(x:Int)=(y:Int):=by omega
   rw[if_pos he] at hD;simp only[d1,d2,c4,hat,hat2,he2,yF,xS,Qs,forall_const,Za,Ψ89];exact Next.intro (i+1) rfl rfl ⟨by omega,hD⟩ (by omega)
  ·have he2: ¬(x:Int)=(y:Int):=by omega
   rw[if_neg he] at hD;rw[<-hD] at hS;simp only[d1,d2,c4,hat,hat2,he2,yF,xS,Qs,forall_const,Za,Ψ89];exact wQ hS (by simp only[decide_eq_true_eq];omega)
 ·have d1: ¬(i:Int)<X.length:=by omega
  rw[ZE (by omega),ZE (by omega)] at hD;rw[<-hD] at hS;simp only[d1,yF,xS,Qs,Za,Ψ89];exact hS
theorem c87 (L:List Dmd) (p:List Pln) (hL:L.length<=1000000) (hp:wU p):Spec Tryz.prog 87 [lst 8 (L.map zM),lst 3 (p.map zX)] (fun v=>v=lst 1 (zG (dV L p))):=by
 refine Spec.of_awlP hf87 okf87 (by simp) fun S hS=>?_
 rw[zjI] at hS;simp only[zB,Qs,bne_iff_ne,ne_eq,Zb,Zn,Za,Ψ87];rw[uu f87l14.eq_1];refine zO (fun x:Nat×Option Bool=>[(0,lst 8 (L.map zM)),(1,lst 3 (p.map zX)),(5,.k (.own 5)),(6,.int .i64 x.1)]) (fun x=>[(5,.arr 3 1 x.2 (zG (pD L p x.1)))]) (fun x=>x.1<=L.length) (fun x=>L.length-x.1) (0,some true) rfl rfl (Zy _) ?_;rintro⟨i,nl⟩ hi;simp only[] at hi;have hfl:=zbu L p i;by_cases hlt:i<L.length
 ·have d1:(i:Int)<L.length:=by omega
  have c4:IntKind.i64.wrap ((i:Int)+1)=(i:Int)+1:=wrap_in (by omega) (by omega);have hat:=kH hlt;have hs:=zjH L p i;generalize L.getD i yI=m at hat hs;have g1:=zre m p hp;unfold zM at g1;cases hm:vE m p with
  |true=>
   rw[hm] at g1;rw[hm,if_pos rfl,Zi] at hs;simp only[d1,hat,zB,Qs,Za,Ze,Ψ87];refine zD g1 ?_ (ha:=by simp only[Zj,Zo,zC,V.norm,C.norm,zS sJ,C.normRow]<;>rfl);simp only[c4,Qs,Za,Ψ87];exact Next.intro (i+1,nl) rfl (by simp[hs];rfl) (by simp only;omega) (by simp only;omega)
  |false=>
   rw[hm] at g1;rw[hm,if_neg (by simp)] at hs;simp only[d1,hat,zB,Qs,Za,Ze,Ψ87];refine zD g1 ?_ (ha:=by simp only[Zj,Zo,zC,V.norm,C.norm,zS sJ,C.normRow]<;>rfl);simp only[c4,yF,Qs,forall_eq,bne_iff_ne,ne_eq,ZB,Zn,Zd,ZN,Za,Zq,Ψ87];refine⟨by omega,by omega,Next.intro (i+1,some false) rfl (by simp[hs,eY];rfl) (by simp only;omega) (by simp only;omega)⟩
 ·have d1: ¬(i:Int)<L.length:=by omega
  obtain rfl:i=L.length:=by omega
  simp only[d1,zB,Qs,ZJ,Za,Ze,Zq,Ψ87];refine hS _ ?_;simp only[V.fz,V.fzL,V.nrm,V.nrmL,mT (wD _)]
  try rfl
end Go.Abs
namespace Go.Ex
open Go.Lib Go.Wd Go.Wire Go.Abs
theorem zkU: ∀(l:List Nat) (i q:Nat),(∀s∈l,0<s)->(yX l (i+q*prodN l)).1=(yX l i).1
 |[],_,_,_=>rfl
 |s::l,i,q,hp=>by
  have hl:=mF (l:=l) fun x hx=>hp x (ZH _ hx)
  rw[yX,yX,iO,iO,prodN,<-Nat.mul_assoc,zkU l i (q*s) fun x hx=>hp x (ZH _ hx)];show _::_=_::_;rw[Nat.add_mul_div_right _ _ hl,Nat.add_mul_mod_self_right]
theorem zrr {l:List Nat} (hp: ∀s∈l,0<s) (i:Nat):(yX l (i % prodN l)).1=(yX l i).1:=by
 have:=zkU l (i % prodN l) (i/prodN l) hp;rw[<-this,Wi,Nat.mod_add_div]
theorem zrs {s:Nat} {l:List Nat} {i:Nat} (hp: ∀x∈s::l,0<x) (hi:i<prodN (s::l)):(yX (s::l) i).1=i/prodN l::(yX l (i % prodN l)).1/\i/prodN l<s:=by
 have hl:=mF (l:=l) fun x hx=>hp x (ZH _ hx)
 have h:i/prodN l<s:=by
  rw[Nat.div_lt_iff_lt_mul hl];exact hi
 refine⟨?_,h⟩;rw[zrr (fun x hx=>hp x (ZH _ hx)),yX,iO,Xq h]
def vK {α β:Type} (f:α->Nat->β):List α->List Nat->List β
 |a::l,d::ds=>f a d::vK f l ds
 |_,_=>[]
theorem zb5 {α β:Type} (f:α->Nat->β): ∀(l:List α) (ds:List Nat),ds.length=l.length->(vK f l ds).length=l.length
 |[],[],_=>rfl
 |_::l,_::ds,h=>by rw[vK,Zu,Zu,zb5 f l ds (by simpa using h)]
 |[],_::_,h=>by simp at h
 |_::_,[],h=>by simp at h
def vY (W:List (List Txt)):List Nat:=W.map List.length
def getT (w:List Txt) (d:Nat):Txt:=w.getD d []
theorem zkV: ∀(W:List (List Txt)) (i:Nat),pick W i=(vK getT W (yX (vY W) i).1,(yX (vY W) i).2)
 |[],i=>rfl
 |w::W,i=>by
  rw[pick,zkV W i];rfl
theorem zb6: ∀(l:List Fld) (i:Nat),wM l i=(vK textF l (yX (l.map yL) i).1,(yX (l.map yL) i).2)
 |[],i=>rfl
 |f::l,i=>by
  rw[wM,zb6 l i];rfl
theorem zkW: ∀(D:List Dcm) (cs:List Nat) (i:Nat),cs.length=D.length->xU D cs i=(vK rdD D (yX cs i).1,(yX cs i).2)
 |[],[],i,_=>rfl
 |d::D,c::cs,i,h=>by
  rw[xU,zkW D cs i (by simpa using h)];rfl
 |[],_::_,_,h=>by simp at h
 |_::_,[],_,h=>by simp at h
theorem zkX: ∀(l:List Nat) (a:Nat),l.foldl (· * ·) a=a*prodN l
 |[],a=>by simp[prodN]
 |s::l,a=>by rw[YZ,zkX l,prodN,Nat.mul_assoc]
theorem zkY (f:Fld):yL f=prodN (vY f.words):=by unfold yL vY;rw[zkX,X3]
theorem zb7 {l:List Nat} {k:Nat} (h:k<l.length):prodN (l.drop k)=l[k]*prodN (l.drop (k+1)):=by rw[Zx h,prodN]
theorem zb8 {α β:Type} (f:α->Nat->β): ∀(l:List α) (ds:List Nat) (k:Nat),(vK f l ds).drop k=vK f (l.drop k) (ds.drop k)
 |[],ds,k=>by simp[vK]
 |a::l,[],k=>by
  have: ∀l:List α,vK f l []=[]:=fun l=>by cases l<;>rfl
  rw[List.drop_nil,this,this,List.drop_nil]
 |a::l,d::ds,0=>rfl
 |a::l,d::ds,k+1=>by rw[vK,XQ,XQ,XQ,zb8 f l ds k]
theorem zb9: ∀(l:List Nat) (i k:Nat),(yX l i).1.drop k=(yX (l.drop k) i).1
 |[],i,k=>by simp[yX]
 |s::l,i,0=>rfl
 |s::l,i,k+1=>by rw[yX,XQ,XQ,zb9 l i k]
theorem zkZ {α β:Type} (f:α->Nat->β) {l:List α} {S:List Nat} (hS:S.length=l.length) (hp: ∀s∈S,0<s) {k:Nat} (hk:k<l.length) {a:Nat} (ha:a<prodN (S.drop k)):
  vK f (l.drop k) (yX (S.drop k) a).1=f l[k] (a/prodN (S.drop (k+1)))::vK f (l.drop (k+1)) (yX (S.drop (k+1)) (a % prodN (S.drop (k+1)))).1/\a/prodN (S.drop (k+1))<S[k]:=by
 have hk2:k<S.length:=by omega
 rw[Zx hk,Zx hk2] at*
 have h:=zrs (s:=S[k]) (l:=S.drop (k+1)) (i:=a) (fun x hx=>by
  rcases ZB.1 hx with rfl|hx
  ·exact hp _ (Zv hk2)
  ·exact hp x (Xm hx)) ha
 rw[h.1];exact⟨rfl,h.2⟩
theorem zrt {α β:Type} (f:α->Nat->β) {l:List α} {S:List Nat} (hS:S.length=l.length) {k:Nat} (hk:k<l.length) (i:Nat):
  (vK f l (yX S i).1).drop k=f l[k] (i/prodN (S.drop (k+1)) % S[k])::(vK f l (yX S i).1).drop (k+1):=by
 have hk2:k<S.length:=by omega
 rw[zb8,zb8,zb9,zb9,Zx hk,Zx hk2,yX,iO];rfl
theorem drop_take {α:Type} {P r:List α} {x:α} {k:Nat} (h:P.drop k=x::r):P.take (k+1)=P.take k++[x]/\P.drop (k+1)=r:=by
 have hk:k<P.length:=by
  rcases Y3 k P.length with q|q
  ·exact q
  ·rw[ZE q] at h;cases h
 rw[Zx hk] at h
 injection h with h1 h2
 rw[Zz hk,h1];exact⟨rfl,h2⟩
theorem zk0 (b:UInt8) (x:Txt): ∀l:List Txt,joinB b (l++[x])=(if l=[] then x else joinB b l++b::x)
 |[]=>rfl
 |[w]=>rfl
 |w::v::l=>by
  rw[if_neg (by simp)];have ih:=zk0 b x (v::l);rw[if_neg (by simp)] at ih;show w++b::joinB b ((v::l)++[x])=_;rw[ih];show _=(w++b::joinB b (v::l))++b::x;simp
structure FldT (f:Fld):Prop where
 r:FldR f
 tx: ∀w∈f.words,∀s∈w,s.length<=1000000
theorem zru {f:Fld} (hf:FldR f): ∀s∈vY f.words,0<s:=fun s hs=>by
 obtain⟨w,hw,rfl⟩:=ZL.1 hs;exact(hf.sp w hw).1
theorem zk1 (b:UInt8) {B:Nat}: ∀l:List Txt,(∀s∈l,s.length<=B)->(joinB b l).length<=l.length*(B+1)
 |[],_=>by simp[joinB]
 |[w],h=>by have:=h w (by simp);simp[joinB];omega
 |w::v::l,h=>by
  have h1:=h w (by simp);have h2:=zk1 b (v::l) fun s hs=>h s (ZH _ hs)
  show(w++b::joinB b (v::l)).length<=(l.length+1+1)*(B+1);rw[Zr,Zu,Xw];simp only[Zu] at h2;omega
theorem zrv (b:UInt8) {P:List Txt} {k:Nat} (h:k<P.length):joinB b (P.take (k+1))=(if k=0 then[] else joinB b (P.take k)++[b])++P[k]:=by
 rw[Zz h,zk0];by_cases hk:k=0
 ·subst hk;simp
 ·rw[if_neg hk,if_neg (by
   intro e
   rw[List.take_eq_nil_iff] at e
   rcases e with e|e
   ·exact hk e
   ·subst e;simp at h)]
  simp
end Go.Ex
namespace Go.Abs
open Go.Proofs Go.RowKit Go.Lib Go.Wd Go.Wire Go.Ex
theorem c83 (f:Fld) (hf:FldT f) (i:Nat) (hi:i<yL f):Spec Tryz.prog 83 [.agg (zW f),.int .i64 i] (fun v=>v=.str (textF f i)):=by
 refine Spec.of_awlS hf83 okf83 (by simp) fun S hS=>?_
 have g82:=c82 f hf.r;have h8:=hf.r.ws;have hsz:=iJ hf.r;have hps:=zru hf.r;have hpk:(pick f.words i).1=vK getT f.words (yX (vY f.words) i).1:=by rw[zkV]
 unfold textF at hS;have hSl:(vY f.words).length=f.words.length:=Ze _;rw[zkY] at hi hsz;obtain⟨P,hP⟩: ∃P,(pick f.words i).1=P:=⟨_,rfl⟩;have hPl:P.length=f.words.length:=by rw[<-hP,dK]
 rw[hP] at hS hpk;have hPm: ∀s∈P,s.length<=1000000:=by
  rw[<-hP];exact za9 fun w hw=>⟨(hf.r.sp w hw).1,hf.tx w hw⟩
 unfold zW at g82⊢;rw[zkY] at g82;simp only[Qs,Zb,Za,Ψ83];refine zD g82 ?_ (ha:=by simp only[Zj,Zo,zC,V.norm,C.norm,C.normRow,zS qF]<;>rfl);simp only[zB,Qs,Ψ83];rw[uu f83l22.eq_1];refine zO (fun x:Nat×Nat=>[(1,.int .i64 (x.2:Nat)),(2,.k (.c (.ro [.str f.name,zF 1 (f.words.map wH)] 0))),(5,.int .i64 (prodN ((vY f.words).drop x.1):Nat)),(6,.str (joinB 32 (P.take x.1))),(7,.int .i64 x.1)]) (fun _=>[]) (fun x=>x.1<=f.words.length/\x.2<prodN ((vY f.words).drop x.1)/\prodN ((vY f.words).drop x.1)<=65536/\P.drop x.1=vK getT (f.words.drop x.1) (yX ((vY f.words).drop x.1) x.2).1) (fun x=>f.words.length-x.1) (0,i) rfl rfl ⟨Zy _,hi,hsz,hpk⟩ ?_;rintro⟨k,a⟩ ⟨hk,ha,hpr,hD⟩;simp only[] at hk ha hpr hD;by_cases hlt:k<f.words.length
 ·have d1:(k:Int)<f.words.length:=by omega
  have c4:IntKind.i64.wrap ((k:Int)+1)=(k:Int)+1:=wrap_in (by omega) (by omega);have hkS:k<(vY f.words).length:=by omega
  have hat:=lY hlt;have hz:=zkZ getT hSl hps hlt ha;have hpd:=zb7 hkS;have hw:=hf.r.sp _ (Zv hlt);have hSk:(vY f.words)[k]=f.words[k].length:=by simp[vY]
  have hpp:0<prodN ((vY f.words).drop (k+1)):=mF fun x hx=>hps x (Xm hx)
  obtain⟨hz1,hz2⟩:=hz;rw[hSk] at hz2 hpd;have hdt:=drop_take (hD.trans hz1);have hkP:k<P.length:=by omega
  have hjt:=zrv 32 hkP;have hPk:P[k]=getT f.words[k] (a/prodN ((vY f.words).drop (k+1))):=by
   have:=hD.trans hz1;rw[Zx hkP] at this
   injection this
  have hPx:=hPm _ (Zv hkP);have hjl:=zk1 32 (B:=1000000) (P.take k) (fun s hs=>hPm s (Xl hs));have htl:(P.take k).length=k:=by rw[Yk];omega
  rw[htl] at hjl;rw[hPk] at hjt hPx;obtain⟨J,hJ⟩: ∃J,joinB 32 (P.take (k+1))=J:=⟨_,rfl⟩;rw[hJ] at hjt;have hT0:k=0->joinB 32 (P.take k)=[]:=fun h=>by rw[h];rfl
  generalize joinB 32 (P.take k)=T at hjt hjl hT0⊢;obtain⟨q,hq⟩: ∃q,prodN ((vY f.words).drop (k+1))=q:=⟨_,rfl⟩;have hD2:=hdt.2;rw[hq] at hpp hpd hz2 hjt hPx hD2;generalize prodN ((vY f.words).drop k)=p at hpd ha hpr⊢;generalize f.words[k]=w at hat hw hz2 hjt hPx hpd;obtain⟨n,hn⟩: ∃n,w.length=n:=⟨_,rfl⟩;rw[hn] at hw hz2 hpd;have hn0: ¬(n:Int)=0:=by omega
  have hq0: ¬(q:Int)=0:=by omega
  have hr1:(p:Int).tdiv (n:Int)=(q:Nat):=by
   rw[hpd,Yq,Int.mul_comm,Int.mul_tdiv_cancel _ hn0]
  have hr2:(a:Int).tdiv (q:Int)=((a/q:Nat):Int):=(XS a q).symm;generalize a/q=y at hr2 hz2 hjt hPx;have hr3:(a:Int).tmod (q:Int)=((a % q:Nat):Int):=(XJ a q).symm;have hm1:a % q<q:=XH _ hpp;have hpq:q<=p:=by rw[hpd];exact Nat.le_mul_of_pos_left _ hw.1
  have w1:IntKind.i64.wrap ((q:Nat):Int)=(q:Nat):=wrap_in (by omega) (by omega);have w2:IntKind.i64.wrap (y:Int)=(y:Int):=wrap_in (by omega) (by omega);have e2:(0:Int)<=(y:Int)/\(y:Int)<(n:Int):=by omega
  have hs2:(zK w).getD y []=[.str (getT w y)]:=by rw[vU (by omega)];simp[getT,show y<w.length by omega]
  generalize getT w y=x at hs2 hjt hPx;have hkk:k*(1000000+1)<=8*1000001:=XG (by omega) (ZA _);by_cases hk0:k=0
  ·have d0: ¬(k:Int)>0:=by omega
   rw[if_pos hk0,<-hT0 hk0] at hjt;simp only[d1,d0,c4,hat,hn,hn0,hq0,hr1,hr2,hr3,w1,w2,e2,hs2,zQ,zB,Ym,Qs,jU,jV,ne_eq,Zb,Za,Ze,Ψ83];exact⟨by omega,Next.intro (k+1,a % q) (by simp only[hJ,hq,hjt];rfl) rfl ⟨by simp only;omega,by simp only[hq];exact hm1,by simp only[hq];omega,by simp only;exact hD2⟩ (by simp only;omega)⟩
  ·have d0:(k:Int)>0:=by omega
   rw[if_neg hk0] at hjt;simp only[d1,d0,c4,hat,hn,hn0,hq0,hr1,hr2,hr3,w1,w2,e2,hs2,zQ,zB,Ym,Qs,jU,jV,ne_eq,Zb,Zd,Za,Ze,Ψ83];exact⟨by omega,by (try simp);omega,Next.intro (k+1,a % q) (by simp only[hJ,hq,hjt];rfl) rfl ⟨by simp only;omega,by simp only[hq];exact hm1,by simp only[hq];omega,by simp only;exact hD2⟩ (by simp only;omega)⟩
 ·obtain rfl:k=f.words.length:=by omega
  have d1: ¬(f.words.length:Int)<f.words.length:=by omega
  rw[ZU (by omega)];simp only[d1,zB,Qs,Zb,Za,Ze,Ψ83];exact hS
end Go.Abs
namespace Go.Ex
open Go.Lib Go.Wd Go.Wire Go.Abs
theorem zrw {L:List Dmd} {D:List Dcm} (h:AskS L D) (i:Int):wU (readP' D i):=by
 unfold readP';split
 ·rename_i h0
  unfold readE at h0;split at h0
  ·rename_i h1;exact absurd h0 h1
  ·rename_i h1
   split at h0
   ·cases h0
   ·have h1:(cnts D).2.2=0:=by simpa using h1
    have:=(vQ h1).n;exact h.rd h1 _ (by omega)
 ·exact⟨by simp,by simp⟩
end Go.Ex
namespace Go.Abs
open Go.Proofs Go.RowKit Go.Lib Go.Wd Go.Wire Go.Ex
end Go.Abs
namespace Go.Ex
open Go.Lib Go.Wd Go.Wire Go.Abs
def vL (l:List Fld):List Nat:=l.map yL
theorem zk2 {l:List Fld} (hp: ∀f∈l,0<yL f): ∀s∈vL l,0<s:=fun s hs=>by
 obtain⟨f,hf,rfl⟩:=ZL.1 hs;exact hp f hf
theorem zk3: ∀{l:List Fld} {n:Nat},(wY l n).2=0->(wY l n).1=((n*prodN (vL l):Nat):Int)
 |[],n,_=>by simp[wY,vL,prodN]
 |f::l,n,h=>by
  rw[wY] at h⊢;split at h
  ·cases h
  ·rename_i hq
   rw[if_neg hq,zk3 h];show((n*yL f*prodN (vL l):Nat):Int)=((n*(yL f*prodN (vL l)):Nat):Int);rw[Nat.mul_assoc]
def prD (d:Dcm):Nat:=prodN (vL d.flds)
def prL (D:List Dcm):Nat:=prodN (D.map prD)
theorem zk4 {d:Dcm} (hd:DcmS d) (h:xC d=0): ∀f∈d.flds,0<yL f:=fun _ hf=>za1 ((qV hd h).fld hf)
theorem cI {d:Dcm} (h:(cntD d).2=0):(cntD d).1=(prD d:Nat):=by
 have h0:=rP h;unfold cntD at h⊢;rw[if_pos h0] at h⊢;rw[zk3 h,X3];rfl
theorem zk5 {d:Dcm} (hd:DcmS d) (h:xC d=0):0<prD d:=mF (zk2 (zk4 hd h))
structure GoodD (D:List Dcm):Prop where
 s:uT D
 c:(cnts D).2.2=0
theorem GoodD.ok {D:List Dcm} (h:GoodD D):CntOk D:=vQ h.c
theorem GoodD.doc {D:List Dcm} (h:GoodD D) {d:Dcm} (hd:d∈D):xC d=0:=rP (h.ok.e d hd)
theorem zrx {D:List Dcm} (h:CntOk D):xO D=D.map prD:=by
 unfold xO;rw[h.l,XU];exact XO fun d hd=>by rw[Xf,cI (h.e d hd),Ym]
theorem zk6: ∀(D:List Dcm) (a:Nat),(∀d∈D,(cntD d).2=0)->D.foldl (fun a d=>a*(cntD d).1.toNat) a=a*prL D
 |[],a,_=>(Y5 a).symm
 |d::D,a,h=>by
  rw[YZ,zk6 D _ fun x hx=>h x (ZH _ hx),cI (h d (by simp)),Ym];show a*prD d*prL D=a*(prD d*prL D);rw[Nat.mul_assoc]
theorem zk7 {D:List Dcm} (h:CntOk D):yY D=prL D:=by rw[h.p,zk6 D 1 h.e,X3]
theorem GoodD.pr {D:List Dcm} (h:GoodD D):prL D<=4096:=by rw[<-zk7 h.ok];exact h.ok.le
structure DcmT (d:Dcm):Prop where
 s:DcmS d
 tx: ∀f∈d.flds,∀w∈f.words,∀s∈w,s.length<=1000000
end Go.Ex
namespace Go.Abs
open Go.Proofs Go.RowKit Go.Lib Go.Wd Go.Wire Go.Ex
theorem c43 (d:Dcm) (hd:DcmT d) (i:Int):Spec Tryz.prog 43 [.agg (zV d),.int .i64 i] (fun v=>v=.tup [.agg (zX (rdR d i)),.int .i64 (rdE d i)]):=by
 refine Spec.of_awlP hf43 okf43 (by simp) fun S hS=>?_
 have g42:=c42 d hd.s;have hE:rdE d i=if (cntD d).2≠0 then(cntD d).2 else if i<0\/i>=(cntD d).1 then 4 else 0:=rfl
 unfold rdR at hS;have hnn:=fun h0:(cntD d).2=0=>cI h0
 have hpp:=fun h0:(cntD d).2=0=>zk4 hd.s (rP h0)
 have hF:=fun h0:(cntD d).2=0=>qV hd.s (rP h0)
 have hrg:=iK (d:=d);unfold zV at g42⊢;simp only[Qs,bne_iff_ne,ne_eq,Zb,Zn,Za,nT,Ψ43];refine zD g42 ?_ (ha:=by simp only[Zj,Zo,zC,V.norm,C.norm,C.normRow,zS wS]<;>rfl);generalize cntD d=c at hE hnn hpp hF hrg;obtain⟨n,e⟩:=c;simp only[] at hE hnn hpp hF hrg;by_cases h0:e=0
 ·rw[if_neg (fun q=>q h0)] at hE
  by_cases hi:i<0\/i>=n
  ·rw[if_pos hi] at hE
   rw[hE,if_neg (by decide)] at hS;simp only[h0,Qs,eV,bne_iff_ne,ne_eq,Zi,Zb,Zn,Zd,ZN,Za,Yw,zaN,zaO,fV,fU,Ψ43];exact⟨fun _=>hS _ rfl,fun q1=>⟨fun _=>hS _ rfl,fun q2=>absurd hi (by omega)⟩⟩
  ·rw[if_neg hi] at hE
   rw[hE,if_pos rfl] at hS;have i1: ¬i<0:=by omega
   have i2: ¬i>=n:=by omega
   simp only[h0,i1,i2,fV,fU,Qs,bne_iff_ne,ne_eq,Zi,Zb,Zn,Zd,Za,Yw,zaN,zaO,fV,fU,Ψ43];have hnn:=hnn h0;have hpp:=hpp h0;have hF:=hF h0;obtain⟨a0,rfl⟩: ∃a:Nat,i=(a:Int):=⟨i.toNat,by omega⟩;rw[Ym] at hS;unfold prD at hnn;have ha0:a0<prodN (vL d.flds):=by omega
   have hf12:=hF.fs;have hsp:=zk2 hpp;have hSl:(vL d.flds).length=d.flds.length:=Ze _;have hpk:(wM d.flds a0).1=vK textF d.flds (yX (vL d.flds) a0).1:=by rw[zb6];rfl
   unfold rdD at hS;obtain⟨P,hP⟩: ∃P,(wM d.flds a0).1=P:=⟨_,rfl⟩;have hPl:P.length=d.flds.length:=by rw[<-hP,zb6];exact zb5 _ _ _ (by rw[zbg];exact Ze _)
   rw[hP] at hS hpk;have hpn:prodN (vL d.flds)<=4096:=by omega
   rw[hnn];rw[uu f43l17.eq_1];refine zO (fun x:Nat×Nat×Option Bool=>[(1,.int .i64 (x.2.1:Nat)),(2,.k (.c (.ro [.str d.kind,zF 2 (d.flds.map zW)] 0))),(4,.k (.ptr 4 0)),(6,.int .i64 (prodN ((vL d.flds).drop x.1):Nat)),(8,.k (.ptr 8 0)),(9,.int .i64 x.1)]) (fun x=>[(4,.var 53 [.c (.str []),.c (.list 0 (some true) []),.c (.list 0 (some true) [])]),(8,.var 53 [.c (.str d.kind),.own 43002,.own 43001]),(43001,.arr 9 1 x.2.2 (zK (P.take x.1))),(43002,.arr 9 1 x.2.2 (zK ((d.flds.map Fld.name).take x.1)))]) (fun x=>x.1<=d.flds.length/\x.2.1<prodN ((vL d.flds).drop x.1)/\prodN ((vL d.flds).drop x.1)<=4096/\P.drop x.1=vK textF (d.flds.drop x.1) (yX ((vL d.flds).drop x.1) x.2.1).1) (fun x=>d.flds.length-x.1) (0,a0,some true) rfl rfl ⟨Zy _,ha0,hpn,hpk⟩ ?_;rintro⟨k,a,nl⟩ ⟨hk,ha,hpr,hD⟩;simp only[] at hk ha hpr hD;by_cases hlt:k<d.flds.length
   ·have d1:(k:Int)<d.flds.length:=by omega
    have c4:IntKind.i64.wrap ((k:Int)+1)=(k:Int)+1:=wrap_in (by omega) (by omega);have hkS:k<(vL d.flds).length:=by omega
    have hat:=oS hlt;obtain⟨hz1,hz2⟩:=zkZ textF hSl hsp hlt ha;have hpd:=zb7 hkS;have hSk:(vL d.flds)[k]=yL d.flds[k]:=by simp[vL]
    have hqp:0<prodN ((vL d.flds).drop (k+1)):=mF fun x hx=>hsp x (Xm hx)
    rw[hSk] at hz2 hpd;have hdt:=drop_take (hD.trans hz1);have hNk:(d.flds.map Fld.name).take (k+1)=(d.flds.map Fld.name).take k++[d.flds[k].name]:=by
     rw[Zz (by rw[Ze];exact hlt)];simp
    have hfm:=Zv hlt;have hFT:FldT d.flds[k]:=⟨hF.fld hfm,hd.tx _ hfm⟩;have htl:(P.take k).length=k:=by rw[Yk];omega
    have hnl:((d.flds.map Fld.name).take k).length=k:=by rw[Yk,Ze];omega
    obtain⟨hdt1,hdt2⟩:=hdt;obtain⟨P2,hP2⟩: ∃P2,P.take (k+1)=P2:=⟨_,rfl⟩;obtain⟨N2,hN2⟩: ∃N2,(d.flds.map Fld.name).take (k+1)=N2:=⟨_,rfl⟩;rw[hP2] at hdt1;rw[hN2] at hNk;generalize P.take k=P1 at hdt1 htl⊢;generalize (d.flds.map Fld.name).take k=N1 at hNk hnl⊢;obtain⟨q,hq⟩: ∃q,prodN ((vL d.flds).drop (k+1))=q:=⟨_,rfl⟩;rw[hq] at hqp hpd hz2 hdt1 hdt2;generalize prodN ((vL d.flds).drop k)=p at hpd ha hpr⊢;generalize d.flds[k]=f at hat hz2 hpd hdt1 hNk hFT;have g82:=c82 f hFT.r;have g83:=c83 f hFT (a/q) hz2;have hss:=iJ hFT.r;unfold zW at g82 g83;generalize textF f (a/q)=T at hdt1 g83;obtain⟨z,hzz⟩: ∃z,yL f=z:=⟨_,rfl⟩;rw[hzz] at hz2 hpd g82 hss;have hn0: ¬(z:Int)=0:=by have:=XW (Zy (a/q)) hz2;omega
    have hq0: ¬(q:Int)=0:=by omega
    have hr1:(p:Int).tdiv (z:Int)=(q:Nat):=by
     rw[hpd,Yq,Int.mul_comm,Int.mul_tdiv_cancel _ hn0]
    have hr2:(a:Int).tdiv (q:Int)=((a/q:Nat):Int):=(XS a q).symm;generalize a/q=y at hr2 hz2 g83;have hr3:(a:Int).tmod (q:Int)=((a % q:Nat):Int):=(XJ a q).symm;have hm1:a % q<q:=XH _ hqp;have hpq:q<=p:=by rw[hpd];exact Nat.le_mul_of_pos_left _ (by omega)
    have w1:IntKind.i64.wrap ((q:Nat):Int)=(q:Nat):=wrap_in (by omega) (by omega);have w2:IntKind.i64.wrap (y:Int)=(y:Int):=wrap_in (by omega) (by omega);simp only[d1,hat,zB,Qs,Zb,Za,Ze,Ψ43];refine zD g82 ?_ (ha:=by simp only[Zj,Zo,zC,V.norm,C.norm,C.normRow,zS qF]<;>rfl);simp only[d1,hat,hn0,hq0,hr1,hr2,w1,w2,zB,zQ,Qs,eB,eE,jU,zaH,jX,jY,jZ,zgf,zaI,zaK,zaL,reduceCtorEq,forall_eq,ne_eq,ZB,Zb,Zn,Zd,ZN,Za,Ze,Zq,Ψ43];refine⟨by omega,by omega,xI g83 ?_ (ha:=by simp only[Zj,Zo,zC,V.norm,C.norm,C.normRow,zS qF]<;>rfl)⟩;simp only[d1,c4,hq0,hr3,zB,zQ,Qs,eB,eE,jV,zaH,zaI,zaK,zaL,reduceCtorEq,forall_eq,ne_eq,Zi,ZB,Zb,Zn,Zd,ZN,Za,Zq];have hj1:zK P1++[[C.str T]]=zK P2:=by rw[hdt1];simp[zK]
    have hj2:zK N1++[[C.str f.name]]=zK N2:=by rw[hNk];simp[zK]
    rw[hj1,hj2];exact⟨by omega,by omega,Next.intro (k+1,a % q,some false) (by simp only[hq];rfl) (by simp only[hP2,hN2];rfl) ⟨by simp only;omega,by simp only[hq];exact hm1,by simp only[hq];omega,by simp only[hq];exact hdt2⟩ (by simp only;omega)⟩
   ·obtain rfl:k=d.flds.length:=by omega
    have d1: ¬(d.flds.length:Int)<d.flds.length:=by omega
    have et1:(d.flds.map Fld.name).take d.flds.length=d.flds.map Fld.name:=ZU (by rw[Ze];exact ZA _);have et2:P.take d.flds.length=P:=ZU (by omega);rw[et1,et2];simp only[d1,zB,yM,Qs,jX,jY,jZ,zgf,znX,zn3,zn4,zn5,iB,zn6,zn7,eV,Zi,ZB,ZJ,Zb,ZN,Za,Ze,Zq,Ψ43];refine hS _ ?_;generalize d.flds.map Fld.name=N;show V.tup [V.agg (C.normRow [C.str d.kind,C.list 1 none (zK N),C.list 1 none (zK P)]),V.int .i64 0]=_;simp only[C.normRow,C.norm,yM];rfl
 ·rw[if_pos h0] at hE
  rw[hE,if_neg h0] at hS;simp only[h0,Qs,eV,forall_const,bne_iff_ne,ne_eq,Zi,Zb,Zn,Zd,ZN,Za,zaN,zaO,fV,fU,Ψ43];exact hS _ rfl
end Go.Abs
namespace Go.Ex
open Go.Lib Go.Wd Go.Wire Go.Abs
structure DcmsT (D:List Dcm):Prop where
 s:uT D
 t: ∀d∈D,DcmT d
end Go.Ex
namespace Go.Abs
open Go.Proofs Go.RowKit Go.Lib Go.Wd Go.Wire Go.Ex
theorem c19 (D:List Dcm) (hD:DcmsT D) (i:Int):Spec Tryz.prog 19 [lst 2 (D.map zV),.int .i64 i] (fun v=>v=.tup [lst 3 (xR (readP' D i)),.int .i64 (readE D i)]):=by
 refine Spec.of_awlP hf19 okf19 (by simp) fun S hS=>?_
 have g18:=c18 D hD.s;have hE:readE D i=if (cnts D).2.2≠0 then(cnts D).2.2 else if i<0\/i>=(cnts D).2.1 then 4 else 0:=rfl
 unfold readP' at hS;have hok:=fun h0:(cnts D).2.2=0=>vQ h0
 have hnn:=fun h0:(cnts D).2.2=0=>(vQ h0).n
 simp only[Qs,Zb,Za,Ψ19];refine zD g18 ?_ (ha:=by simp only[Zj,Zo,zC,V.norm,C.norm,C.normRow,zS yN]<;>rfl);obtain⟨n,hn⟩: ∃n,(cnts D).2.1=n:=⟨_,rfl⟩;obtain⟨e,he⟩: ∃e,(cnts D).2.2=e:=⟨_,rfl⟩;rw[hn,he] at hE hnn⊢;rw[he] at hok;by_cases h0:e=0
 ·rw[if_neg (fun q=>q h0)] at hE
  by_cases hi:i<0\/i>=n
  ·rw[if_pos hi] at hE
   rw[hE,if_neg (by decide)] at hS;simp only[h0,Qs,implies_true,bne_iff_ne,ne_eq,BEq.rfl,Zi,ZJ,Zb,Zn,Za,Yw,Zq,implies_true,Ψ19];exact⟨fun _=>hS _ rfl,fun q1=>⟨fun _=>hS _ rfl,fun q2=>absurd hi (by omega)⟩⟩
  ·rw[if_neg hi] at hE
   rw[hE,if_pos rfl] at hS;have i1: ¬i<0:=by omega
   have i2: ¬i>=n:=by omega
   have hnn:=hnn h0;have hok:=hok h0;have h8:=hok.len;have hle:=hok.le;have hcs:=zrx hok;have hnp:=zk7 hok;obtain⟨a0,rfl⟩: ∃a:Nat,i=(a:Int):=⟨i.toNat,by omega⟩;rw[Ym] at hS;have hSl:(xO D).length=D.length:=by rw[hcs];exact Ze _
   have hpk:rdsD D a0=vK rdD D (yX (xO D) a0).1:=by unfold rdsD;rw[zkW _ _ _ hSl]
   obtain⟨P,hP⟩: ∃P,rdsD D a0=P:=⟨_,rfl⟩;rw[hP] at hS hpk;have hPl:P.length=D.length:=by rw[hpk];exact zb5 _ _ _ (by rw[zbg,hSl])
   have hpr:prodN (xO D)=yY D:=by rw[hcs,hnp];rfl
   rw[hnn,<-hpr] at i2⊢;rw[<-hpr] at hle;have hpos: ∀c∈xO D,0<c:=fun c hc=>by
    rw[hcs] at hc;obtain⟨d,hd,rfl⟩:=ZL.1 hc;exact zk5 (hD.t d hd).s (rP (hok.e d hd))
   simp only[h0,i1,i2,zB,Qs,implies_true,bne_iff_ne,ne_eq,Zb,Zn,Za,Yw,Zq,implies_true,Ψ19];rw[uu f19l17.eq_1];refine zO (fun k:Nat=>[(0,lst 2 (D.map zV)),(1,.int .i64 (a0:Nat)),(8,.k (.own 30)),(9,.int .i64 (prodN ((xO D).drop k):Nat)),(10,.int .i64 k)]) (fun k=>[(30,.arr 53 3 (some false) (xR (P.take k)))]) (fun k=>k<=D.length/\prodN ((xO D).drop k)<=4096) (fun k=>D.length-k) 0 rfl rfl ⟨Zy _,hle⟩ ?_;rintro k ⟨hk,hpk4⟩;by_cases hlt:k<D.length
   ·have d1:(k:Int)<D.length:=by omega
    have c4:IntKind.i64.wrap ((k:Int)+1)=(k:Int)+1:=wrap_in (by omega) (by omega);have hkS:k<(xO D).length:=by omega
    have hat:=mC hlt;have hz:=zrt rdD hSl hlt a0;rw[<-hpk] at hz;obtain⟨hdt1,_⟩:=drop_take hz;have hpd:=zb7 hkS;have hdm:=Zv hlt;have hdT:=hD.t _ hdm;have hce:=hok.e _ hdm;have hcp:=cI hce;have hSk:(xO D)[k]=prD D[k]:=by simp[hcs]
    have hcpos:=zk5 hdT.s (rP hce);have hqp:0<prodN ((xO D).drop (k+1)):=mF fun x hx=>hpos x (Xm hx)
    rw[hSk] at hpd hdt1;have hPk:(P.take k).length=k:=by rw[Yk];omega
    obtain⟨P2,hP2⟩: ∃P2,P.take (k+1)=P2:=⟨_,rfl⟩;rw[hP2] at hdt1;generalize P.take k=P1 at hdt1 hPk⊢;obtain⟨q,hq⟩: ∃q,prodN ((xO D).drop (k+1))=q:=⟨_,rfl⟩;rw[hq] at hqp hpd hdt1;generalize prodN ((xO D).drop k)=p at hpd hpk4⊢;generalize D[k]=d at hat hdT hce hcp hcpos hpd hdt1;have g42:=c42 d hdT.s;rw[hce,hcp] at g42;have g43:=c43 d hdT ((a0/q % prD d:Nat):Int);have hml:a0/q % prD d<prD d:=XH _ hcpos;rw[zjL hce (by rw[hcp];omega),zbv hce (by rw[hcp];omega)] at g43;generalize rdD d (a0/q % prD d)=r at g43 hdt1;obtain⟨z,hzz⟩: ∃z,prD d=z:=⟨_,rfl⟩;rw[hzz] at hcpos hpd g42 g43 hml;unfold zV at g42 g43;unfold zX at g43;have hn0: ¬(z:Int)=0:=by omega
    have hq0: ¬(q:Int)=0:=by omega
    have hr1:(p:Int).tdiv (z:Int)=(q:Nat):=by
     rw[hpd,Yq,Int.mul_comm,Int.mul_tdiv_cancel _ hn0]
    have hr2:(a0:Int).tdiv (q:Int)=((a0/q:Nat):Int):=(XS a0 q).symm;have hyl:=Xk a0 q;generalize a0/q=y at hr2 g43 hml hyl;have hr3:(y:Int).tmod (z:Int)=((y % z:Nat):Int):=(XJ y z).symm;have hpq:q<=p:=by rw[hpd];exact Nat.le_mul_of_pos_left _ hcpos
    have w1:IntKind.i64.wrap ((q:Nat):Int)=(q:Nat):=wrap_in (by omega) (by omega);have w2:IntKind.i64.wrap (y:Int)=(y:Int):=wrap_in (by omega) (by omega);generalize y % z=u at hr3 g43;simp only[d1,hat,zB,Qs,Za,Ze,Ψ19];refine zD g42 ?_ (ha:=by simp only[Zj,Zo,zC,V.norm,C.norm,C.normRow,zS wS]<;>rfl);simp only[d1,hat,hn0,hq0,hr1,hr2,hr3,w1,w2,zB,Qs,fX,znN,zfb,jU,jV,bne_iff_ne,ne_eq,Zn,Za,Ze,Ψ19,vv f19r5o0.eq_1,vv f19r5o1.eq_1,vv f19r5o2.eq_1,vv f19r5o3.eq_1,vv f19r5o4.eq_1,vv f19r5o5.eq_1,vv f19r5o6.eq_1,vv f19r5o7.eq_1,vv f19r5o8.eq_1,vv f19r5o9.eq_1,vv f19r5o10.eq_1,vv f19r5o11.eq_1,vv f19r5o12.eq_1,vv f19r5o13.eq_1,vv f19r5o14.eq_1,vv f19r5o15.eq_1,zof,Ψ19];refine yT g43 ?_ (ha:=by simp only[Zj,Zo,zC,V.norm,C.norm,C.normRow,zS wS]<;>rfl);simp only[c4,zB,sA,Qs,zei,zej,fX,zek,eB,eD,jX,jY,jZ,zaK,zaL,eS,eT,eU,forall_eq,bne_iff_ne,ne_eq,Zi,ZB,Zb,Zn,Zd,ZN,Za,Zq];have hj:xR P1++[[C.str r.kind,zF 1 (zK r.names),zF 1 (zK r.texts)]]=xR P2:=by rw[hdt1];simp[xR,zX]
    rw[hj];exact⟨by omega,by omega,Next.intro (k+1) (by simp only[hq];rfl) (by simp only[hP2];rfl) ⟨by omega,by simp only[hq];omega⟩ (by omega)⟩
   ·obtain rfl:k=D.length:=by omega
    have d1: ¬(D.length:Int)<D.length:=by omega
    have et2:P.take D.length=P:=ZU (by omega);rw[et2];simp only[d1,zB,Qs,Zi,ZJ,Za,Ze,Zq,Ψ19];refine hS _ ?_;simp only[V.fz,V.fzL,V.nrm,V.nrmL,pE,qG (pE _)]
    try rfl
 ·rw[if_pos h0] at hE
  rw[hE,if_neg h0] at hS;simp only[h0,Qs,implies_true,forall_const,bne_iff_ne,ne_eq,BEq.rfl,Zi,ZJ,Zb,Zn,Za,Zq,implies_true,Ψ19];exact hS _ rfl
end Go.Abs
namespace Go.Ex
open Go.Lib Go.Wd Go.Wire Go.Abs
def mU:List Nat->Nat->Nat
 |[],s=>s
 |k::l,s=>mU l (s+2 ^ k)
theorem zk8: ∀(l:List Nat) (s:Nat),l.Nodup->(∀k∈l,k<8/\s.testBit k=false)->s<256->mU l s=l.foldl (fun s k=>s|||(1<<<k)) s
 |[],_,_,_,_=>rfl
 |k::l,s,hn,h,hs=>by
  obtain⟨h1,h2⟩:=ZJ.1 hn;have hk:=h k (by simp);rw[mU,YZ,zrf s hs k hk.1 hk.2];refine zk8 l _ h2 (fun j hj=>⟨(h j (ZH _ hj)).1,?_⟩) ?_
  ·rw[XR,(h j (ZH _ hj)).2,pA,Yd,decide_eq_false_iff_not]
   rintro rfl;exact h1 hj
  ·refine(xM (m:=8)).2 fun j hj=>?_
   rw[XR,Yi,pA,decide_eq_true_eq] at hj;rcases hj with hj|rfl
   ·exact(xM (m:=8)).1 hs j hj
   ·exact hk.1
theorem zry (L:List Dmd) (p:List Pln):(failP L p).Nodup:=by unfold failP;exact Xb _ List.nodup_range
theorem zrz {L:List Dmd} (hL:L.length<=8) (p:List Pln):mU (failP L p) 0=setN (failP L p):=
 zk8 _ 0 (zry L p) (fun k hk=>⟨by have:=(dP.1 hk).1;omega,YW k⟩) (by decide)
def pL (F:List Nat) (k:Nat):Bool:=F.any fun f=> !f.testBit k
def noG (F:List Nat) (k:Nat):Bool:=F.any fun f=>f.testBit k
def doubG (F:List Nat):Nat->Nat
 |0=>0
 |k+1=>if pL F k=true/\noG F k=true then doubG F k+2 ^ k else doubG F k
theorem mV (F:List Nat): ∀m,doubG F m<2 ^ m
 |0=>Nat.one_pos
 |m+1=>by
  have:=mV F m;rw[doubG,Wh];split<;>omega
theorem zk9 (F:List Nat) (j:Nat): ∀m,(doubG F m).testBit j=(decide (j<m)&&(pL F j&&noG F j))
 |0=>by simp[doubG]
 |m+1=>by
  have hlt:=mV F m;have ih:=zk9 F j m;rw[doubG];rcases Nat.lt_trichotomy j m with h|h|h
  ·rw[decide_eq_true (by omega:j<m+1)]
   rw[decide_eq_true h] at ih;split
   ·rw[Y4,Nat.testBit_two_pow_add_gt h,ih]
   ·exact ih
  ·subst h
   have hz:(doubG F j).testBit j=false:=Wg hlt;rw[decide_eq_true (by omega:j<j+1),ZC];split
   ·rename_i q
    rw[Y4,Nat.testBit_two_pow_add_eq,hz,q.1,q.2];rfl
   ·rename_i q
    rw[hz];cases h1:pL F j<;>cases h2:noG F j<;>simp_all
  ·have h2:=mV F (m+1)
   rw[doubG] at h2;rw[decide_eq_false (by omega),ZF];exact Wg (ZO h2 (ZW (by decide) h))
theorem zrA {m:Nat} {F:List Nat} (h0:F≠[]) (hF: ∀f∈F,f<2 ^ m):doubG F m=(tZ m F).doubt:=by
 refine XE fun j=>?_
 rw[zk9,Ye,zbf h0 hF,Zp,Zp,decide_eq_true_eq];unfold pL noG;rw[Yx,Yx];constructor
 ·rintro⟨_,⟨f,h1,h2⟩,h3⟩;exact⟨h3,f,h1,by simpa using h2⟩
 ·rintro⟨⟨f,h1,h2⟩,⟨g,h3,h4⟩⟩
  exact⟨xM.1 (hF f h1) j h2,⟨g,h3,by simpa using h4⟩,f,h1,h2⟩
def goodG (F:List Nat):Nat:=(F.filter fun f=>decide (f=0)).length
theorem zrB (F:List Nat):goodG F<=F.length:=Yr _ _
def stG (F:List Nat):Int:=if goodG F=0 then 0 else if goodG F=F.length then 1 else 2
theorem zrC (m:Nat) (F:List Nat):stG F=dS (tZ m F):=by
 have hs:(tZ m F).sets=yW F []:=rfl;have hmem: ∀x,x∈yW F [] ↔ x∈F:=fun x=>by rw[iL];simp
 have hnd:=zjt F [] List.nodup_nil;have h0:goodG F=0 ↔ 0 ∉ F:=by
  unfold goodG;rw[List.length_eq_zero_iff,Wc];constructor
  ·intro h q;exact h 0 q (by simp)
  ·intro h f hf q;rw[decide_eq_true_eq] at q;exact h (q▸hf)
 have h1:goodG F=F.length ↔ ∀f∈F,f=0:=by
  unfold goodG;rw[List.length_filter_eq_length_iff];simp
 unfold stG dS;rw[hs];by_cases hz:(0:Nat)∈F
 ·rw[if_neg (fun q=>h0.1 q hz),if_pos ((hmem 0).2 hz)]
  have h2:goodG F=F.length ↔ (yW F []).length=1:=by
   rw[h1];have hz2:=(hmem 0).2 hz;constructor
   ·intro h
    match ho:yW F [],hnd,hz2 with
    |[a],_,_=>rfl
    |a::b::r,hnd,_=>
     exfalso;have ha:=h a ((hmem a).1 (by rw[ho];simp));have hb:=h b ((hmem b).1 (by rw[ho];simp));have:=(ZJ.1 hnd).1;rw[ha,hb] at this;exact this (by simp)
   ·intro h f hf
    obtain⟨a,ha⟩:=List.length_eq_one_iff.1 h;have h3:=(hmem f).2 hf;rw[ha] at h3 hz2;simp at h3 hz2;omega
  by_cases hg:goodG F=F.length
  ·rw[if_pos hg,if_pos (h2.1 hg)]
  ·rw[if_neg hg,if_neg (fun q=>hg (h2.2 q))]
 ·rw[if_pos (h0.2 hz),if_neg (fun q=>hz ((hmem 0).1 q))]
end Go.Ex
namespace Go.Ex
theorem zca {α:Type} {l:List α} {i:Nat} (h:i<l.length) (p:α->Bool):(l.take (i+1)).any p=((l.take i).any p||p l[i]):=by
 rw[Zz h,List.any_append];simp
end Go.Ex
namespace Go.Abs
open Go.Proofs Go.RowKit Go.Lib Go.Wd Go.Wire Go.Ex
theorem c46 (F:List Nat) (m:Nat) (hm:m<=8) (hF: ∀f∈F,f<256) (hl:F.length<=1000000):Spec Tryz.prog 46 [lst 1 (zG (zU F)),.int .i64 (m:Int)] (fun v=>v=.int .i64 ((doubG F m:Nat):Int)):=by
 refine Spec.of_awlS hf46 okf46 (by simp) fun S hS=>?_
 simp only[Qs,Zb,Ψ46];rw[uu f46l35.eq_1];refine zO (fun k:Nat=>[(0,lst 1 (zG (zU F))),(1,.int .i64 (m:Int)),(5,.int .i64 ((doubG F k:Nat):Int)),(6,.int .i64 k)]) (fun _=>[]) (fun k=>k<=m) (fun k=>m-k) 0 rfl rfl (Zy _) ?_;intro k hk;have hdl:=mV F k;have hp256:2 ^ k<=256:=(ZW (n:=2) (by decide) (show k<=8 by omega):2 ^ k<=2 ^ 8);by_cases hlt:k<m
 ·have d1:(k:Int)<(m:Int):=by omega
  have c4:IntKind.i64.wrap ((k:Int)+1)=(k:Int)+1:=wrap_in (by omega) (by omega);simp only[d1,Qs,Za,Ψ46];rw[uu f46l20.eq_1];refine zO (fun i:Nat=>[(0,lst 1 (zG (zU F))),(1,.int .i64 (m:Int)),(5,.int .i64 ((doubG F k:Nat):Int)),(6,.int .i64 k),(7,.bool (pL (F.take i) k)),(8,.bool (noG (F.take i) k)),(9,.int .i64 i)]) (fun _=>[]) (fun i=>i<=F.length) (fun i=>F.length-i) 0 rfl rfl (Zy _) ?_;intro i hi;by_cases hit:i<F.length
  ·have e1:(i:Int)<F.length:=by omega
   have e4:IntKind.i64.wrap ((i:Int)+1)=(i:Int)+1:=wrap_in (by omega) (by omega);have hat:(zG (zU F)).getD i []=[.int .i64 (F[i]:Int)]:=by simp[zG,zU,hit]
   have hf:=hF _ (Zv hit);have hy:pL (F.take (i+1)) k=(pL (F.take i) k|| !F[i].testBit k):=zca hit _;have hn:noG (F.take (i+1)) k=(noG (F.take i) k||F[i].testBit k):=zca hit _;generalize F[i]=f at hat hf hy hn;have c5:=iV (s:=f) (k:=k) (by omega) (by omega);cases hb:f.testBit k with
   |true=>
    rw[if_pos hb] at c5;rw[hb,YH,YQ] at hy;rw[hb,Xd] at hn;simp only[e1,e4,hat,c5,yF,xS,Qs,BEq.rfl,Za,Ψ46];exact Next.intro (i+1) (by simp only[hy,hn];rfl) rfl (by omega) (by omega)
   |false=>
    rw[if_neg (by simp[hb])] at c5;rw[hb,Yu,Xd] at hy;rw[hb,YQ] at hn;simp only[e1,e4,hat,c5,yF,xS,Qs,Za,YN,Ψ46];exact Next.intro (i+1) (by simp only[hy,hn];rfl) rfl (by omega) (by omega)
  ·obtain rfl:i=F.length:=by omega
   have e1: ¬(F.length:Int)<F.length:=by omega
   have c6:=iW (k:=k) (by omega);have hsu:doubG F (k+1)=if pL F k=true/\noG F k=true then doubG F k+2 ^ k else doubG F k:=rfl
   rw[Yh];generalize doubG F k=A at hsu hdl⊢;generalize hX:doubG F (k+1)=X at hsu;generalize 2 ^ k=P at c6 hsu hdl hp256;have c7:IntKind.i64.wrap ((A:Int)+(P:Int))=((A+P:Nat):Int):=(wrap_in (by omega) (by omega)).trans (by omega);cases hy:pL F k with
   |true=>
    cases hn:noG F k with
    |true=>
     rw[hy,hn,if_pos ⟨rfl,rfl⟩] at hsu;simp only[e1,c4,c6,c7,yF,xS,Qs,oK,reduceCtorEq,Za,Ψ46];exact Next.intro (k+1) (by simp only[hX,hsu];rfl) rfl (by omega) (by omega)
    |false=>
     rw[hy,hn,if_neg (by simp)] at hsu;simp only[e1,c4,yF,xS,Qs,reduceCtorEq,Za,Ψ46];exact Next.intro (k+1) (by simp only[hX,hsu];rfl) rfl (by omega) (by omega)
   |false=>
    rw[hy,if_neg (by simp)] at hsu;simp only[e1,c4,yF,xS,Qs,reduceCtorEq,Za,Ψ46];exact Next.intro (k+1) (by simp only[hX,hsu];rfl) rfl (by omega) (by omega)
 ·obtain rfl:k=m:=by omega
  have d1: ¬(k:Int)<(k:Int):=by omega
  simp only[d1,Qs,Za,Ψ46];exact hS
end Go.Abs
namespace Go.Ex
open Go.Lib Go.Wd Go.Wire Go.Abs
structure AskT (L:List Dmd) (D:List Dcm):Prop where
 a:AskS L D
 t:DcmsT D
def failU (L:List Dmd) (D:List Dcm) (n:Nat):List Nat:=(List.range n).map fun i=>setN (failP L (rdsD D i))
theorem zrD (L:List Dmd) (D:List Dcm) (n:Nat):failU L D (n+1)=failU L D n++[setN (failP L (rdsD D n))]:=by
 unfold failU;rw[YY,ZV];rfl
theorem zrE (L:List Dmd) (D:List Dcm) (n:Nat):(failU L D n).length=n:=by unfold failU;simp
theorem zla {D:List Dcm} (h0:(cnts D).2.2=0) {i:Nat} (hi:i<yY D):readE D i=0/\readP' D i=rdsD D i:=by
 have hn:=(vQ h0).n;have e:readE D i=0:=by unfold readE;rw[if_neg (by simp[h0]),if_neg (by omega)]
 refine⟨e,?_⟩;unfold readP';rw[if_pos e,Ym]
end Go.Ex
namespace Go.Abs
open Go.Proofs Go.RowKit Go.Lib Go.Wd Go.Wire Go.Ex
theorem c47 (L:List Dmd) (D:List Dcm) (h:AskT L D) (h0:(cnts D).2.2=0):Spec Tryz.prog 47 [lst 8 (L.map zM),lst 2 (D.map zV),.int .i64 (yY D:Nat)] (fun v=>v=lst 1 (zG (zU (failsD L D)))):=by
 refine Spec.of_awlP hf47 okf47 (by simp) fun S hS=>?_
 have hL:=h.a.l8;have hle:=(vQ h0).le;simp only[Qs,implies_true,bne_iff_ne,ne_eq,Zb,Zn,Za,Zq,implies_true,Ψ47];rw[uu f47l30.eq_1];refine zO (fun i:Nat=>[(0,lst 8 (L.map zM)),(1,lst 2 (D.map zV)),(2,.int .i64 (yY D:Nat)),(7,.k (.own 14)),(8,.int .i64 i)]) (fun i=>[(14,.arr 3 1 (some false) (zG (zU (failU L D i))))]) (fun i=>i<=yY D) (fun i=>yY D-i) 0 rfl rfl (Zy _) ?_;intro i hi;have hul:=zrE L D i;by_cases hlt:i<yY D
 ·have d1:(i:Int)<(yY D:Nat):=by omega
  have c4:IntKind.i64.wrap ((i:Int)+1)=(i:Int)+1:=wrap_in (by omega) (by omega);obtain⟨hre,hrp⟩:=zla h0 hlt;have g19:=c19 D h.t (i:Int);rw[hre,hrp] at g19;have hpl:=h.a.rd h0 i hlt;have hsu:=zrD L D i;obtain⟨U2,hU2⟩: ∃U2,failU L D (i+1)=U2:=⟨_,rfl⟩;rw[hU2] at hsu;have g87:=c87 L (rdsD D i) (by omega) hpl;have hsf:=zrz hL (rdsD D i);have hmf:=fun k (hk:k∈failP L (rdsD D i))=>(dP.1 hk).1
  have hfl:(failP L (rdsD D i)).length<=8:=by
   have:=zbu L (rdsD D i) L.length;unfold pD at this;rw[Ze] at this;exact ZX this hL
  have hfi:dV L (rdsD D i)=zU (failP L (rdsD D i)):=rfl;rw[hfi] at g87;generalize failU L D i=U at hsu hul⊢;generalize rdsD D i=p at g19 g87 hsf hmf hpl hsu hfl;generalize setN (failP L p)=sn at hsf hsu;generalize failP L p=FP at g87 hsf hmf hfl;simp only[d1,Qs,Za,Ψ47];refine yP g19 ?_ (ha:=by simp only[Zj,Zo,zC,V.norm,C.norm,C.normRow,zS yN]<;>rfl);simp only[Qs,Zi,Zb,Yf,Za,Ψ47];refine yP g87 ?_ (ha:=by simp only[Zj,Zo,zC,V.norm,C.norm,C.normRow,zI,pE,uJ]<;>rfl);simp only[Qs,Ψ47];rw[uu f47l13.eq_1];refine zO (fun x:Nat×Nat=>[(0,lst 8 (L.map zM)),(1,lst 2 (D.map zV)),(2,.int .i64 (yY D:Nat)),(7,.k (.own 14)),(8,.int .i64 i),(11,lst 1 (zG (zU FP))),(12,.int .i64 (x.2:Nat)),(13,.int .i64 x.1)]) (fun _=>[(14,.arr 3 1 (some false) (zG (zU U)))]) (fun x=>x.1<=FP.length/\x.2<=x.1*128/\mU (FP.drop x.1) x.2=sn) (fun x=>FP.length-x.1) (0,0) rfl rfl ⟨Zy _,Zy _,hsf⟩ ?_;rintro⟨j,s⟩ ⟨hj,hsb,hD⟩;simp only[] at hj hsb hD;by_cases hjt:j<FP.length
  ·have e1:(j:Int)<FP.length:=by omega
   have e4:IntKind.i64.wrap ((j:Int)+1)=(j:Int)+1:=wrap_in (by omega) (by omega);have hat:(zG (zU FP)).getD j []=[.int .i64 (FP[j]:Int)]:=by simp[zG,zU,hjt]
   have hk:=hmf _ (Zv hjt);rw[Zx hjt,mU] at hD;generalize FP[j]=k at hat hk hD;have c6:=iW (k:=k) (by omega);have hp2:2 ^ k<=128:=(ZW (n:=2) (by decide) (show k<=7 by omega):2 ^ k<=2 ^ 7);generalize 2 ^ k=P at c6 hp2 hD;have c7:IntKind.i64.wrap ((s:Int)+(P:Int))=((s+P:Nat):Int):=(wrap_in (by omega) (by omega)).trans (by omega);have e2:(0:Int)<=(k:Int):=by omega
   simp only[e1,e2,e4,hat,c6,c7,yF,xS,Qs,oK,Za,Ψ47];exact Next.intro (j+1,s+P) rfl rfl ⟨by simp only;omega,by simp only;omega,hD⟩ (by simp only;omega)
  ·obtain rfl:j=FP.length:=by omega
   have e1: ¬(FP.length:Int)<FP.length:=by omega
   rw[List.drop_length,mU] at hD;subst hD;have hj:zG (zU U)++[[C.int .i64 (s:Int)]]=zG (zU U2):=by rw[hsu];simp[zG,zU]
   simp only[e1,c4,yF,xS,Qs,reduceCtorEq,forall_eq,bne_iff_ne,ne_eq,ZB,Zn,Zd,ZN,Za,Zq,Ψ47];rw[hj];exact⟨by omega,by omega,Next.intro (i+1) rfl (by simp only[hU2];rfl) (by omega) (by omega)⟩
 ·obtain rfl:i=yY D:=by omega
  have d1: ¬((yY D:Nat):Int)<(yY D:Nat):=by omega
  have e:failsD L D=failU L D (yY D):=rfl;rw[e] at hS;simp only[d1,Qs,ZJ,Za,Zq,Ψ47];refine hS _ ?_;simp only[V.fz,V.fzL,V.nrm,V.nrmL,mT (wD _)]
  try rfl
end Go.Abs
namespace Go.Ex
open Go.Lib Go.Wd Go.Wire
def pM (n:Nat):UInt8:=UInt8.ofNat (48+n % 10)
def decT (n:Nat):Txt:=if n<10 then[pM n] else decT (n/10)++[pM n]
theorem kR: ∀(k n:Nat),n<10 ^ (k+1)->(decT n).length<=k+1
 |0,n,h=>by rw[decT,if_pos (by simpa using h)];simp
 |k+1,n,h=>by
  rw[decT];split
  ·simp
  ·have:=kR k (n/10) (by rw[Wh] at h;omega)
   rw[Zr];simp;omega
end Go.Ex
namespace Go.Proofs
open Go.Shelf Go.RowKit Go.Lib Go.Abs Go.Ex
theorem zlb (m:Nat) (w:World):(convert 186 9 (.slice (some ⟨w.heap.size,0,none⟩) 1 1)).run Tryz.prog (w.alloc (.cells #[.int .u8 (48+(m:Int) % 10)] 5))=.ok (.string ⟨#[pM m]⟩) (w.alloc (.cells #[.int .u8 (48+(m:Int) % 10)] 5)):=by
 have ha:=Go.Abs.alloc_get w (.cells #[.int .u8 (48+(m:Int) % 10)] 5 (0,0));have hn:((pM m).toNat:Int)=48+(m:Int) % 10:=by
  unfold pM;rw[UInt8.toNat_ofNat_of_lt' (by show 48+m % 10<256;omega)];omega
 exact run_convert_bytes_back _ 186 9 5 ⟨w.heap.size,0,none⟩ 1 [pM m] (by kernel_rfl) (by kernel_rfl) (by kernel_rfl) (fun j hj=>by
  obtain rfl:j=0:=by simpa using hj
  show(w.alloc (.cells #[.int .u8 (48+(m:Int) % 10)] 5)).cell? ⟨w.heap.size,0,none⟩=some (Value.int .u8 ((pM m).toNat:Int))
  rw[cell_of_heap ha,hn];rfl)
theorem zrF (n:Nat): ∀(m:Nat),m<n->m<=1099511627776-> ∀w,Calls Tryz.prog 119 #[.int .i64 m] w fun e w'=>e=.returned (.string ⟨(decT m).toArray⟩)/\Below w.heap.size w w':=by
 induction n with
 |zero=>intro m h;omega
 |succ n ih=>
  intro m hm hb w;have hb2:Below w.heap.size w (w.alloc (.cells #[.int .u8 (48+(m:Int) % 10)] 5)):=(Below.refl _ w).alloc (ZA _) _;by_cases h:m<10
  ·have h1:(m:Int)<10:=by omega
   have e:decT m=[pM m]:=by rw[decT,if_pos h]
   rw[e]
   go_enter Tryz.func119,Tryz.ntmps119
   go_wp2
   rw[zlb]
   go_wp2
   go_ret
   exact⟨rfl,hb2⟩
  ·have h1: ¬(m:Int)<10:=by omega
   have e:decT m=decT (m/10)++[pM m]:=by rw[decT,if_neg h]
   have i1:=ih (m/10) (by omega) (by omega);rw[show((m/10:Nat):Int)=(m:Int)/10 by omega] at i1;rw[e];have hT:=kR 12 (m/10) (by have:10 ^ 13=10000000000000:=rfl;omega);generalize decT (m/10)=T at i1 hT
   go_enter Tryz.func119,Tryz.ntmps119
   go_wp2
   rw[zlb]
   go_wp2_with (go_at_call 119;refine(i1 _).mono ?_;rintro e w3 ⟨rfl,hb3⟩)
   go_ret
   exact⟨by congr 2,hb2.trans (hb3.mono hb2.size)⟩
end Go.Proofs
namespace Go.Abs
open Go.Proofs Go.RowKit Go.Lib Go.Wd Go.Wire Go.Ex
theorem cJ (n:Nat) (h:n<=1099511627776):Spec Tryz.prog 119 [.int .i64 n] (fun r=>r=.str (decT n)):=by
 refine⟨rN (by kernel_rfl),fun w Z vs hG hz ha=>?_⟩;obtain⟨l⟩:=vs
 match l,ha with
 |[],ha=>exact absurd ha.1 (by simp)
 |_::_::_,ha=>exact absurd ha.1 (by simp)
 |[v1],ha=>
  have e1:=vO (ha.2 0 _ v1 rfl rfl).2.2;subst e1;refine(zrF (n+1) n (by omega) h w).mono ?_;rintro e w' ⟨rfl,hb⟩;exact⟨_,_,rfl,rfl,fun _=>rfl,oO hG (wB hb) (fun _=>rfl) (fun _=>⟨rfl,.str _⟩)⟩
theorem vC (s:Txt):Spec Tryz.prog 117 [.str s] (fun v=>v=.agg [.int .i64 0,.str s,.int .i64 0,.int .i64 0]):=by
 refine Spec.of_awlS hf117 okf117 (by simp) fun S hS=>?_
 simp only[Qs,Zi,Zb,Zd,ZN,Za,Ψ117];exact hS
theorem qM (s:Txt):Spec Tryz.prog 118 [.str s] (fun v=>v=.agg [.int .i64 3,.str s,.int .i64 0,.int .i64 0]):=by
 refine Spec.of_awlS hf118 okf118 (by simp) fun S hS=>?_
 simp only[Qs,Zi,Zb,Zd,ZN,Za,Ψ118];exact hS
theorem zrG (s:Txt) (hl:s.length<=1000000):Spec Tryz.prog 120 [.str s] (fun v=>v=.str ([34]++escT s++[34])):=by
 refine Spec.of_awlS hf120 okf120 (by simp) fun S hS=>?_
 simp only[Qs,Ψ120];rw[uu f120l16.eq_1];refine zO (fun i:Nat=>[(0,.str s),(3,.str (34::escT (s.take i))),(4,.int .i64 i)]) (fun _=>[]) (fun i=>i<=s.length) (fun i=>s.length-i) 0 rfl rfl (Zy _) ?_;intro i hi;by_cases hlt:i<s.length
 ·have d1:(i:Int)<s.length:=by omega
  have c4:IntKind.i64.wrap ((i:Int)+1)=(i:Int)+1:=wrap_in (by omega) (by omega);have hgt:=iI hlt;have hsl:List.drop i (List.take ((i:Int)+1).toNat s)=[s[i]]:=by
   rw[show((i:Int)+1).toNat=i+1 by omega,Zz hlt,List.drop_left' (by simp;omega)]
  have htk:escT (s.take (i+1))=escT (s.take i)++qK s[i]:=by rw[Zz hlt,zj7]
  have hle:=pH (s.take i);rw[Yk] at hle;have i1:(i:Int)<=i+1/\(i:Int)+1<=s.length:=by omega
  generalize escT (s.take i)=A at htk hle;generalize s[i]=c at hgt hsl htk;simp only[d1,c4,hgt,Qs,znM,nQ,znV,znW,Zd,Za,Ψ120];rw[hsl];have hA:A.length+4<=9223372036854775805:=by omega
  refine⟨fun q1=>⟨by omega,i1,by simp;omega,?_⟩,fun q1=>⟨fun q2=>⟨by omega,i1,by simp;omega,?_⟩,fun q2=>⟨i1,by simp;omega,?_⟩⟩⟩
  ·rw[<-cA (.inl (zj8 q1)),<-Z3] at htk
   exact Next.intro (i+1) (by rw[htk];rfl) rfl (by omega) (by omega)
  ·rw[<-cA (.inr (zj9 q2)),<-Z3] at htk
   exact Next.intro (i+1) (by rw[htk];rfl) rfl (by omega) (by omega)
  ·rw[<-zka q1 q2] at htk
   exact Next.intro (i+1) (by rw[htk];rfl) rfl (by omega) (by omega)
 ·have d1: ¬(i:Int)<s.length:=by omega
  have hle:=pH (s.take i);rw[ZU (by omega)] at hle⊢;simp only[d1,Qs,Zd,Za,Ψ120];exact⟨by omega,hS⟩
end Go.Abs
namespace Go.Ex
open Go.Lib Go.Wd Go.Wire Go.Abs
def mW (m:Dmd):Bool:=
 if m.op=3 then nameP m.oth&&(nameP m.sec&&(decide (m.txt=[])&&(decide (m.lo=0)&&decide (m.hi=0))))
 else decide (m.oth=[])&&(decide (m.sec=[])&&(if m.op=1 then quoB m.txt&&(decide (m.lo=0)&&decide (m.hi=0)) else decide (m.txt=[])&&(decide (m.lo>=0)&&(decide (m.lo<=m.hi)&&decide (m.hi<=1099511627776)))))
theorem zlc {m:Dmd} (h: ¬(0<=m.op/\m.op<5)):xK m=false:=by
 unfold xK okD;rw[decide_eq_false (by omega),decide_eq_false (by omega),decide_eq_false (by omega),decide_eq_false (by omega),decide_eq_false (by omega)];rfl
theorem zld (d f o s t:Txt) (lo hi:Int):xK ⟨0,d,f,o,s,t,lo,hi⟩=(nameP d&&(decide (f=[])&&(decide (o=[])&&(decide (s=[])&&(decide (t=[])&&(decide (lo=0)&&decide (hi=0))))))):=by
 rw[Ye];simp[xK,okD,kL,mN];constructor<;>(rintro⟨h1,h2⟩;simp_all)
theorem zle {op:Int} (ho:op=1\/op=2\/op=3\/op=4) (d f o s t:Txt) (lo hi:Int):xK ⟨op,d,f,o,s,t,lo,hi⟩=(nameP d&&(nameP f&&mW ⟨op,d,f,o,s,t,lo,hi⟩)):=by
 rw[Ye];rcases ho with rfl|rfl|rfl|rfl
 all_goals
  simp[xK,okD,kL,mN,mW];constructor<;>(intro h;simp_all)
end Go.Ex
namespace Go.Abs
open Go.Proofs Go.RowKit Go.Lib Go.Wd Go.Wire Go.Ex
theorem c84 (m:Dmd) (h:DmdS m):Spec Tryz.prog 84 [.agg (zM m)] (fun v=>v=.bool (xK m)):=by
 refine Spec.of_awlS hf84 okf84 (by simp) fun S hS=>?_
 have g1:=c80 m.doc (big h.d);have g2:=c80 m.fld (big h.f);have g3:=c80 m.oth (big h.o);have g4:=c80 m.sec (big h.s);have g5:=zq4 m.txt (big h.t);have hno:=zlc (m:=m);obtain⟨op,d,f,o,s,t,lo,hi⟩:=m;unfold zM;simp only[] at g1 g2 g3 g4 g5 hno;by_cases o1:op<0
 ·rw[hno (by omega)] at hS
  simp only[o1,Qs,Zb,Zd,Za,Ψ84];exact⟨fun _=>hS,fun _=>hS⟩
 by_cases o2:op>=5
 ·rw[hno (by omega)] at hS
  simp only[o1,o2,Qs,Zb,Zd,Za,Ψ84];exact⟨fun _=>hS,fun _=>hS⟩
 have ho:op=0\/op=1\/op=2\/op=3\/op=4:=by omega
 rcases ho with rfl|ho
 ·rw[zld] at hS
  simp only[Qs,Zb,Zd,Za,Xy,Int.reduceGE,YN,Yw,Ψ84];cases hd:nameP d with
  |false=>
   rw[hd] at g1 hS;refine zD g1 ?_ (ha:=by rfl);simp only[Qs,Za,Ψ84];exact hS
  |true=>
   rw[hd] at g1 hS;refine zD g1 ?_ (ha:=by rfl);simp only[Qs,Zb,Zd,Za,YN,Yw,Ψ84];refine⟨fun q1=>⟨fun q2=>⟨fun q3=>⟨fun q4=>⟨fun q5=>?_,fun q5=>?_⟩,fun q4=>?_⟩,fun q3=>?_⟩,fun q2=>?_⟩,fun q1=>?_⟩
   all_goals simp only[*,decide_true,decide_false,ZC,ZF] at hS;exact hS
 rw[zle ho] at hS;rcases ho with rfl|rfl|rfl|rfl
 all_goals
  simp only[Qs,BEq.rfl,Zb,Zd,Za,Xy,Int.reduceGE,YN,Yw,Ψ84];cases hd:nameP d
  ·rw[hd] at g1 hS
   refine zD g1 ?_ (ha:=by rfl);simp only[Qs,Za,Ψ84];exact hS
  rw[hd] at g1 hS;refine zD g1 ?_ (ha:=by rfl);simp only[Qs,Zb,Zd,Za,Ψ84];cases hf:nameP f
  ·rw[hf] at g2 hS
   refine zD g2 ?_ (ha:=by rfl);simp only[Qs,Za,Ψ84];exact hS
  rw[hf] at g2 hS;refine zD g2 ?_ (ha:=by rfl);simp only[Qs,BEq.rfl,Zb,Zd,Za,YN,Yw,Ψ84];simp only[mW,ZC,reduceIte,Int.reduceEq] at hS
 ·refine⟨fun q1=>⟨fun q2=>?_,fun q2=>?_⟩,fun q1=>?_⟩
  ·cases ht:quoB t
   ·rw[ht] at g5 hS
    refine zD g5 ?_ (ha:=by rfl);simp only[q1,q2,decide_true,ZC,ZF] at hS;simp only[Qs,Za,Ψ84];exact hS
   ·rw[ht] at g5 hS
    refine zD g5 ?_ (ha:=by rfl);simp only[q1,q2,decide_true,ZC] at hS;simp only[Qs,Zb,Zd,Za,Yw,Ψ84];refine⟨fun q3=>?_,fun q3=>?_⟩
    all_goals simp only[*,decide_true,decide_false,ZC,ZF] at hS;exact hS
  all_goals simp only[*,decide_true,decide_false,ZC,ZF] at hS;exact hS
 ·refine⟨fun q1=>⟨fun q2=>⟨fun q3=>⟨fun q4=>⟨fun q5=>?_,fun q5=>?_⟩,fun q4=>?_⟩,fun q3=>?_⟩,fun q2=>?_⟩,fun q1=>?_⟩
  all_goals simp only[*,ge_iff_le,decide_true,decide_false,ZC,ZF] at hS;exact hS
 ·cases h3:nameP o
  ·rw[h3] at g3 hS
   refine zD g3 ?_ (ha:=by rfl);simp only[Qs,Za,Ψ84];exact hS
  rw[h3] at g3 hS;refine zD g3 ?_ (ha:=by rfl);simp only[Qs,Zb,Zd,Za];cases h4:nameP s
  ·rw[h4] at g4 hS
   refine zD g4 ?_ (ha:=by rfl);simp only[Qs,Za,Ψ84];exact hS
  rw[h4] at g4 hS;refine zD g4 ?_ (ha:=by rfl);simp only[Qs,Zb,Zd,Za,YN,Yw,Ψ84];refine⟨fun q3=>⟨fun q4=>?_,fun q4=>?_⟩,fun q3=>?_⟩
  all_goals simp only[*,decide_true,decide_false,ZC,ZF] at hS;exact hS
 ·refine⟨fun q1=>⟨fun q2=>⟨fun q3=>⟨fun q4=>⟨fun q5=>?_,fun q5=>?_⟩,fun q4=>?_⟩,fun q3=>?_⟩,fun q2=>?_⟩,fun q1=>?_⟩
  all_goals simp only[*,ge_iff_le,decide_true,decide_false,ZC,ZF] at hS;exact hS
end Go.Abs
namespace Go.Ex
open Go.Lib Go.Wd Go.Wire Go.Abs
structure Tkn where
 k:Int
 t:Txt
def wT (s:Txt):Tkn:=⟨0,s⟩
def sT (s:Txt):Tkn:=⟨3,s⟩
def tkD (m:Dmd):List Tkn:=
 if m.op=0 then[wT [110,101,101,100],wT m.doc,sT [59]]
 else[wT (if m.op=4 then[115,117,109] else[102,105,101,108,100]),wT m.doc,sT [46],wT m.fld]++
  (if m.op=1 then[wT [105,115],⟨2,m.txt⟩,sT [59]]
  else if m.op=3 then[wT [115,97,109,101],wT m.oth,sT [46],wT m.sec,sT [59]]
  else[wT [102,114,111,109],⟨1,decT m.lo.toNat⟩,wT [116,111],⟨1,decT m.hi.toNat⟩,sT [59]])
def zlf (x:Tkn):List C:=[.int .i64 x.k,.str x.t,.int .i64 0,.int .i64 0]
def toks (l:List Tkn):List (List C):=l.map zlf
end Go.Ex
namespace Go.Abs
open Go.Proofs Go.RowKit Go.Lib Go.Wd Go.Wire Go.Ex
theorem dwl (P:Program) (l a:List AI) (p) (Q:AE->KK) (ts:TS) (os:OS):awl P (.drawl l a p) Q ts os=wpLQs P l (wpLs P a (Q .normal)) ts os:=id rfl
theorem c85 (m:Dmd) (hb:m.op≠0->m.op≠1->m.op≠3-> ∃a b:Nat,m.lo=a/\m.hi=b/\a<=1099511627776/\b<=1099511627776):Spec Tryz.prog 85 [.agg (zM m)] (fun v=>v=lst 4 (toks (tkD m))):=by
 refine Spec.of_awlP hf85 okf85 (by simp) fun S hS=>?_
 obtain⟨op,d,f,o,s,t,lo,hi⟩:=m;unfold zM;unfold tkD at hS;simp only[] at hb hS;by_cases o0:op=0
 ·rw[if_pos o0] at hS
  simp only[o0,dwl,Qs,bne_iff_ne,ne_eq,BEq.rfl,Zb,Zn,Zd,Za,Ψ85];refine yT (vC _) ?_ (ha:=by rfl);simp only[o0,dwl,Qs,Zb,Zd,Za];refine yT (vC _) ?_ (ha:=by rfl);simp only[o0,dwl,Qs];refine yT (qM _) ?_ (ha:=by rfl);simp only[o0,dwl,Qs,nR,forall_eq_or_imp,forall_eq,bne_iff_ne,ne_eq,ZB,ZJ,Zb,Zn,ZN,Za,Zq];exact hS _ (by rfl)
 ·rw[if_neg o0] at hS
  by_cases o1:op=1
  ·have o4: ¬op=4:=by omega
   rw[if_neg o4,if_pos o1] at hS;simp only[o0,o1,o4,dwl,Qs,bne_iff_ne,ne_eq,Zb,Zn,Zd,Za,YN,Ψ85];refine yT (vC _) ?_ (ha:=by rfl);simp only[o1,dwl,Qs,Zb,Zd,Za];refine yT (vC _) ?_ (ha:=by rfl);simp only[o1,dwl,Qs];refine yT (qM _) ?_ (ha:=by rfl);simp only[o1,dwl,Qs,Zb,Zd,Za];refine yT (vC _) ?_ (ha:=by rfl);simp only[o1,dwl,Qs,forall_eq_or_imp,forall_eq,bne_iff_ne,ne_eq,BEq.rfl,ZB,Zb,Zn,Zd,ZN,Za,Zq,Ψ85];refine yT (vC _) ?_ (ha:=by rfl);simp only[o1,dwl,Qs,oJ,Zb,Zd,Za];refine yT (qM _) ?_ (ha:=by rfl);simp only[o1,dwl,Qs,nR,lT,reduceCtorEq,forall_eq_or_imp,forall_eq,ZB,ZJ,Zb,Yf,Zn,Zd,ZN,Za,Zq];exact hS _ (by rfl)
  by_cases o3:op=3
  ·have o4: ¬op=4:=by omega
   rw[if_neg o4,if_neg o1,if_pos o3] at hS;simp only[o0,o1,o3,o4,dwl,Qs,bne_iff_ne,ne_eq,Zb,Zn,Zd,Za,YN,Ψ85];refine yT (vC _) ?_ (ha:=by rfl);simp only[o1,o3,dwl,Qs,Zb,Zd,Za];refine yT (vC _) ?_ (ha:=by rfl);simp only[o1,o3,dwl,Qs];refine yT (qM _) ?_ (ha:=by rfl);simp only[o1,o3,dwl,Qs,Zb,Zd,Za];refine yT (vC _) ?_ (ha:=by rfl);simp only[o1,o3,dwl,Qs,forall_eq_or_imp,forall_eq,bne_iff_ne,ne_eq,BEq.rfl,ZB,Zb,Zn,Zd,ZN,Za,YN,Zq,Ψ85];refine yT (vC _) ?_ (ha:=by rfl);simp only[o1,o3,dwl,Qs,Zb,Zd,Za];refine yT (vC _) ?_ (ha:=by rfl);simp only[o1,o3,dwl,Qs];refine yT (qM _) ?_ (ha:=by rfl);simp only[o1,o3,dwl,Qs,Zb,Zd,Za];refine yT (vC _) ?_ (ha:=by rfl);simp only[o1,o3,dwl,Qs];refine yT (qM _) ?_ (ha:=by rfl);simp only[o1,o3,dwl,Qs,nR,lT,reduceCtorEq,forall_eq_or_imp,forall_eq,ZB,ZJ,Zb,Yf,Zn,Zd,ZN,Za,Zq];exact hS _ (by rfl)
  obtain⟨a,b,rfl,rfl,ha,hb⟩:=hb o0 o1 o3;rw[Ym,Ym] at hS;by_cases o4:op=4
  ·rw[if_pos o4,if_neg o1,if_neg o3] at hS
   simp only[o0,o1,o3,o4,dwl,Qs,bne_iff_ne,ne_eq,BEq.rfl,Zb,Zn,Zd,Za,YN,Ψ85];refine yT (vC _) ?_ (ha:=by rfl);simp only[o1,o3,dwl,Qs,Zb,Zd,Za];refine yT (vC _) ?_ (ha:=by rfl);simp only[o1,o3,dwl,Qs];refine yT (qM _) ?_ (ha:=by rfl);simp only[o1,o3,dwl,Qs,Zb,Zd,Za];refine yT (vC _) ?_ (ha:=by rfl);simp only[o1,o3,dwl,Qs,forall_eq_or_imp,forall_eq,bne_iff_ne,ne_eq,ZB,Zb,Zn,Zd,ZN,Za,YN,Zq,Ψ85];refine yT (vC _) ?_ (ha:=by rfl);simp only[o1,o3,dwl,Qs,Zb,Zd,Za];refine xI (cJ a ha) ?_ (ha:=by rfl);simp only[o1,o3,dwl,Qs,oJ,Zb,Zd];refine yT (vC _) ?_ (ha:=by rfl);simp only[o1,o3,dwl,Qs,Zb,Za];refine xI (cJ b hb) ?_ (ha:=by rfl);simp only[o1,o3,dwl,Qs,oJ,Zb,Zd];refine yT (qM _) ?_ (ha:=by rfl);simp only[o1,o3,dwl,Qs,nR,lT,reduceCtorEq,forall_eq_or_imp,forall_eq,ZB,ZJ,Zb,Yf,Zn,Zd,ZN,Za,Zq];exact hS _ (by rfl)
  ·rw[if_neg o4,if_neg o1,if_neg o3] at hS
   simp only[o0,o1,o3,o4,dwl,Qs,forall_const,bne_iff_ne,ne_eq,Zb,Zn,Zd,Za,Ψ85];refine yT (vC _) ?_ (ha:=by rfl);simp only[o1,o3,dwl,Qs,Zb,Zd,Za];refine yT (vC _) ?_ (ha:=by rfl);simp only[o1,o3,dwl,Qs];refine yT (qM _) ?_ (ha:=by rfl);simp only[o1,o3,dwl,Qs,Zb,Zd,Za];refine yT (vC _) ?_ (ha:=by rfl);simp only[o1,o3,dwl,Qs,forall_const,forall_eq_or_imp,forall_eq,bne_iff_ne,ne_eq,ZB,Zb,Zn,Zd,ZN,Za,Zq,Ψ85];refine yT (vC _) ?_ (ha:=by rfl);simp only[o1,o3,dwl,Qs,Zb,Zd,Za];refine xI (cJ a ha) ?_ (ha:=by rfl);simp only[o1,o3,dwl,Qs,oJ,Zb,Zd];refine yT (vC _) ?_ (ha:=by rfl);simp only[o1,o3,dwl,Qs,Zb,Za];refine xI (cJ b hb) ?_ (ha:=by rfl);simp only[o1,o3,dwl,Qs,oJ,Zb,Zd];refine yT (qM _) ?_ (ha:=by rfl);simp only[o1,o3,dwl,Qs,nR,lT,reduceCtorEq,forall_eq_or_imp,forall_eq,ZB,ZJ,Zb,Yf,Zn,Zd,ZN,Za,Zq];exact hS _ (by rfl)
end Go.Abs
namespace Go.Ex
open Go.Lib Go.Wd Go.Wire Go.Abs
def pN:Tkn:=⟨0,[]⟩
def prX (x:Tkn):Txt:=if x.k=2 then[34]++escT x.t++[34] else x.t
def prT (l:List Tkn):Nat->Txt
 |0=>[]
 |i+1=>(if i=0 then prT l i else prT l i++[32])++prX (l.getD i pN)
theorem zlg {x:Tkn} (h:x.t.length<=1000):(prX x).length<=2002:=by
 unfold prX;have:=pH x.t;split
 ·simp;omega
 ·omega
theorem zlh {l:List Tkn} (h: ∀x∈l,x.t.length<=1000): ∀i,i<=l.length->(prT l i).length<=i*2003
 |0,_=>by simp[prT]
 |i+1,hi=>by
  have ih:=zlh h i (by omega);have e:l.getD i pN∈l:=by rw[Zm,Zk (show i<l.length by omega)];exact Zv _
  have:=zlg (h _ e);rw[prT,Zr];generalize (prX (l.getD i pN)).length=z at this⊢;split
  ·omega
  ·rw[Zr];simp;omega
end Go.Ex
namespace Go.Abs
open Go.Proofs Go.RowKit Go.Lib Go.Wd Go.Wire Go.Ex
theorem pO (l:List Tkn):(toks l).length=l.length:=Ze _
theorem zrH {l:List Tkn} {i:Nat} (h:i<l.length):(toks l).getD i []=[.int .i64 (l.getD i pN).k,.str (l.getD i pN).t,.int .i64 0,.int .i64 0]:=by simp[toks,zlf,h]
theorem c86 (l:List Tkn) (hl:l.length<=1000) (hx: ∀x∈l,x.t.length<=1000):Spec Tryz.prog 86 [lst 4 (toks l)] (fun v=>v=.str (prT l l.length)):=by
 refine Spec.of_awlS hf86 okf86 (by simp) fun S hS=>?_
 simp only[pO,Qs,Ψ86];rw[uu f86l20.eq_1];refine zO (fun i:Nat=>[(0,lst 4 (toks l)),(3,.str (prT l i)),(4,.int .i64 i)]) (fun _=>[]) (fun i=>i<=l.length) (fun i=>l.length-i) 0 rfl rfl (Zy _) ?_;intro i hi;have hb:=zlh hx i hi;by_cases hlt:i<l.length
 ·have d1:(i:Int)<l.length:=by omega
  have c4:IntKind.i64.wrap ((i:Int)+1)=(i:Int)+1:=wrap_in (by omega) (by omega);have hat:=zrH hlt;have hxi:=hx (l.getD i pN) (by rw[Zm,Zk hlt];exact Zv _);have hs:prT l (i+1)=(if i=0 then prT l i else prT l i++[32])++prX (l.getD i pN):=rfl;have hxl:=zlg hxi;obtain⟨X,hX⟩: ∃X,prT l (i+1)=X:=⟨_,rfl⟩;rw[hX] at hs;unfold prX at hs;generalize l.getD i pN=x at hat hxi hs hxl;have g120:=zrG x.t (by omega);have hel:=pH x.t;have hbi:i*2003<=1000*2003:=ZY _ (by omega);generalize prT l i=T at hb hs⊢;by_cases h0:i=0
  ·rw[if_pos h0] at hs
   have d0: ¬(i:Int)>0:=by omega
   by_cases h2:x.k=2
   ·rw[if_pos h2] at hs
    simp only[d1,d0,hat,h2,pO,Qs,BEq.rfl,Zb,Zd,Za,Ψ86];refine zD g120 ?_ (ha:=by rfl);simp only[c4,pO,Qs,Za];exact⟨by (try simp);omega,Next.intro (i+1) (by simp only[hX,hs];rfl) rfl (by omega) (by omega)⟩
   ·rw[if_neg h2] at hs
    simp only[d1,d0,c4,hat,h2,pO,Qs,forall_const,Zb,Zd,Za,Ψ86];exact⟨by (try simp);omega,Next.intro (i+1) (by simp only[hX,hs];rfl) rfl (by omega) (by omega)⟩
  ·rw[if_neg h0] at hs
   have d0:(i:Int)>0:=by omega
   by_cases h2:x.k=2
   ·rw[if_pos h2] at hs
    simp only[d1,d0,hat,h2,pO,Qs,BEq.rfl,Zb,Zd,Za,Ψ86];refine⟨by omega,zD g120 ?_ (ha:=by rfl)⟩;simp only[c4,pO,Qs,Za];exact⟨by (try simp);omega,Next.intro (i+1) (by simp only[hX,hs];rfl) rfl (by omega) (by omega)⟩
   ·rw[if_neg h2] at hs
    simp only[d1,d0,c4,hat,h2,pO,Qs,forall_const,Zb,Zd,Za,Ψ86];exact⟨by omega,by (try simp);omega,Next.intro (i+1) (by simp only[hX,hs];rfl) rfl (by omega) (by omega)⟩
 ·have d1: ¬(i:Int)<l.length:=by omega
  obtain rfl:i=l.length:=by omega
  simp only[d1,pO,Qs,Za,Ψ86];exact hS
end Go.Abs
namespace Go.Ex
open Go.Lib Go.Wd Go.Wire Go.Abs
def wtT:List Tkn->Nat
 |[]=>0
 |x::l=>(prX x).length+1+wtT l
theorem zcb: ∀a b:List Tkn,wtT (a++b)=wtT a+wtT b
 |[],b=>by simp[wtT]
 |x::a,b=>by rw[ZT,wtT,wtT,zcb a b];omega
theorem zli (l:List Tkn): ∀i,i<=l.length->(prT l i).length<=wtT (l.take i)
 |0,_=>by simp[prT]
 |i+1,hi=>by
  have ih:=zli l i (by omega);have hi':i<l.length:=by omega
  have e:l.getD i pN=l[i]:=by rw[Zm,Zk hi'];rfl
  rw[Zz hi',zcb,prT,Zr,e];simp only[wtT];split
  ·omega
  ·rw[Zr];simp;omega
theorem iX {s:Txt} (h:nameP s=true):s.length<=20:=by
 unfold nameP at h;simp only[Zp,decide_eq_true_eq] at h;exact h.2.2.1
theorem zrI {s:Txt} (h:quoB s=true):s.length<=400:=by
 rw[zkC,Zp,decide_eq_true_eq] at h;exact h.2
structure FineT (m:Dmd):Prop where
 tx: ∀x∈tkD m,x.t.length<=400
 wt:wtT (tkD m)<=1000
 le:(tkD m).length<=9
 nm:m.op≠0->m.op≠1->m.op≠3-> ∃a b:Nat,m.lo=a/\m.hi=b/\a<=1099511627776/\b<=1099511627776
theorem zcc {m:Dmd} (h:xK m=true):FineT m:=by
 obtain⟨op,d,f,o,s,t,lo,hi⟩:=m;by_cases hop:0<=op/\op<5
 ·have ho:op=0\/op=1\/op=2\/op=3\/op=4:=by omega
  rcases ho with rfl|ho
  ·rw[zld] at h
   simp only[Zp,decide_eq_true_eq] at h;have h1:=iX h.1;refine⟨?_,?_,by simp[tkD],by simp⟩
   ·intro x hx
    simp[tkD,wT,sT] at hx;rcases hx with rfl|rfl|rfl<;>simp<;>omega
   ·simp[tkD,wT,sT,wtT,prX];omega
  ·rw[zle ho] at h
   simp only[Zp] at h;obtain⟨h1,h2,h3⟩:=h;have h1:=iX h1;have h2:=iX h2;rcases ho with rfl|rfl|rfl|rfl
   ·simp[mW] at h3
    have h4:=zrI h3.2.2.1;have h5:=pH t;refine⟨?_,?_,by simp[tkD],by simp⟩
    ·intro x hx
     simp[tkD,wT,sT] at hx;rcases hx with rfl|rfl|rfl|rfl|rfl|rfl|rfl<;>simp<;>omega
    ·simp[tkD,wT,sT,wtT,prX];omega
   ·simp[mW] at h3
    obtain⟨_,_,_,h6,h7,h8⟩:=h3;have d1:=kR 12 lo.toNat (by have:10 ^ 13=10000000000000:=rfl;omega);have d2:=kR 12 hi.toNat (by have:10 ^ 13=10000000000000:=rfl;omega);refine⟨?_,?_,by simp[tkD],fun _ _ _=>⟨lo.toNat,hi.toNat,by simp;omega,by simp;omega,by omega,by omega⟩⟩
    ·intro x hx
     simp[tkD,wT,sT] at hx;rcases hx with rfl|rfl|rfl|rfl|rfl|rfl|rfl|rfl|rfl<;>simp<;>omega
    ·simp[tkD,wT,sT,wtT,prX];omega
   ·simp[mW] at h3
    have h4:=iX h3.1;have h5:=iX h3.2.1;refine⟨?_,?_,by simp[tkD],by simp⟩
    ·intro x hx
     simp[tkD,wT,sT] at hx;rcases hx with rfl|rfl|rfl|rfl|rfl|rfl|rfl|rfl|rfl<;>simp<;>omega
    ·simp[tkD,wT,sT,wtT,prX];omega
   ·simp[mW] at h3
    obtain⟨_,_,_,h6,h7,h8⟩:=h3;have d1:=kR 12 lo.toNat (by have:10 ^ 13=10000000000000:=rfl;omega);have d2:=kR 12 hi.toNat (by have:10 ^ 13=10000000000000:=rfl;omega);refine⟨?_,?_,by simp[tkD],fun _ _ _=>⟨lo.toNat,hi.toNat,by simp;omega,by simp;omega,by omega,by omega⟩⟩
    ·intro x hx
     simp[tkD,wT,sT] at hx;rcases hx with rfl|rfl|rfl|rfl|rfl|rfl|rfl|rfl|rfl<;>simp<;>omega
    ·simp[tkD,wT,sT,wtT,prX];omega
 ·rw[zlc hop] at h;cases h
def tkU (L:List Dmd) (n:Nat):List Tkn:=((L.take n).map tkD).flatten
theorem zlj {L:List Dmd} {n:Nat} (h:n<L.length):tkU L (n+1)=tkU L n++tkD (L.getD n yI):=by
 unfold tkU;have e:L.getD n yI=L[n]:=by rw[Zm,Zk h];rfl
 rw[Zz h,ZV,Wj,e];simp
structure TkOk (l:List Tkn) (n:Nat):Prop where
 tx: ∀x∈l,x.t.length<=400
 wt:wtT l<=n*1000
 le:l.length<=n*9
theorem zlk (L:List Dmd): ∀n,n<=L.length->(L.take n).all xK=true->TkOk (tkU L n) n
 |0,_,_=>⟨by simp[tkU],by simp[tkU,wtT],by simp[tkU]⟩
 |n+1,hn,h=>by
  have hlt:n<L.length:=by omega
  have e:L.getD n yI=L[n]:=by rw[Zm,Zk hlt];rfl
  rw[Zz hlt,Xe,Zp] at h;have ih:=zlk L n (by omega) h.1;have hf:=zcc (m:=L[n]) (by simpa using h.2);rw[zlj hlt,e];refine⟨fun x hx=>?_,?_,?_⟩
  ·rcases Yt.1 hx with hx|hx
   ·exact ih.tx x hx
   ·exact hf.tx x hx
  ·rw[zcb];have:=ih.wt;have:=hf.wt;omega
  ·rw[Zr];have:=ih.le;have:=hf.le;omega
def zll (L:List Dmd):Txt:=if L.all xK=true then prT (tkU L L.length) (tkU L L.length).length else[]
theorem zrJ {L:List Dmd} (h:L.length<=8):vX L=L.all xK:=by
 unfold vX;cases L with
 |nil=>rfl
 |cons a l=>
  rw[decide_eq_true (show(a::l).length<=20 by omega),ZC,decide_eq_false (by simp),Yd]
end Go.Ex
namespace Go.Abs
open Go.Proofs Go.RowKit Go.Lib Go.Wd Go.Wire Go.Ex
theorem zrK (l:List Tkn):C.normRows (toks l)=toks l:=yK (fun _=>rfl) l
theorem c44 (L:List Dmd) (hL:L.length<=8) (hm: ∀m∈L,DmdS m):Spec Tryz.prog 44 [lst 8 (L.map zM)] (fun v=>v=.tup [.str (zll L),.bool (vX L)]):=by
 refine Spec.of_awlP hf44 okf44 (by simp) fun S hS=>?_
 rw[zrJ hL] at hS;unfold zll at hS;have d0: ¬(L.length:Int)>20:=by omega
 simp only[d0,zB,Qs,Za,Ze,Ψ44];rw[uu f44l25.eq_1];refine zO (fun x:Nat×Option Bool=>[(0,lst 8 (L.map zM)),(4,.k (.own 4)),(5,.int .i64 x.1)]) (fun x=>[(4,.arr 174 4 x.2 (toks (tkU L x.1)))]) (fun x=>x.1<=L.length/\(L.take x.1).all xK=true) (fun x=>L.length-x.1) (0,some true) rfl rfl ⟨Zy _,rfl⟩ ?_;rintro⟨i,nl⟩ ⟨hi,hA⟩;simp only[] at hi hA;have hok:=zlk L i hi hA;have hle:=hok.le;by_cases hlt:i<L.length
 ·have d1:(i:Int)<L.length:=by omega
  have c4:IntKind.i64.wrap ((i:Int)+1)=(i:Int)+1:=wrap_in (by omega) (by omega);have hat:=kH hlt;have e:L.getD i yI=L[i]:=by rw[Zm,Zk hlt];rfl
  have hmi:=hm (L.getD i yI) (by rw[e];exact Zv hlt);have hsu:=zlj hlt;have hA2:(L.take (i+1)).all xK=xK (L.getD i yI):=by rw[Zz hlt,Xe,hA,e];simp
  have hall:xK (L.getD i yI)=false->L.all xK=false:=fun h=>by
   rw[Yj];intro q;have:=Zt.1 q L[i] (Zv hlt);rw[<-e,h] at this;cases this
  have g84:=c84 (L.getD i yI) hmi;have g85:=fun h=>c85 (L.getD i yI) (zcc h).nm
  have hl9:=fun h=>(zcc (m:=L.getD i yI) h).le
  generalize L.getD i yI=m at hat hmi hsu hA2 hall g84 g85 hl9;unfold zM at g84 g85;simp only[d1,hat,zB,Qs,Za,Ze,Ψ44];cases hf:xK m with
  |false=>
   rw[hall hf,if_neg (by simp)] at hS;rw[hf] at g84;refine zD g84 ?_ (ha:=by rfl);simp only[Yu,Qs,Zi,Za,Ψ44];exact hS _ rfl
  |true=>
   rw[hf] at g84 hA2;have g85:=g85 hf;have hl9:=hl9 hf;refine zD g84 ?_ (ha:=by rfl);simp only[YH,d1,hat,zB,Qs,Za,Ze,Ψ44];refine yP g85 ?_ (ha:=by rfl);simp only[c4,pO,Qs,Za,ziW];have hj:toks (tkU L i)++toks (tkD m)=toks (tkU L (i+1)):=by rw[hsu];simp[toks]
   rw[hj];exact⟨by omega,by omega,Next.intro (i+1,nlApp nl (toks (tkD m))) rfl rfl ⟨by simp only;omega,hA2⟩ (by simp only;omega)⟩
 ·obtain rfl:i=L.length:=by omega
  have d1: ¬(L.length:Int)<L.length:=by omega
  rw[Yh] at hA;rw[hA,if_pos rfl] at hS;have hpw:=zli (tkU L L.length) (tkU L L.length).length (ZA _);rw[Yh] at hpw;have hwt:=hok.wt;have g86:=c86 (tkU L L.length) (by omega) (fun x hx=>by have:=hok.tx x hx;omega);generalize prT (tkU L L.length) (tkU L L.length).length=T at hpw g86 hS;have d2: ¬(T.length:Int)>20000:=by omega
  simp only[d1,Qs,Za,Ze,Ψ44];refine zD g86 ?_ (ha:=by simp[zC,uQ,lookO,V.norm,tG,lst,zI,zrK]);simp only[d2,Qs,Zi,Za,Ψ44];exact hS _ rfl
end Go.Abs
namespace Go.Ex
open Go.Lib Go.Wd Go.Wire Go.Abs
theorem zlm {L:List Dmd} (hL:L.length<=8) (D:List Dcm): ∀f∈failsD L D,f<256:=fun f hf=>by
 have h256:2 ^ L.length<=256:=(ZW (n:=2) (by decide) hL:2 ^ L.length<=2 ^ 8);have:=iP L D f hf;omega
theorem cK (L:List Dmd) (D:List Dcm):(failsD L D).length=yY D:=by unfold failsD;simp
theorem zrL {L:List Dmd} {D:List Dcm} (hD:uT D) (h:(cnts D).2.2=0):failsD L D≠[]:=fun e=>by
 have:=cK L D;have h2:=zbN hD h;rw[e] at this;simp at this;omega
theorem zrM {F:List Nat} {i:Nat} (h:i<F.length):goodG (F.take (i+1))=goodG (F.take i)+if F[i]=0 then 1 else 0:=by
 unfold goodG;rw[Zz h,Y6,Zr];by_cases q:F[i]=0
 ·rw[if_pos q,Xn,if_pos (by simpa using q)];rfl
 ·rw[if_neg q,Xn,if_neg (by simpa using q)];rfl
end Go.Ex
namespace Go.Abs
open Go.Proofs Go.RowKit Go.Lib Go.Wd Go.Wire Go.Ex
theorem c21 (L:List Dmd) (D:List Dcm) (h:AskT L D):Spec Tryz.prog 21 [lst 8 (L.map zM),lst 2 (D.map zV)] (fun v=>v=.int .i64 (lookE L D)):=by
 refine Spec.of_awlS hf21 okf21 (by simp) fun S hS=>?_
 have hL:=h.a.l8;have g44:=c44 L hL h.a.dm;have g18:=c18 D h.t.s;unfold lookE at hS;simp only[Qs,Zb,Za,Ψ21];refine zD g44 ?_ (ha:=by simp only[Zj,Zo,zC,V.norm,zI,uJ]<;>rfl);cases hf:vX L with
 |false=>
  rw[hf,if_neg (by simp)] at hS;simp only[Qs,Za,Ψ21];exact hS
 |true=>
  rw[hf,if_pos rfl] at hS;simp only[Qs,Za,Ψ21];refine zD g18 ?_ (ha:=by simp only[Zj,Zo,zC,V.norm,zI,zS yN,C.norm]<;>rfl);by_cases h0:(cnts D).2.2=0
  ·have g47:=c47 L D h h0
   have g46:=c46 (failsD L D) L.length hL (zlm hL D) (by rw[cK];have:=(vQ h0).le;omega);have hdl:=mV (failsD L D) L.length;have h256:2 ^ L.length<=256:=(ZW (n:=2) (by decide) hL:2 ^ L.length<=2 ^ 8);have g45:=c45 (doubG (failsD L D) L.length) (by omega);have hbl:=kQ (doubG (failsD L D) L.length);have hn:=(vQ h0).n;rw[h0] at hS⊢;rw[hn];generalize failsD L D=F at g47 g46 g45 hbl;generalize doubG F L.length=b at g46 g45 hbl;have d1: ¬(((bitsN b).length:Nat):Int)>10:=by omega
   simp only[zB,Qs,Za,Yw,Ψ21];refine yP g47 ?_ (ha:=by simp only[Zj,Zo,zC,V.norm,zI,uJ,zS yN,C.norm]<;>rfl);simp only[zB,Qs,Za,Ze];refine zD g46 ?_ (ha:=by simp only[Zj,Zo,zC,V.norm,zI,wD,C.norm]<;>rfl);simp only[Qs];refine zD g45 ?_ (ha:=by rfl);simp only[d1,Qs,Ψ21];exact hS
  ·simp only[h0,Qs,forall_const,Za,Ψ21]
   exact hS
theorem c24 (L:List Dmd) (D:List Dcm) (h:AskT L D):Spec Tryz.prog 24 [lst 8 (L.map zM),lst 2 (D.map zV)] (fun v=>v=.tup [.int .i64 (stateE L D),.int .i64 (lookE L D)]):=by
 refine Spec.of_awlS hf24 okf24 (by simp) fun S hS=>?_
 have hL:=h.a.l8;have g21:=c21 L D h;have g18:=c18 D h.t.s;unfold stateE at hS;simp only[Qs,Zb,Za,Ψ24];refine zD g21 ?_ (ha:=by simp only[Zj,Zo,zC,V.norm,zI,uJ,zS yN,C.norm]<;>rfl);by_cases hl:lookE L D=0
 ·have h0:(cnts D).2.2=0:=by
   unfold lookE at hl;split at hl
   ·exact hl
   ·cases hl
  have hn:=(vQ h0).n;have g47:=c47 L D h h0;have hfl:=cK L D;have hle:=(vQ h0).le;rw[if_pos hl,hl] at hS;unfold viewD at hS;rw[<-zrC] at hS;unfold stG at hS;generalize failsD L D=F at g47 hS hfl;simp only[hl,Qs,Za,Yw,Ψ24];refine zD g18 ?_ (ha:=by simp only[Zj,Zo,zC,V.norm,zI,zS yN,C.norm]<;>rfl);rw[hn];simp only[Qs,Za,Ψ24];refine yP g47 ?_ (ha:=by simp only[Zj,Zo,zC,V.norm,zI,uJ,zS yN,C.norm]<;>rfl);simp only[Qs,Ψ24];rw[uu f24l26.eq_1];refine zO (fun i:Nat=>[(9,lst 1 (zG (zU F))),(10,.int .i64 (goodG (F.take i):Nat)),(11,.int .i64 i)]) (fun _=>[]) (fun i=>i<=F.length) (fun i=>F.length-i) 0 rfl rfl (Zy _) ?_;intro i hi;have hgl:=zrB (F.take i);rw[Yk] at hgl;by_cases hlt:i<F.length
  ·have d1:(i:Int)<F.length:=by omega
   have c4:IntKind.i64.wrap ((i:Int)+1)=(i:Int)+1:=wrap_in (by omega) (by omega);have hat:(zG (zU F)).getD i []=[.int .i64 (F[i]:Int)]:=by simp[zG,zU,hlt]
   have hgt:=zrM hlt;obtain⟨g2,hg2⟩: ∃g2,goodG (F.take (i+1))=g2:=⟨_,rfl⟩;rw[hg2] at hgt;generalize F[i]=f at hat hgt;generalize goodG (F.take i)=g at hgt hgl⊢;by_cases hf:f=0
   ·rw[if_pos hf] at hgt
    have hf2:((f:Nat):Int)=0:=by omega
    have c5:IntKind.i64.wrap ((g:Int)+1)=((g+1:Nat):Int):=(wrap_in (by omega) (by omega)).trans (by omega);simp only[d1,c4,c5,hat,hf2,yF,xS,Qs,BEq.rfl,Za,Ψ24];exact Next.intro (i+1) (by simp only[hg2,hgt];rfl) rfl (by omega) (by omega)
   ·rw[if_neg hf] at hgt
    have hf2: ¬((f:Nat):Int)=0:=by omega
    simp only[d1,c4,hat,hf2,yF,xS,Qs,forall_const,Za,Ψ24];exact Next.intro (i+1) (by simp only[hg2,hgt];rfl) rfl (by omega) (by omega)
  ·obtain rfl:i=F.length:=by omega
   have d1: ¬(F.length:Int)<F.length:=by omega
   rw[Yh];generalize goodG F=g at hS;by_cases e0:g=0
   ·have e0':((g:Nat):Int)=0:=by omega
    rw[if_pos e0] at hS;simp only[d1,e0',yF,xS,Qs,BEq.rfl,Zi,Za,Ψ24];exact hS
   ·have e0': ¬((g:Nat):Int)=0:=by omega
    rw[if_neg e0] at hS;by_cases e1:g=F.length
    ·have e1':((g:Nat):Int)=(F.length:Int):=by omega
     rw[if_pos e1] at hS;have e2': ¬(F.length:Int)=0:=by omega
     simp only[d1,e0',e1',e2',yF,xS,Qs,forall_const,BEq.rfl,Zi,Za,Ψ24];exact hS
    ·have e1': ¬((g:Nat):Int)=(F.length:Int):=by omega
     rw[if_neg e1] at hS;simp only[d1,e0',e1',yF,xS,Qs,forall_const,Zi,Za,Ψ24];exact hS
 ·rw[if_neg hl] at hS
  simp only[hl,Qs,forall_const,Zi,Za,Ψ24];exact hS
end Go.Abs
namespace Go.Ex
open Go.Lib Go.Wd Go.Wire Go.Abs
theorem zln (m:Dmd) (p:Pln): ∀(l:List Pln) (j:Nat),looksL m (l++[p]) j=looksL m l j++qH m p (j+l.length)
 |[],j=>by simp[looksL]
 |a::l,j=>by
  rw[ZT,looksL,looksL,zln m p l (j+1),Z3];congr 3;simp;omega
theorem zlo (m:Dmd) {l:List Pln} {i:Nat} (h:i<l.length):looksL m (l.take (i+1)) 0=looksL m (l.take i) 0++lkG (aG m l[i]) (bG m l[i]) i:=by
 rw[Zz h,zln,zq6,Z4,Yk,Y8 (by omega)]
theorem zrN (a b:Int) (i:Nat):(lkG a b i).length<=2:=by
 unfold lkG;split<;>split<;>simp
theorem zlp (m:Dmd) (l:List Pln): ∀i,i<=l.length->(looksL m (l.take i) 0).length<=i*2
 |0,_=>by simp[looksL]
 |i+1,h=>by
  have:=zlp m l i (by omega);have h2:=zrN (aG m (l[i]'(by omega))) (bG m (l[i]'(by omega))) i;rw[zlo m (by omega),Zr];omega
end Go.Ex
namespace Go.Abs
open Go.Proofs Go.RowKit Go.Lib Go.Wd Go.Wire Go.Ex
theorem c90 (m:Dmd) (l:List Pln) (hl:wU l):Spec Tryz.prog 90 [.agg (zM m),lst 3 (l.map zX)] (fun v=>v=lst 2 (pls (looksP m l))):=by
 refine Spec.of_awlP hf90 okf90 (by simp) fun S hS=>?_
 have hlen:=hl.1;unfold looksP at hS;by_cases hop:m.op<=0\/m.op>=5
 ·rw[if_pos hop] at hS
  obtain⟨op,d,f,e,g,t,lo,hi⟩:=m;unfold zM;simp only[] at hop;simp only[zB,Qs,bne_iff_ne,ne_eq,Zb,Zn,Za,Ψ90];rw[uu f90l37.eq_1];refine zO (fun _:Unit=>[(1,lst 3 (l.map zX)),(2,.k (.c (.ro [.int .i64 op,.str d,.str f,.str e,.str g,.str t,.int .i64 lo,.int .i64 hi] 0))),(5,.k (.own 5)),(6,.int .i64 0)]) (fun _=>[(5,.arr 64 2 (some true) [])]) (fun _=>True) (fun _=>0) () rfl rfl trivial ?_;rintro _ _;by_cases h0:op>0
  ·have h5: ¬op<5:=by omega
   simp only[h0,h5,zB,Qs,ZJ,Zb,Zd,Za,Ze,Zq,Ψ90];exact⟨fun _=>hS _ rfl,fun _=>hS _ rfl⟩
  ·simp only[h0,zB,Qs,ZJ,Zb,Zd,Za,Ze,Zq,Ψ90]
   exact⟨fun _=>hS _ rfl,fun _=>hS _ rfl⟩
 ·rw[if_neg hop] at hS
  have hsn:=fun i (h:i<l.length)=>zlo m h
  have hln:=zlp m l;have haG: ∀p:Pln,aG m p=if p.kind=m.doc then zZ p m.fld else-1:=fun _=>rfl
  have hbG: ∀p:Pln,bG m p=if p.kind=m.oth/\m.op=3 then zZ p m.sec else-1:=fun _=>rfl
  obtain⟨op,d,f,e,g,t,lo,hi⟩:=m;unfold zM;simp only[] at hop haG hbG;have o1:=eq_true (show op>0 by omega);have o2:=eq_true (show op<5 by omega);simp only[zB,Qs,bne_iff_ne,ne_eq,Zb,Zn,Za,Ψ90];rw[uu f90l37.eq_1];refine zO (fun x:Nat×Option Bool=>[(1,lst 3 (l.map zX)),(2,.k (.c (.ro [.int .i64 op,.str d,.str f,.str e,.str g,.str t,.int .i64 lo,.int .i64 hi] 0))),(5,.k (.own 5)),(6,.int .i64 x.1)]) (fun x=>[(5,.arr 64 2 x.2 (pls (looksL ⟨op,d,f,e,g,t,lo,hi⟩ (l.take x.1) 0)))]) (fun x=>x.1<=l.length) (fun x=>l.length-x.1) (0,some true) rfl rfl (Zy _) ?_;rintro⟨i,nl⟩ hil;simp only[] at hil;have hln:=hln i hil;by_cases hlt:i<l.length
  ·have d1:(i:Int)<l.length:=by omega
   have c4:IntKind.i64.wrap ((i:Int)+1)=(i:Int)+1:=wrap_in (by omega) (by omega);have hat:=qW hlt;have hp:=hl.2 _ (Zv hlt);have hs:=hsn i hlt;rw[haG,hbG] at hs;generalize l[i]=p at hat hp hs;have g1:=mQ p f hp.ns;have g2:=mQ p g hp.ns;have hf1:=zkE p f;have hf2:=zkE p g;unfold zX at g1 g2;obtain⟨R2,hR2⟩: ∃R2,looksL ⟨op,d,f,e,g,t,lo,hi⟩ (l.take (i+1)) 0=R2:=⟨_,rfl⟩;rw[hR2] at hs;generalize looksL ⟨op,d,f,e,g,t,lo,hi⟩ (l.take i) 0=R at hs hln⊢;refine cG fun Q hQ=>?_
   have key: ∀a b:Int,-1<=a-> -1<=b->R2=R++lkG a b i->awl Tryz.prog f90b16 (AE.inBlockL 1 (AE.thenL (awl Tryz.prog (.region f90r3) Q) Q)) [(1,lst 3 (l.map zX)),(2,.k (.c (.ro [.int .i64 op,.str d,.str f,.str e,.str g,.str t,.int .i64 lo,.int .i64 hi] 0))),(5,.k (.own 5)),(6,.int .i64 i),(7,.int .i64 a),(8,.int .i64 b)] [(5,.arr 64 2 nl (pls R))]:=by
    intro a b ha hb hR;obtain⟨x,hx⟩: ∃x,(if b<a then b else a)=x:=⟨_,rfl⟩;obtain⟨y,hy⟩: ∃y,(if b>a then b else a)=y:=⟨_,rfl⟩;have hmin:min a b=x:=by rw[<-hx];split<;>omega
    have hmax:max a b=y:=by rw[<-hy];split<;>omega
    have hxy:x<=y:=by omega
    unfold lkG at hR;rw[hmin,hmax] at hR;by_cases p1:x>=0
    ·have p3:y>=0:=by omega
     rw[if_pos p3] at hR;by_cases p2:x<y
     ·rw[if_pos ⟨p1,p2⟩] at hR
      have hj1:pls R++[[C.int .i64 (i:Int),C.int .i64 x]]=pls (R++[⟨(i:Int),x⟩]):=by simp[pls,uD]
      have hj2:pls (R++[⟨(i:Int),x⟩])++[[C.int .i64 (i:Int),C.int .i64 y]]=pls R2:=by rw[hR];simp[pls,uD]
      have hjl:(pls (R++[⟨(i:Int),x⟩])).length=R.length+1:=by simp[pls]
      simp only[hx,hy,p1,p2,p3,c4,vB,Qs,eA,eM,eN,eO,eP,eQ,zgT,forall_eq,bne_iff_ne,ne_eq,Zi,ZB,Zb,Zn,Zd,ZN,Za,Zq,Ψ90,uu f90b16.eq_1,vv f90r3.eq_1];rw[hj1,hj2,hjl];exact⟨by omega,by omega,by omega,by omega,hQ .normal _ _ (Next.intro (i+1,some false) rfl (by simp only[hR2];rfl) (by simp only;omega) (by simp only;omega))⟩
     ·rw[if_neg (fun q=>p2 q.2),Z7] at hR
      have hj2:pls R++[[C.int .i64 (i:Int),C.int .i64 y]]=pls R2:=by rw[hR];simp[pls,uD]
      simp only[hx,hy,p1,p2,p3,c4,vB,Qs,eA,eM,eN,eO,eP,eQ,forall_eq,bne_iff_ne,ne_eq,Zi,ZB,Zb,Zn,Zd,ZN,Za,Zq,Ψ90,uu f90b16.eq_1,vv f90r3.eq_1];rw[hj2];exact⟨by omega,by omega,hQ .normal _ _ (Next.intro (i+1,some false) rfl (by simp only[hR2];rfl) (by simp only;omega) (by simp only;omega))⟩
    ·rw[if_neg (fun q=>p1 q.1),Z7] at hR
     by_cases p3:y>=0
     ·rw[if_pos p3] at hR
      have hj2:pls R++[[C.int .i64 (i:Int),C.int .i64 y]]=pls R2:=by rw[hR];simp[pls,uD]
      simp only[hx,hy,p1,p3,c4,vB,Qs,eA,eM,eN,eO,eP,eQ,zaJ,forall_eq,bne_iff_ne,ne_eq,Zi,ZB,Zb,Zn,Zd,ZN,Za,Zq,Ψ90,uu f90b16.eq_1,vv f90r3.eq_1];rw[hj2];exact⟨by omega,by omega,hQ .normal _ _ (Next.intro (i+1,some false) rfl (by simp only[hR2];rfl) (by simp only;omega) (by simp only;omega))⟩
     ·rw[if_neg p3,Zi] at hR
      simp only[hx,hy,p1,p3,c4,vB,Qs,eA,eM,eN,eO,eP,eQ,Za,Ψ90,uu f90b16.eq_1,vv f90r3.eq_1];exact hQ .normal _ _ (Next.intro (i+1,nl) rfl (by simp only[hR2,hR];rfl) (by simp only;omega) (by simp only;omega))
   by_cases q1':p.kind=d
   ·have q1:=eq_true q1'
    by_cases q2':p.kind=e
    ·have q2:=eq_true q2'
     by_cases q3':op=3
     ·have q3:=eq_true q3'
      simp only[d1,o1,o2,hat,q1,q2,q3,zB,Qs,forall_const,Yp,Zb,Zd,Za,Ze,Ψ90];refine xI g1 ?_ (ha:=by simp only[Zj,Zo,zC,V.norm,C.norm,C.normRow,zI,yM]<;>rfl);simp only[d1,o1,o2,hat,q1,q2,q3,zB,Qs,forall_const,Yp,Zb,Zd,Za,Ze,Ψ90];refine xI g2 ?_ (ha:=by simp only[Zj,Zo,zC,V.norm,C.norm,C.normRow,zI,yM]<;>rfl);simp only[d1,o1,o2,hat,q1,q2,q3,zB,Qs,Yp,Za];exact key (zZ p f) (zZ p g) (by omega) (by omega) (by rw[hs,if_pos q1',if_pos ⟨q2',q3'⟩])
     ·have q3:=eq_false q3'
      simp only[d1,o1,o2,hat,q1,q2,q3,zB,Qs,forall_const,Yp,Zb,Zd,Za,Ze,Ψ90];refine xI g1 ?_ (ha:=by simp only[Zj,Zo,zC,V.norm,C.norm,C.normRow,zI,yM]<;>rfl);simp only[d1,o1,o2,hat,q1,q2,q3,zB,Qs,forall_const,Yp,Zb,Zd,Za,Ze,Ψ90];exact key (zZ p f) (-1) (by omega) (by omega) (by rw[hs,if_pos q1',if_neg (fun q=>q3' q.2)])
    ·have q2:=eq_false q2'
     simp only[d1,o1,o2,hat,q1,q2,zB,Qs,forall_const,Yp,Zb,Zd,Za,Ze,Ψ90];refine xI g1 ?_ (ha:=by simp only[Zj,Zo,zC,V.norm,C.norm,C.normRow,zI,yM]<;>rfl);simp only[d1,o1,o2,hat,q1,q2,zB,Qs,forall_const,Yp,Zb,Zd,Za,Ze,Ψ90];exact key (zZ p f) (-1) (by omega) (by omega) (by rw[hs,if_pos q1',if_neg (fun q=>q2' q.1)])
   ·have q1:=eq_false q1'
    by_cases q2':p.kind=e
    ·have q2:=eq_true q2'
     by_cases q3':op=3
     ·have q3:=eq_true q3'
      simp only[d1,o1,o2,hat,q1,q2,q3,zB,Qs,forall_const,Yp,Zb,Zd,Za,Ze,Ψ90];refine xI g2 ?_ (ha:=by simp only[Zj,Zo,zC,V.norm,C.norm,C.normRow,zI,yM]<;>rfl);simp only[d1,o1,o2,hat,q1,q2,q3,zB,Qs,Yp,Za];exact key (-1) (zZ p g) (by omega) (by omega) (by rw[hs,if_neg q1',if_pos ⟨q2',q3'⟩])
     ·have q3:=eq_false q3'
      simp only[d1,o1,o2,hat,q1,q2,q3,zB,Qs,forall_const,Yp,Zb,Zd,Za,Ze,Ψ90];exact key (-1) (-1) (by omega) (by omega) (by rw[hs,if_neg q1',if_neg (fun q=>q3' q.2)])
    ·have q2:=eq_false q2'
     simp only[d1,o1,o2,hat,q1,q2,zB,Qs,forall_const,Yp,Zb,Zd,Za,Ze,Ψ90];exact key (-1) (-1) (by omega) (by omega) (by rw[hs,if_neg q1',if_neg (fun q=>q2' q.1)])
  ·obtain rfl:i=l.length:=by omega
   have d1: ¬(l.length:Int)<l.length:=by omega
   rw[Yh];simp only[d1,zB,Qs,ZJ,Za,Ze,Zq,Ψ90];refine hS _ ?_;simp only[tH,V.fz,V.fzL,V.nrm,V.nrmL,mT (tH _)]
   try rfl
end Go.Abs
namespace Go.Ex
open Go.Lib Go.Wd Go.Wire Go.Abs
theorem cL {z:Plc}: ∀{l:List Plc},z∈vV l ↔ z∈l
 |[]=>X7
 |[a]=>X7
 |a::b::l=>by
  rw[vV];split
  ·rename_i h;subst h;rw[cL (l:=a::l)];simp
  ·rw[ZB,cL (l:=b::l),ZB (a:=z) (b:=a)]
theorem zrO {L:List Dmd} {c:List Nat} {p:List Pln} {z:Plc}:z∈placesP L c p ↔ ∃k∈c,z∈looksP (L.getD k yI) p:=by
 unfold placesP;rw[cL,(kF xX _).mem_iff,XX];constructor
 ·rintro⟨x,hx,hz⟩
  obtain⟨k,hk,rfl⟩:=ZL.1 hx;exact⟨k,hk,hz⟩
 ·rintro⟨k,hk,hz⟩
  exact⟨_,ZL.2 ⟨k,hk,rfl⟩,hz⟩
def isG (L:List Dmd) (set:Nat) (p:List Pln) (d f:Nat):Bool:=(List.range L.length).any fun k=>set.testBit k&&(looksP (L.getD k yI) p).any fun z=>decide (z=⟨(d:Int),(f:Int)⟩)
def qN (L:List Dmd) (set:Nat) (p:List Pln) (d:Nat):List Plc:=((List.range (p.getD d vW).names.length).filter (isG L set p d)).map fun(f:Nat)=>⟨(d:Int),(f:Int)⟩
def mX (L:List Dmd) (set:Nat) (p:List Pln):List Plc:=((List.range p.length).map (qN L set p)).flatten
theorem zlq {L:List Dmd} {set:Nat} {p:List Pln} {d f:Nat}:isG L set p d f=true ↔ ∃k,k<L.length/\set.testBit k=true/\(⟨(d:Int),(f:Int)⟩:Plc)∈looksP (L.getD k yI) p:=by
 unfold isG;rw[Yx];constructor
 ·rintro⟨k,hk,h⟩
  rw[Zp,Yx] at h;obtain⟨h1,z,hz,h2⟩:=h;rw[decide_eq_true_eq] at h2;exact⟨k,Yb.1 hk,h1,h2▸hz⟩
 ·rintro⟨k,hk,h1,h2⟩
  refine⟨k,Yb.2 hk,?_⟩;rw[Zp,Yx];exact⟨h1,_,h2,by simp⟩
theorem zlr (m:Dmd): ∀(l:List Pln) (i:Nat) (z:Plc),z∈looksL m l i-> ∃j f:Nat,j<l.length/\f<(l.getD j vW).names.length/\z=⟨((i+j:Nat):Int),(f:Int)⟩
 |[],_,z,h=>by simp[looksL] at h
 |p::l,i,z,h=>by
  rw[looksL,Yt] at h;rcases h with h|h
  ·unfold qH at h
   obtain⟨f,hf,rfl⟩:=ZL.1 h;exact⟨0,f,by simp,Yb.1 (Z8.1 hf).1,rfl⟩
  ·obtain⟨j,f,h1,h2,rfl⟩:=zlr m l (i+1) z h
   exact⟨j+1,f,by simp;omega,h2,by congr 1;omega⟩
theorem zrP {m:Dmd} {l:List Pln} {z:Plc} (h:z∈looksP m l): ∃j f:Nat,j<l.length/\f<(l.getD j vW).names.length/\z=⟨(j:Int),(f:Int)⟩:=by
 unfold looksP at h;split at h
 ·cases h
 ·obtain⟨j,f,h1,h2,h3⟩:=zlr m l 0 z h
  exact⟨j,f,h1,h2,by rw[h3,Z4]⟩
theorem zrQ {L:List Dmd} {set:Nat} {p:List Pln} {z:Plc}:z∈mX L set p ↔ ∃k,k<L.length/\set.testBit k=true/\z∈looksP (L.getD k yI) p:=by
 unfold mX;rw[XX];constructor
 ·rintro⟨l,hl,hz⟩
  obtain⟨d,_,rfl⟩:=ZL.1 hl;unfold qN at hz;obtain⟨f,hf,rfl⟩:=ZL.1 hz;exact zlq.1 (Z8.1 hf).2
 ·rintro⟨k,h1,h2,h3⟩
  obtain⟨d,f,q1,q2,rfl⟩:=zrP h3;refine⟨_,ZL.2 ⟨d,Yb.2 q1,rfl⟩,?_⟩;unfold qN;exact ZL.2 ⟨f,Z8.2 ⟨Yb.2 q2,zlq.2 ⟨k,h1,h2,h3⟩⟩,rfl⟩
theorem zls {a b:Plc} (h:xX a b=true):xX b a=false:=by
 cases q:xX b a with
 |false=>rfl
 |true=>
  have:=pB.tr _ _ _ h q;rw[pB.irr] at this;cases this
theorem zrR (L:List Dmd) (set:Nat) (p:List Pln):(mX L set p).Pairwise fun a b=>xX a b=true:=by
 unfold mX;refine List.pairwise_flatten.2 ⟨fun l hl=>?_,?_⟩
 ·obtain⟨d,_,rfl⟩:=ZL.1 hl
  unfold qN;rw[Xt];refine(Xb _ List.pairwise_lt_range).imp ?_;intro a b hab;unfold xX;simp only[if_pos,decide_eq_true_eq];omega
 ·rw[Xt]
  refine List.pairwise_lt_range.imp ?_;intro a b hab x hx y hy;unfold qN at hx hy;obtain⟨f,_,rfl⟩:=ZL.1 hx;obtain⟨g,_,rfl⟩:=ZL.1 hy;unfold xX;simp only[];rw[if_neg (by omega),decide_eq_true_eq];omega
theorem zlt: ∀l:List Plc,l.Pairwise (fun a b=>xX b a=false)->(vV l).Pairwise fun a b=>xX a b=true
 |[],_=>Xx
 |[a],_=>List.pairwise_singleton _ _
 |a::b::l,h=>by
  have h1:=Xc.1 h;have ih:=zlt (b::l) h1.2;rw[vV];split
  ·exact ih
  ·rename_i hne
   refine Xc.2 ⟨fun x hx=>?_,ih⟩;have hx:=cL.1 hx;have hxa:=h1.1 x hx;cases q:xX a x with
   |true=>rfl
   |false=>
    exfalso;have e:=pB.tot _ _ q hxa;subst e;rcases ZB.1 hx with e|hx
    ·exact hne e
    ·have:=(Xc.1 h1.2).1 a hx
     exact hne (pB.tot _ _ this (h1.1 b (by simp)))
theorem zrS {a b:List Plc} (ha:a.Pairwise fun x y=>xX x y=true) (hb:b.Pairwise fun x y=>xX x y=true) (h: ∀z,z∈a ↔ z∈b):a=b:=by
 have nd: ∀{l:List Plc},l.Pairwise (fun x y=>xX x y=true)->l.Nodup:=fun hl=>hl.imp fun q e=>by
  subst e;rw[pB.irr] at q;cases q
 refine zbj pB ((List.perm_ext_iff_of_nodup (nd ha) (nd hb)).2 h) (ha.imp fun q=>zls q) (hb.imp fun q=>zls q)
theorem zlu {L:List Dmd} (hL:L.length<=8) {set:Nat} (hs:set<2 ^ L.length) (p:List Pln):mX L set p=placesP L (bitsN set) p:=by
 have h256:2 ^ L.length<=256:=(ZW (n:=2) (by decide) hL:2 ^ L.length<=2 ^ 8);refine zrS (zrR L set p) (zlt _ (zbi pB _)) fun z=>?_
 rw[zrQ];show _ ↔ z∈placesP L (bitsN set) p;rw[zrO];constructor
 ·rintro⟨k,_,h2,h3⟩;exact⟨k,(qZ (by omega)).2 h2,h3⟩
 ·rintro⟨k,h2,h3⟩
  have:=(qZ (by omega)).1 h2;exact⟨k,xM.1 hs k this,this,h3⟩
def isU (L:List Dmd) (set:Nat) (p:List Pln) (d f n:Nat):Bool:=(List.range n).any fun k=>set.testBit k&&(looksP (L.getD k yI) p).any fun z=>decide (z=⟨(d:Int),(f:Int)⟩)
theorem zrT (L:List Dmd) (set:Nat) (p:List Pln) (d f n:Nat):isU L set p d f (n+1)=(isU L set p d f n||(set.testBit n&&(looksP (L.getD n yI) p).any fun z=>decide (z=⟨(d:Int),(f:Int)⟩))):=by
 unfold isU;rw[YY,List.any_append];simp
def rowFU (L:List Dmd) (set:Nat) (p:List Pln) (d n:Nat):List Plc:=((List.range n).filter (isG L set p d)).map fun(f:Nat)=>⟨(d:Int),(f:Int)⟩
theorem zrU (L:List Dmd) (set:Nat) (p:List Pln) (d n:Nat):rowFU L set p d (n+1)=rowFU L set p d n++if isG L set p d n=true then[⟨(d:Int),(n:Int)⟩] else[]:=by
 unfold rowFU;rw[YY,Y6,ZV,Xn,XK];congr 1;split<;>rfl
theorem zcd (L:List Dmd) (set:Nat) (p:List Pln) (d n:Nat):(rowFU L set p d n).length<=n:=by
 unfold rowFU;rw[Ze];exact ZX (Yr _ _) (by simp)
def fldU (L:List Dmd) (set:Nat) (p:List Pln) (n:Nat):List Plc:=((List.range n).map (qN L set p)).flatten
theorem zce (L:List Dmd) (set:Nat) (p:List Pln) (n:Nat):fldU L set p (n+1)=fldU L set p n++qN L set p n:=by
 unfold fldU;rw[YY,ZV,Wj];simp
theorem zlv (L:List Dmd) (set:Nat) (p:List Pln) (h: ∀x∈p,x.names.length<=1000000): ∀n,n<=p.length->(fldU L set p n).length<=n*1000000
 |0,_=>by simp[fldU]
 |n+1,hn=>by
  have ih:=zlv L set p h n (by omega);have h1:=zcd L set p n (p.getD n vW).names.length;have h2:=h (p.getD n vW) (by rw[Zm,Zk (show n<p.length by omega)];exact Zv _);have e:qN L set p n=rowFU L set p n (p.getD n vW).names.length:=rfl;rw[zce,Zr,e];omega
end Go.Ex
namespace Go.Abs
open Go.Proofs Go.RowKit Go.Lib Go.Wd Go.Wire Go.Ex
theorem zrV {l:List Plc} {i:Nat} (h:i<l.length):(pls l).getD i []=[.int .i64 l[i].doc,.int .i64 l[i].fld]:=by simp[pls,uD,h]
theorem zlw {l:List Pln} {i:Nat} (h:i<l.length):(xR l).getD i []=[.str (l.getD i vW).kind,zF 1 (zK (l.getD i vW).names),zF 1 (zK (l.getD i vW).texts)]:=by simp[xR,zX,h]
theorem c51 (L:List Dmd) (D:List Dcm) (h:AskT L D) (h0:(cnts D).2.2=0) (set:Nat) (hset:set<2 ^ L.length):Spec Tryz.prog 51 [lst 8 (L.map zM),lst 2 (D.map zV),.int .i64 (set:Nat)] (fun v=>v=lst 2 (pls (placesP L (bitsN set) (rdsD D 0)))):=by
 rw[<-zlu h.a.l8 hset];refine Spec.of_awlP hf51 okf51 (by simp) fun S hS=>?_
 have hL:=h.a.l8;have h256:2 ^ L.length<=256:=(ZW (n:=2) (by decide) hL:2 ^ L.length<=2 ^ 8);have hpos:=zbN h.a.dc h0;obtain⟨hre,hrp⟩:=zla h0 hpos;have g19:=c19 D h.t ((0:Nat):Int);rw[hre,hrp] at g19;have hpl:=h.a.rd h0 0 hpos;have he:mX L set (rdsD D 0)=fldU L set (rdsD D 0) (rdsD D 0).length:=rfl;rw[he] at hS;generalize rdsD D 0=p at g19 hpl hS;have hp1:=hpl.1;have hnm: ∀x∈p,x.names.length<=1000000:=fun x hx=>(hpl.2 x hx).ns
 have hful:=zlv L set p hnm;simp only[Qs,Zb,Za,Ψ51];refine yP g19 ?_ (ha:=by simp only[Zj,Zo,zC,V.norm,C.norm,C.normRow,zS yN]<;>rfl);simp only[sA,Qs,implies_true,bne_iff_ne,ne_eq,Zi,Zb,Yf,Zn,Za,Zq,implies_true,Ψ51];rw[uu f51l56.eq_1];refine zO (fun d:Nat=>[(0,lst 8 (L.map zM)),(2,.int .i64 (set:Nat)),(7,lst 3 (xR p)),(9,.k (.own 21)),(10,.int .i64 d)]) (fun d=>[(21,.arr 64 2 (some false) (pls (fldU L set p d)))]) (fun d=>d<=p.length) (fun d=>p.length-d) 0 rfl rfl (Zy _) ?_;intro d hd;have hfl:=hful d hd;by_cases hlt:d<p.length
 ·have d1:(d:Int)<p.length:=by omega
  have c4:IntKind.i64.wrap ((d:Int)+1)=(d:Int)+1:=wrap_in (by omega) (by omega);have hat:=zlw hlt;have hnl:=hnm (p.getD d vW) (by rw[Zm,Zk hlt];exact Zv _);have hsu:=zce L set p d;have hrow:qN L set p d=rowFU L set p d (p.getD d vW).names.length:=rfl;rw[hrow] at hsu;obtain⟨U2,hU2⟩: ∃U2,fldU L set p (d+1)=U2:=⟨_,rfl⟩;rw[hU2] at hsu;generalize fldU L set p d=U at hsu hfl⊢;generalize p.getD d vW=r at hat hnl hsu;simp only[d1,sA,Qs,Za,Ψ51];rw[uu f51l46.eq_1];refine zO (fun f:Nat=>[(0,lst 8 (L.map zM)),(2,.int .i64 (set:Nat)),(7,lst 3 (xR p)),(9,.k (.own 21)),(10,.int .i64 d),(11,.int .i64 f)]) (fun f=>[(21,.arr 64 2 (some false) (pls (U++rowFU L set p d f)))]) (fun f=>f<=r.names.length) (fun f=>r.names.length-f) 0 rfl (by simp[rowFU];rfl) (Zy _) ?_;intro f hf;have hrl:=zcd L set p d f;by_cases hft:f<r.names.length
  ·have m1:(f:Int)<r.names.length:=by omega
   have m4:IntKind.i64.wrap ((f:Int)+1)=(f:Int)+1:=wrap_in (by omega) (by omega);have hrs:=zrU L set p d f;have hisG:isG L set p d f=isU L set p d f L.length:=rfl;rw[hisG] at hrs;obtain⟨R2,hR2⟩: ∃R2,rowFU L set p d (f+1)=R2:=⟨_,rfl⟩;rw[hR2] at hrs;generalize rowFU L set p d f=R at hrs hrl⊢;simp only[d1,m1,hat,zQ,sA,Qs,Zb,Zd,Za,Ψ51];rw[uu f51l33.eq_1];refine zO (fun k:Nat=>[(0,lst 8 (L.map zM)),(2,.int .i64 (set:Nat)),(7,lst 3 (xR p)),(9,.k (.own 21)),(10,.int .i64 d),(11,.int .i64 f),(12,.bool (isU L set p d f k)),(13,.int .i64 k)]) (fun _=>[(21,.arr 64 2 (some false) (pls (U++R)))]) (fun k=>k<=L.length) (fun k=>L.length-k) 0 rfl rfl (Zy _) ?_;intro k hk;by_cases hkt:k<L.length
   ·have n1:(k:Int)<L.length:=by omega
    have n4:IntKind.i64.wrap ((k:Int)+1)=(k:Int)+1:=wrap_in (by omega) (by omega);have c5:=iV (s:=set) (k:=k) (by omega) (by omega);have his:=zrT L set p d f k;obtain⟨B2,hB2⟩: ∃B2,isU L set p d f (k+1)=B2:=⟨_,rfl⟩;rw[hB2] at his;cases hb:set.testBit k with
    |false=>
     rw[if_neg (by simp[hb])] at c5;rw[hb,ZF,YQ] at his;simp only[n1,n4,c5,zB,Qs,Za,Ze,YN,Ψ51];exact Next.intro (k+1) (by simp only[hB2,his];rfl) rfl (by omega) (by omega)
    |true=>
     rw[if_pos hb] at c5;rw[hb,ZC] at his;have hatm:=kH hkt;have hmm:=Zv hkt;have g90:=c90 (L.getD k yI) p hpl;have hll:=zbB (L.getD k yI) p hpl;generalize isU L set p d f k=B at his⊢;generalize L.getD k yI=m at hatm g90 his hll;generalize looksP m p=Z at g90 his hll;unfold zM at g90;simp only[n1,c5,hatm,zB,Qs,BEq.rfl,Za,Ze,Ψ51];refine yP g90 ?_ (ha:=by simp only[Zj,Zo,zC,V.norm,C.norm,C.normRow,zI,pE]<;>rfl);simp only[vB,Qs,Ψ51];rw[uu f51l18.eq_1];refine zO (fun i:Nat=>[(0,lst 8 (L.map zM)),(2,.int .i64 (set:Nat)),(7,lst 3 (xR p)),(9,.k (.own 21)),(10,.int .i64 d),(11,.int .i64 f),(12,.bool (B||(Z.take i).any fun z=>decide (z=⟨(d:Int),(f:Int)⟩))),(13,.int .i64 k),(14,lst 2 (pls Z)),(15,.int .i64 i)]) (fun _=>[(21,.arr 64 2 (some false) (pls (U++R)))]) (fun i=>i<=Z.length) (fun i=>Z.length-i) 0 (by simp;rfl) rfl (Zy _) ?_;intro i hi;by_cases hit:i<Z.length
     ·have e1:(i:Int)<Z.length:=by omega
      have e4:IntKind.i64.wrap ((i:Int)+1)=(i:Int)+1:=wrap_in (by omega) (by omega);have hatz:=zrV hit;have hat2:=zca hit (fun z:Plc=>decide (z=⟨(d:Int),(f:Int)⟩));generalize Z[i]=z at hatz hat2;obtain⟨Y,hY⟩: ∃Y,((Z.take (i+1)).any fun z=>decide (z=⟨(d:Int),(f:Int)⟩))=Y:=⟨_,rfl⟩;rw[hY] at hat2;generalize ((Z.take i).any fun z=>decide (z=⟨(d:Int),(f:Int)⟩))=A at hat2⊢;cases hBA:(B||A) with
      |true=>
       simp only[e1,e4,vB,Qs,fY,zet,Za,Ψ51];exact Next.intro (i+1) (by simp only[hY,hat2,<-Bool.or_assoc,hBA,YI];rfl) rfl (by omega) (by omega)
      |false=>
       simp only[e1,e4,hatz,vB,Qs,fY,zet,znK,eG,eH,eI,eJ,eK,Zi,Zb,Zd,Za,Xg,Ψ51];have hz:(B||Y)=(z.doc==(d:Int)&&z.fld==(f:Int)):=by
        rw[hat2,<-Bool.or_assoc,hBA,Yd,Ye];obtain⟨z1,z2⟩:=z;simp
       exact Next.intro (i+1) (by simp only[hY,hz];rfl) rfl (by omega) (by omega)
     ·obtain rfl:i=Z.length:=by omega
      have e1: ¬(Z.length:Int)<Z.length:=by omega
      rw[Yh];simp only[e1,n4,vB,Qs,reduceCtorEq,Zn,Za,Ψ51];exact Next.intro (k+1) (by simp only[hB2,his];rfl) rfl (by omega) (by omega)
   ·obtain rfl:k=L.length:=by omega
    have n1: ¬(L.length:Int)<L.length:=by omega
    cases hB:isU L set p d f L.length with
    |true=>
     rw[hB,if_pos rfl] at hrs;have hj:pls (U++R)++[[C.int .i64 (d:Int),C.int .i64 (f:Int)]]=pls (U++R2):=by rw[hrs];simp[pls,uD]
     simp only[n1,m4,zB,vB,Zr,Qs,reduceCtorEq,forall_eq,bne_iff_ne,ne_eq,Zi,ZB,Zb,Zn,Zd,ZN,Za,Ze,Zq,Ψ51];rw[hj];exact⟨by omega,by omega,Next.intro (f+1) rfl (by simp only[hR2];rfl) (by omega) (by omega)⟩
    |false=>
     rw[hB,if_neg (by simp),Zi] at hrs;simp only[n1,m4,zB,Qs,reduceCtorEq,Zn,Za,Ze,Ψ51];exact Next.intro (f+1) rfl (by simp only[hR2,hrs];rfl) (by omega) (by omega)
  ·obtain rfl:f=r.names.length:=by omega
   have m1: ¬(r.names.length:Int)<r.names.length:=by omega
   rw[<-hsu];simp only[d1,m1,c4,hat,zQ,sA,Qs,reduceCtorEq,Zb,Zd,Za,Ψ51];exact Next.intro (d+1) rfl (by simp only[hU2];rfl) (by omega) (by omega)
 ·obtain rfl:d=p.length:=by omega
  have d1: ¬(p.length:Int)<p.length:=by omega
  simp only[d1,sA,Qs,ZJ,Za,Zq,Ψ51];refine hS _ ?_;simp only[V.fz,V.fzL,V.nrm,V.nrmL,mT (tH _),tH]
  try rfl
end Go.Abs
namespace Go.Ex
open Go.Lib Go.Wd Go.Wire Go.Abs
def tK (F:List Nat) (m n:Nat):List Nat:=((List.range n).map fun k=>vF F (k+1) (rR m) []).flatten
theorem zlx (F:List Nat) (m n:Nat):tK F m (n+1)=tK F m n++vF F (n+1) (rR m) []:=by
 unfold tK;rw[YY,ZV,Wj];simp
theorem zly (F:List Nat) (n:Nat): ∀(l:List Nat) (row:List Nat) (s:Nat),vF F n (l++[s]) row=if okG F n s=true then insO ltB s (vF F n l row) else vF F n l row
 |[],row,s=>by rw[Z7,vF,vF,vF]
 |a::l,row,s=>by rw[ZT,vF,zly F n l,vF]
def rwS (F:List Nat) (n s:Nat):List Nat:=vF F n (YX 1 (s-1)) []
theorem zrW (F:List Nat) (n s:Nat) (h:1<=s):rwS F n (s+1)=if okG F n s=true then insO ltB s (rwS F n s) else rwS F n s:=by
 unfold rwS;obtain⟨t,rfl⟩: ∃t,s=t+1:=⟨s-1,by omega⟩;rw[show t+1+1-1=t+1 by omega,show t+1-1=t by omega,List.range'_concat,X3,zly,Y4 1 t]
theorem zrX (F:List Nat) (n m:Nat):rwS F n (2 ^ m)=vF F n (rR m) []:=rfl
theorem zlz (F:List Nat) (n:Nat) (l:List Nat):(vF F n l []).length<=l.length:=by
 rw[(kP F n l []).length_eq,Zi];exact Yr _ _
theorem zlA (F:List Nat) (n s:Nat):(rwS F n s).length<=s:=by
 have:=zlz F n (YX 1 (s-1));rw[List.length_range'] at this;unfold rwS;omega
theorem zrY {F:List Nat} {n s x:Nat} (h:x∈rwS F n s):x<s/\(bitsN x).length=n:=by
 unfold rwS at h;rw[(kP F n _ _).mem_iff,Zi,Z8,List.mem_range'_1,okG,Zp,decide_eq_true_eq] at h;exact⟨by omega,h.2.1⟩
def yZ (s:Nat) (row:List Nat):Nat->List Nat×Bool
 |0=>([],false)
 |i+1=>if (yZ s row i).2=false/\ltB s (row.getD i 0)=true then((yZ s row i).1++[s]++[row.getD i 0],true) else((yZ s row i).1++[row.getD i 0],(yZ s row i).2)
theorem zlB (s:Nat) (row:List Nat): ∀i,i<=row.length->sP s (row.drop i) (yZ s row i).1 (yZ s row i).2=sP s row [] false
 |0,_=>rfl
 |i+1,h=>by
  rw[<-zlB s row i (by omega),Zx (show i<row.length by omega),sP,yZ];have e:row.getD i 0=row[i]:=by rw[Zm,Zk (show i<row.length by omega)];rfl
  rw[e];split<;>rfl
theorem zrZ (s:Nat) (row:List Nat):insO ltB s row=if (yZ s row row.length).2=true then(yZ s row row.length).1 else(yZ s row row.length).1++[s]:=by
 have h:=zlB s row row.length (ZA _);rw[List.drop_length,sP,zkR,Z7] at h;exact h.symm
theorem zlC (s:Nat) (row:List Nat): ∀i,(yZ s row i).1.length<=i+(if (yZ s row i).2=true then 1 else 0)
 |0=>by simp[yZ]
 |i+1=>by
  have ih:=zlC s row i;rw[yZ];split
  ·rename_i q
   rw[q.1] at ih;simp at ih⊢;omega
  ·simp at ih⊢;omega
end Go.Ex
namespace Go.Abs
open Go.Proofs Go.RowKit Go.Lib Go.Wd Go.Wire Go.Ex
theorem fzn (K:KK) (ts:TS) (os:OS):tQ [] K ts os=K ts os:=id rfl
theorem fzc (τ:Nat) (l:List Nat) (K:KK) (ts:TS) (os:OS):tQ (τ::l) K ts os=tQ l K (tF τ ts os (lookO τ os)) (tP τ os (lookO τ os)):=id rfl
theorem rgf (P:Program) (l1 l2:List AI) (τs:List Nat) (Q:AE->KK) (ts:TS) (os:OS):awl P (.regf l1 τs l2) Q ts os=wpLs P l1 (tQ τs (wpLs P l2 (Q .normal))) ts os:=id rfl
theorem c49 (F:List Nat) (m:Nat) (hm:m<=8) (hF: ∀f∈F,f<256) (hl:F.length<=1000000):Spec Tryz.prog 49 [lst 1 (zG (zU F)),.int .i64 (m:Int)] (fun v=>v=lst 1 (zG (zU (conG F m)))):=by
 refine Spec.of_awlP hf49 okf49 (by simp) fun S hS=>?_
 have hp256:2 ^ m<=256:=(ZW (n:=2) (by decide) hm:2 ^ m<=2 ^ 8);have c8:=iW (k:=m) (by omega);obtain⟨P,hP⟩: ∃P,2 ^ m=P:=⟨_,rfl⟩;have hend:=zrX F (m:=m);rw[hP] at hp256 c8 hend;have hP1:1<=P:=by rw[<-hP];exact Nat.one_le_two_pow
 simp only[rgf,fzn,fzc,Qs,implies_true,bne_iff_ne,ne_eq,Zb,Zn,Za,Zq,implies_true,Ψ49];rw[uu f49l60.eq_1];refine zO (fun n:Nat=>[(0,lst 1 (zG (zU F))),(1,.int .i64 (m:Int)),(5,.k (.own 12)),(6,.int .i64 ((n+1:Nat):Int))]) (fun n=>[(12,.arr 3 1 (some false) (zG (zU (tK F m n))))]) (fun n=>n<=m/\(tK F m n).length<=n*256) (fun n=>m-n) 0 rfl rfl ⟨Zy _,Zy _⟩ ?_;rintro n ⟨hn,hcl⟩;by_cases hlt:n<m
 ·have d1:((n+1:Nat):Int)<=(m:Int):=by omega
  simp only[d1,rgf,fzn,fzc,Qs,implies_true,bne_iff_ne,ne_eq,Zn,Za,Zq,implies_true,oN,Ψ49];rw[uu f49l46.eq_1];refine zO (fun s:Nat=>[(0,lst 1 (zG (zU F))),(1,.int .i64 (m:Int)),(5,.k (.own 12)),(6,.int .i64 ((n+1:Nat):Int)),(7,.k (.c (.list 1 (some false) (zG (zU (rwS F (n+1) s)))))),(8,.int .i64 s)]) (fun _=>[(12,.arr 3 1 (some false) (zG (zU (tK F m n))))]) (fun s=>1<=s/\s<=P) (fun s=>P-s) 1 rfl rfl ⟨ZA _,hP1⟩ ?_;rintro s ⟨hs1,hsP⟩;by_cases hlt2:s<P
  ·have d2:(s:Int)<(P:Int):=by omega
   have c5:IntKind.i64.wrap ((s:Int)+1)=(s:Int)+1:=wrap_in (by omega) (by omega);have g45:=c45 s (by omega);have g88:=c88 F s hF (by omega) hl;have hsu:=zrW F (n+1) s hs1;have hmem: ∀x∈rwS F (n+1) s,x<256/\(bitsN x).length=n+1:=fun x hx=>by
    have:=zrY hx;exact⟨by omega,this.2⟩
   have hRl:=zlA F (n+1) s;simp only[d2,c8,rgf,fzn,fzc,Qs,oK,Za,Ψ49];refine zD g45 ?_ (ha:=by rfl);by_cases hsz:(bitsN s).length=n+1
   ·have d3:(((bitsN s).length:Nat):Int)=((n+1:Nat):Int):=by omega
    simp only[d3,rgf,fzn,fzc,Qs,BEq.rfl,Za];cases hc:wZ F s with
    |true=>
     rw[hc] at g88;have hok:okG F (n+1) s=true:=by unfold okG;rw[hc,decide_eq_true hsz];rfl
     rw[if_pos hok,zrZ] at hsu;refine zD g88 ?_ (ha:=by simp only[Zj,Zo,zC,V.norm,zI,wD]<;>rfl);generalize rwS F (n+1) s=R at hsu hmem hRl;generalize hsr:rwS F (n+1) (s+1)=R2 at hsu;simp only[rgf,fzn,fzc,Qs,implies_true,bne_iff_ne,ne_eq,Zn,Za,Zq,implies_true,Ψ49];rw[uu f49l28.eq_1];refine zO (fun i:Nat=>[(0,lst 1 (zG (zU F))),(1,.int .i64 (m:Int)),(5,.k (.own 12)),(6,.int .i64 ((n+1:Nat):Int)),(7,.k (.c (.list 1 (some false) (zG (zU R))))),(8,.int .i64 s),(9,.k (.own 34)),(10,.bool (yZ s R i).2),(11,.int .i64 i)]) (fun i=>[(12,.arr 3 1 (some false) (zG (zU (tK F m n)))),(34,.arr 3 1 (some false) (zG (zU (yZ s R i).1)))]) (fun i=>i<=R.length) (fun i=>R.length-i) 0 rfl rfl (Zy _) ?_;intro i hi;have hnl:=zlC s R i;by_cases hit:i<R.length
     ·have e1:(i:Int)<R.length:=by omega
      have e4:IntKind.i64.wrap ((i:Int)+1)=(i:Int)+1:=wrap_in (by omega) (by omega);have hat:(zG (zU R)).getD i []=[.int .i64 (R[i]:Int)]:=by simp[zG,zU,hit]
      have hgr:R.getD i 0=R[i]:=by rw[Zm,Zk hit];rfl
      have hrm:=hmem _ (Zv hit);have his:yZ s R (i+1)=if (yZ s R i).2=false/\ltB s (R.getD i 0)=true then((yZ s R i).1++[s]++[R.getD i 0],true) else((yZ s R i).1++[R.getD i 0],(yZ s R i).2):=rfl
      rw[hgr] at his;generalize R[i]=r at hat hrm his;have g89:=c89 s r (by omega) hrm.1 (by omega);cases hd:(yZ s R i).2 with
      |true=>
       rw[hd,if_neg (by simp)] at his;rw[hd] at hnl;have hq:(yZ s R i).1.length<=i+1:=hnl;generalize (yZ s R i).1=A at hq his⊢;simp only[e1,hat,yF,xS,Qs,jW,iA,zaJ,forall_eq,bne_iff_ne,ne_eq,ZB,Zn,Zd,ZN,Za,Zq,Ψ49];have hA:(yZ s R (i+1)).1=A++[r]:=by rw[his]
       have hB:(yZ s R (i+1)).2=true:=by rw[his]
       have hj:zG (zU A)++[[C.int .i64 (r:Int)]]=zG (zU (A++[r])):=by simp[zG,zU]
       rw[hj];refine⟨by omega,by omega,Next.intro (i+1) (by simp only[hB,e4];rfl) (by simp only[hA];rfl) (by omega) (by omega)⟩
      |false=>
       rw[hd] at hnl;have hq:(yZ s R i).1.length<=i:=hnl;cases hb:ltB s r with
       |true=>
        rw[hb] at g89;rw[hd,hb,if_pos ⟨rfl,rfl⟩] at his;generalize (yZ s R i).1=A at hq his⊢;simp only[e1,hat,yF,xS,Qs,jW,iA,Za,Ψ49];refine zD g89 ?_ (ha:=by rfl);simp only[e1,e4,hat,yF,xS,Qs,iA,zgT,forall_eq,bne_iff_ne,ne_eq,ZB,Zn,Zd,ZN,Za,Zq,Ψ49];have hA:(yZ s R (i+1)).1=A++[s]++[r]:=by rw[his]
        have hB:(yZ s R (i+1)).2=true:=by rw[his]
        have hj1:zG (zU A)++[[C.int .i64 (s:Int)]]=zG (zU (A++[s])):=by simp[zG,zU]
        have hj:zG (zU (A++[s]))++[[C.int .i64 (r:Int)]]=zG (zU (A++[s]++[r])):=by simp[zG,zU]
        have hAl:(zG (zU (A++[s]))).length=A.length+1:=by simp[zG,zU]
        rw[hj1,hj,hAl];refine⟨by omega,by omega,by omega,by omega,Next.intro (i+1) (by simp only[hB];rfl) (by simp only[hA];rfl) (by omega) (by omega)⟩
       |false=>
        rw[hb] at g89;rw[hd,hb,if_neg (by simp)] at his;generalize (yZ s R i).1=A at hq his⊢;simp only[e1,hat,yF,xS,Qs,jW,iA,Za,Ψ49];refine zD g89 ?_ (ha:=by rfl);simp only[e1,e4,hat,yF,xS,Qs,iA,forall_eq,bne_iff_ne,ne_eq,ZB,Zn,Zd,ZN,Za,Zq,Ψ49];have hA:(yZ s R (i+1)).1=A++[r]:=by rw[his]
        have hB:(yZ s R (i+1)).2=false:=by rw[his]
        have hj:zG (zU A)++[[C.int .i64 (r:Int)]]=zG (zU (A++[r])):=by simp[zG,zU]
        rw[hj];refine⟨by omega,by omega,Next.intro (i+1) (by simp only[hB];rfl) (by simp only[hA];rfl) (by omega) (by omega)⟩
     ·obtain rfl:i=R.length:=by omega
      have e1: ¬(R.length:Int)<R.length:=by omega
      cases hd:(yZ s R R.length).2 with
      |true=>
       rw[hd,if_pos rfl] at hsu;rw[<-hsu];simp only[e1,c5,yF,xS,rgf,fzn,fzc,Qs,jW,reduceCtorEq,Zn,Za,oN,Ψ49];exact Next.intro (s+1) (by simp only[hsr];rfl) rfl ⟨by omega,by omega⟩ (by omega)
      |false=>
       rw[hd,if_neg (by simp)] at hsu;rw[hd] at hnl;have hq:(yZ s R R.length).1.length<=R.length:=hnl;generalize (yZ s R R.length).1=A at hq hsu⊢;simp only[e1,c5,yF,xS,rgf,fzn,fzc,Qs,jW,reduceCtorEq,forall_eq,bne_iff_ne,ne_eq,ZB,Zn,Zd,ZN,Za,Zq,zn8,oN,Ψ49];have hj:zG (zU A)++[[C.int .i64 (s:Int)]]=zG (zU R2):=by rw[hsu];simp[zG,zU]
       rw[hj];exact⟨by omega,by omega,Next.intro (s+1) (by simp only[hsr];rfl) rfl ⟨by omega,by omega⟩ (by omega)⟩
    |false=>
     rw[hc] at g88;have hok:okG F (n+1) s=false:=by unfold okG;rw[hc,Yo]
     rw[if_neg (by rw[hok];simp)] at hsu;refine zD g88 ?_ (ha:=by simp only[Zj,Zo,zC,V.norm,zI,wD]<;>rfl);simp only[c5,rgf,fzn,fzc,Qs,Za,Ψ49];exact Next.intro (s+1) (by rw[hsu];rfl) rfl ⟨by omega,by omega⟩ (by omega)
   ·have d3: ¬(((bitsN s).length:Nat):Int)=((n+1:Nat):Int):=by omega
    have hok:okG F (n+1) s=false:=by unfold okG;rw[decide_eq_false hsz];rfl
    rw[if_neg (by rw[hok];simp)] at hsu;simp only[d3,c5,rgf,fzn,fzc,Qs,forall_const,Za,Ψ49];exact Next.intro (s+1) (by rw[hsu];rfl) rfl ⟨by omega,by omega⟩ (by omega)
  ·obtain rfl:s=P:=by omega
   have d2: ¬(s:Int)<(s:Int):=by omega
   have c6:IntKind.i64.wrap (((n+1:Nat):Int)+1)=((n+2:Nat):Int):=(wrap_in (by omega) (by omega)).trans (by omega);have hrl:=zlA F (n+1) s;have hcs:=zlx F m n;rw[<-hend] at hcs;generalize rwS F (n+1) s=R at hrl hcs;have hl2:(tK F m (n+1)).length<=(n+1)*256:=by rw[hcs,Zr];omega
   have hj:zG (zU (tK F m n))++zG (zU R)=zG (zU (tK F m (n+1))):=by rw[hcs];simp[zG,zU]
   have hnp:nlApp (some false) (zG (zU R))=some false:=by cases R<;>rfl
   simp only[d2,c8,c6,yF,xS,rgf,fzn,fzc,Qs,oK,reduceCtorEq,true_or,Za,Ψ49];rw[hnp,hj];exact⟨by omega,by omega,Next.intro (n+1) rfl rfl ⟨by omega,hl2⟩ (by omega)⟩
 ·obtain rfl:n=m:=by omega
  have d1: ¬((n+1:Nat):Int)<=(n:Int):=by omega
  have hcn:tK F n n=conG F n:=rfl;simp only[d1,rgf,fzn,fzc,Qs,ZJ,Za,Zq,Ψ49];refine hS _ ?_;simp only[V.fz,V.fzL,V.nrm,V.nrmL,mT (wD _),hcn]
  try rfl
end Go.Abs
namespace Go.Ex
open Go.Lib Go.Wd Go.Wire Go.Abs
theorem zlD (F:List Nat) {m:Nat} (hm:m<=8): ∀n,(tK F m n).length<=n*256
 |0=>by simp[tK]
 |n+1=>by
  have h256:2 ^ m<=256:=(ZW (n:=2) (by decide) hm:2 ^ m<=2 ^ 8);have ih:=zlD F hm n;have:=zlz F (n+1) (rR m);unfold rR at this;rw[List.length_range'] at this;rw[zlx,Zr];unfold rR;omega
theorem zlE (F:List Nat) {m:Nat} (hm:m<=8):(conG F m).length<=2048:=by
 have h:=zlD F hm m;have e:tK F m m=conG F m:=rfl;rw[e] at h;omega
def mkF (L:List Dmd) (p:List Pln) (s:Nat):Flw:=⟨(bitsN s).map fun(k:Nat)=>(k:Int),placesP L (bitsN s) p,true⟩
theorem zlF: ∀k,k<8->bitsN (2 ^ k)=[k]:=by decide+kernel
theorem zlG {L:List Dmd} {D:List Dcm} (hL:L.length<=8) (hD:uT D) (h0:(cnts D).2.2=0):dR L D=(conG (failsD L D) L.length).map (mkF L (rdsD D 0))++(bitsN (doubG (failsD L D) L.length)).map fun k:Nat=>⟨[(k:Int)],placesP L [k] (rdsD D 0),false⟩:=by
 have hne:=zrL (L:=L) hD h0;have hFm:=iP L D;have hce:=zrq hL hne hFm;have hde:=zrA hne hFm;unfold dR dQ;unfold viewD;rw[<-hce,<-hde,XU];rfl
end Go.Ex
namespace Go.Abs
open Go.Proofs Go.RowKit Go.Lib Go.Wd Go.Wire Go.Ex
theorem c23 (L:List Dmd) (D:List Dcm) (h:AskT L D):Spec Tryz.prog 23 [lst 8 (L.map zM),lst 2 (D.map zV)] (fun v=>v=.tup [lst 3 (yS (flawsE L D)),.int .i64 (lookE L D)]):=by
 refine Spec.of_awlP hf23 okf23 (by simp) fun S hS=>?_
 have hL:=h.a.l8;have g21:=c21 L D h;have g18:=c18 D h.t.s;unfold flawsE at hS;simp only[Qs,Zb,Za,Ψ23];refine zD g21 ?_ (ha:=by simp only[Zj,Zo,zC,V.norm,zI,uJ,zS yN,C.norm]<;>rfl);by_cases hl:lookE L D=0
 ·have h0:(cnts D).2.2=0:=by
   unfold lookE at hl;split at hl
   ·exact hl
   ·cases hl
  have hn:=(vQ h0).n;have hle:=(vQ h0).le;have g47:=c47 L D h h0;have hfl:=cK L D;have hF:=zlm hL D;have g49:=c49 (failsD L D) L.length hL hF (by omega);have g46:=c46 (failsD L D) L.length hL hF (by omega);have hdl:=mV (failsD L D) L.length;have h256:2 ^ L.length<=256:=(ZW (n:=2) (by decide) hL:2 ^ L.length<=2 ^ 8);have g50:=cH (doubG (failsD L D) L.length) (by omega);have hbm:=fun k (hk:k∈bitsN (doubG (failsD L D) L.length))=>xM.1 hdl k ((qZ (by omega)).1 hk)
  have hbl:=kQ (doubG (failsD L D) L.length);have hcl:=zlE (failsD L D) hL;have hcm:=fun s (hs:s∈conG (failsD L D) L.length)=>((zb4 hL).1 hs).2.1
  rw[if_pos hl,hl] at hS;have hfd:=zlG hL h.t.s h0;rw[hfd] at hS;clear hfd hfl;have g51:=c51 L D h h0;generalize rdsD D 0=p at g51 hS;generalize failsD L D=F at g47 g49 g46 g50 hS hbm hbl hcl hcm;generalize conG F L.length=CG at g49 hS hcl hcm;generalize doubG F L.length=db at g46 g50 hS hbm hbl;generalize bitsN db=DN at g50 hS hbm hbl;simp only[hl,Qs,Za,Yw,Ψ23];refine zD g18 ?_ (ha:=by simp only[Zj,Zo,zC,V.norm,zI,zS yN,C.norm]<;>rfl);rw[hn];simp only[zB,Qs,Za,Ψ23];refine yP g47 ?_ (ha:=by simp only[Zj,Zo,zC,V.norm,zI,uJ,zS yN,C.norm]<;>rfl);simp only[zB,Qs,Za,Ze,Ψ23];refine yP g49 ?_ (ha:=by simp only[Zj,Zo,zC,V.norm,zI,wD,C.norm]<;>rfl);simp only[zB,Qs,implies_true,bne_iff_ne,ne_eq,Zb,Zn,Za,Zq,implies_true,Ψ23];rw[uu f23l26.eq_1];refine zO (fun i:Nat=>[(0,lst 8 (L.map zM)),(1,lst 2 (D.map zV)),(9,lst 1 (zG (zU F))),(10,lst 1 (zG (zU CG))),(11,.k (.own 34)),(12,.int .i64 i)]) (fun i=>[(34,.arr 33 3 (some false) (yS ((CG.take i).map (mkF L p))))]) (fun i=>i<=CG.length) (fun i=>CG.length-i) 0 rfl rfl (Zy _) ?_;intro i hi;by_cases hlt:i<CG.length
  ·have d1:(i:Int)<CG.length:=by omega
   have c4:IntKind.i64.wrap ((i:Int)+1)=(i:Int)+1:=wrap_in (by omega) (by omega);have hat:(zG (zU CG)).getD i []=[.int .i64 (CG[i]:Int)]:=by simp[zG,zU,hlt]
   have hs:=hcm _ (Zv hlt);have htk:(CG.take (i+1)).map (mkF L p)=(CG.take i).map (mkF L p)++[mkF L p CG[i]]:=by rw[Zz hlt,ZV];rfl
   have hll:((CG.take i).map (mkF L p)).length=i:=by rw[Ze,Yk];omega
   generalize CG[i]=s at hat hs htk;obtain⟨A2,hA2⟩: ∃A2,(CG.take (i+1)).map (mkF L p)=A2:=⟨_,rfl⟩;rw[hA2] at htk;generalize (CG.take i).map (mkF L p)=A at htk hll⊢;have g50s:=cH s (by omega);have g51s:=g51 s hs;have hq:yS A++[[zF 1 (zG (zU (bitsN s))),zF 2 (pls (placesP L (bitsN s) p)),.bool true]]=yS A2:=by rw[htk];simp[yS,pI,mkF,zU]
   generalize placesP L (bitsN s) p=Z at g51s hq;generalize bitsN s=b at g50s hq;simp only[d1,hat,yF,xS,Qs,Za,Ψ23];refine yT g50s ?_ (ha:=by rfl);simp only[d1,hat,yF,xS,Qs,Za];refine yT g51s ?_ (ha:=by simp only[Zj,Zo,zC,V.norm,zI,uJ,zS yN,C.norm]<;>rfl);simp only[d1,c4,hat,yF,xS,sD,Qs,oJ,eE,reduceCtorEq,forall_eq,Zi,ZB,Zb,Zd,ZN,Za,Zq];rw[hq];exact⟨by omega,by omega,Next.intro (i+1) rfl (by simp only[hA2];rfl) (by omega) (by omega)⟩
  ·obtain rfl:i=CG.length:=by omega
   have d1: ¬(CG.length:Int)<CG.length:=by omega
   rw[Yh];have hFLl:(CG.map (mkF L p)).length<=2048:=by rw[Ze];exact hcl
   generalize CG.map (mkF L p)=FL at hS hFLl⊢;simp only[d1,zB,yF,xS,Qs,Za,Ze,Ψ23];refine zD g46 ?_ (ha:=by simp only[Zj,Zo,zC,V.norm,zI,wD,C.norm]<;>rfl);simp only[Qs];refine yP g50 ?_ (ha:=by rfl);simp only[Qs,Ψ23];rw[uu f23l11.eq_1];refine zO (fun j:Nat=>[(0,lst 8 (L.map zM)),(1,lst 2 (D.map zV)),(11,.k (.own 34)),(13,lst 1 (zG (zU DN))),(14,.int .i64 j)]) (fun j=>[(34,.arr 33 3 (some false) (yS FL++(DN.take j).map (uE L p)))]) (fun j=>j<=DN.length) (fun j=>DN.length-j) 0 rfl (by simp;rfl) (Zy _) ?_;intro j hj;by_cases hjt:j<DN.length
   ·have e1:(j:Int)<DN.length:=by omega
    have e4:IntKind.i64.wrap ((j:Int)+1)=(j:Int)+1:=wrap_in (by omega) (by omega);have hat:(zG (zU DN)).getD j []=[.int .i64 (DN[j]:Int)]:=by simp[zG,zU,hjt]
    have hk:=hbm _ (Zv hjt);have htk:(DN.take (j+1)).map (uE L p)=(DN.take j).map (uE L p)++[uE L p DN[j]]:=by rw[Zz hjt,ZV];rfl
    have hll:((DN.take j).map (uE L p)).length=j:=by rw[Ze,Yk];omega
    generalize DN[j]=k at hat hk htk;obtain⟨A2,hA2⟩: ∃A2,(DN.take (j+1)).map (uE L p)=A2:=⟨_,rfl⟩;rw[hA2] at htk;generalize (DN.take j).map (uE L p)=A at htk hll⊢;have c6:=iW (k:=k) (by omega);have e2:(0:Int)<=(k:Int):=by omega
    have g51s:=g51 (2 ^ k) (XD (by decide) hk);rw[zlF k (by omega)] at g51s;have hq:yS FL++A++[[.list 1 (some false) [[.int .i64 (k:Int)]],zF 2 (pls (placesP L [k] p)),.bool false]]=yS FL++A2:=by rw[htk,Z3];rfl
    have hlR:(yS FL++A).length<=2058:=by rw[Zr,sD];omega
    generalize placesP L [k] p=Z at g51s hq;generalize 2 ^ k=P at c6 g51s;simp only[e1,e2,hat,c6,yF,xS,Qs,oK,forall_eq,ZB,ZN,Za,Zq,Ψ23];refine yT g51s ?_ (ha:=by simp only[Zj,Zo,zC,V.norm,zI,uJ,zS yN,C.norm]<;>rfl);simp only[e1,e2,e4,hat,c6,yF,xS,Qs,oJ,eE,reduceCtorEq,forall_eq,ZB,Zb,Zd,ZN,Za,Zq];rw[hq];exact⟨by omega,by omega,Next.intro (j+1) rfl (by simp only[hA2];rfl) (by omega) (by omega)⟩
   ·obtain rfl:j=DN.length:=by omega
    have e1: ¬(DN.length:Int)<DN.length:=by omega
    rw[Yh];simp only[e1,yF,xS,Qs,Zi,ZJ,Za,Zq,Ψ23];refine hS _ ?_;simp only[V.fz,V.fzL,V.nrm,V.nrmL,zkv,iU,zbO];have e:yS FL++yS (DN.map fun k:Nat=>⟨[(k:Int)],placesP L [k] p,false⟩)=yS (FL++DN.map fun k:Nat=>⟨[(k:Int)],placesP L [k] p,false⟩):=by simp[yS]
    rw[e,mT (iU _)];rfl
 ·rw[if_neg hl] at hS
  simp only[hl,Qs,forall_const,BEq.rfl,Zi,ZJ,Za,Zq,Ψ23];exact hS _ rfl
theorem c48 (A:List Txt) (hA:A.length<=1000000):Spec Tryz.prog 48 [lst 1 (zK A),lst 1 (zK A)] (fun v=>v=.bool true):=by
 refine Spec.of_awlS hf48 okf48 (by simp) fun S hS=>?_
 simp only[zQ,Qs,forall_const,Zb,Za,Ψ48];rw[uu f48l15.eq_1];refine zO (fun i:Nat=>[(0,lst 1 (zK A)),(1,lst 1 (zK A)),(5,.int .i64 i)]) (fun _=>[]) (fun i=>i<=A.length) (fun i=>A.length-i) 0 rfl rfl (Zy _) ?_;intro i hi;by_cases hlt:i<A.length
 ·have d1:(i:Int)<A.length:=by omega
  have c4:IntKind.i64.wrap ((i:Int)+1)=(i:Int)+1:=wrap_in (by omega) (by omega);have hat:=vU hlt;generalize A[i]=s at hat;simp only[d1,c4,hat,zQ,Qs,BEq.rfl,Za,Ψ48];exact Next.intro (i+1) rfl rfl (by omega) (by omega)
 ·have d1: ¬(i:Int)<A.length:=by omega
  simp only[d1,zQ,Qs,Za,Ψ48];exact hS
theorem c22 (p:Pln) (hp:PlnS p):Spec Tryz.prog 22 [.agg (zX p),.agg (zX p)] (fun v=>v=.bool true):=by
 refine Spec.of_awlS hf22 okf22 (by simp) fun S hS=>?_
 have g1:=c48 p.names hp.ns;have g2:=c48 p.texts hp.ts;unfold zX;simp only[Qs,bne_iff_ne,ne_eq,BEq.rfl,Zb,Zn,Zd,Za,nT,Ψ22];refine zD g1 ?_ (ha:=by simp only[Zj,Zo,zC,V.norm,zI,yM,C.norm]<;>rfl);simp only[Qs,Zb,Za];refine zD g2 ?_ (ha:=by simp only[Zj,Zo,zC,V.norm,zI,yM,C.norm]<;>rfl);simp only[Qs,Za];exact hS
end Go.Abs
namespace Go.Ex
open Go.Lib Go.Wd Go.Wire Go.Abs
def iY {α:Type} [DecidableEq α] (d:α) (A B:List α):Bool:=decide (A.length=B.length)&&(List.range A.length).all fun i=>decide (A.getD i d=B.getD i d)
theorem zcf {α:Type} [DecidableEq α] (d:α) (A B:List α):iY d A B=decide (A=B):=by
 rw[Ye];unfold iY;rw[Zp,decide_eq_true_eq,Zt,decide_eq_true_eq];constructor
 ·rintro⟨h1,h2⟩
  refine XA h1 fun i ha hb=>?_
  have:=h2 i (by simpa using ha);simpa [List.getD,ha,hb] using this
 ·rintro rfl
  exact⟨rfl,fun _ _=>by simp⟩
theorem zcg {n k:Nat} (h:k<n) (p:Nat->Bool):((List.range n).drop k).all p=(p k&&((List.range n).drop (k+1)).all p):=by
 rw[Zx (by simpa using h),Yz,List.getElem_range]
deriving instance DecidableEq for Flw
def pP:Plc:=⟨0,0⟩
def sE:Flw:=⟨[],[],false⟩
end Go.Ex
namespace Go.Abs
open Go.Proofs Go.RowKit Go.Lib Go.Wd Go.Wire Go.Ex
theorem zlH {w:List Int} {k:Nat} (h:k<w.length):(zG w).getD k []=[.int .i64 (w.getD k 0)]:=by simp[zG,h]
theorem c52 (A B:List Int) (hA:A.length<=1000000):Spec Tryz.prog 52 [lst 1 (zG A),lst 1 (zG B)] (fun v=>v=.bool (decide (A=B))):=by
 refine Spec.of_awlS hf52 okf52 (by simp) fun S hS=>?_
 rw[<-zcf 0] at hS;unfold iY at hS;by_cases hl:A.length=B.length
 ·rw[decide_eq_true hl,ZC] at hS
  have e1:(A.length:Int)=B.length:=by omega
  simp only[yF,e1,Qs,forall_const,Zb,Za,Ψ52];rw[uu f52l15.eq_1];refine zO (fun k:Nat=>[(0,lst 1 (zG A)),(1,lst 1 (zG B)),(5,.int .i64 k)]) (fun _=>[]) (fun k=>k<=A.length/\((List.range A.length).drop k).all (fun i=>decide (A.getD i 0=B.getD i 0))=(List.range A.length).all (fun i=>decide (A.getD i 0=B.getD i 0))) (fun k=>A.length-k) 0 rfl rfl ⟨Zy _,rfl⟩ ?_;rintro k ⟨hk,hD⟩;by_cases hlt:k<A.length
  ·have d1:(k:Int)<A.length:=by omega
   have c4:IntKind.i64.wrap ((k:Int)+1)=(k:Int)+1:=wrap_in (by omega) (by omega);have h1:=zlH hlt;have h2:=zlH (w:=B) (k:=k) (by omega);have d2:(k:Int)<B.length:=by omega
   rw[zcg hlt] at hD;generalize A.getD k 0=a at h1 hD;generalize B.getD k 0=b at h2 hD;by_cases q:a=b
   ·rw[decide_eq_true q,ZC] at hD
    simp only[d1,d2,h1,h2,c4,q,yF,Qs,forall_const,Za,Ψ52];exact Next.intro (k+1) rfl rfl ⟨by omega,hD⟩ (by omega)
   ·rw[decide_eq_false q,ZF] at hD
    rw[<-hD] at hS;simp only[d1,d2,h1,h2,q,yF,Qs,forall_const,Za,Ψ52];exact hS
  ·have d1: ¬(k:Int)<A.length:=by omega
   rw[ZE (by simp;omega),Xu] at hD;rw[<-hD] at hS;simp only[d1,yF,Qs,Za,Ψ52];exact hS
 ·rw[decide_eq_false hl,ZF] at hS
  have e1: ¬(A.length:Int)=B.length:=by omega
  simp only[yF,e1,Qs,forall_const,Zb,Za,Ψ52];exact hS
theorem zlI {w:List Plc} {k:Nat} (h:k<w.length):(pls w).getD k []=[.int .i64 (w.getD k pP).doc,.int .i64 (w.getD k pP).fld]:=by simp[pls,uD,h]
theorem c53 (A B:List Plc) (hA:A.length<=1000000):Spec Tryz.prog 53 [lst 2 (pls A),lst 2 (pls B)] (fun v=>v=.bool (decide (A=B))):=by
 refine Spec.of_awlS hf53 okf53 (by simp) fun S hS=>?_
 rw[<-zcf pP] at hS;unfold iY at hS;by_cases hl:A.length=B.length
 ·rw[decide_eq_true hl,ZC] at hS
  have e1:(A.length:Int)=B.length:=by omega
  simp only[vB,e1,Qs,forall_const,Zb,Za,Ψ53];rw[uu f53l15.eq_1];refine zO (fun k:Nat=>[(0,lst 2 (pls A)),(1,lst 2 (pls B)),(5,.int .i64 k)]) (fun _=>[]) (fun k=>k<=A.length/\((List.range A.length).drop k).all (fun i=>decide (A.getD i pP=B.getD i pP))=(List.range A.length).all (fun i=>decide (A.getD i pP=B.getD i pP))) (fun k=>A.length-k) 0 rfl rfl ⟨Zy _,rfl⟩ ?_;rintro k ⟨hk,hD⟩;by_cases hlt:k<A.length
  ·have d1:(k:Int)<A.length:=by omega
   have c4:IntKind.i64.wrap ((k:Int)+1)=(k:Int)+1:=wrap_in (by omega) (by omega);have h1:=zlI hlt;have h2:=zlI (w:=B) (k:=k) (by omega);have d2:(k:Int)<B.length:=by omega
   rw[zcg hlt] at hD;generalize A.getD k pP=a at h1 hD;generalize B.getD k pP=b at h2 hD;obtain⟨a1,a2⟩:=a;obtain⟨b1,b2⟩:=b;simp only[] at h1 h2;have hI:(Plc.mk a1 a2=⟨b1,b2⟩) ↔ (a1=b1/\a2=b2):=by rw[Plc.mk.injEq]
   by_cases q1:a1=b1
   ·by_cases q2:a2=b2
    ·rw[decide_eq_true (hI.2 ⟨q1,q2⟩),ZC] at hD
     simp only[d1,d2,h1,h2,c4,q1,q2,vB,Qs,zaF,eG,eH,eI,eJ,eK,BEq.rfl,Za,Xg,Ψ53];exact Next.intro (k+1) rfl rfl ⟨by omega,hD⟩ (by omega)
    ·rw[decide_eq_false (fun h=>q2 (hI.1 h).2),ZF] at hD
     rw[<-hD] at hS;have e:(a1==b1&&a2==b2)=false:=by simp[q2]
     simp only[d1,d2,h1,h2,e,vB,Qs,zaF,eG,eH,eI,eJ,eK,Za,Xg,Ψ53];exact hS
   ·rw[decide_eq_false (fun h=>q1 (hI.1 h).1),ZF] at hD
    rw[<-hD] at hS;have e:(a1==b1&&a2==b2)=false:=by simp[q1]
    simp only[d1,d2,h1,h2,e,vB,Qs,zaF,eG,eH,eI,eJ,eK,Za,Xg,Ψ53];exact hS
  ·have d1: ¬(k:Int)<A.length:=by omega
   rw[ZE (by simp;omega),Xu] at hD;rw[<-hD] at hS;simp only[d1,vB,Qs,Za,Ψ53];exact hS
 ·rw[decide_eq_false hl,ZF] at hS
  have e1: ¬(A.length:Int)=B.length:=by omega
  simp only[vB,e1,Qs,forall_const,Zb,Za,Ψ53];exact hS
theorem zlJ {w:List Flw} {k:Nat} (h:k<w.length):(yS w).getD k []=[zF 1 (zG (w.getD k sE).dem),zF 2 (pls (w.getD k sE).pls),.bool (w.getD k sE).sure]:=by simp[yS,pI,h]
theorem c25 (A B:List Flw) (hA:A.length<=1000000) (hd: ∀x∈A,x.dem.length<=1000000/\x.pls.length<=1000000):Spec Tryz.prog 25 [lst 3 (yS A),lst 3 (yS B)] (fun v=>v=.bool (decide (A=B))):=by
 refine Spec.of_awlS hf25 okf25 (by simp) fun S hS=>?_
 rw[<-zcf sE] at hS;unfold iY at hS;by_cases hl:A.length=B.length
 ·rw[decide_eq_true hl,ZC] at hS
  have e1:(A.length:Int)=B.length:=by omega
  simp only[sD,e1,Qs,forall_const,Zb,Za,Ψ25];rw[uu f25l15.eq_1];refine zO (fun k:Nat=>[(0,lst 3 (yS A)),(1,lst 3 (yS B)),(5,.int .i64 k)]) (fun _=>[]) (fun k=>k<=A.length/\((List.range A.length).drop k).all (fun i=>decide (A.getD i sE=B.getD i sE))=(List.range A.length).all (fun i=>decide (A.getD i sE=B.getD i sE))) (fun k=>A.length-k) 0 rfl rfl ⟨Zy _,rfl⟩ ?_;rintro k ⟨hk,hD⟩;by_cases hlt:k<A.length
  ·have d1:(k:Int)<A.length:=by omega
   have c4:IntKind.i64.wrap ((k:Int)+1)=(k:Int)+1:=wrap_in (by omega) (by omega);have h1:=zlJ hlt;have h2:=zlJ (w:=B) (k:=k) (by omega);have d2:(k:Int)<B.length:=by omega
   have hx:(A.getD k sE).dem.length<=1000000/\(A.getD k sE).pls.length<=1000000:=by
    have:A.getD k sE=A[k]:=by simp[hlt]
    rw[this];exact hd _ (Zv hlt)
   rw[zcg hlt] at hD;generalize A.getD k sE=a at h1 hD hx;generalize B.getD k sE=b at h2 hD;obtain⟨a1,a2,a3⟩:=a;obtain⟨b1,b2,b3⟩:=b;simp only[] at h1 h2 hx;have g1:=c52 a1 b1 hx.1;have g2:=c53 a2 b2 hx.2;have hI:(Flw.mk a1 a2 a3=⟨b1,b2,b3⟩) ↔ (a1=b1/\a2=b2/\a3=b3):=by rw[Flw.mk.injEq]
   by_cases q3:a3=b3
   ·by_cases q1:a1=b1
    ·rw[decide_eq_true q1] at g1
     by_cases q2:a2=b2
     ·rw[decide_eq_true q2] at g2
      rw[decide_eq_true (hI.2 ⟨q1,q2,q3⟩),ZC] at hD;simp only[d1,d2,h1,h2,q3,sD,bne_self_eq_false,Qs,eC,eF,BEq.rfl,Zb,Zd,Za,Ψ25];refine xI g1 ?_ (ha:=by simp only[Zj,Zo,zC,V.norm,zI,wD,C.norm]<;>rfl);simp only[d1,d2,h1,h2,sD,Qs,lQ,Zb,Zd,Za];refine xI g2 ?_ (ha:=by simp only[Zj,Zo,zC,V.norm,zI,tH,C.norm]<;>rfl);simp only[c4,Qs,lQ,Za,Ψ25];exact Next.intro (k+1) rfl rfl ⟨by omega,hD⟩ (by omega)
     ·rw[decide_eq_false q2] at g2
      rw[decide_eq_false (fun h=>q2 (hI.1 h).2.1),ZF] at hD;rw[<-hD] at hS;simp only[d1,d2,h1,h2,q3,sD,bne_self_eq_false,Qs,eC,eF,BEq.rfl,Zb,Zd,Za,Ψ25];refine xI g1 ?_ (ha:=by simp only[Zj,Zo,zC,V.norm,zI,wD,C.norm]<;>rfl);simp only[d1,d2,h1,h2,sD,Qs,lQ,Zb,Zd,Za];refine xI g2 ?_ (ha:=by simp only[Zj,Zo,zC,V.norm,zI,tH,C.norm]<;>rfl);simp only[Qs,lQ,Za,Ψ25];exact hS
    ·rw[decide_eq_false q1] at g1
     rw[decide_eq_false (fun h=>q1 (hI.1 h).1),ZF] at hD;rw[<-hD] at hS;simp only[d1,d2,h1,h2,q3,sD,bne_self_eq_false,Qs,eC,eF,BEq.rfl,Zb,Zd,Za,Ψ25];refine xI g1 ?_ (ha:=by simp only[Zj,Zo,zC,V.norm,zI,wD,C.norm]<;>rfl);simp only[Qs,lQ,Za,Ψ25];exact hS
   ·rw[decide_eq_false (fun h=>q3 (hI.1 h).2.2),ZF] at hD
    rw[<-hD] at hS;simp only[d1,d2,h1,h2,q3,sD,Qs,eC,eF,forall_const,Zb,Zd,Za,Ψ25];exact hS
  ·have d1: ¬(k:Int)<A.length:=by omega
   rw[ZE (by simp;omega),Xu] at hD;rw[<-hD] at hS;simp only[d1,sD,Qs,Za,Ψ25];exact hS
 ·rw[decide_eq_false hl,ZF] at hS
  have e1: ¬(A.length:Int)=B.length:=by omega
  simp only[sD,e1,Qs,forall_const,Zb,Za,Ψ25];exact hS
end Go.Abs
namespace Go.Ex
open Go.Lib Go.Wd Go.Wire Go.Abs
def pQ:Txt:=[105,110,118,111,105,99,101]
def kS:Txt:=[115,117,109]
def kT:Txt:=[112,111,114,116]
def oV:Txt:=[71,101,110,111,97]
def xmL:List Dmd:=[⟨2,pQ,kS,[],[],[],50,150⟩,⟨2,pQ,kS,[],[],[],600,800⟩,⟨1,pQ,kT,[],[],oV,0,0⟩,⟨0,[112,97,99,107,105,110,103],[],[],[],[],0,0⟩]
def xmD:List Dcm:=[⟨pQ,[⟨kS,[[[49,48,48],[55,48,48]]]⟩,⟨kT,[[oV]]⟩]⟩]
end Go.Ex
namespace Go.Abs
open Go.Proofs Go.RowKit Go.Lib Go.Wd Go.Wire Go.Ex
theorem sQ (K:KK) (ts:TS) (os:OS):tQ [] K ts os=K ts os:=id rfl
theorem sR (τ:Nat) (l:List Nat) (K:KK) (ts:TS) (os:OS):tQ (τ::l) K ts os=tQ l K (tF τ ts os (lookO τ os)) (tP τ os (lookO τ os)):=id rfl
theorem sS (P:Program) (K:KK) (ts:TS) (os:OS):nO P [] K ts os=K ts os:=id rfl
theorem sU (P:Program) (l:List AI) (τs:List Nat) (r:List (List AI×List Nat)) (K:KK) (ts:TS) (os:OS):nO P ((l,τs)::r) K ts os=wpLs P l (tQ τs (nO P r K)) ts os:=id rfl
theorem sW (P:Program) (ps:List (List AI×List Nat)) (Q:AE->KK) (ts:TS) (os:OS):awl P (.regs ps) Q ts os=nO P ps (Q .normal) ts os:=id rfl
theorem sX (P:Program) (l1 l2:List AI) (τs:List Nat) (Q:AE->KK) (ts:TS) (os:OS):awl P (.regf l1 τs l2) Q ts os=wpLs P l1 (tQ τs (wpLs P l2 (Q .normal))) ts os:=id rfl
theorem c29:Spec Tryz.prog 29 [] (fun v=>v=.tup [lst 8 (xmL.map zM),lst 2 (xmD.map zV)]):=by
 refine Spec.of_awlP hf29 okf29 (by simp) fun S hS=>?_
 simp only[sW,sX,sS,sU,sQ,sR,Qs,oJ,nR,lT,reduceCtorEq,forall_eq_or_imp,forall_eq,bne_iff_ne,ne_eq,Zi,ZB,Zb,Zn,Zd,ZN,Za,Nat.zero_ne_one,Zq,oN,Ψ29];refine hS _ ?_;rfl
end Go.Abs
namespace Go.Ex
open Go.Lib Go.Wd Go.Wire Go.Abs Go.Proofs
def xm1:List Dmd:=[⟨1,pQ,kT,[],[],oV,0,0⟩]
def xm2:List Dmd:=[⟨2,pQ,kS,[],[],[],50,150⟩,⟨1,pQ,kT,[],[],oV,0,0⟩]
theorem cM:AskS xm1 xmD:=(cD (by intro m hm;simp[xm1] at hm;subst hm;constructor<;>decide) (by kernel_rfl)).1
theorem zlK:AskS xm2 xmD:=(cD (by intro m hm;simp[xm2] at hm;rcases hm with rfl|rfl<;>constructor<;>decide) (by kernel_rfl)).1
theorem zlL:AskS xmL xmD:=(cD (by intro m hm;simp[xmL] at hm;rcases hm with rfl|rfl|rfl|rfl<;>constructor<;>decide) (by kernel_rfl)).1
def xA2:List Flw:=[⟨[0],[⟨0,0⟩],false⟩]
def xA3:List Flw:=[⟨[3],[],true⟩,⟨[0,1],[⟨0,0⟩],true⟩,⟨[0],[⟨0,0⟩],false⟩,⟨[1],[⟨0,0⟩],false⟩]
theorem fl1:flawsE xm1 xmD=[]:=by kernel_rfl
theorem fl2:flawsE xm2 xmD=xA2:=by kernel_rfl
theorem fl3:flawsE xmL xmD=xA3:=by kernel_rfl
theorem lk1:lookE xm1 xmD=0:=by kernel_rfl
theorem lk2:lookE xm2 xmD=0:=by kernel_rfl
theorem lk3:lookE xmL xmD=0:=by kernel_rfl
theorem st1:stateE xm1 xmD=1:=by kernel_rfl
theorem st2:stateE xm2 xmD=2:=by kernel_rfl
theorem st3:stateE xmL xmD=0:=by kernel_rfl
theorem ct1:(cnts xmD).2.1=2:=by kernel_rfl
theorem ct2:(cnts xmD).2.2=0:=by kernel_rfl
def xP:List Pln:=[⟨pQ,[kS,kT],[[55,48,48],oV]⟩]
theorem rp1:readP' xmD 1=xP:=by kernel_rfl
theorem re1:readE xmD 1=0:=by kernel_rfl
end Go.Ex
namespace Go.Abs
open Go.Proofs Go.RowKit Go.Lib Go.Wd Go.Wire Go.Ex
theorem c8:Spec Tryz.prog 8 [] (fun v=>v=.bool true):=by
 refine Spec.of_awlS hf8 okf8 (by simp) fun S hS=>?_
 have f1:=c10 xm1 xmD cM;have f2:=c10 xm2 xmD zlK;have f3:=c10 xmL xmD zlL;rw[fl1,lk1] at f1;rw[fl2,lk2] at f2;rw[fl3,lk3] at f3;have s1:=c12 xm1 xmD cM;have s2:=c12 xm2 xmD zlK;have s3:=c12 xmL xmD zlL;rw[st1,lk1] at s1;rw[st2,lk2] at s2;rw[st3,lk3] at s3;have n1:=c13 xmD cM.dc;rw[ct1,ct2] at n1;have r1:=c14 xmD cM.dc 1;rw[rp1,re1] at r1;have hp1:((xR xP).length:Int)=1:=rfl;have hp2:(xR xP).getD 0 []=[.str pQ,zF 1 (zK [kS,kT]),zF 1 (zK [[55,48,48],oV])]:=rfl;have hp3:((zK [[55,48,48],oV]).length:Int)=2:=rfl;have hp4:((yS []).length:Int)=0:=rfl;have hp5:(zK [[55,48,48],oV]).getD 0 []=[.str [55,48,48]]:=rfl;have g2:=c25 xA2 xA2 (by decide) (by intro x hx;simp[xA2] at hx;subst hx;decide);have g3:=c25 xA3 xA3 (by decide) (by intro x hx;simp[xA3] at hx;rcases hx with rfl|rfl|rfl|rfl<;>decide);rw[decide_eq_true rfl] at g2 g3;have hr1:List.drop 2 (List.take 3 (List.map zM xmL))=List.map zM xm1:=rfl;simp only[Qs,Ψ8];refine yP c29 ?_;simp only[hr1,sW,sX,sS,sU,sQ,sR,Qs,jT,nQ,lR,lS,forall_eq,Zi,ZB,Zb,Yf,Zd,ZN,Za,lV,lW,Ze,Yy,X5,Zq,nS,oN,Ψ8];refine⟨by decide,?_⟩;refine yP f1 ?_ (ha:=by simp only[Zj,Zo,zC,V.norm,zI,tG,hr1,yK yN,yK uL,C.norm]<;>rfl);simp only[hr1,sW,sX,sS,sU,sQ,sR,Qs,forall_eq_or_imp,forall_eq,Zi,ZB,Zb,Yf,ZN,Za,Ze,Yy,X5,Zq,Ψ8];refine⟨by decide,by decide,⟨rfl,rfl⟩,?_⟩;refine yT f2 ?_ (ha:=by rfl);simp only[hr1,sW,sX,sS,sU,sQ,sR,Qs,eD,eS,eT,eU,Za,Ψ8];refine yP f3 ?_ (ha:=by simp only[Zj,Zo,zC,V.norm,zI,tG,hr1,yK yN,yK uL,C.norm]<;>rfl);simp only[hr1,sW,sX,sS,sU,sQ,sR,Qs,jT,nQ,lR,lS,Zi,Zb,Yf,Za,lV,lW,Ze,Yy,X5,Ψ8];refine⟨by decide,?_⟩;refine zD s1 ?_ (ha:=by simp only[Zj,Zo,zC,V.norm,zI,tG,hr1,yK yN,yK uL,C.norm]<;>rfl);simp only[hr1,sW,sX,sS,sU,sQ,sR,Qs,forall_eq_or_imp,forall_eq,ZB,Zb,ZN,Za,Ze,Yy,X5,Zq,Ψ8];refine⟨by decide,by decide,⟨rfl,rfl⟩,?_⟩;refine xI s2 ?_ (ha:=by rfl);simp only[hr1,sW,sX,sS,sU,sQ,sR,Qs,eD,eS,eT,eU,Za,Ψ8];refine zD s3 ?_ (ha:=by simp only[Zj,Zo,zC,V.norm,zI,tG,hr1,yK yN,yK uL,C.norm]<;>rfl);simp only[hr1,sW,sX,sS,sU,sQ,sR,Qs,Za,Ψ8];refine zD n1 ?_ (ha:=by simp only[Zj,Zo,zC,V.norm,zI,tG,hr1,yK yN,yK uL,C.norm]<;>rfl);simp only[hr1,sW,sX,sS,sU,sQ,sR,Qs,Za,Ψ8];refine yP r1 ?_ (ha:=by simp only[Zj,Zo,zC,V.norm,zI,tG,hr1,yK yN,yK uL,C.norm]<;>rfl);simp only[hp1,hp2,hp3,hp4,hp5,hr1,sW,sX,sS,sU,sQ,sR,Qs,fY,zeq,eR,forall_eq,BEq.rfl,Zi,ZB,Zb,Yf,Zd,ZN,Za,Xy,Yy,Yw,Zq,ziz,nS,oN,Ψ8];refine zD g2 ?_ (ha:=by rfl);simp only[hp1,hp2,hp3,hp4,hp5,hr1,sW,sX,sS,sU,sQ,sR,Qs,fY,zeq,eR,forall_eq_or_imp,forall_eq,BEq.rfl,Zi,ZB,Zb,Zd,ZN,Za,Xy,Yy,Zq,ziz,oN,Ψ8];refine zD g3 ?_ (ha:=by rfl);simp only[hp1,hp2,hp3,hp4,hp5,hr1,sW,sX,sS,sU,sQ,sR,Qs,oM,nR,eV,lT,Za];exact hS
end Go.Abs
namespace Go.Ex
open Go.Lib Go.Wd Go.Wire Go.Abs
theorem zr0 {D:List Dcm} (h1:(D.take 12).all uX=true) (h2:D.length<=12):DcmsT D:=by
 have hs:=cC h1 h2;rw[ZU (by omega),Zt] at h1;refine⟨hs,fun d hd=>⟨hs.2 d hd,fun f hf w hw s hs=>?_⟩⟩;have h3:=h1 d hd;unfold uX at h3;simp only[Zp,decide_eq_true_eq,Zt] at h3;have h4:=h3.2 f hf;unfold pK at h4;simp only[Zp,decide_eq_true_eq,Zt] at h4;have h5:=h4.2 w hw;unfold pJ at h5;simp only[Zp,decide_eq_true_eq,Zt] at h5;have:=h5.2 s hs;omega
theorem zlM (L:List Dmd) (set:Nat) (p:List Pln) {B:Nat} (h: ∀x∈p,x.names.length<=B): ∀n,n<=p.length->(fldU L set p n).length<=n*B
 |0,_=>by simp[fldU]
 |n+1,hn=>by
  have ih:=zlM L set p h n (by omega);have h1:=zcd L set p n (p.getD n vW).names.length;have h2:=h (p.getD n vW) (by rw[Zm,Zk (show n<p.length by omega)];exact Zv _);have e:qN L set p n=rowFU L set p n (p.getD n vW).names.length:=rfl;rw[zce,Zr,e,Xw];omega
theorem zlN {L:List Dmd} (hL:L.length<=8) {p:List Pln} (hp:p.length<=12) (h: ∀x∈p,x.names.length<=14) {s:Nat} (hs:s<2 ^ L.length):(placesP L (bitsN s) p).length<=168:=by
 rw[<-zlu hL hs];have e:mX L s p=fldU L s p p.length:=rfl;have:=zlM L s p h p.length (ZA _);rw[e];omega
theorem zr1 {L:List Dmd} {D:List Dcm} (hA:AskS L D) (h1:D.length<=12) (h2: ∀d∈D,d.flds.length<=14):(flawsE L D).length<=1000000/\ ∀x∈flawsE L D,x.dem.length<=1000000/\x.pls.length<=1000000:=by
 unfold flawsE;split
 ·rename_i hl
  have h0:(cnts D).2.2=0:=by
   unfold lookE at hl;split at hl
   ·exact hl
   ·cases hl
  have hL:=hA.l8;obtain⟨r1,r2⟩:=zbP D (xO D) 0;have hp:(rdsD D 0).length<=12:=by show(xU D (xO D) 0).1.length<=_;omega
  have hn: ∀x∈rdsD D 0,x.names.length<=14:=fun x hx=>by
   obtain⟨d,hd,q,rfl⟩:=r2 x hx;show(d.flds.map Fld.name).length<=14;rw[Ze];exact h2 d hd
  have hdl:=mV (failsD L D) L.length;have h256:2 ^ L.length<=256:=(ZW (n:=2) (by decide) hL:2 ^ L.length<=2 ^ 8);rw[zlG hL hA.dc h0];have hcl:=zlE (failsD L D) hL;have hbl:=kQ (doubG (failsD L D) L.length);refine⟨by rw[Zr,Ze,Ze];omega,fun x hx=>?_⟩;rcases Yt.1 hx with hx|hx
  ·obtain⟨s,hs,rfl⟩:=ZL.1 hx
   have hb:=kQ s;have:=zlN hL hp hn ((zb4 hL).1 hs).2.1;refine⟨?_,?_⟩
   ·show((bitsN s).map _).length<=_
    rw[Ze];omega
   ·show(placesP L (bitsN s) (rdsD D 0)).length<=_
    omega
  ·obtain⟨k,hk,rfl⟩:=ZL.1 hx
   have hkm:=xM.1 hdl k ((qZ (by omega)).1 hk);have:=zlN hL hp hn (XD (by decide) hkm:2 ^ k<2 ^ L.length);rw[zlF k (by omega)] at this;refine⟨by show[(k:Int)].length<=_;simp,?_⟩;show(placesP L [k] (rdsD D 0)).length<=_;omega
 ·simp
end Go.Ex
namespace Go.Abs
open Go.Proofs Go.RowKit Go.Lib Go.Wd Go.Wire Go.Ex
theorem zr2 (L:List Dmd) (D:List Dcm) (hI: ∀m∈L,DmdI m) (i:Int):Spec Tryz.prog 5 [lst 8 (L.map zM),lst 2 (D.map zV),.int .i64 i] (fun v=>v=.bool true):=by
 refine Spec.of_awlS hf5 okf5 (by simp) fun S hS=>?_
 have g9:=c9 L D;simp only[Qs,Zb,Ψ5];refine zD c8 ?_ (ha:=by rfl);simp only[Qs,Za,Ψ5];refine zD g9 ?_ (ha:=by simp only[Zj,Zo,zC,V.norm,zI,uJ,zS yN,C.norm]<;>rfl);cases hf:kM L D with
 |false=>
  simp only[Qs,Za,Ψ5];exact hS
 |true=>
  obtain⟨hA,_⟩:=cD hI hf;unfold kM at hf;simp only[Zp,decide_eq_true_eq] at hf;have hT:AskT L D:=⟨hA,zr0 hf.1 hf.2.2.1⟩;have hd14: ∀d∈D,d.flds.length<=14:=fun d hd=>by
   have h1:=hf.1;rw[ZU (by have:=hf.2.2.1;omega),Zt] at h1;have h3:=h1 d hd;unfold uX at h3;simp only[Zp,decide_eq_true_eq] at h3;exact h3.1.1
  have g13:=c13 D hA.dc;have g18:=c18 D hA.dc;have g14:=c14 D hA.dc i;have g19:=c19 D hT.t i;have g20:=c20 L D hA;have g21:=c21 L D hT;have g10:=c10 L D hA;have g23:=c23 L D hT;have g12:=c12 L D hA;have g24:=c24 L D hT;have hfl:=zr1 hA hf.2.2.1 hd14;have g25:=c25 (flawsE L D) (flawsE L D) hfl.1 hfl.2;have hp:wU (readP' D i):=zrw hA i;generalize cnts D=c at g13 g18;generalize readP' D i=p at g14 g19 hp;generalize readE D i=e1 at g14 g19;generalize lookE L D=e2 at g20 g21 g10 g23 g12 g24;generalize flawsE L D=FL at g10 g23 g25;generalize stateE L D=st at g12 g24;have hpl:=hp.1;simp only[decide_true] at g25;simp only[Qs,Za,Ψ5];refine zD g13 ?_ (ha:=by simp only[Zj,Zo,zC,V.norm,zI,zS yN,C.norm]<;>rfl);simp only[Qs,Za,Ψ5];refine zD g18 ?_ (ha:=by simp only[Zj,Zo,zC,V.norm,zI,zS yN,C.norm]<;>rfl);simp only[Qs,Za,Ψ5];refine yP g14 ?_ (ha:=by simp only[Zj,Zo,zC,V.norm,zI,zS yN,C.norm]<;>rfl);simp only[Qs,Zi,Zb,Yf,Za,Ψ5];refine yP g19 ?_ (ha:=by simp only[Zj,Zo,zC,V.norm,zI,zS yN,C.norm]<;>rfl);simp only[sA,Qs,forall_const,Zi,Zb,Yf,Za,Ψ5];refine zD g20 ?_ (ha:=by simp only[Zj,Zo,zC,V.norm,zI,uJ,zS yN,C.norm]<;>rfl);simp only[sA,Qs,Za];refine zD g21 ?_ (ha:=by simp only[Zj,Zo,zC,V.norm,zI,uJ,zS yN,C.norm]<;>rfl);simp only[sA,Qs,forall_const,Za,Ψ5];rw[uu f5l23.eq_1];refine zO (fun k:Nat=>[(0,lst 8 (L.map zM)),(1,lst 2 (D.map zV)),(7,.bool true),(12,lst 3 (xR p)),(14,lst 3 (xR p)),(16,.int .i64 k)]) (fun _=>[]) (fun k=>k<=p.length) (fun k=>p.length-k) 0 rfl rfl (Zy _) ?_;intro k hk;by_cases hkt:k<p.length
  ·have d1:(k:Int)<p.length:=by omega
   have c4:IntKind.i64.wrap ((k:Int)+1)=(k:Int)+1:=wrap_in (by omega) (by omega);have hat:=zlw hkt;have hpk:=hp.2 (p.getD k vW) (by rw[Zm,Zk hkt];exact Zv _);generalize p.getD k vW=r at hat hpk;have g22:=c22 r hpk;unfold zX at g22;simp only[d1,hat,sA,Qs,Za,Ψ5];refine xI g22 ?_ (ha:=by simp only[Zj,Zo,zC,V.norm,zI,yM,C.norm,C.normRow]<;>rfl);simp only[d1,c4,sA,Qs,lQ,Za,Ψ5];exact Next.intro (k+1) rfl rfl (by omega) (by omega)
  ·have d1: ¬(k:Int)<p.length:=by omega
   simp only[d1,sA,Qs,Za,Ψ5];refine yP g10 ?_ (ha:=by simp only[Zj,Zo,zC,V.norm,zI,uJ,zS yN,C.norm]<;>rfl);simp only[Qs,Zi,Zb,Yf,Za,Ψ5];refine yP g23 ?_ (ha:=by simp only[Zj,Zo,zC,V.norm,zI,uJ,zS yN,C.norm]<;>rfl);simp only[Qs,Zi,Zb,Yf,Za,Ψ5];refine zD g12 ?_ (ha:=by simp only[Zj,Zo,zC,V.norm,zI,uJ,zS yN,C.norm]<;>rfl);simp only[Qs,Za,Ψ5];refine zD g24 ?_ (ha:=by simp only[Zj,Zo,zC,V.norm,zI,uJ,zS yN,C.norm]<;>rfl);simp only[Qs,Za,Ψ5];refine zD g25 ?_ (ha:=by simp only[Zj,Zo,zC,V.norm,zI,iU,C.norm]<;>rfl);simp only[Qs,BEq.rfl,Za];exact hS
end Go.Abs
namespace Go.Proofs.YtpmicgjdckeejaaGreatDoor
open Go.Abs Go.RowKit Go.ChangeShapes Go.WideShapes Go.ChangeAt Go.WideMaps Go.WideElems Go.Ex
theorem zr3 (xs:List V) (h:iE Tryz.prog [22,23,3] xs):Go.Abs.Spec Tryz.prog 5 xs (fun r=>r=.bool true):=by
 match xs,h with
 |[a0,a1,a2],⟨⟨_,_,h0,q0⟩,⟨_,_,h1,q1⟩,⟨_,_,h2,q2⟩,_⟩=>
  obtain⟨x0,e0,w0⟩:=zqQ h0;obtain⟨x1,e1⟩:=zqU h1;obtain⟨x2,e2,_⟩:=zqW Tryz.underlying3 h2;rw[q0,q1,q2,e0,e1,e2];exact zr2 x0 x1 w0 x2
theorem zr4 (os:Os) {H:Type} (enc:TypeId×Value->H): ∃gR,DataW.whole enc Tryz.prog ((World.doorLaid Tryz.prog 400 os).forCall (fun _ _=>0) ⟨#[],#[Value.slice none 0 0,.slice none 0 0,.int .i64 0],[]⟩).memory Tryz.f5.params.toList Rows.examineTellsSpec.vars false #[Value.slice none 0 0,.slice none 0 0,.int .i64 0].toList 8=some ([.nil,.nil,.lit (.int .i64 0)],[],gR):=
 ⟨[],by kernel_rfl⟩
theorem zr5 (os:Os) (started:os.Started) (H:Type) (enc:TypeId×Value->H) (F:Stop.Interp):
  ReturnsInHanded {} Tryz.checked os 5 .any ((OpenSpec.ofChange Rows.examineTellsSpec).preRow enc Tryz.prog Tryz.f5 Rows.examineTellsRow.domain false Rows.examineTellsRow.laid) (((OpenSpec.ofChange Rows.examineTellsSpec).at F).post enc Tryz.prog Tryz.f5 false true false false):=by
 obtain⟨gR,hx⟩:=zr4 os enc;refine returnsInHanded_of_row (C:=Tryz.checked) (s:=OpenSpec.ofChange Rows.examineTellsSpec) own started (by kernel_rfl) Tryz.func5
  (witness_row_atRef (enc:=enc) (C:=Tryz.checked) false (World.doorLaid Tryz.prog 400 os) #[Value.slice none 0 0,.slice none 0 0,.int .i64 0] rfl (by kernel_rfl) (by kernel_rfl) (by kernel_rfl)
   (OpenSpec.preRow_of_cond 8 hx (by kernel_rfl) (fun k hk=>by cases hk) (by kernel_rfl) (zq2 os _))) ?_
 intro W base args ds gs before hval hW _ hcond _ hL hsh _;refine zod (C:=Tryz.checked) (T:=cE) (tb:=4) (s:=Rows.examineTellsSpec) zqX zqY ?_ kids full rfl ?_ ?_ Tryz.underlying4 ?_ W base args ds gs before hval hW (zq1 hL hsh)
 ·rw[Tryz.params5];decide
 ·intro ds hds
  rw[Tryz.params5] at hds
  match ds,hds with
  |[a0,a1,a2],_=>rfl
 ·kernel_rfl
 ·intro xs hxs
  rw[Tryz.params5] at hxs;exact zr3 xs hxs
theorem ExamineTells_row:Rows.ExamineTellsSaid:=
 OpenClaim.holds_of_cond 5 Tryz.f5 rfl rfl rfl rfl rfl rfl rfl ⟨rfl,rfl,rfl,rfl,rfl⟩ rfl rfl rfl rfl rfl (by kernel_rfl) Tryz.func5 (by kernel_rfl)
  (of_decide_eq_true (by kernel_rfl)) (by unfold Func.isWrapper;first|(rw[if_pos (by decide+kernel)];kernel_rfl)|(rw[if_neg (by decide+kernel)];exact⟨rfl,rfl⟩))
  (fun os started H enc _ F=>by rw[OpenClaim.pre_eq_preRow];exact zr5 os started H enc F)
theorem ExamineTells_holds:Rows.ExamineTellsCardSaid:=
 Claim7.holds_tied_plain_at .later [] _ _ _ _ ExamineTells_row (fun _ h=>by cases h) (by kernel_rfl) (fun _ h=>by cases h) examineTells_row_tie rfl ⟨rfl,rfl⟩ (by kernel_rfl) rfl
  (fun f fn hf hfn=>by
   obtain rfl:f=5:=YA ((show Tryz.prog.funcNamed "allonge/allongelaw34.ExamineTells" =some 5 by kernel_rfl).symm.trans hf)|>.symm
   obtain rfl:fn=Tryz.f5:=(YA (Tryz.func5.symm.trans hfn)).symm
   exact⟨by kernel_rfl,fun j t ht=>by
    rw[Tryz.params5] at ht
    have hm:t∈[22,23,3]:=by simpa using Array.mem_of_getElem? ht
    have hall:([22,23,3].all fun u=> !Tryz.prog.wantsStandIn u)=true:=by kernel_rfl
    exact(show Tryz.prog.wantsStandIn t=false by simpa using Zt.1 hall t hm)⟩)
  (by kernel_rfl)
end Go.Proofs.YtpmicgjdckeejaaGreatDoor
