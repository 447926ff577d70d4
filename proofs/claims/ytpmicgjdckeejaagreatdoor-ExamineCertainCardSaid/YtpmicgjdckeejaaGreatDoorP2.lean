/- A part of the proof; the last text states what is proved. -/
import Derived.Test.YtpmicgjdckeejaaGreatDoorP1
import Derived.Laws.StructEq
import Derived.WalkSpells
import Derived.Deep.AppendSrc
import Derived.Deep.Upon
import Derived.Orders
set_option linter.unusedVariables false
set_option linter.unusedSimpArgs false
open Array renaming eq_empty_of_size_eq_zero → YK,ext' → XB,getD_eq_getD_getElem? → ZP,getElem?_append_left → YQ,getElem?_eq_getElem → Z8,getElem?_eq_some_iff → Zo,getElem?_push → YD,getElem?_setIfInBounds → Yi,getElem?_toList → Yr,length_toList → YC,toArray_toList → ZK
open Bool renaming and_eq_true → Zp,false_eq_true → Z3,true_or → XA
open List renaming all_cons → Ys,all_eq_false → Yx,all_eq_true → Zw,all_map → YZ,append_assoc → Z9,append_nil → Zk,cons_append → ZR,eq_nil_of_length_eq_zero → Yb,foldl_cons → YF,getD_eq_getElem?_getD → Zi,getElem?_append_left → ZC,getElem?_append_right → ZD,getElem?_drop → Yz,getElem?_eq_getElem → Zh,getElem?_eq_none → Y2,getElem?_eq_some_iff → Zr,getElem?_map → Zv,getElem?_of_mem → XD,getElem?_take → Z2,getElem?_toArray → Y1,getElem_mem → Zy,length_append → Zu,length_cons → Zn,length_map → Zg,length_nil → ZF,length_pos_iff → Yd,length_take → Yt,mapM_cons → Yw,map_cons → Zl,mem_append → YI,mem_cons → ZH,mem_cons_of_mem → Zz,mem_cons_self → Yh,mem_flatMap → XH,mem_map → ZS,mem_of_getElem? → ZI,nil_append → Ya,range' → Xk,size_toArray → Yv,take_succ_eq_append_getElem → ZQ
open Nat renaming add_assoc → Yy,add_comm → YX,add_mul → Yp,add_zero → Yk,le_of_not_lt → Xh,le_refl → Zs,le_trans → ZY,lt_of_lt_of_le → ZL,mod_eq_of_lt → Xs,mod_lt → Xj,mul_le_mul_right → ZT,sub_zero → XE,zero_add → ZU,zero_le → ZB
open Option renaming bind_eq_bind → Zf,bind_eq_some_iff → Zb,bind_some → Y8,isSome_none → YJ,isSome_some → Xe,map_eq_some_iff → Zc,map_some → Yq,none_or → Xy,pure_def → Zj
open Option.some renaming injEq → Ze
namespace Go.Abs
section
variable {P : Program} {w0 : Base} {w : World} {Z0 : Bk -> Prop} {κ : Kap} {σ : St} {a : Act}
theorem zaZ (l:List Value): ∀(n off:Nat) (cells:Array Value),off+n+l.length<=cells.size->
  ((l.zipIdx n).foldl (fun cs (p:Value×Nat)=>cs.setIfInBounds (off+p.2) p.1) cells).toList=cells.toList.take (off+n)++l++cells.toList.drop (off+n+l.length):=by
 induction l with
 |nil=>intro n off cells h;simp
 |cons v l ih=>
  intro n off cells h;simp only[Zn] at h;simp only[List.zipIdx_cons,YF];rw[ih (n+1) off _ (by simp;omega)];have hlt:off+n<cells.toList.length:=by simp;omega
  simp only[Array.toList_setIfInBounds,Zn];have e1:off+(n+1)=(off+n)+1:=by omega
  have e2:off+(n+1)+l.length=off+n+(l.length+1):=by omega
  rw[e2,e1,List.take_set,List.drop_set_of_lt (by omega)];rw[ZQ hlt];have e4:(cells.toList.take (off+n)).length=off+n:=by simp;omega
  have e3:(cells.toList.take (off+n)++[cells.toList[off+n]]).set (off+n) v=cells.toList.take (off+n)++[v]:=by
   rw[List.set_append_right _ _ (by omega),e4];simp
  rw[e3];simp
theorem zX.splice {w:World} {Z:Bk->Prop} {κ:Kap} {o:Nat->Option O} {r ks:List K} {cs vs:List Value} (h:zX w Z κ o r cs) (hk:zX w Z κ o ks vs) {off:Nat} (hb:off+ks.length<=r.length):
  zX w Z κ o (splice r off ks) (cs.take off++vs++cs.drop (off+vs.length)):=by
 obtain⟨h1,h2⟩:=h;obtain⟨k1,k2⟩:=hk;refine⟨by simp[Abs.splice,h1,k1],fun j k v hj hv=>?_⟩;simp only[Abs.splice,Z9] at hj;rw[Z9] at hv;by_cases c1:j<off
 ·rw[ZC (by simp;omega),Z2,if_pos c1] at hj hv
  exact h2 j k v hj hv
 ·rw[ZD (by simp;omega)] at hj hv
  have e1:(List.take off r).length=off:=by simp;omega
  have e2:(List.take off cs).length=off:=by simp;omega
  rw[e1] at hj;rw[e2] at hv;by_cases c2:j-off<ks.length
  ·rw[ZC (by omega)] at hj hv
   exact k2 _ k v hj hv
  ·rw[ZD (by omega),Yz] at hj hv
   refine h2 _ k v hj ?_;rw[<-hv];congr 1;omega
theorem yD.splice {w:World} {Z:Bk->Prop} {r ks:List C} {cs vs:List Value} (h:yD w Z r cs) (hk:yD w Z ks vs) {off:Nat} (hb:off+ks.length<=r.length):
  yD w Z (splice r off ks) (cs.take off++vs++cs.drop (off+vs.length)):=by
 have:=(zX.ofPure (κ:=fun _=>none) (o:=fun _=>none) h).splice (zX.ofPure hk) (off:=off) (by simpa using hb);have e:Abs.splice (r.map K.c) off (ks.map K.c)=(Abs.splice r off ks).map K.c:=by simp[Abs.splice]
 rw[e] at this;exact this.toPure
theorem jN {w:World} {Z:Bk->Prop} {κ:Kap} {o:Nat->Option O} {v:V} {u:Value} {ks:List K} (h:v.cells=some ks) (hv:zD w Z κ o v u):zX w Z κ o ks u.cells.toList:=by
 cases v<;>simp[V.cells] at h
 ·subst h
  obtain⟨h1,h2⟩:=hv;have:u.cells= #[u]:=by cases u<;>first|rfl|simp[Value.oneCell'] at h1
  rw[this];refine⟨rfl,fun j k v hk hv=>?_⟩;cases j with
  |zero=>simp at hk hv;subst hk;subst hv;exact⟨h1,h2⟩
  |succ j=>simp at hk
 ·subst h
  obtain⟨cs,rfl,hr⟩:=hv;exact zX.ofPure hr
 ·subst h
  obtain⟨cs,rfl,hr⟩:=hv;exact hr
theorem eY (hi:Inv w0 Z0 κ σ a.tmps w) (place:Nat->Option (Nat×Nat)) {g:Bool} {k:List K->Prop}: ∀(parts:List (Nat×Operand)) (ps:List (Nat×Nat×AX)),
  (parts.mapM fun(p:Nat×Operand)=>do let q<-place p.1;let x<-ax p.2;pure (q.1,q.2,x))=some ps-> ∀(row:List K) (cells:Array Value),zX w (Zof w0 Z0 κ σ.o w) κ σ.o row cells.toList->
  zA.buildP σ g ps row k-> ∃row',k row'/\(g=true-> ∃cells',Instr.fill place cells (parts.map fun p=>(p.1,a.eval p.2))=some cells'/\zX w (Zof w0 Z0 κ σ.o w) κ σ.o row' cells'.toList)
 |[],ps,hps,row,cells,hrow,h=>by
  simp at hps;subst hps;exact⟨row,h,fun _=>⟨cells,rfl,hrow⟩⟩
 |(i,x)::parts,ps,hps,row,cells,hrow,h=>by
  simp only[Yw,Zf,Zb,Zj,Ze] at hps;obtain⟨p,⟨q,hq,x',hx',rfl⟩,ps',hps',rfl⟩:=hps;simp only[zA.buildP] at h;obtain⟨h,hv⟩:=yF hi hx' h;generalize (x'.ev σ).strip.1=v at h hv;split at h
  ·rename_i ks hks
   obtain⟨h1,h2⟩:=h;cases g with
   |false=>
    have key: ∀(l:List (Nat×Nat×AX)) (row:List K),zA.buildP σ false l row k-> ∃row',k row':=by
     intro l
     induction l with
     |nil=>intro row h;exact⟨row,h⟩
     |cons p l ih=>
      intro row h;obtain⟨off,n,x⟩:=p;simp only[zA.buildP,AX.evg] at h;obtain⟨_,h⟩:=h;split at h
      ·exact ih _ h.2
      ·exact h.elim
    obtain⟨row',hr'⟩:=key _ _ h2;exact⟨row',hr',fun h=>by simp at h⟩
   |true=>
    obtain⟨b1,b2⟩:=h1 rfl;have hc:=jN hks (hv rfl);have hcl:=hc.1;have hrl:=hrow.1;simp only[YC] at hcl hrl;have hsp:=hrow.splice hc (off:=q.1) (by omega);have e:((a.eval x).cells.zipIdx.foldl (fun cs (p:Value×Nat)=>cs.setIfInBounds (q.1+p.2) p.1) cells).toList=cells.toList.take q.1++(a.eval x).cells.toList++cells.toList.drop (q.1+(a.eval x).cells.toList.length):=by
     rw[<-Array.foldl_toList,Array.toList_zipIdx];have:=zaZ (a.eval x).cells.toList 0 q.1 cells (by simp;omega);simpa using this
    rw[<-e] at hsp;obtain⟨row',hk',hf⟩:=eY hi place parts ps' hps' _ _ hsp h2;refine⟨row',hk',fun hg=>?_⟩;obtain⟨cells',hf',hr'⟩:=hf hg;refine⟨cells',?_,hr'⟩;simp only[Zl,Instr.fill,hq];have n1: ¬((a.eval x).cells.size≠q.2||decide (q.1+(a.eval x).cells.size>cells.size))=true:=by
     simp;omega
    rw[if_neg n1];exact hf'
  ·exact h.elim
theorem mV {t:TypeId} {zero:List C} (hz:sG P t=some zero): ∃i z,P.info? t=some i/\i.zero=some z/\ ∀w Z,yD w Z zero z.cells.toList:=by
 simp only[sG,Zb] at hz;obtain⟨i,hi,z,hz,h⟩:=hz;exact⟨i,z,hi,hz,fun w Z=>zaT h w Z⟩
theorem zkh (hi:Inv w0 Z0 κ σ a.tmps w) {t:TypeId} {zero:List C} (hz:sG P t=some zero) {parts:Array (Nat×Operand)} {ps:List (Nat×Nat×AX)} (hps:eS P t parts.toList=some ps)
  {g:Bool} {d:Nat} {k:Nat->V->Prop} (h:zA σ g (.build d zero ps) k):
  ∃r,k d r/\xR P w0 Z0 κ σ w g (Instr.build t (parts.map fun(i,x)=>(i,a.eval x))) r:=by
 simp only[zA] at h;obtain⟨i,z,hinfo,hzero,hzrow⟩:=mV hz;have hrow:=zX.ofPure (κ:=κ) (o:=σ.o) (hzrow w (Zof w0 Z0 κ σ.o w));have hpm:(parts.map fun(i,x)=>(i,a.eval x)).toList=parts.toList.map fun p=>(p.1,a.eval p.2):=by simp
 unfold eS at hps;split at hps
 ·rename_i fs hu
  simp only[Zf,Zb] at hps;obtain⟨pl,hpl,hps⟩:=hps;obtain⟨row',hk,hf⟩:=eY hi (fun i=>pl[i]?) parts.toList ps hps _ _ hrow h;refine⟨_,hk,fun hg=>?_⟩;obtain⟨cells',hfill,hr'⟩:=hf hg;have hb:P.built t (parts.map fun(i,x)=>(i,a.eval x)).toList=some cells':=by
   unfold Program.built;simp only[hinfo,hu,hzero];have hpl':fs.toList.mapM (fun f=>(P.info? f.type).map fun i=>(f.offset,i.size))=some pl:=hpl;simp only[hpl',hpm];simpa using hfill
  refine⟨_,run_build w t _ cells' hb,?_⟩;unfold ofRow;simp only[if_true];split
  ·rename_i x hx
   have:=nF hx;subst this;exact⟨_,rfl,hr'.toPure⟩
  ·exact⟨_,rfl,hr'⟩
 ·rename_i n e hu
  simp only[Zf,Zb] at hps;obtain⟨ne,hne,hps⟩:=hps;simp only[yJ,Zc] at hne;obtain⟨ie,hie,rfl⟩:=hne;obtain⟨row',hk,hf⟩:=eY hi (fun i=>some (i*ie.size,ie.size)) parts.toList ps (by simpa using hps) _ _ hrow h;refine⟨_,hk,fun hg=>?_⟩;obtain⟨cells',hfill,hr'⟩:=hf hg;have hb:P.built t (parts.map fun(i,x)=>(i,a.eval x)).toList=some cells':=by
   unfold Program.built;simp only[hinfo,hu,hzero,hie,hpm];exact hfill
  refine⟨_,run_build w t _ cells' hb,?_⟩;unfold ofRow;simp only[if_true];split
  ·rename_i x hx
   have:=nF hx;subst this;exact⟨_,rfl,hr'.toPure⟩
  ·exact⟨_,rfl,hr'⟩
 ·simp at hps
theorem jO {t:TypeId} (ha:wU P t=some false) {cs:Array Value} {off:Nat} {v:Value} (h:cs[off]?=some v) (w:World):(part t cs off).run P w=.ok v w:=by
 simp[part,qQ ha,h]
theorem za0 (n:Nat): ∀(fs:List Field) (i:Nat) (ts:List EqK),qP P i fs=some ts-> ∀(ra rb:List C) (xs ys:Array Value) (q:Bool),eqRow ts ra rb=some q->
  ∀{w:World} {Z:Bk->Prop},(∀j c,ra[j]?=some c-> ∃v,xs[i+j]?=some v/\PRep w Z c v)->(∀j c,rb[j]?=some c-> ∃v,ys[i+j]?=some v/\PRep w Z c v)->
  (Op.eqFields (n+1) xs ys fs).run P w=.ok q w
 |[],i,ts,ht,ra,rb,xs,ys,q,hq,w,Z,h1,h2=>by
  simp[qP] at ht;subst ht;cases ra<;>cases rb<;>simp[eqRow] at hq
  subst hq;simp[Op.eqFields]
 |f::fs,i,ts,ht,ra,rb,xs,ys,q,hq,w,Z,h1,h2=>by
  unfold qP at ht;split at ht
  ·rename_i hc
   simp only[Zp,beq_iff_eq,bne_iff_ne,ne_eq] at hc;obtain⟨⟨hoff,hname⟩,hagg⟩:=hc;have fin: ∀(t:EqK) (ts':List EqK),qP P (i+1) fs=some ts'->ts=t::ts'->
     (∀(c c':C) (v v':Value) (e:Bool),eqC t c c'=some e->PRep w Z c v->PRep w Z c' v'->(Op.equalIn (n+1) f.type v v').run P w=.ok e w)->
     (Op.eqFields (n+1) xs ys (f::fs)).run P w=.ok q w:=by
    intro t ts' hts' he heq;subst he;cases ra with
    |nil=>simp[eqRow] at hq
    |cons c ra=>
     cases rb with
     |nil=>simp[eqRow] at hq
     |cons c' rb=>
      simp only[eqRow,Zb,Zc] at hq;obtain⟨e,he,q',hq',rfl⟩:=hq;obtain⟨v,hv,hp⟩:=h1 0 c rfl;obtain⟨v',hv',hp'⟩:=h2 0 c' rfl;simp only[Yk] at hv hv';have ih:=za0 n fs (i+1) ts' hts' ra rb xs ys q' hq' (w:=w) (Z:=Z)
       (fun j c hc=>by have:=h1 (j+1) c (by simpa using hc);simpa [Yy,YX 1] using this)
       (fun j c hc=>by have:=h2 (j+1) c (by simpa using hc);simpa [Yy,YX 1] using this)
      have hr:=heq c c' v v' e he hp hp';simp only[Op.eqFields,hoff,ne_eq,hname,not_false_eq_true,if_true,Sem.run_bind,jO hagg hv w,jO hagg hv' w,Result.andThen_ok,hr];cases e
      ·simp
      ·simp[ih]
   split at ht
   ·rename_i k hu
    simp only[Zc] at ht;obtain⟨ts',hts',rfl⟩:=ht;refine fin .int ts' hts' rfl (fun c c' v v' e he hp hp'=>?_);cases c<;>cases c'<;>simp[eqC] at he
    obtain⟨rfl,rfl⟩:=he;cases vB hp;cases vB hp';simp[Op.equalIn,run_underlying hu]
   ·rename_i hu
    simp only[Zc] at ht;obtain⟨ts',hts',rfl⟩:=ht;refine fin .bool ts' hts' rfl (fun c c' v v' e he hp hp'=>?_);cases c<;>cases c'<;>simp[eqC] at he
    subst he;cases qR hp;cases qR hp';simp[Op.equalIn,run_underlying hu]
   ·rename_i hu
    simp only[Zc] at ht;obtain⟨ts',hts',rfl⟩:=ht;refine fin .str ts' hts' rfl (fun c c' v v' e he hp hp'=>?_);cases c<;>cases c'<;>simp[eqC] at he
    subst he;cases uQ hp;cases uQ hp';simp[run_equalIn_string w n f.type _ _ hu]
   ·simp at ht
  ·simp at ht
theorem za1: ∀(t1 t2:List EqK) (ra rb:List C) (q:Bool),eqRow (t1++t2) ra rb=some q->
  ∃q1 q2,eqRow t1 (ra.take t1.length) (rb.take t1.length)=some q1/\eqRow t2 (ra.drop t1.length) (rb.drop t1.length)=some q2/\q=(q1&&q2)
 |[],t2,ra,rb,q,h=>⟨true,q,by simp[eqRow],by simpa using h,by simp⟩
 |t::t1,t2,[],rb,q,h=>by simp[eqRow] at h
 |t::t1,t2,a::ra,[],q,h=>by simp[eqRow] at h
 |t::t1,t2,a::ra,b::rb,q,h=>by
  simp only[ZR,eqRow,Zb,Zc] at h;obtain⟨e,he,q',hq',rfl⟩:=h;obtain⟨q1,q2,h1,h2,rfl⟩:=za1 t1 t2 ra rb q' hq';refine⟨e&&q1,q2,?_,by simpa using h2,by rw[Bool.and_assoc]⟩;simp only[Zn,List.take_succ_cons,eqRow,he,h1,Y8,Yq]
theorem za2: ∀{ts:List EqK} {ra rb:List C} {q:Bool},eqRow ts ra rb=some q->ra.length=ts.length/\rb.length=ts.length
 |[],[],[],_,_=>⟨rfl,rfl⟩
 |[],[],_::_,_,h=>by simp[eqRow] at h
 |[],_::_,_,_,h=>by simp[eqRow] at h
 |_::_,[],_,_,h=>by simp[eqRow] at h
 |_::_,_::_,[],_,h=>by simp[eqRow] at h
 |t::ts,a::ra,b::rb,q,h=>by
  simp only[eqRow,Zb,Zc] at h;obtain⟨e,he,q',hq',rfl⟩:=h;have:=za2 hq';simp[this]
theorem eZ (n:Nat): ∀(fs:List Field) (i:Nat) (ts:List EqK),rA P i fs=some ts-> ∀(ra rb:List C) (xs ys:Array Value) (q:Bool),eqRow ts ra rb=some q->
  ∀{w:World} {Z:Bk->Prop},(∀j c,ra[j]?=some c-> ∃v,xs[i+j]?=some v/\PRep w Z c v)->(∀j c,rb[j]?=some c-> ∃v,ys[i+j]?=some v/\PRep w Z c v)->
  (Op.eqFields (n+2) xs ys fs).run P w=.ok q w
 |[],i,ts,ht,ra,rb,xs,ys,q,hq,w,Z,h1,h2=>by
  simp[rA] at ht;subst ht;cases ra<;>cases rb<;>simp[eqRow] at hq
  subst hq;simp[Op.eqFields]
 |f::fs,i,ts,ht,ra,rb,xs,ys,q,hq,w,Z,h1,h2=>by
  unfold rA at ht;split at ht
  ·rename_i hc
   simp only[Zp,beq_iff_eq,bne_iff_ne,ne_eq] at hc;obtain⟨hoff,hname⟩:=hc;have fin: ∀(t:EqK) (ts':List EqK),wU P f.type=some false->rA P (i+1) fs=some ts'->ts=t::ts'->
     (∀(c c':C) (v v':Value) (e:Bool),eqC t c c'=some e->PRep w Z c v->PRep w Z c' v'->(Op.equalIn (n+2) f.type v v').run P w=.ok e w)->
     (Op.eqFields (n+2) xs ys (f::fs)).run P w=.ok q w:=by
    intro t ts' hagg hts' heq he;subst heq;cases ra with
    |nil=>simp[eqRow] at hq
    |cons c ra=>
     cases rb with
     |nil=>simp[eqRow] at hq
     |cons c' rb=>
      simp only[eqRow,Zb,Zc] at hq;obtain⟨e,hec,q',hq',rfl⟩:=hq;obtain⟨v,hv,hp⟩:=h1 0 c rfl;obtain⟨v',hv',hp'⟩:=h2 0 c' rfl;simp only[Yk] at hv hv';have ih:=eZ n fs (i+1) ts' hts' ra rb xs ys q' hq' (w:=w) (Z:=Z)
       (fun j c hc=>by have:=h1 (j+1) c (by simpa using hc);simpa [Yy,YX 1] using this)
       (fun j c hc=>by have:=h2 (j+1) c (by simpa using hc);simpa [Yy,YX 1] using this)
      have hr:=he c c' v v' e hec hp hp';simp only[Op.eqFields,hoff,ne_eq,hname,not_false_eq_true,if_true,Sem.run_bind,jO hagg hv w,jO hagg hv' w,Result.andThen_ok,hr];cases e
      ·simp
      ·simp[ih]
   split at ht
   ·rename_i k hu
    simp only[Zc] at ht;obtain⟨ts',hts',rfl⟩:=ht;refine fin .int ts' (by simp[wU,hu]) hts' rfl (fun c c' v v' e he hp hp'=>?_);cases c<;>cases c'<;>simp[eqC] at he
    obtain⟨rfl,rfl⟩:=he;cases vB hp;cases vB hp';simp[Op.equalIn,run_underlying hu]
   ·rename_i hu
    simp only[Zc] at ht;obtain⟨ts',hts',rfl⟩:=ht;refine fin .bool ts' (by simp[wU,hu]) hts' rfl (fun c c' v v' e he hp hp'=>?_);cases c<;>cases c'<;>simp[eqC] at he
    subst he;cases qR hp;cases qR hp';simp[Op.equalIn,run_underlying hu]
   ·rename_i hu
    simp only[Zc] at ht;obtain⟨ts',hts',rfl⟩:=ht;refine fin .str ts' (by simp[wU,hu]) hts' rfl (fun c c' v v' e he hp hp'=>?_);cases c<;>cases c'<;>simp[eqC] at he
    subst he;cases uQ hp;cases uQ hp';simp[run_equalIn_string w (n+1) f.type _ _ hu]
   ·rename_i gs hu
    split at ht
    ·rename_i t1 m ht1 hm
     split at ht
     ·rename_i hsn
      obtain⟨hst,rfl⟩:=hsn;simp only[Zc] at ht;obtain⟨t2,ht2,rfl⟩:=ht;obtain⟨q1,q2,hq1,hq2,rfl⟩:=za1 t1 t2 ra rb q hq;have hlen:=za2 hq;rw[Zu] at hlen;have hagg:wU P f.type=some true:=by simp[wU,hu]
      have hpart: ∀cs:Array Value,(part f.type cs i).run P w=.ok (.agg (cs.extract i (i+t1.length))) w:=fun cs=>by
       simp[part,qQ hagg,vA hm]
      have hsub: ∀(r:List C) (cs:Array Value),(∀j c,r[j]?=some c-> ∃v,cs[i+j]?=some v/\PRep w Z c v)-> ∀j c,(r.take t1.length)[j]?=some c-> ∃v,(cs.extract i (i+t1.length))[0+j]?=some v/\PRep w Z c v:=by
       intro r cs hr j c hc;rw[Z2] at hc;split at hc
       ·rename_i hj
        obtain⟨v,hv,hp⟩:=hr j c hc;refine⟨v,?_,hp⟩;have hsz:=(Zo.1 hv).1;rw[Array.getElem?_extract,if_pos (by omega),ZU];exact hv
       ·cases hc
      have hf1:=za0 n gs.toList 0 t1 ht1 (ra.take t1.length) (rb.take t1.length) (xs.extract i (i+t1.length)) (ys.extract i (i+t1.length)) q1 hq1 (hsub ra xs h1) (hsub rb ys h2);have hfo:P.fieldsOf f.type=gs:=by simp[Program.fieldsOf,hu]
      have hr:=run_equalIn_struct (P:=P) w (n+1) f.type (xs.extract i (i+t1.length)) (ys.extract i (i+t1.length)) (by rw[hfo];exact hu) hst;rw[hfo,hf1] at hr;have ih:=eZ n fs (i+t1.length) t2 ht2 (ra.drop t1.length) (rb.drop t1.length) xs ys q2 hq2 (w:=w) (Z:=Z)
       (fun j c hc=>by have:=h1 (t1.length+j) c (by rw[Yz] at hc;exact hc);simpa [Yy] using this)
       (fun j c hc=>by have:=h2 (t1.length+j) c (by rw[Yz] at hc;exact hc);simpa [Yy] using this)
      simp only[Op.eqFields,hoff,ne_eq,hname,not_false_eq_true,if_true,Sem.run_bind,hpart,Result.andThen_ok,hr];cases q1
      ·simp
      ·simp[ih]
     ·cases ht
    ·cases ht
   ·simp at ht
  ·simp at ht
theorem zki (hi:Inv w0 Z0 κ σ a.tmps w) {t:TypeId} {fs:Array Field} (ht:P.underlying t=some (.struct fs)) {ts:List EqK} (hts:rA P 0 fs.toList=some ts)
  (hs:P.stoodInHeld t=false) (hq:P.eqGuardType P.depth t=false) {op:BinOp} (hop:op=.eql\/op=.neq) {x y:Operand} {x' y':AX} (hx:ax x=some x') (hy:ax y=some y')
  {g:Bool} {d:Nat} {k:Nat->V->Prop} (h:zA σ g (.eqAgg d (op==.neq) ts x' y') k):
  ∃r,k d r/\xR P w0 Z0 κ σ w g (do eqGuard op t x y (a.eval x) (a.eval y);binOp op t (a.eval x) (a.eval y)) r:=by
 simp only[zA] at h;obtain⟨h,hv⟩:=yF hi hx h;obtain⟨h,hu⟩:=yF hi hy h;generalize (x'.ev σ).strip.1=v at h hv;generalize (y'.ev σ).strip.1=u at h hu;split at h
 ·rename_i ra rb
  split at h
  ·rename_i q hqr
   refine⟨_,h,fun hg=>?_⟩;obtain⟨xs,e1,r1⟩:=hv hg;obtain⟨ys,e2,r2⟩:=hu hg;rw[e1,e2];have hf:P.fieldsOf t=fs:=by simp[Program.fieldsOf,ht]
   have hrow: ∀(r:List C) (cs:Array Value),yD w (Zof w0 Z0 κ σ.o w) r cs.toList-> ∀j c,r[j]?=some c-> ∃v,cs[0+j]?=some v/\PRep w (Zof w0 Z0 κ σ.o w) c v:=by
    intro r cs hr j c hc;have hlt:j<cs.toList.length:=by rw[hr.1];exact(Zr.1 hc).1
    have hg:=Zh hlt;exact⟨cs.toList[j],by rw[ZU];simp,hr.2 j c _ hc hg⟩
   have hr:=eZ (P:=P) 9997 fs.toList 0 ts hts ra rb xs ys q hqr (hrow ra xs r1) (hrow rb ys r2);have hr':=run_equalIn_struct (P:=P) w 9999 t xs ys (by rw[hf];exact ht) hs;rw[hf,hr] at hr';rcases hop with rfl|rfl
   ·refine⟨_,?_,tD _⟩
    simp[run_eqGuard_agg w _ t x y xs ys hq,run_eql_struct,hr']
   ·refine⟨_,?_,tD _⟩
    simp[run_eqGuard_agg w _ t x y xs ys hq,run_neq_struct,hr']
  ·exact h.elim
 ·exact h.elim
theorem za3 (hi:Inv w0 Z0 κ σ a.tmps w) {isMax:Bool} {ts:Array TypeId} {ty:TypeId} {x:Operand} {x':AX} (hx:ax x=some x') {ys:List Operand} {ys':List AX} (hys:axs ys=some ys')
  {g:Bool} {d:Nat} {k:Nat->V->Prop} (h:zA σ g (.minmax d isMax x' ys') k):
  ∃r,k d r/\xR P w0 Z0 κ σ w g (if isMax then Builtin.max_ ts ty (x::ys|>.map a.eval).toArray else Builtin.min_ ts ty (x::ys|>.map a.eval).toArray) r:=by
 simp only[zA] at h;obtain⟨h,hv⟩:=yF hi hx h;generalize (x'.ev σ).strip.1=v at h hv;split at h
 ·rename_i kk n
  have key: ∀(ys:List Operand) (ys':List AX) (k:List Int->Prop),axs ys=some ys'->zA.intsP σ g ys' k-> ∃l,k l/\(g=true->l.length=ys.length/\ ∀(j:Nat) m y,l[j]?=some m->ys[j]?=some y-> ∃kk,a.eval y=.int kk m):=by
   intro ys
   induction ys with
   |nil=>intro ys' k h1 h2;simp[axs] at h1;subst h1;exact⟨[],h2,fun _=>⟨rfl,by simp⟩⟩
   |cons y ys ih=>
    intro ys' k h1 h2;simp only[axs,Yw,Zf,Zb,Zj,Ze] at h1;obtain⟨y',hy',zs,hzs,rfl⟩:=h1;simp only[zA.intsP] at h2;obtain⟨h2,hu⟩:=yF hi hy' h2;generalize (y'.ev σ).strip.1=u at h2 hu;split at h2
    ·rename_i kk m
     obtain⟨l,hl,hp⟩:=ih zs _ hzs h2;refine⟨_,hl,fun hg=>?_⟩;obtain⟨p1,p2⟩:=hp hg;refine⟨by simp[p1],fun j m' y'' hm hy''=>?_⟩;cases j with
     |zero=>simp at hm hy'';subst hm;subst hy'';exact⟨kk,vS (hu hg)⟩
     |succ j=>exact p2 j m' y'' (by simpa using hm) (by simpa using hy'')
    ·exact h2.elim
  obtain⟨l,hl,hp⟩:=key ys ys' _ hys h;refine⟨_,hl,fun hg=>?_⟩;obtain⟨p1,p2⟩:=hp hg;have e:=vS (hv hg);refine⟨_,?_,uH _ _⟩;have hfold: ∀(ys:List Operand) (l:List Int) (n:Int),l.length=ys.length->(∀(j:Nat) m y,l[j]?=some m->ys[j]?=some y-> ∃kk,a.eval y=.int kk m)->
    ((ys.map a.eval).foldlM (if isMax then Builtin.max2 else Builtin.min2) (.int kk n)).run P w=.ok (.int kk (l.foldl (mL isMax) n)) w:=by
   intro ys
   induction ys with
   |nil=>intro l n h1 _;have:l=[]:=Yb h1;subst this;rfl
   |cons y ys ih=>
    intro l n h1 h2;cases l with
    |nil=>simp at h1
    |cons m l=>
     obtain⟨k',hk'⟩:=h2 0 m y rfl rfl;have:=ih l (mL isMax n m) (by simpa using h1) (fun j m' y' h h'=>h2 (j+1) m' y' (by simpa using h) (by simpa using h'));simp only[Zl,List.foldlM_cons,YF,hk'];cases isMax<;>simp only[Z3,if_false,if_true,mL,Builtin.max2,Builtin.min2,Sem.run_bind,Sem.run_pure,Result.andThen_ok] at this⊢ <;>exact this
  have:=hfold ys l n p1 p2;cases isMax
  ·simp only[Z3,if_false,Builtin.min_,Zl,e] at this⊢;exact this
  ·simp only[if_true,Builtin.max_,Zl,e] at this⊢;exact this
 ·exact h.elim
end
end Go.Abs
namespace Go.Abs
section
variable {P : Program} {w0 : Base} {w : World} {Z0 : Bk -> Prop} {κ : Kap} {σ : St} {a : Act}
theorem zkj {t e:TypeId} (ht:P.underlying t=some (.slice e)) (p:Option Addr) (n c:Nat) (op:BinOp) (hop:op=.eql\/op=.neq) (w:World):
  (binOp op t (.slice p n c) (.slice none 0 0)).run P w=.ok (.bool (if op==.neq then !p.isNone else p.isNone)) w/\
  (binOp op t (.slice none 0 0) (.slice p n c)).run P w=.ok (.bool (if op==.neq then !p.isNone else p.isNone)) w:=by
 rcases hop with rfl|rfl
 ·exact⟨Lib.run_eql_slice_nil w t e p n c 0 0 ht,run_eql_nil_slice w t e p n c 0 0 ht⟩
 ·exact⟨run_neq_slice_nil_any w t e p n c 0 0 ht,run_neq_nil_slice w t e p n c 0 0 ht⟩
theorem za4 (hi:Inv w0 Z0 κ σ a.tmps w) {t e:TypeId} (ht:P.underlying t=some (.slice e)) {op:BinOp} (hop:op=.eql\/op=.neq) {x x1 x2:Operand} {x':AX} (hx:ax x=some x')
  (hxy:(x1=x/\x2=.const (.slice none 0 0))\/(x1=.const (.slice none 0 0)/\x2=x)) {g:Bool} {d:Nat} {k:Nat->V->Prop} (h:zA σ g (.nilcmp d (op==.neq) x') k):
  ∃r,k d r/\xR P w0 Z0 κ σ w g (do eqGuard op t x1 x2 (a.eval x1) (a.eval x2);binOp op t (a.eval x1) (a.eval x2)) r:=by
 simp only[zA] at h;obtain⟨h,hv⟩:=yF hi hx h;generalize (x'.ev σ).strip.1=v at h hv;have fin: ∀(b:Bool) (p:Option Addr) (n c:Nat),a.eval x=.slice p n c->p.isNone=b->
   ∃u,(do eqGuard op t x1 x2 (a.eval x1) (a.eval x2);binOp op t (a.eval x1) (a.eval x2):Sem Value).run P w=.ok u w/\zD w (Zof w0 Z0 κ σ.o w) κ σ.o (.bool (if (op==.neq)=true then !b else b)) u:=by
  intro b p n c hp hb;subst hb;obtain⟨r1,r2⟩:=zkj ht p n c op hop w;rcases hxy with⟨rfl,rfl⟩|⟨rfl,rfl⟩
  ·refine⟨_,?_,tD _⟩
   have e:a.eval (.const (.slice none 0 0))=.slice none 0 0:=rfl;rw[hp,e];simp[jJ op t x1 _ (.slice p n c) (.slice none 0 0) w rfl (by simp),r1]
  ·refine⟨_,?_,tD _⟩
   have e:a.eval (.const (.slice none 0 0))=.slice none 0 0:=rfl;rw[hp,e];simp[jJ op t _ x2 (.slice none 0 0) (.slice p n c) w rfl (by simp),r2]
 split at h
 ·rename_i b rows
  refine⟨_,h,fun hg=>?_⟩;rcases oC (hv hg).2 with⟨_,hp,hn⟩|⟨b',q,cap,hp,_,_,hn,_⟩|⟨_,_,hp,hn⟩
  ·exact fin b _ _ _ hp (by cases b<;>simp at hn⊢)
  ·exact fin b _ _ _ hp (by cases b<;>simp at hn⊢)
  ·exact fin b _ _ _ hp (by cases b<;>simp at hn⊢)
 ·rename_i τ
  split at h
  ·rename_i e' sz b rows ho
   refine⟨_,h,fun hg=>?_⟩;rcases(hv hg).2 _ _ _ _ ho with⟨hk,hp⟩|⟨b',cur,cap,hk,_,_,hp⟩
   ·rcases hi.objs τ _ ho with⟨_,_,hn⟩|⟨b2,cur,cap,hk',_⟩
    ·exact fin b _ _ _ hp (by cases b<;>simp at hn⊢)
    ·rw[hk] at hk';simp at hk'
   ·rcases hi.objs τ _ ho with⟨hk',_⟩|⟨b2,cur2,cap2,_,_,_,_,_,_,hn,_⟩
    ·rw[hk] at hk';simp at hk'
    ·exact fin b _ _ _ hp (by cases b<;>simp at hn⊢)
  ·exact h.elim
 ·exact h.elim
theorem zkk (hi:Inv w0 Z0 κ σ a.tmps w) {x:Operand} {x':AX} (hx:ax x=some x') {g:Bool} {d:Nat} {k:Nat->V->Prop} (h:zA σ g (.nilchk d x') k):
  ∃r,k d r/\(g=true->(∃b q,a.eval x=.pointer (some ⟨b,q,none⟩))\/(∃f vs,a.eval x=.func (.func f) #[] vs))/\(g=true->zD w (Zof w0 Z0 κ σ.o w) κ σ.o r (a.eval x)):=by
 simp only[zA] at h;obtain⟨h,hv⟩:=yF hi hx h;generalize (x'.ev σ).strip.1=v at h hv;split at h
 ·obtain⟨h1,h2⟩:=h
  refine⟨_,h2,fun hg=>?_,hv⟩;obtain⟨e,row,ho⟩:=zaX (h1 hg);obtain⟨b,_,hp⟩:=(hv hg).2 e row ho;exact .inl ⟨_,_,hp⟩
 ·obtain⟨h1,h2⟩:=h
  refine⟨_,h2,fun hg=>?_,hv⟩;obtain⟨e,sz,nl,rows,ho⟩:=zaY (h1 hg);obtain⟨b,_,_,hp⟩:=(hv hg).2 e sz nl rows ho;exact .inl ⟨_,_,hp⟩
 ·refine⟨_,h,fun hg=>?_,hv⟩
  obtain⟨b,q,hp,_⟩:=(hv hg).2;exact .inl ⟨_,_,hp⟩
 ·refine⟨_,h,fun hg=>?_,hv⟩
  have hpr:=(hv hg).2;cases hpr':a.eval x<;>rw[hpr'] at hpr<;>cases hpr
  exact .inl ⟨_,_,rfl⟩
 ·refine⟨_,h,fun hg=>?_,hv⟩
  have hpr:=(hv hg).2;cases hpr':a.eval x<;>rw[hpr'] at hpr<;>cases hpr
  exact .inr ⟨_,_,rfl⟩
 ·refine⟨_,h,fun hg=>?_,hv⟩
  obtain⟨vs,hp,_⟩:=(hv hg).2;exact .inr ⟨_,_,hp⟩
 ·exact h.elim
theorem zkl (hi:Inv w0 Z0 κ σ a.tmps w) {t e:TypeId} {len:Nat} (ht:P.underlying t=some (.array len e)) {n:Nat} (hn:yJ P e=some n) (h0:0<n) {agg:Bool} (ha:wU P e=some agg)
  {x i:Operand} {x' i':AX} (hx:ax x=some x') (hii:ax i=some i') {g:Bool} {d:Nat} {k:Nat->V->Prop} (h:zA σ g (.aidx d n len agg x' i') k):
  ∃r,k d r/\xR P w0 Z0 κ σ w g (Instr.index t (a.eval x) (a.eval i)) r:=by
 simp only[zA] at h;obtain⟨h,hv⟩:=yF hi hx h;obtain⟨h,hu⟩:=yF hi hii h;generalize (x'.ev σ).strip.1=v at h hv;generalize (i'.ev σ).strip.1=u at h hu;split at h
 ·rename_i r kk m
  refine⟨_,h.2,fun hg=>?_⟩;obtain⟨b1,b2,b3⟩:=h.1 hg;obtain⟨cs,hp,hrow⟩:=hv hg;rw[hp,vS (hu hg)];have hb:m.toNat*n+n<=r.length:=by
   rw[b3];have:(m.toNat+1)*n<=len*n:=ZT _ (by omega);rw[Yp] at this;omega
  have hrow':=(hrow.drop (m.toNat*n)).take n;have hl:((cs.toList.drop (m.toNat*n)).take n).length=n:=by rw[hrow'.1];simp;omega
  refine⟨_,?_,mS (zX.ofPure hrow') agg (by omega)⟩;cases agg with
  |true=>
   simp[Instr.index,asIntOf,run_underlying ht,b1,b2,part,qQ ha,vA hn];apply Array.toList_inj.1;simp
  |false=>
   have:m.toNat*n<cs.size:=by have:=hrow.1;simp at this;omega
   have hg:cs[m.toNat*n]?=some cs[m.toNat*n]:=by simp[this]
   have e:(List.take n (List.drop (m.toNat*n) cs.toList)).getD 0 undef=cs[m.toNat*n]:=by
    simp[Zi,h0,hg]
   simp[Instr.index,asIntOf,run_underlying ht,b1,b2,part,qQ ha,vA hn,hg];simpa using e.symm
 ·exact h.elim
theorem dA (hi:Inv w0 Z0 κ σ a.tmps w) {g:Bool}: ∀(l:List Operand) (l':List AX) (k:List Cap->Prop),axs l=some l'->zA.capsP σ g l' k->
  ∃cs,k cs/\(g=true->cs.length=l.length/\ ∀(j:Nat) c x,cs[j]?=some c->l[j]?=some x->wY w (Zof w0 Z0 κ σ.o w) κ σ.o c (a.eval x))
 |[],l',k,h1,h2=>by simp[axs] at h1;subst h1;exact⟨[],h2,fun _=>⟨rfl,by simp⟩⟩
 |x::l,l',k,h1,h2=>by
  simp only[axs,Yw,Zf,Zb,Zj,Ze] at h1;obtain⟨x',hx',l'',hl,rfl⟩:=h1;simp only[zA.capsP] at h2;obtain⟨h,hv⟩:=yF hi hx' h2;generalize (x'.ev σ).strip.1=v at h hv;split at h
  ·rename_i τ
   obtain⟨cs,hk,hp⟩:=dA hi l l'' _ hl h.2;refine⟨_,hk,fun hg=>?_⟩;obtain⟨p1,p2⟩:=hp hg;refine⟨by simp[p1],fun j c y hc hy=>?_⟩;cases j with
   |zero=>
    simp at hc hy;subst hc;subst hy;intro e row ho;exact(hv hg).2 e row ho
   |succ j=>exact p2 j c y (by simpa using hc) (by simpa using hy)
  ·rename_i row off
   obtain⟨cs,hk,hp⟩:=dA hi l l'' _ hl h;refine⟨_,hk,fun hg=>?_⟩;obtain⟨p1,p2⟩:=hp hg;refine⟨by simp[p1],fun j c y hc hy=>?_⟩;cases j with
   |zero=>
    simp at hc hy;subst hc;subst hy;exact(hv hg).2
   |succ j=>exact p2 j c y (by simpa using hc) (by simpa using hy)
  ·exact h.elim
theorem za5 {l:List Cap} {cs:List C} (h:vQ l=some cs):l.length=cs.length/\ ∀(j:Nat) c,cs[j]?=some c-> ∃row off,c=.ro row off/\l[j]?=some (.ro row off):=by
 induction l generalizing cs with
 |nil=>simp[vQ] at h;subst h;simp
 |cons c l ih=>
  cases c with
  |tok τ=>simp[vQ] at h
  |ro row off=>
   simp only[vQ,Zc] at h;obtain⟨cs',h',rfl⟩:=h;obtain⟨i1,i2⟩:=ih h';refine⟨by simp[i1],fun j c hc=>?_⟩;cases j with
   |zero=>simp at hc;subst hc;exact⟨row,off,rfl,rfl⟩
   |succ j=>simpa using i2 j c (by simpa using hc)
theorem zkm (hi:Inv w0 Z0 κ σ a.tmps w) {f:FuncId} {caps:Array Operand} {caps':List AX} (hc:axs caps.toList=some caps') {g:Bool} {d:Nat} {k:Nat->V->Prop} (h:zA σ g (.mkfn d f caps') k):
  ∃r,k d r/\xR P w0 Z0 κ σ w g (Instr.makeFunc (.func f) #[] (caps.map a.eval)) r:=by
 simp only[zA] at h;obtain⟨cs,hk,hp⟩:=dA hi _ _ _ hc h;have hget: ∀(j:Nat) c,cs[j]?=some c->g=true-> ∃u,(caps.map a.eval)[j]?=some u/\wY w (Zof w0 Z0 κ σ.o w) κ σ.o c u:=by
  intro j c hj hg;obtain⟨p1,p2⟩:=hp hg;have hlt:j<caps.toList.length:=by rw[<-p1];exact(Zr.1 hj).1
  have hx:caps.toList[j]?=some caps.toList[j]:=Zh hlt;have hlt':j<caps.size:=by simpa using hlt
  exact⟨a.eval caps.toList[j],by simp[Array.getElem?_map,Z8 hlt'],p2 j c _ hj hx⟩
 split at hk
 ·rename_i l hl
  refine⟨_,hk,fun hg=>⟨_,rfl,rfl,?_⟩⟩;obtain⟨q1,q2⟩:=za5 hl;obtain⟨p1,p2⟩:=hp hg;refine .fn f l (caps.map a.eval) (fun j=>((caps.map a.eval)[j]?).getD undef) (by simp;simp at p1;omega) (fun j c hj=>?_) (fun j c hj=>?_)
  ·obtain⟨row,off,rfl,hj'⟩:=q2 j c hj
   obtain⟨u,hu,_⟩:=hget j _ hj' hg;rw[hu];rfl
  ·obtain⟨row,off,rfl,hj'⟩:=q2 j c hj
   obtain⟨u,hu,hr⟩:=hget j _ hj' hg;rw[hu];exact hr
 ·refine⟨_,hk,fun hg=>⟨_,rfl,rfl,_,rfl,?_,fun j c hj=>hget j c hj hg⟩⟩
  obtain⟨p1,p2⟩:=hp hg;simp;simp at p1;omega
end
section
variable {P : Program} {w0 : Base} {w : World} {Z0 : Bk -> Prop} {κ : Kap} {σ : St} {a : Act}
theorem xH {o:Oper} {s:Sem Value} (he:execOp a.eval o=(do pure (.value (<-s)))) {g:Bool} {d:Nat} {k:Nat->V->Prop} (hd:o.dst=some d) (h: ∃r,k d r/\xR P w0 Z0 κ σ w g s r):
  ∃d r,o.dst=some d/\k d r/\(g=true-> ∃u,(execOp a.eval o).run P w=.ok (.value u) w/\zD w (Zof w0 Z0 κ σ.o w) κ σ.o r u):=by
 obtain⟨r,hk,hy⟩:=h;refine⟨d,r,hd,hk,fun hg=>?_⟩;obtain⟨u,hr,hv⟩:=hy hg;exact⟨u,zjY he hr,hv⟩
set_option maxHeartbeats 1000000 in
theorem zkn {o:Oper} {op:AOp} (hc:cOp P o=some op) (hi:Inv w0 Z0 κ σ a.tmps w) {g:Bool} {k:Nat->V->Prop} (h:zA σ g op k):
  ∃d r,o.dst=some d/\k d r/\(g=true-> ∃u,(execOp a.eval o).run P w=.ok (.value u) w/\zD w (Zof w0 Z0 κ σ.o w) κ σ.o r u):=by
 unfold cOp at hc;split at hc
 ·
  rename_i x d ho hd;simp only[Zc] at hc;obtain⟨x',hx,rfl⟩:=hc;exact xH (s:=pure (a.eval x)) (by simp[execOp,ho]) hd (zaW hi hx h)
 ·
  simp only[Zf,Zb,Zj,Ze] at hc;obtain⟨e,_,n,_,rfl⟩:=hc;exact h.elim
 ·rename_i x d _ ho hd
  simp only[Zc] at hc;obtain⟨x',hx,rfl⟩:=hc;exact xH (s:=pure (a.eval x)) (by simp[execOp,ho]) hd (zaW hi hx h)
 ·
  rename_i c x y d ho hd;simp only[Zf,Zb,Zj,Ze] at hc;obtain⟨c',hc',x',hx',y',hy',rfl⟩:=hc;refine xH (s:=do pure (if<-asBool (a.eval c) then a.eval x else a.eval y)) ?_ hd (zj6 hi hc' hx' hy' h);simp[execOp,ho]
 ·
  simp only[Zc] at hc;obtain⟨z,_,rfl⟩:=hc;exact h.elim
 ·
  simp only[Zc] at hc;obtain⟨z,_,rfl⟩:=hc;exact h.elim
 ·
  rename_i t ps d ho hd;simp only[Zf,Zb,Zj,Ze] at hc;obtain⟨z,hz,l,hl,rfl⟩:=hc;exact xH (s:=Instr.build t (ps.map fun(i,x)=>(i,a.eval x))) (by simp[execOp,ho]) hd (zkh hi hz hl h)
 ·
  simp only[Zf,Zb,Zj] at hc;obtain⟨e,_,n,_,z,_,l,_,hc⟩:=hc;split at hc
  ·cases hc;exact h.elim
  ·simp at hc
 ·
  rename_i t x d ho hd;simp only[Zf,Zb,Zj] at hc;obtain⟨n,hn,hc⟩:=hc;split at hc
  ·rename_i h0
   simp only[Zb,Ze] at hc;obtain⟨agg,ha,x',hx',rfl⟩:=hc;exact xH (s:=Instr.loadAt t (a.eval x)) (by simp[execOp,ho]) hd (zj0 hi hn ha h0 hx' h)
  ·simp at hc
 ·
  simp only[Zf,Zb,Zj,Ze] at hc;obtain⟨n,_,x',_,y',_,rfl⟩:=hc;exact h.elim
 ·
  rename_i x d ho hd;simp only[Zc] at hc;obtain⟨x',hx,rfl⟩:=hc;obtain⟨r,hk,hp,hv⟩:=zkk hi hx h;refine⟨d,r,hd,hk,fun hg=>⟨a.eval x,?_,hv hg⟩⟩;rcases hp hg with⟨b,q,e⟩|⟨f,vs,e⟩
  ·simp[execOp,ho,e]
  ·simp[execOp,ho,e]
 ·
  rename_i op t x y yt d ho hd;have he:execOp a.eval o=(do pure (.value (<-(do eqGuard op t x y (a.eval x) (a.eval y);binOp op t (a.eval x) (a.eval y):Sem Value)))):=by simp[execOp,ho]
  split at hc
  ·rename_i hop
   unfold cEq at hc;split at hc
   ·rename_i hu
    simp only[Zf,Zb,Zj,Ze] at hc;obtain⟨x',hx',y',hy',rfl⟩:=hc;exact xH he hd (zj3 hi hu hop hx' hy' h)
   ·simp only[Zf,Zb,Zj,Ze] at hc
    obtain⟨x',hx',y',hy',rfl⟩:=hc;exact xH he hd (eX hi hx' hy' h)
   ·simp only[Zf,Zb,Zj,Ze] at hc
    obtain⟨x',hx',y',hy',rfl⟩:=hc;exact xH he hd (eX hi hx' hy' h)
   ·rename_i fs hu
    simp only[Zf,Zb,Zj] at hc;obtain⟨ts,hts,hc⟩:=hc;split at hc
    ·rename_i hq
     simp only[Zb,Ze] at hc;obtain⟨x',hx',y',hy',rfl⟩:=hc;exact xH he hd (zki hi hu hts hq.1 hq.2 hop hx' hy' h)
    ·simp at hc
   ·rename_i e hu
    split at hc
    ·simp only[Zf,Zb,Zj,Ze] at hc
     obtain⟨x',hx',rfl⟩:=hc;exact xH he hd (za4 hi hu hop hx' (.inl ⟨rfl,rfl⟩) h)
    ·simp only[Zf,Zb,Zj,Ze] at hc
     obtain⟨x',hx',rfl⟩:=hc;exact xH he hd (za4 hi hu hop hx' (.inr ⟨rfl,rfl⟩) h)
    ·simp at hc
   ·simp at hc
  ·simp only[Zf,Zb,Zj,Ze] at hc
   obtain⟨x',hx',y',hy',rfl⟩:=hc;exact xH he hd (eX hi hx' hy' h)
 ·
  rename_i op t x d ho hd;simp only[Zc] at hc;obtain⟨x',hx,rfl⟩:=hc;exact xH (s:=Op.unary op (a.eval x)) (by simp[execOp,ho]) hd (zj4 hi hx h)
 ·
  rename_i src dst x d ho hd;split at hc
  ·rename_i k0 kk hs hdd
   simp only[Zc] at hc;obtain⟨x',hx,rfl⟩:=hc;exact xH (s:=convert src dst (a.eval x)) (by simp[execOp,ho]) hd (zj5 hi hs hdd hx h)
  ·simp at hc
 ·
  rename_i f first caps d ho hd
  split at hc
  ·rename_i hf
   simp only[Zc] at hc;obtain⟨caps',hx,rfl⟩:=hc;have e:first= #[]:=YK hf
   exact xH (s:=Instr.makeFunc (.func f) #[] (caps.map a.eval)) (by simp[execOp,ho,e]) hd (zkm hi hx h)
  ·simp at hc
 ·
  simp only[Zf,Zb,Zj] at hc;obtain⟨_,_,_,_,_,_,hc⟩:=hc;split at hc
  ·simp only[Zb,Ze] at hc
   obtain⟨_,_,_,_,_,_,rfl⟩:=hc;exact h.elim
  ·simp at hc
 ·
  rename_i t x lo hi' d ho hd;simp only[Zf,Zb] at hc;obtain⟨lo',hlo,hi'',hhi,hc⟩:=hc;have he:execOp a.eval o=(do pure (.value (<-Instr.sliceAt t (a.eval x) (lo.map a.eval) (hi'.map a.eval) none))):=by simp[execOp,ho]
  split at hc
  ·rename_i hu
   simp only[Zj,Zb,Ze] at hc;obtain⟨x',hx',rfl⟩:=hc;exact xH he hd (zkf hi hu hx' (by cases lo<;>exact hlo) (by cases hi'<;>exact hhi) h)
  ·rename_i e hu
   simp only[Zj,Zb,Ze] at hc;obtain⟨n,hn,x',hx',rfl⟩:=hc;exact xH he hd (zkg hi hu hn hx' (by cases lo<;>exact hlo) (by cases hi'<;>exact hhi) h)
  ·rename_i n e hu
   obtain⟨g,l,rfl,rfl,rfl,hg,hn,h0,hs,rfl⟩:=mR hc;obtain⟨s,hs⟩:=Option.isSome_iff_exists.1 hs;obtain rfl:lo=none:=by
    cases lo with
    |none=>rfl
    |some y=>simp[axO] at hlo
   obtain rfl:hi'=none:=by
    cases hi' with
    |none=>rfl
    |some y=>simp[axO] at hhi
   refine⟨d,_,hd,h,fun _=>⟨.slice (some ⟨g,0,none⟩) l.length l.length,?_,rfl,.gl g l hg⟩⟩;have hsz:(sizeOf e).run P w=.ok s w:=vA hs w;have hm: ¬n=0:=by omega
   rw[he];subst hn;simp[Instr.sliceAt,run_underlying hu,Act.eval,Instr.sureAddr,Instr.sliceBounds,hsz,hm,Addr.add]
  ·simp at hc
 ·
  rename_i s x f d ho hd;split at hc
  ·rename_i fs hu
   simp only[Zf,Zb,Zj] at hc;obtain⟨fl,hf,n,hn,hc⟩:=hc;split at hc
   ·rename_i h0
    simp only[Zb,Ze] at hc;obtain⟨x',hx',rfl⟩:=hc;exact xH (s:=Instr.fieldAt s (a.eval x) f) (by simp[execOp,ho]) hd (zj7 hi hu hf hn h0 hx' h)
   ·simp at hc
  ·simp at hc
 ·
  rename_i s x f d ho hd;split at hc
  ·rename_i fs hu
   simp only[Zf,Zb,Zj] at hc;obtain⟨fl,hf,n,hn,hc⟩:=hc;split at hc
   ·rename_i h0
    simp only[Zb,Ze] at hc;obtain⟨agg,ha,x',hx',rfl⟩:=hc;exact xH (s:=Instr.field s (a.eval x) f) (by simp[execOp,ho]) hd (zkd hi hu hf hn h0 ha hx' h)
   ·simp at hc
  ·simp at hc
 ·
  rename_i t x i d ho hd;have he:execOp a.eval o=(do pure (.value (<-Instr.indexAt t (a.eval x) (a.eval i)))):=by simp[execOp,ho]
  split at hc
  ·rename_i e hu
   simp only[Zf,Zb,Zj] at hc;obtain⟨n,hn,hc⟩:=hc;split at hc
   ·simp only[Zb,Ze] at hc
    obtain⟨x',hx',i',hi',rfl⟩:=hc;exact xH he hd (zj9 hi hu hn hx' hi' h)
   ·simp at hc
  ·rename_i len e hu
   simp only[Zf,Zb,Zj] at hc;obtain⟨n,hn,hc⟩:=hc;split at hc
   ·simp only[Zb,Ze] at hc
    obtain⟨x',hx',i',hi',rfl⟩:=hc;exact xH he hd (zj8 hi hu hn hx' hi' h)
   ·simp at hc
  ·simp at hc
 ·
  rename_i t x i d ho hd;have he:execOp a.eval o=(do pure (.value (<-Instr.index t (a.eval x) (a.eval i)))):=by simp[execOp,ho]
  split at hc
  ·rename_i hu
   simp only[Zf,Zb,Zj,Ze] at hc;obtain⟨x',hx',i',hi',rfl⟩:=hc;exact xH he hd (zke hi hu hx' hi' h)
  ·rename_i len e hu
   simp only[Zf,Zb,Zj] at hc;obtain⟨n,hn,hc⟩:=hc;split at hc
   ·rename_i h0
    simp only[Zb,Ze] at hc;obtain⟨agg,ha,x',hx',i',hi',rfl⟩:=hc;exact xH he hd (zkl hi hu hn h0 ha hx' hi' h)
   ·simp at hc
  ·simp at hc
 ·
  rename_i x i d ho hd;simp only[Zf,Zb,Zj,Ze] at hc;obtain⟨x',hx',rfl⟩:=hc;exact xH (s:=Instr.extract (a.eval x) i) (by simp[execOp,ho]) hd (zkc hi hx' h)
 ·
  rename_i c ho;split at hc
  ·simp only[Zc] at hc
   obtain⟨_,_,rfl⟩:=hc;exact h.elim
  ·simp only[Zc] at hc
   obtain⟨_,_,rfl⟩:=hc;exact h.elim
  ·rename_i b hb
   split at hc
   ·
    rename_i d x t hd hargs hts;have e1:c.args= #[x]:=by rw[<-ZK (xs:=c.args),hargs]
    have e2:c.argTypes= #[t]:=by rw[<-ZK (xs:=c.argTypes),hts]
    have he:execOp a.eval o=(do pure (.value (<-Builtin.len_ #[t] o.type #[a.eval x]))):=by
     simp[execOp,ho,resolve,hb,invoke,builtin,e1,e2]
    split at hc
    ·rename_i e hu
     simp only[Zc] at hc;obtain⟨x',hx',rfl⟩:=hc;exact xH he hd (zka hi hu hx' h)
    ·rename_i hu
     simp only[Zc] at hc;obtain⟨x',hx',rfl⟩:=hc;exact xH he hd (zkb hi hu hx' h)
    ·simp at hc
   ·
    split at hc
    ·simp only[Zc] at hc
     obtain⟨_,_,rfl⟩:=hc;exact h.elim
    ·simp at hc
   ·
    simp only[Zf,Zb] at hc;obtain⟨_,_,_,_,_,_,_,_,_,_,hc⟩:=hc;split at hc
    ·cases hc;exact h.elim
    ·simp at hc
   ·
    rename_i d x ys hd hargs;have e1:c.args=(x::ys).toArray:=by rw[<-ZK (xs:=c.args),hargs]
    simp only[Zf,Zb,Zj,Ze] at hc;obtain⟨x',hx',ys',hys',rfl⟩:=hc;refine xH (s:=Builtin.max_ c.argTypes o.type (x::ys|>.map a.eval).toArray) ?_ hd (za3 (isMax:=true) (ts:=c.argTypes) (ty:=o.type) hi hx' hys' h);simp[execOp,ho,resolve,hb,invoke,builtin,e1]
   ·
    rename_i d x ys hd hargs;have e1:c.args=(x::ys).toArray:=by rw[<-ZK (xs:=c.args),hargs]
    simp only[Zf,Zb,Zj,Ze] at hc;obtain⟨x',hx',ys',hys',rfl⟩:=hc;refine xH (s:=Builtin.min_ c.argTypes o.type (x::ys|>.map a.eval).toArray) ?_ hd (za3 (isMax:=false) (ts:=c.argTypes) (ty:=o.type) hi hx' hys' h);simp[execOp,ho,resolve,hb,invoke,builtin,e1]
   ·simp at hc
  ·simp at hc
 ·simp at hc
end
section
variable {w0 : Base} {w w' : World} {Z0 : Bk -> Prop} {κ κ' : Kap} {σ σ' : St} {fr : Array Value}
theorem yI.later {w0:Base} {w:World} (h:yI w0) (hk:KeptB w0 w):yI (base w):=by
 refine⟨fun g l hg=>?_,fun g p hg=>?_⟩
 ·obtain⟨h1,h2⟩:=h.1 g l hg
  refine⟨ZL (w0.lt g h1) hk.size,fun j hj=>?_⟩;show w.cell? _=_;rw[World.cell?_of_block (w:=w0.w) (a:=⟨g,j,none⟩) (hk.block g h1)];exact h2 j hj
 ·obtain⟨h1,b,h2,h3⟩:=h.2 g p hg
  exact⟨ZL (w0.lt g h1) hk.size,b,(hk.block g h1).trans h2,h3⟩
theorem Inv.globB (hi:Inv w0 Z0 κ σ fr w):yI (base w):=hi.glob.later hi.kept
theorem nG {w w':World} {b:Nat} (h:w'.heap[b]?=w.heap[b]?) (hs:sA w b):sA w' b:=fun cur e f hc=>hs cur e f (by rw[<-h];exact hc)
theorem Zof_sub (hsm:yV (Zof w0 Z0 κ σ.o w) w w') (hs:w.heap.size<=w'.heap.size) (h: ∀τ b,σ'.o τ≠none->κ' τ=some b->b<w.heap.size-> ∃τ',σ.o τ'≠none/\κ τ'=some b):
  ∀b,Zof w0 Z0 κ σ.o w b->Zof w0 Z0 κ' σ'.o w' b:=by
 rintro b ⟨h1,h2,h3⟩;refine⟨h1.imp id fun h=>⟨h.1,nG (hsm b ⟨h1,h2,h3⟩) h.2⟩,by omega,fun τ hτ hb=>?_⟩;obtain⟨τ',ha,hb'⟩:=h τ b.2 hτ hb h2;exact h3 τ' ha hb'
theorem xV {w:World} {b:Nat} {x:Obj} (h:w.heap[b]?=some x):b<w.heap.size:=(Zo.1 h).1
theorem xG.same {w w':World} (h:xG w w') (Z:Bk->Prop) (hz: ∀b,Z b->b.2<w.heap.size):yV Z w w':=fun b hb=>h.block b.2 (hz b hb)
theorem yO.of_eq {τs:Nat->Prop} (h: ∀τ,τs τ->σ'.o τ=σ.o τ/\κ' τ=κ τ) (hk:xG w w'):yO τs σ.o σ'.o κ κ' w w':=by
 intro τ hτ;obtain⟨h1,h2⟩:=h τ hτ;refine⟨by rw[h1];exact yC.refl _,h2,fun _ b _ cur e f hb=>⟨cur,?_,rfl⟩⟩;rw[hk.block b (xV hb)];exact hb
theorem Inv.newG (hi:Inv w0 Z0 κ σ fr w) (hk:xG w w') {d:Nat} (hd:d<fr.size) (hfree:σ.Free d) {bo:Option Nat} (hbo: ∀b,bo=some b->w.heap.size<=b/\b<w'.heap.size)
  {ob:O} {v:V} {u:Value}
  (hob: ∀Z,(∀b,Zof w0 Z0 κ σ.o w b->Z b)->xA w' Z (fun τ=>if τ=d then bo else κ τ) (σ.new d ob v).o d ob)
  (hv:zD w' (Zof w0 Z0 (fun τ=>if τ=d then bo else κ τ) (σ.new d ob v).o w') (fun τ=>if τ=d then bo else κ τ) (σ.new d ob v).o v u):
  Inv w0 Z0 (fun τ=>if τ=d then bo else κ τ) (σ.new d ob v) (fr.setIfInBounds d u) w':=by
 have hsub: ∀b,Zof w0 Z0 κ σ.o w b->Zof w0 Z0 (fun τ=>if τ=d then bo else κ τ) (σ.new d ob v).o w' b:=by
  refine Zof_sub (hk.same _ (fun b hb=>hb.2.1)) hk.size (fun τ b hτ hb hlt=>?_);by_cases h:τ=d
  ·subst h;simp at hb;have:=hbo b hb;omega
  ·simp only[h,if_false] at hb
   exact⟨τ,by simpa [St.new,St.put,St.setO,h] using hτ,hb⟩
 have hsame:yV (Zof w0 Z0 κ σ.o w) w w':=hk.same _ (fun b hb=>hb.2.1);have htab:yO (fun τ=>τ≠d) σ.o (σ.new d ob v).o κ (fun τ=>if τ=d then bo else κ τ) w w':=
  yO.of_eq (fun τ hτ=>⟨by simp[St.new,St.put,St.setO,hτ],by simp[hτ]⟩) hk
 refine⟨hi.kept.trans' hk,hi.glob,?_,?_,?_,?_⟩
 ·intro τ b hτ hb
  by_cases h:τ=d
  ·subst h;simp at hb;have:=hbo b hb;exact⟨hi.kept.fresh this.1,this.2⟩
  ·simp only[h,if_false] at hb
   have:=hi.own τ b (by simpa [St.new,St.put,St.setO,h] using hτ) hb;have h2:=hk.le;exact⟨this.1,by omega⟩
 ·intro τ τ' b hτ hτ' hb hb'
  by_cases h:τ=d<;>by_cases h':τ'=d
  ·rw[h,h']
  ·subst h
   simp at hb;simp only[h',if_false] at hb';have:=hbo b hb;have:=hi.own τ' b (by simpa [St.new,St.put,St.setO,h'] using hτ') hb';omega
  ·subst h'
   simp at hb';simp only[h,if_false] at hb;have:=hbo b hb';have:=hi.own τ b (by simpa [St.new,St.put,St.setO,h] using hτ) hb;omega
  ·simp only[h,h',if_false] at hb hb'
   exact hi.inj τ τ' b (by simpa [St.new,St.put,St.setO,h] using hτ) (by simpa [St.new,St.put,St.setO,h'] using hτ') hb hb'
 ·intro τ ob' hob'
  by_cases h:τ=d
  ·subst h
   simp[St.new,St.put,St.setO] at hob';subst hob';exact hob _ hsub
  ·have ho:σ.o τ=some ob':=by simpa [St.new,St.put,St.setO,h] using hob'
   refine(hi.objs τ ob' ho).mono hsame hsub htab (by simp[h]) (fun b hb=>?_) (fun τ' hτ'=>?_)
   ·exact hk.block b (hi.own τ b (by simp[ho]) hb).2
   ·rintro rfl
    have:=hfree.2 τ ob' ho h;rw[this] at hτ';simp at hτ'
 ·intro s
  by_cases h:s=d
  ·subst h
   simp[St.new,St.put,hd];exact hv
  ·have:=hi.tmps s
   have hs:(σ.new d ob v).t s=σ.t s:=by simp[St.new,St.put,St.setO,h]
   rw[hs];have hg:(fr.setIfInBounds d u).getD s undef=fr.getD s undef:=by
    simp[ZP,Yi,Ne.symm h]
   rw[hg];refine this.mono hsame hsub htab (fun τ' hτ'=>?_);rintro rfl;have:=hfree.1 s h;rw[this] at hτ';simp at hτ'
structure Wrote (w w':World) (b:Nat) (cur cur':Array Value) (e:TypeId):Prop where
 os:w'.os=w.os
 tape:w'.tape=w.tape
 output:w'.output=w.output
 size:w'.heap.size=w.heap.size
 old:w.heap[b]?=some (.cells cur e (0,0))
 new:w'.heap[b]?=some (.cells cur' e (0,0))
 len:cur'.size=cur.size
 other: ∀k,k≠b->w'.heap[k]?=w.heap[k]?
theorem dB (hi:Inv w0 Z0 κ σ fr w) {τ b:Nat} {ob ob':O} {cur cur':Array Value} {e:TypeId} (ho:σ.o τ=some ob) (hl:yC (some ob) (some ob')) (hκ:κ τ=some b) (hw:Wrote w w' b cur cur' e):
  (∀b,Zof w0 Z0 κ σ.o w b->Zof w0 Z0 κ (σ.setO τ ob').o w' b)/\yV (Zof w0 Z0 κ σ.o w) w w'/\yO (fun _=>True) σ.o (σ.setO τ ob').o κ κ w w':=by
 have hsm:yV (Zof w0 Z0 κ σ.o w) w w':=by
  intro k hk;refine hw.other k.2 ?_;intro hkb;exact hk.2.2 τ (by simp[ho]) (by rw[hkb];exact hκ)
 refine⟨Zof_sub hsm (by rw[hw.size];exact Zs _) (fun τ' b' hτ' hb' _=>⟨τ',?_,hb'⟩),hsm,fun τ' _=>⟨?_,rfl,fun _ b' hb' cur1 e1 f1 h1=>?_⟩⟩
 ·by_cases h:τ'=τ
  ·subst h;simp[ho]
  ·simpa [St.setO,h] using hτ'
 ·by_cases h:τ'=τ
  ·subst h;simp only[St.setO,if_true,ho];exact hl
  ·simp only[St.setO,h,if_false];exact yC.refl _
 ·by_cases h:b'=b
  ·subst h
   rw[hw.old] at h1;cases h1;exact⟨cur',hw.new,hw.len⟩
  ·exact⟨cur1,by rw[hw.other b' h];exact h1,rfl⟩
theorem Inv.setG (hi:Inv w0 Z0 κ σ fr w) {τ b:Nat} {ob ob':O} {cur cur':Array Value} {e:TypeId} (ho:σ.o τ=some ob) (hl:yC (some ob) (some ob')) (hκ:κ τ=some b) (hw:Wrote w w' b cur cur' e)
  (hob:xA w' (Zof w0 Z0 κ (σ.setO τ ob').o w') κ (σ.setO τ ob').o τ ob'):Inv w0 Z0 κ (σ.setO τ ob') fr w':=by
 obtain⟨hsub,hsame,htab⟩:=dB hi ho hl hκ hw;have hdom: ∀τ',(σ.setO τ ob').o τ'≠none->σ.o τ'≠none:=by
  intro τ' h;by_cases h':τ'=τ
  ·subst h';simp[ho]
  ·simpa [St.setO,h'] using h
 have hbo:=hi.own τ b (by simp[ho]) hκ;refine⟨⟨hw.os.trans hi.kept.os,hw.tape.trans hi.kept.tape,hw.output.trans hi.kept.output,by rw[hw.size];exact hi.kept.size,fun k hk=>?_⟩,hi.glob,fun τ' b' h h'=>?_,fun τ1 τ2 b' h1 h2 h3 h4=>?_,fun τ' ob1 h1=>?_,fun s=>?_⟩
 ·rw[hw.other k (by rintro rfl;exact hbo.1 hk)];exact hi.kept.block k hk
 ·rw[hw.size];exact hi.own τ' b' (hdom τ' h) h'
 ·exact hi.inj τ1 τ2 b' (hdom _ h1) (hdom _ h2) h3 h4
 ·by_cases h:τ'=τ
  ·subst h
   simp[St.setO] at h1;subst h1;exact hob
  ·have h1':σ.o τ'=some ob1:=by simpa [St.setO,h] using h1
   refine(hi.objs τ' ob1 h1').mono hsame hsub htab rfl (fun b' hb'=>?_) (fun _ _=>trivial);refine hw.other b' ?_;rintro rfl;exact h (hi.inj τ' τ b' (by simp[h1']) (by simp[ho]) hb' hκ)
 ·exact(hi.tmps s).mono hsame hsub htab (fun _ _=>trivial)
theorem K.noRef_scrub (τ:Nat) (x:K):(x.scrub τ).noRef τ=true:=by
 cases x<;>simp only[K.scrub]
 case fnk f caps=>
  split
  ·rename_i hc;exact hc
  ·rfl
 all_goals first
  |rfl
  |(split
    ·rfl
    ·simpa [K.noRef])
theorem K.noRef_scrub' {τ τ':Nat} {x:K} (h:(x.scrub τ).noRef τ'=false):x.noRef τ'=false:=by
 cases x<;>simp only[K.scrub] at h
 case fnk f caps=>
  split at h
  ·exact h
  ·simp[K.noRef] at h
 all_goals first
  |exact h
  |(split at h
    ·simp[K.noRef] at h
    ·exact h)
theorem yK.scrub {w:World} {Z:Bk->Prop} {o:Nat->Option O} {x:K} {v:Value} (τ:Nat) (h:yK w Z κ o x v):yK w Z κ o (x.scrub τ) v:=by
 cases x<;>simp only[K.scrub]
 case fnk f caps=>
  split
  ·exact h
  ·trivial
 all_goals first
  |exact h
  |(split
    ·trivial
    ·exact h)
theorem V.noRef_scrub (τ:Nat): ∀(x:V),(x.scrub τ).noRef τ=true
 | .k x=>K.noRef_scrub τ x
 | .agg r=>rfl
 | .agk r=>by
   simp only[V.scrub,V.noRef,YZ,Zw];intro k _;exact K.noRef_scrub τ k
 | .tup vs=>rfl
 | .undef=>rfl
 | .any=>rfl
theorem zD.scrub {w:World} {Z:Bk->Prop} {o:Nat->Option O} (τ:Nat): ∀{x:V} {v:Value},zD w Z κ o x v->zD w Z κ o (x.scrub τ) v
 | .k x,v,h=>⟨h.1,h.2.scrub τ⟩
 | .agg r,v,h=>h
 | .agk r,v,⟨cs,hv,hr⟩=>⟨cs,hv,by simp[hr.1],fun j k u hk hu=>by
   simp only[Zv,Zc] at hk
   obtain⟨k',hk',rfl⟩:=hk
   exact⟨(hr.2 j k' u hk' hu).1,(hr.2 j k' u hk' hu).2.scrub τ⟩⟩
 | .tup vs,v,h=>trivial
 | .undef,v,h=>h
 | .any,v,h=>trivial
theorem O.noRef_scrub (τ:Nat) (ob:O):(ob.scrub τ).noRef τ=true:=by
 cases ob with
 |var e row=>
  simp only[O.scrub,O.noRef,YZ,Zw];intro k _;exact K.noRef_scrub τ k
 |arr e sz nl rows=>rfl
theorem xA.scrub {w:World} {Z:Bk->Prop} {o:Nat->Option O} (τ:Nat) {τ':Nat} {ob:O} (h:xA w Z κ o τ' ob):xA w Z κ o τ' (ob.scrub τ):=by
 cases ob with
 |var e row=>
  obtain⟨b,cur,h1,h2,h3,h4⟩:=h;refine⟨b,cur,h1,h2,by simp[h3],fun j k u hk hu=>?_⟩;simp only[Zv,Zc] at hk;obtain⟨k',hk',rfl⟩:=hk;exact⟨(h4 j k' u hk' hu).1,(h4 j k' u hk' hu).2.scrub τ⟩
 |arr e sz nl rows=>exact h
theorem yC.scrub (τ:Nat) (x:Option O):yC x (x.map (O.scrub τ)):=by
 rcases x with _|(⟨e,row⟩|⟨e,sz,nl,rows⟩)
 ·trivial
 ·rfl
 ·exact⟨rfl,rfl,rfl⟩
theorem Inv.moveG (hi:Inv w0 Z0 κ σ fr w) {τ d:Nat} {ob0 ob:O} {v:V} {u:Value} {bo:Option Nat} (ho:σ.o τ=some ob0) (hd:d<fr.size)
  (hos:w'.os=w.os) (htape:w'.tape=w.tape) (hout:w'.output=w.output) (hsize:w.heap.size<=w'.heap.size)
  (hoth: ∀k,k<w.heap.size->κ τ≠some k->w'.heap[k]?=w.heap[k]?) (hbo: ∀b,bo=some b->(w.heap.size<=b/\b<w'.heap.size)\/κ τ=some b)
  (hob: ∀Z,(∀b,Zof w0 Z0 κ σ.o w b->Z b)->xA w' Z (fun s=>if s=τ then bo else κ s) (((σ.scrub τ).setO τ ob).put d v).o τ ob)
  (hv:zD w' (Zof w0 Z0 (fun s=>if s=τ then bo else κ s) (((σ.scrub τ).setO τ ob).put d v).o w') (fun s=>if s=τ then bo else κ s) (((σ.scrub τ).setO τ ob).put d v).o v u):
  Inv w0 Z0 (fun s=>if s=τ then bo else κ s) (((σ.scrub τ).setO τ ob).put d v) (fr.setIfInBounds d u) w':=by
 have hot: ∀s,s≠τ->(((σ.scrub τ).setO τ ob).put d v).o s=(σ.o s).map (O.scrub τ):=by
  intro s hs;simp[St.put,St.setO,St.scrub,hs]
 have hdom: ∀s,s≠τ->(((σ.scrub τ).setO τ ob).put d v).o s≠none->σ.o s≠none:=by
  intro s hs h;rw[hot s hs] at h;simpa using h
 have hsame:yV (Zof w0 Z0 κ σ.o w) w w':=fun b hb=>hoth b.2 hb.2.1 (hb.2.2 τ (by simp[ho]))
 have hsub: ∀b,Zof w0 Z0 κ σ.o w b->Zof w0 Z0 (fun s=>if s=τ then bo else κ s) (((σ.scrub τ).setO τ ob).put d v).o w' b:=by
  refine Zof_sub hsame hsize (fun s b hs hb hlt=>?_);by_cases h:s=τ
  ·subst h
   simp at hb;rcases hbo b hb with h|h
   ·omega
   ·exact⟨s,by simp[ho],h⟩
  ·simp only[h,if_false] at hb
   exact⟨s,hdom s h hs,hb⟩
 have htab:yO (fun s=>s≠τ) σ.o (((σ.scrub τ).setO τ ob).put d v).o κ (fun s=>if s=τ then bo else κ s) w w':=by
  intro s hs;refine⟨by rw[hot s hs];exact yC.scrub τ _,by simp[hs],fun hn b hb cur e f hb'=>⟨cur,?_,rfl⟩⟩;rw[hoth b (xV hb') (fun h=>hs (hi.inj s τ b hn (by simp[ho]) hb h))];exact hb'
 have hblk: ∀s b,s≠τ->σ.o s≠none->κ s=some b->w'.heap[b]?=w.heap[b]?:=by
  intro s b hs hn hb;exact hoth b (hi.own s b hn hb).2 (fun h=>hs (hi.inj s τ b hn (by simp[ho]) hb h))
 refine⟨⟨hos.trans hi.kept.os,htape.trans hi.kept.tape,hout.trans hi.kept.output,ZY hi.kept.size hsize,fun k hk=>?_⟩,hi.glob,fun s b hs hb=>?_,fun s1 s2 b h1 h2 h3 h4=>?_,fun s ob1 h1=>?_,fun s=>?_⟩
 ·rw[hoth k (by have:=hi.kept.size;have:=w0.lt k hk;omega) (fun h=>(hi.own τ k (by simp[ho]) h).1 hk)]
  exact hi.kept.block k hk
 ·by_cases h:s=τ
  ·subst h
   simp at hb;rcases hbo b hb with h|h
   ·exact⟨hi.kept.fresh h.1,h.2⟩
   ·have:=hi.own s b (by simp[ho]) h;exact⟨this.1,by omega⟩
  ·simp only[h,if_false] at hb
   have:=hi.own s b (hdom s h hs) hb;exact⟨this.1,by omega⟩
 ·by_cases c1:s1=τ<;>by_cases c2:s2=τ
  ·rw[c1,c2]
  ·subst c1
   simp at h3;simp only[c2,if_false] at h4;have h5:=hi.own s2 b (hdom s2 c2 h2) h4;rcases hbo b h3 with h|h
   ·omega
   ·exact hi.inj _ _ b (by simp[ho]) (hdom s2 c2 h2) h h4
  ·subst c2
   simp at h4;simp only[c1,if_false] at h3;have h5:=hi.own s1 b (hdom s1 c1 h1) h3;rcases hbo b h4 with h|h
   ·omega
   ·exact hi.inj _ _ b (hdom s1 c1 h1) (by simp[ho]) h3 h
  ·simp only[c1,c2,if_false] at h3 h4
   exact hi.inj s1 s2 b (hdom s1 c1 h1) (hdom s2 c2 h2) h3 h4
 ·by_cases h:s=τ
  ·subst h
   simp[St.put,St.setO] at h1;subst h1;exact hob _ hsub
  ·rw[hot s h] at h1
   simp only[Zc] at h1;obtain⟨ob2,h2,rfl⟩:=h1;have:=((hi.objs s ob2 h2).scrub τ).mono hsame hsub htab (by simp[h]) (fun b hb=>hblk s b h (by simp[h2]) hb) (fun τ' hτ'=>?_)
   ·exact this
   ·rintro rfl
    rw[O.noRef_scrub] at hτ';simp at hτ'
 ·by_cases h:s=d
  ·subst h
   simp[St.put,hd];exact hv
  ·have hs:(((σ.scrub τ).setO τ ob).put d v).t s=(σ.t s).scrub τ:=by simp[St.put,St.setO,St.scrub,h]
   rw[hs];have hg:(fr.setIfInBounds d u).getD s undef=fr.getD s undef:=by
    simp[ZP,Yi,Ne.symm h]
   rw[hg];refine((hi.tmps s).scrub τ).mono hsame hsub htab (fun τ' hτ'=>?_);rintro rfl;rw[V.noRef_scrub] at hτ';simp at hτ'
theorem wY.frz {w:World} {Z:Bk->Prop} {o o':Nat->Option O} {τ:Nat} {ob:O} (ho:o τ=some ob) (ho': ∀s,s≠τ->yC (o s) (o' s)) (hn:o' τ=none)
  (hvar: ∀e row r,ob=.var e row->pureRow row=some r-> ∀b,κ τ=some b-> ∀off,PRep w Z (.ro r off) (.pointer (some ⟨b,off,none⟩)))
  {c:Cap} {v:Value} (h:wY w Z κ o c v):wY w Z κ o' (c.frz τ ob) v:=by
 cases c with
 |tok s=>
  simp only[Cap.frz];by_cases hs:s=τ
  ·subst hs
   simp only[if_true];cases ob with
   |var e row=>
    simp only;split
    ·rename_i r hr
     obtain⟨b,hb,hv⟩:=h e row ho;rw[hv];exact hvar e row r rfl hr b hb 0
    ·intro e' row' h';rw[hn] at h';simp at h'
   |arr e sz nl rows=>intro e' row' h';rw[hn] at h';simp at h'
  ·simp only[hs,if_false]
   intro e row h';obtain⟨row',hr'⟩:=(ho' s hs).var h';exact h e row' hr'
 |ro row off=>exact h
theorem za6 {w:World} {Z:Bk->Prop} {o:Nat->Option O} {τ:Nat} {ob:O} (ho:o τ=some ob) (hob:xA w Z κ o τ ob) (hZ: ∀c b,κ τ=some b->Z (c,b)):
  (∀e row r,ob=.var e row->pureRow row=some r-> ∀b,κ τ=some b-> ∀off,PRep w Z (.ro r off) (.pointer (some ⟨b,off,none⟩)))/\
  (∀e sz nl rows,ob=.arr e sz nl rows-> ∀v,yK w Z κ o (.own τ) v->PRep w Z (.list sz nl rows) v)/\
  (∀e sz nl rows,ob=.arr e sz nl rows-> ∀b,κ τ=some b->tZ w Z sz rows b 0):=by
 refine⟨?_,?_,?_⟩
 ·rintro e row r rfl hr b hb off
  obtain⟨b',cur,hb',hheap,hrow⟩:=hob;obtain rfl:b=b':=by rw[hb] at hb';simpa using hb'
  have:=nF hr;subst this;have hp:=hrow.toPure;refine .ro b r off (fun j=>(cur[j]?).getD undef) (hZ _ b hb) (fun j c hc=>?_) (fun j c hc=>?_)
  ·have hlt:j<cur.toList.length:=by rw[hp.1];exact(Zr.1 hc).1
   have hlt':j<cur.size:=by simpa using hlt
   rw[cell_of_row w b j cur e (0,0) hheap,Z8 hlt'];rfl
  ·have hlt:j<cur.toList.length:=by rw[hp.1];exact(Zr.1 hc).1
   have hlt':j<cur.size:=by simpa using hlt
   rw[Z8 hlt'];exact hp.2 j c _ hc (by simp[hlt'])
 ·rintro e sz nl rows rfl v hv
  rcases hv e sz nl rows ho with⟨hk,rfl⟩|⟨b,cur,cap,hk,hheap,hc,rfl⟩
  ·rcases hob with⟨_,rfl,hn⟩|⟨b,cur,cap,hk',_⟩
   ·exact .nil sz nl hn
   ·rw[hk] at hk';simp at hk'
  ·rcases hob with⟨hk',_⟩|⟨b',cur',cap',hk',hheap',h0,hc',hl,hm,hn,hsz,hrr⟩
   ·rw[hk] at hk';simp at hk'
   ·obtain rfl:b=b':=by rw[hk] at hk';simpa using hk'
    rw[hheap] at hheap';cases hheap';have:cap=cap':=Nat.eq_of_mul_eq_mul_right h0 (hc.symm.trans hc');subst this;exact mU hn hl hm ⟨fun _=>hZ _ b hk,hsz,fun i j r c hr hcc=>by
     obtain⟨u,hu,hp⟩:=hrr i j r c hr hcc
     exact⟨u,by rw[cell_of_row w b _ cur e (0,0) hheap,ZU];exact hu,hp⟩⟩
 ·rintro e sz nl rows rfl b hb
  rcases hob with⟨hk',_⟩|⟨b',cur',cap',hk',hheap',h0,hc',hl,hm,hn,hsz,hrr⟩
  ·rw[hb] at hk';simp at hk'
  ·obtain rfl:b=b':=by rw[hb] at hk';simpa using hk'
   exact⟨fun _=>hZ _ b hb,hsz,fun i j r c hr hcc=>by
        obtain⟨u,hu,hp⟩:=hrr i j r c hr hcc
        exact⟨u,by rw[cell_of_row w b _ cur' e (0,0) hheap',ZU];exact hu,hp⟩⟩
theorem yC.frz (τ:Nat) (ob:O) (x:Option O):yC x (x.map (O.frz τ ob)):=by
 rcases x with _|(⟨e,row⟩|⟨e,sz,nl,rows⟩)
 ·trivial
 ·rfl
 ·exact⟨rfl,rfl,rfl⟩
theorem yK.frz {w:World} {Z:Bk->Prop} {o o':Nat->Option O} {τ:Nat} {ob:O} (ho:o τ=some ob) (ho': ∀s,s≠τ->yC (o s) (o' s)) (hn:o' τ=none)
  (hob:xA w Z κ o τ ob) (hZ: ∀c b,κ τ=some b->Z (c,b))
  {x:K} {v:Value} (h:yK w Z κ o x v):yK w Z κ o' (x.frz τ ob) v:=by
 obtain⟨f1,f2,f3⟩:=za6 ho hob hZ;cases x with
 |c x=>exact h
 |own s=>
  simp only[K.frz];by_cases hs:s=τ
  ·subst hs
   simp only[if_true];cases ob with
   |var e row=>trivial
   |arr e sz nl rows=>exact f2 e sz nl rows rfl v h
  ·simp only[hs,if_false]
   intro e sz nl rows h';obtain⟨nl',rows',hr',hl⟩:=(ho' s hs).arr h';rcases h e sz nl' rows' hr' with h|⟨b,cur,cap,hk,hb,hc,hv⟩
   ·exact .inl h
   ·exact .inr ⟨b,cur,cap,hk,hb,hc,by rw[<-hl];exact hv⟩
 |ptr s off=>
  simp only[K.frz];by_cases hs:s=τ
  ·subst hs
   simp only[if_true];cases ob with
   |var e row=>
    simp only;split
    ·rename_i r hr
     obtain⟨b,hb,hv⟩:=h e row ho;rw[hv];exact f1 e row r rfl hr b hb off
    ·trivial
   |arr e sz nl rows=>trivial
  ·simp only[hs,if_false]
   intro e row h';obtain⟨row',hr'⟩:=(ho' s hs).var h';exact h e row' hr'
 |elem s i off=>
  simp only[K.frz];by_cases hs:s=τ
  ·subst hs
   simp only[if_true];cases ob with
   |var e row=>trivial
   |arr e sz nl rows=>
    obtain⟨b,hb,hi,hv⟩:=h e sz nl rows ho;exact⟨b,0,by rw[hv,ZU],hi,f3 e sz nl rows rfl b hb⟩
  ·simp only[hs,if_false]
   intro e sz nl rows h';obtain⟨nl',rows',hr',hl⟩:=(ho' s hs).arr h';rw[<-hl];exact h e sz nl' rows' hr'
 |pel sz rows i off=>exact h
 |fnk f caps=>
  obtain⟨vs,hv,hl,hc⟩:=h;have hfr: ∀(j:Nat) c,(caps.map (Cap.frz τ ob))[j]?=some c-> ∃u,vs[j]?=some u/\wY w Z κ o' c u:=by
   intro j c hj;simp only[Zv,Zc] at hj;obtain⟨c',hc',rfl⟩:=hj;obtain⟨u,hu,hr⟩:=hc j c' hc';exact⟨u,hu,hr.frz ho ho' hn f1⟩
  simp only[K.frz];split
  ·rename_i cs hcs
   obtain⟨q1,q2⟩:=za5 hcs;rw[hv];refine .fn f cs vs (fun j=>(vs[j]?).getD undef) (by simp at q1;omega) (fun j c hj=>?_) (fun j c hj=>?_)
   ·obtain⟨row,off,rfl,hj'⟩:=q2 j c hj
    obtain⟨u,hu,_⟩:=hfr j _ hj';rw[hu];rfl
   ·obtain⟨row,off,rfl,hj'⟩:=q2 j c hj
    obtain⟨u,hu,hr⟩:=hfr j _ hj';rw[hu];exact hr
  ·exact⟨vs,hv,by simp[hl],hfr⟩
 |newl e sz nl rows=>exact h
 |dead=>trivial
theorem zD.frz {w:World} {Z:Bk->Prop} {o o':Nat->Option O} {τ:Nat} {ob:O} (ho:o τ=some ob) (ho': ∀s,s≠τ->yC (o s) (o' s)) (hn:o' τ=none)
  (hob:xA w Z κ o τ ob) (hZ: ∀c b,κ τ=some b->Z (c,b)): ∀{x:V} {v:Value},zD w Z κ o x v->zD w Z κ o' (x.frz τ ob) v
 | .k x,v,h=>⟨h.1,h.2.frz ho ho' hn hob hZ⟩
 | .agg r,v,h=>h
 | .agk r,v,⟨cs,hv,hr⟩=>by
   have hrow:zX w Z κ o' (r.map (K.frz τ ob)) cs.toList:=⟨by simp[hr.1],fun j k u hk hu=>by
    simp only[Zv,Zc] at hk
    obtain⟨k',hk',rfl⟩:=hk
    exact⟨(hr.2 j k' u hk' hu).1,(hr.2 j k' u hk' hu).2.frz ho ho' hn hob hZ⟩⟩
   simp only[V.frz];split
   ·rename_i cs' hcs
    have:=nF hcs;rw[this] at hrow;exact⟨cs,hv,hrow.toPure⟩
   ·exact⟨cs,hv,hrow⟩
 | .tup vs,v,h=>trivial
 | .undef,v,h=>h
 | .any,v,h=>trivial
theorem xA.frz {w:World} {Z:Bk->Prop} {o o':Nat->Option O} {τ:Nat} {ob:O} (ho:o τ=some ob) (ho': ∀s,s≠τ->yC (o s) (o' s)) (hn:o' τ=none)
  (hob:xA w Z κ o τ ob) (hZ: ∀c b,κ τ=some b->Z (c,b)) {τ':Nat} {x:O} (h:xA w Z κ o τ' x):xA w Z κ o' τ' (O.frz τ ob x):=by
 cases x with
 |var e row=>
  obtain⟨b,cur,h1,h2,h3,h4⟩:=h;refine⟨b,cur,h1,h2,by simp[h3],fun j k u hk hu=>?_⟩;simp only[Zv,Zc] at hk;obtain⟨k',hk',rfl⟩:=hk;exact⟨(h4 j k' u hk' hu).1,(h4 j k' u hk' hu).2.frz ho ho' hn hob hZ⟩
 |arr e sz nl rows=>exact h
theorem jP {w:World} {Z:Bk->Prop} {o:Nat->Option O} {τ b:Nat} {ob:O} (h:xA w Z κ o τ ob) (hb:κ τ=some b):sA w b:=by
 intro cur e f hc;cases ob with
 |var e' row=>
  obtain⟨b',cur',h1,h2,_⟩:=h;rw[hb] at h1;cases h1;rw[h2] at hc;cases hc;rfl
 |arr e' sz nl rows=>
  rcases h with⟨h1,_⟩|⟨b',cur',cap,h1,h2,_⟩
  ·rw[hb] at h1;cases h1
  ·rw[hb] at h1;cases h1
   rw[h2] at hc;cases hc;rfl
theorem Inv.frz (hi:Inv w0 Z0 κ σ fr w) (τ:Nat):Inv w0 Z0 κ (σ.frz τ) fr w:=by
 unfold St.frz;split
 ·exact hi
 ·rename_i ob ho
  have hot: ∀s,s≠τ->(fun s=>if s=τ then none else(σ.o s).map (O.frz τ ob)) s=(σ.o s).map (O.frz τ ob):=by intro s hs;simp[hs]
  have hdom: ∀s,(fun s=>if s=τ then none else(σ.o s).map (O.frz τ ob)) s≠none->s≠τ/\σ.o s≠none:=by
   intro s h;by_cases hs:s=τ
   ·simp[hs] at h
   ·simp only[hs,if_false] at h;exact⟨hs,by simpa using h⟩
  have hsub: ∀b,Zof w0 Z0 κ σ.o w b->Zof w0 Z0 κ (fun s=>if s=τ then none else(σ.o s).map (O.frz τ ob)) w b:=by
   rintro b ⟨h1,h2,h3⟩;exact⟨h1,h2,fun s hs=>h3 s (hdom s hs).2⟩
  have hZ: ∀c b,κ τ=some b->Zof w0 Z0 κ (fun s=>if s=τ then none else(σ.o s).map (O.frz τ ob)) w (c,b):=by
   intro c b hb;have:=hi.own τ b (by simp[ho]) hb;exact⟨.inr ⟨this.1,jP (hi.objs τ ob ho) hb⟩,this.2,fun s hs hsb=>(hdom s hs).1 (hi.inj s τ b (hdom s hs).2 (by simp[ho]) hsb hb)⟩
  have hlike: ∀s,s≠τ->yC (σ.o s) ((fun s=>if s=τ then none else(σ.o s).map (O.frz τ ob)) s):=by
   intro s hs;rw[hot s hs];exact yC.frz τ ob _
  have hself: ∀{w:World},yV (Zof w0 Z0 κ σ.o w) w w:=fun _ _=>rfl
  have hrefl:yO (fun _=>True) σ.o σ.o κ κ w w:=fun s _=>⟨yC.refl _,rfl,fun _ b _ cur e f hb=>⟨cur,hb,rfl⟩⟩
  have hob:=(hi.objs τ ob ho).mono hself hsub hrefl rfl (fun _ _=>rfl) (fun _ _=>trivial);refine⟨hi.kept,hi.glob,fun s b hs hb=>hi.own s b (hdom s hs).2 hb,fun s1 s2 b h1 h2 h3 h4=>hi.inj s1 s2 b (hdom s1 h1).2 (hdom s2 h2).2 h3 h4,fun s ob1 h1=>?_,fun s=>?_⟩
  ·have h1':(if s=τ then none else(σ.o s).map (O.frz τ ob))=some ob1:=h1
   by_cases hs:s=τ
   ·simp[hs] at h1'
   simp only[hs,if_false,Zc] at h1';obtain⟨ob2,h2,rfl⟩:=h1';exact xA.frz ho hlike (by simp) hob hZ ((hi.objs s ob2 h2).mono hself hsub hrefl rfl (fun _ _=>rfl) (fun _ _=>trivial))
  ·exact((hi.tmps s).mono hself hsub hrefl (fun _ _=>trivial)).frz ho hlike (by simp) hob hZ
theorem Inv.foldFrz (l:List Nat): ∀{σ:St},Inv w0 Z0 κ σ fr w->Inv w0 Z0 κ (l.foldl St.frz σ) fr w:=by
 induction l with
 |nil=>intro σ h;exact h
 |cons τ l ih=>intro σ h;exact ih (h.frz τ)
theorem Inv.frzs: ∀(l:List Nat) {σ:St},Inv w0 Z0 κ σ fr w->Inv w0 Z0 κ (σ.frzs l) fr w
 |[],σ,h=>h
 |τ::l,σ,h=>by
  unfold St.frzs;refine Inv.frzs l (Inv.frz ?_ τ);split
  ·exact Inv.foldFrz _ h
  ·exact h
end
section
variable {P : Program} {w0 : Base} {w : World} {Z0 : Bk -> Prop} {κ : Kap} {σ : St} {a : Act}
def sJ (P:Program) (w0:Base) (Z0:Bk->Prop) (a:Act) (w:World) (Kp:St->Prop) (d:Option Nat) (s:Sem Next):Prop:=
 (∃σ' κ' w' u,s.run P w=.ok (.value u) w'/\Inv w0 Z0 κ' σ' (a.put d u).tmps w'/\Kp σ')\/
 (∃σ' κ' w',s.run P w=.ok .skip w'/\Inv w0 Z0 κ' σ' (a.put d undef).tmps w'/\Kp σ')
theorem vT {d:Nat} {Kp:St->Prop} {s:Sem Value} {σ':St} {κ':Kap} {w':World} {u:Value} (hs:s.run P w=.ok u w') (hi:Inv w0 Z0 κ' σ' (a.tmps.setIfInBounds d u) w') (hk:Kp σ'):
  sJ P w0 Z0 a w Kp (some d) (do pure (.value (<-s))):=.inl ⟨σ',κ',w',u,by simp[hs],hi,hk⟩
theorem sK (w:World) (o:Obj):xG w (w.alloc o):=⟨rfl,rfl,rfl,by simp,fun b hb=>by
 show(w.heap.push o)[b]?=_
 rw[YD,if_neg (by omega)]⟩
theorem alloc_get (w:World) (o:Obj):(w.alloc o).heap[w.heap.size]?=some o:=by
 show(w.heap.push o)[w.heap.size]?=some o;simp
theorem zko (hi:Inv w0 Z0 κ σ a.tmps w) {d e sz:Nat} (hd:d<a.tmps.size) {Kp:St->Prop} (h:zY P σ (.nilL d e sz) Kp):
  sJ P w0 Z0 a w Kp (some d) (do pure (.value (<-(pure (.slice none 0 0):Sem Value)))):=by
 obtain⟨hf,hk⟩:=h;refine vT rfl (hi.newG (ob:=.arr e sz (some true) []) (v:=.k (.own d)) (xG.refl w) hd hf (bo:=none) (by simp) (fun Z hZ=> .inl ⟨by simp,rfl,by simp⟩) ⟨rfl,fun e' sz' nl rows ho=> .inl ⟨by simp,rfl⟩⟩) hk
theorem za7 (hi:Inv w0 Z0 κ σ a.tmps w) {d e:Nat} (hd:d<a.tmps.size) {row:List K} {cur:Array Value} (hrow:zX w (Zof w0 Z0 κ σ.o w) κ σ.o row cur.toList) (hnr:row.all (K.noRef d)=true) (hf:σ.Free d):
  Inv w0 Z0 (fun τ=>if τ=d then some w.heap.size else κ τ) (σ.new d (.var e row) (.k (.ptr d 0))) (a.tmps.setIfInBounds d (.pointer (some ⟨w.heap.size,0,none⟩))) (w.alloc (.cells cur e)):=by
 refine hi.newG (sK w _) hd hf (bo:=some w.heap.size) (by intro b hb;cases hb;simp) (fun Z hZ=>?_) ⟨rfl,fun e' row' ho=>⟨w.heap.size,by simp,rfl⟩⟩;refine⟨w.heap.size,cur,by simp,alloc_get w _,?_⟩;refine hrow.mono (τs:=fun τ=>τ≠d) ((sK w _).same _ (fun b hb=>hb.2.1)) hZ (yO.of_eq (fun τ hτ=>⟨by simp[St.new,St.put,St.setO,hτ],by simp[hτ]⟩) (sK w _)) (fun τ x hx hn=>?_);rintro rfl;rw[Zw.1 hnr x hx] at hn;simp at hn
theorem zkp (hi:Inv w0 Z0 κ σ a.tmps w) {d e:Nat} (hd:d<a.tmps.size) {zero:List C} (hz:sG P e=some zero) {Kp:St->Prop} (h:zY P σ (.alloc d e zero) Kp):
  sJ P w0 Z0 a w Kp (some d) (do pure (.value (<-Instr.alloc e true (.tuple #[])))):=by
 obtain⟨hf,hk⟩:=h;obtain⟨i,z,hinfo,hzero,hzrow⟩:=mV hz;refine vT (u:=.pointer (some ⟨w.heap.size,0,none⟩)) (w':=w.alloc (.cells z.cells e)) ?_ (za7 hi hd (zX.ofPure (hzrow w _)) ?_ hf) hk
 ·simp[Instr.alloc,zeroValue,typeInfo,hinfo,hzero,newVar,newRow]
 ·simp[Zw,K.noRef]
theorem zkq (hi:Inv w0 Z0 κ σ a.tmps w) {d e:Nat} (hd:d<a.tmps.size) {x:Operand} {x':AX} (hx:ax x=some x') {Kp:St->Prop} (h:zY P σ (.box d e x') Kp):
  sJ P w0 Z0 a w Kp (some d) (do pure (.value (<-Instr.box e (a.eval x)))):=by
 simp only[zY] at h;obtain⟨h,hv⟩:=yF hi hx h;generalize (x'.ev σ).strip.1=v at h hv;split at h
 ·rename_i ks hks
  obtain⟨hf,hnr,hk⟩:=h;refine vT (u:=.pointer (some ⟨w.heap.size,0,none⟩)) (w':=w.alloc (.cells (a.eval x).cells e)) ?_ (za7 hi hd (jN hks (hv rfl)) hnr hf) hk;simp[Instr.box,newVar,newRow]
 ·exact h.elim
theorem dC (hi:Inv w0 Z0 κ σ a.tmps w) {d e sz cap:Nat} (hd:d<a.tmps.size) {rows:List (List C)} {cur:Array Value} (h0:0<sz) (hcs:cur.size=cap*sz) (hlen:rows.length<=cap) (hcap:cap<=maxLen)
  {nl:Option Bool} (hnl:nl≠some true) (hall: ∀r,r∈rows->r.length=sz) (hrr: ∀(i j:Nat) r c,rows[i]?=some r->r[j]?=some c-> ∃v,cur[i*sz+j]?=some v/\PRep w (Zof w0 Z0 κ σ.o w) c v) (hf:σ.Free d) {w':World} (hk:xG w w') (hw':w'.heap[w.heap.size]?=some (.cells cur e (0,0))):
  Inv w0 Z0 (fun τ=>if τ=d then some w.heap.size else κ τ) (σ.new d (.arr e sz nl rows) (.k (.own d))) (a.tmps.setIfInBounds d (.slice (some ⟨w.heap.size,0,none⟩) rows.length cap)) w':=by
 refine hi.newG hk hd hf (bo:=some w.heap.size) (by intro b hb;cases hb;exact⟨Zs _,xV hw'⟩) (fun Z hZ=>?_) ⟨rfl,fun e' sz' nl' rows' ho=>?_⟩
 ·refine .inr ⟨w.heap.size,cur,cap,by simp,hw',h0,hcs,hlen,hcap,hnl,hall,fun i j r c hr hc=>?_⟩
  obtain⟨v,hv,hp⟩:=hrr i j r c hr hc;exact⟨v,hv,hp.mono (hk.same _ (fun b hb=>hb.2.1)) hZ⟩
 ·have:(σ.new d (.arr e sz nl rows) (.k (.own d))).o d=some (.arr e sz nl rows):=by simp[St.new,St.put,St.setO]
  rw[this] at ho;cases ho;exact .inr ⟨w.heap.size,cur,cap,by simp,hw',hcs,rfl⟩
theorem dD (z:Array Value) (n i j sz:Nat) (hz:z.size=sz) (h0:0<sz) (hi:i<n) (hj:j<sz):(madeCells z (n*sz))[i*sz+j]?=z[j]?:=by
 have hlt:i*sz+j<n*sz:=by
  have:(i+1)*sz<=n*sz:=ZT _ hi;rw[Yp] at this;omega
 have hm:(i*sz+j) % sz=j:=by rw[YX,Nat.add_mul_mod_self_right,Xs hj]
 simp only[madeCells,Array.getElem?_map,Array.getElem?_range,hlt,if_true,Yq,hz,hm];rw[Array.getElem!_eq_getD,ZP,Z8 (by omega)];rfl
theorem zkr (hi:Inv w0 Z0 κ σ a.tmps w) {t e d n:Nat} (hd:d<a.tmps.size) (ht:P.underlying t=some (.slice e)) {i:TypeInfo} (hinfo:P.info? e=some i) (hn:yJ P e=some n) (h0:0<n) {zero:List C} (hz:sG P e=some zero)
  {l c:Operand} {l' c':AX} (hl:ax l=some l') (hc:ax c=some c') {Kp:St->Prop} (h:zY P σ (.mkslice d e n i.bytes zero l' c') Kp):
  sJ P w0 Z0 a w Kp (some d) (do pure (.value (<-Instr.makeSlice t (a.eval l) (a.eval c)))):=by
 simp only[zY] at h;obtain⟨h,hv⟩:=yF hi hl h;obtain⟨h,hu⟩:=yF hi hc h;generalize (l'.ev σ).strip.1=v at h hv;generalize (c'.ev σ).strip.1=u at h hu;split at h
 ·rename_i k1 m k2 q
  obtain⟨b1,b2,b3,b4,b5,hf,hk⟩:=h;obtain⟨i',z,hinfo',hzero,hzrow⟩:=mV hz;rw[hinfo] at hinfo';cases hinfo';have hni:i.size=n:=by simpa [yJ,hinfo] using hn
  have hzl:z.cells.size=n:=by have:=(hzrow w (fun _=>True)).1;simp at this;omega
  have hrun:=run_make (P:=P) w t e i z ht hinfo hzero k1 k2 m q b1 b2 (by omega) b4;rw[hni] at hrun;have e1:(List.replicate m.toNat zero).length=m.toNat:=by simp
  have hI:=dC hi hd (rows:=List.replicate m.toNat zero) (nl:=some false) (cap:=q.toNat) (e:=e) (cur:=madeCells z.cells (q.toNat*n)) h0 (size_madeCells _ _) (by simp;omega) (by unfold maxLen;omega) (by simp) (by intro r hr;simp at hr;rw[hr.2];exact b5)
    (fun i j r c hr hc=>by
     rw[List.getElem?_replicate] at hr
     split at hr
     ·rename_i hi'
      cases hr
      have hj:j<n:=by rw[<-b5];exact(Zr.1 hc).1
      rw[dD z.cells q.toNat i j n hzl h0 (by omega) hj]
      have hr:=hzrow w (Zof w0 Z0 κ σ.o w)
      have hlt:j<z.cells.size:=by omega
      exact⟨z.cells[j],Z8 hlt,hr.2 j c _ hc (by simp[hlt])⟩
     ·simp at hr) hf (sK w _) (alloc_get w _)
  rw[e1] at hI;refine vT (u:=.slice (some ⟨w.heap.size,0,none⟩) m.toNat q.toNat) ?_ hI hk;rw[vS (hv rfl),vS (hu rfl)];exact hrun
 ·exact h.elim
theorem zks (hi:Inv w0 Z0 κ σ a.tmps w) {t n τ off e:Nat} (hn:yJ P t=some n) {row ks:List K} {x y:Value} (ho:σ.o τ=some (.var e row)) (hx:zD w (Zof w0 Z0 κ σ.o w) κ σ.o (.k (.ptr τ off)) x)
  (hy:zX w (Zof w0 Z0 κ σ.o w) κ σ.o ks y.cells.toList) (hl:ks.length=n) (hb:off+n<=row.length):
  ∃w',(Instr.storeAt t x y).run P w=.ok () w'/\Inv w0 Z0 κ (σ.setO τ (.var e (splice row off ks))) a.tmps w':=by
 obtain⟨b,cur,hκ,hheap,hrow⟩:=hi.objs τ _ ho;obtain⟨b',hκ',hp⟩:=hx.2 e row ho;obtain rfl:b=b':=by rw[hκ] at hκ';simpa using hκ'
 have hcl:cur.size=row.length:=by simpa using hrow.1
 have hyl:y.cells.toList.length=n:=by rw[hy.1,hl]
 have h1: ∀v∈y.cells.toList,v.oneCell'=true:=by
  intro v hv;obtain⟨j,hj⟩:=XD hv;have hlt:j<ks.length:=by rw[<-hy.1];exact(Zr.1 hj).1
  exact(hy.2 j ks[j] v (Zh hlt) hj).1
 have hst:=run_storeCells_at P b off e y.cells.toList 0 cur w hheap (by omega) h1;simp only[Yk] at hst;refine⟨w.setRow b (cur.toList.take off++y.cells.toList++cur.toList.drop (off+y.cells.toList.length)).toArray,?_,?_⟩
 ·rw[hp]
  have hsz:y.cells.size=n:=by simpa using hyl
  simp only[Instr.storeAt,Instr.sureAddr,storeVar,Sem.run_bind,Sem.run_pure,Result.andThen_ok,vA hn,hsz,ne_eq,not_true_eq_false,if_false];exact hst
 ·have hW:Wrote w (w.setRow b (cur.toList.take off++y.cells.toList++cur.toList.drop (off+y.cells.toList.length)).toArray) b cur (cur.toList.take off++y.cells.toList++cur.toList.drop (off+y.cells.toList.length)).toArray e:=
   ⟨rfl,rfl,rfl,by simp,hheap,setRow_heap w b cur _ e (0,0) hheap,by simp at hyl⊢;omega,fun k hk=>setRow_other w b k _ hk⟩
  obtain⟨hsub,hsame,htab⟩:=dB (ob':=.var e (splice row off ks)) hi ho rfl hκ hW;refine hi.setG ho rfl hκ hW ⟨b,_,hκ,setRow_heap w b cur _ e (0,0) hheap,?_⟩;have:=hrow.splice hy (off:=off) (by omega);refine zX.mono hsame hsub htab (fun _ _ _ _=>trivial) ?_;simpa using this
end
section
variable {P : Program} {w0 : Base} {w : World} {Z0 : Bk -> Prop} {κ : Kap} {σ : St} {a : Act}
theorem za8 (σ:St) (τ s:Nat) (h:(σ.frz τ).o s≠none):σ.o s≠none:=by
 unfold St.frz at h;split at h
 ·exact h
 ·simp only at h
  split at h
  ·simp at h
  ·simpa using h
theorem zkt (l:List Nat): ∀(σ:St) (s:Nat),(l.foldl St.frz σ).o s≠none->σ.o s≠none:=by
 induction l with
 |nil=>intro σ s h;exact h
 |cons τ l ih=>intro σ s h;exact za8 σ τ s (ih _ s h)
theorem jQ: ∀(l:List Nat) (σ:St) (s:Nat),(σ.frzs l).o s≠none->σ.o s≠none
 |[],σ,s,h=>h
 |τ::l,σ,s,h=>by
  unfold St.frzs at h;have h1:=za8 _ τ s (jQ l _ s h);split at h1
  ·exact zkt _ σ s h1
  ·exact h1
theorem Zof_frzs (l:List Nat): ∀b,Zof w0 Z0 κ σ.o w b->Zof w0 Z0 κ (σ.frzs l).o w b:=by
 rintro b ⟨h1,h2,h3⟩;exact⟨h1,h2,fun τ hτ=>h3 τ (jQ l σ τ hτ)⟩
theorem pure_row {v:V} {r:List C} (h:v.pure=some r) {w:World} {Z:Bk->Prop} {o:Nat->Option O} {u:Value} (hv:zD w Z κ o v u):yD w Z r u.cells.toList:=by
 cases v with
 |k x=>
  cases x<;>simp[V.pure] at h
  subst h;have:=jN (v:=.k (.c _)) rfl hv;exact this.toPure (r:=[_])
 |agg r'=>
  simp[V.pure] at h;subst h;obtain⟨cs,rfl,hr⟩:=hv;exact hr
 |_=>simp[V.pure] at h
theorem za9 (hi:Inv w0 Z0 κ σ a.tmps w) {x:Operand} {x':AX} (hx:ax x=some x') {Kp:St->List C->Prop} (h:qJ σ x' Kp):
  ∃l r,Kp (σ.frzs l) r/\Inv w0 Z0 κ (σ.frzs l) a.tmps w/\yD w (Zof w0 Z0 κ (σ.frzs l).o w) r (a.eval x).cells.toList:=by
 obtain⟨_,h1,h2⟩:=h;have hi':=hi.frzs (x'.ev σ).strip.1.toks;split at h2
 ·rename_i r hr
  exact⟨_,r,h2,hi',pure_row hr ((sI hi' hx).strip h1)⟩
 ·exact h2.elim
theorem zba (l l':List Nat): ∀(σ:St),(σ.frzs l).frzs l'=σ.frzs (l++l'):=by
 induction l with
 |nil=>intro σ;rfl
 |cons τ l ih=>intro σ;simp only[St.frzs,ZR];exact ih _
theorem zbb: ∀(parts:List (Nat×Operand)) (ps:List (Nat×AX)) {σ:St} (_:Inv w0 Z0 κ σ a.tmps w) {Kp:St->List (Nat×List C)->Prop},
  (parts.mapM fun(p:Nat×Operand)=>(ax p.2).map fun x=>(p.1,x))=some ps->rR σ ps Kp->
  ∃l rs,Kp (σ.frzs l) rs/\Inv w0 Z0 κ (σ.frzs l) a.tmps w/\rs.length=parts.length/\
   ∀(j:Nat) p r,parts[j]?=some p->rs[j]?=some r->r.1=p.1/\yD w (Zof w0 Z0 κ (σ.frzs l).o w) r.2 (a.eval p.2).cells.toList
 |[],ps,σ,hi,Kp,hps,h=>by
  simp at hps;subst hps;exact⟨[],[],h,hi,rfl,by simp⟩
 |(i,x)::parts,ps,σ,hi,Kp,hps,h=>by
  simp only[Yw,Zf,Zb,Zj,Ze,Zc] at hps;obtain⟨p,⟨x',hx',rfl⟩,ps',hps',rfl⟩:=hps;simp only[rR] at h;obtain⟨l,r,h,hi1,hr⟩:=za9 hi hx' h;obtain⟨l',rs,h,hi2,hl,hrs⟩:=zbb parts ps' hi1 hps' h;rw[zba] at h hi2 hrs;refine⟨l++l',(i,r)::rs,h,hi2,by simp[hl],fun j p q hp hq=>?_⟩;cases j with
  |zero=>
   simp at hp hq;subst hp;subst hq;refine⟨rfl,hr.mono (fun _ _=>rfl) (fun b hb=>?_)⟩;have:=Zof_frzs l' b hb
   rwa [zba] at this
  |succ j=>exact hrs j p q (by simpa using hp) (by simpa using hq)
def qT (w:World) (Z:Bk->Prop) (n len:Nat) (rows:List (List C)) (cells:Array Value):Prop:=
 rows.length<=len/\cells.size=len*n/\(∀r,r∈rows->r.length=n)/\ ∀(i j:Nat) r c,rows[i]?=some r->r[j]?=some c-> ∃v,cells[i*n+j]?=some v/\PRep w Z c v
theorem qT.set {Z:Bk->Prop} {n len:Nat} {rows:List (List C)} {cells:Array Value} (h:qT w Z n len rows cells) {i off:Nat} {r uN:List C} {vs:List Value} (hr:yD w Z r vs) (hi:rows[i]?=some uN) (hoff:off+r.length<=n)
  {cells':Array Value} (hc:cells'.toList=cells.toList.take (i*n+off)++vs++cells.toList.drop (i*n+off+vs.length)):qT w Z n len (rows.set i (splice uN off r)) cells':=by
 obtain⟨h1,h2,h3,h4⟩:=h;have hilt:i<rows.length:=(Zr.1 hi).1;have hrl:uN.length=n:=h3 uN (ZI hi);have hvl:=hr.1;have hbd:i*n+n<=len*n:=by
  have:(i+1)*n<=len*n:=ZT _ (by omega);rw[Yp] at this;omega
 have hsize:cells'.size=cells.size:=by
  have:=congrArg List.length hc;simp at this;omega
 refine⟨by simp;exact h1,by rw[hsize,h2],fun q hq=>?_,fun i' j q c hq hc'=>?_⟩
 ·rcases List.mem_or_eq_of_mem_set hq with hq|rfl
  ·exact h3 q hq
  ·simp[splice];omega
 ·have hget: ∀k:Nat,cells'[k]?=(cells.toList.take (i*n+off)++vs++cells.toList.drop (i*n+off+vs.length))[k]?:=by
   intro k;rw[<-hc];simp
  have hold: ∀k:Nat,k<i*n+off\/i*n+off+vs.length<=k->cells'[k]?=cells[k]?:=by
   intro k hk;rw[hget];rcases hk with hk|hk
   ·rw[Z9,ZC (by simp;omega),Z2,if_pos hk];simp
   ·rw[ZD (by simp;omega),Yz]
    simp only[Zu,Yt,YC,Yr];congr 1;omega
  have hnew: ∀k:Nat,i*n+off<=k->k<i*n+off+vs.length->cells'[k]?=vs[k-(i*n+off)]?:=by
   intro k hk1 hk2;rw[hget,Z9,ZD (by simp;omega),ZC (by simp;omega)];simp only[Yt,YC];congr 1;omega
  rw[List.getElem?_set] at hq;split at hq
  ·rename_i hii;subst hii
   simp only[Ze] at hq;subst hq;by_cases c1:j<off
   ·rw[splice,Z9,ZC (by simp;omega),Z2,if_pos c1] at hc'
    obtain⟨v,hv,hp⟩:=h4 i j uN c hi hc';exact⟨v,by rw[hold _ (by omega)];exact hv,hp⟩
   ·have e1:(uN.take off).length=off:=by simp;omega
    simp only[splice,Z9] at hc';rw[ZD (by omega),e1] at hc';by_cases c2:j-off<r.length
    ·rw[ZC c2] at hc'
     have hlt:j-off<vs.length:=by omega
     refine⟨vs[j-off],?_,hr.2 _ c _ hc' (Zh hlt)⟩;rw[hnew _ (by omega) (by omega),<-Zh hlt];congr 1;omega
    ·rw[ZD (by omega),Yz] at hc'
     have e2:off+r.length+(j-off-r.length)=j:=by omega
     rw[e2] at hc';obtain⟨v,hv,hp⟩:=h4 i j uN c hi hc';exact⟨v,by rw[hold _ (by omega)];exact hv,hp⟩
  ·rename_i hii
   obtain⟨v,hv,hp⟩:=h4 i' j q c hq hc';refine⟨v,?_,hp⟩;rw[hold _ ?_]
   ·exact hv
   ·have hj:j<n:=by rw[<-h3 q (ZI hq)];exact(Zr.1 hc').1
    rcases Nat.lt_or_gt_of_ne hii with h|h
    ·right
     have:(i+1)*n<=i'*n:=ZT _ h;rw[Yp] at this;omega
    ·left
     have:(i'+1)*n<=i*n:=ZT _ h;rw[Yp] at this;omega
end
section
variable {P : Program} {w0 : Base} {w : World} {Z0 : Bk -> Prop} {κ : Kap} {σ : St} {a : Act}
theorem dE {Z:Bk->Prop} {n len:Nat}: ∀(parts:List (Nat×Value)) (rs:List (Nat×List C)) (rows:List (List C)) (cells:Array Value),qT w Z n len rows cells->rows.length=len->rs.length=parts.length->
  (∀(j:Nat) p r,parts[j]?=some p->rs[j]?=some r->r.1=p.1/\yD w Z r.2 p.2.cells.toList)->(∀r,r∈rs->r.1<len/\r.2.length=n)->
  ∃cells',Instr.fill (fun i=>some (i*n,n)) cells parts=some cells'/\qT w Z n len (rs.foldl (fun rows p=>rows.set p.1 p.2) rows) cells'
 |[],rs,rows,cells,h,_,hl,_,_=>by
  have:rs=[]:=Yb hl;subst this;exact⟨cells,rfl,h⟩
 |(i,v)::parts,rs,rows,cells,h,hrl0,hl,hp,hb=>by
  cases rs with
  |nil=>simp at hl
  |cons r rs=>
   obtain⟨e1,hr⟩:=hp 0 (i,v) r rfl rfl;obtain⟨b1,b2⟩:=hb r Yh;obtain⟨i',row⟩:=r;simp only at e1 b1 b2 hr;subst e1;have hvl:v.cells.size=n:=by have:=hr.1;simp at this;omega
   have hilt:i'<rows.length:=by have:=h.1;omega
   have hsz:i'*n+n<=cells.size:=by
    rw[h.2.1];have:(i'+1)*n<=len*n:=ZT _ (by omega);rw[Yp] at this;omega
   have hrl:(rows[i']'hilt).length=n:=h.2.2.1 _ (Zy hilt);have hset:=h.set (i:=i') (off:=0) (r:=row) (uN:=rows[i']) (vs:=v.cells.toList) hr (Zh hilt) (by omega)
    (cells':=v.cells.zipIdx.foldl (fun cs (p:Value×Nat)=>cs.setIfInBounds (i'*n+p.2) p.1) cells) (by
     rw[<-Array.foldl_toList,Array.toList_zipIdx]
     have:=zaZ v.cells.toList 0 (i'*n) cells (by simp;omega)
     simpa using this)
   have hsp:splice (rows[i']'hilt) 0 row=row:=by
    simp[splice,b2,hrl]
   rw[hsp] at hset;obtain⟨cells',hf,hA⟩:=dE parts rs _ _ hset (by simpa using hrl0) (by simpa using hl) (fun j p r h1 h2=>hp (j+1) p r (by simpa using h1) (by simpa using h2)) (fun r hr=>hb r (Zz _ hr));refine⟨cells',?_,hA⟩;simp only[Instr.fill];have n1: ¬(decide (v.cells.size≠n)||decide (i'*n+v.cells.size>cells.size))=true:=by
    simp;omega
   rw[if_neg (by simpa using n1)];exact hf
theorem zbc (rs:List (Nat×List C)): ∀(rows:List (List C)),(rs.foldl (fun rows p=>rows.set p.1 p.2) rows).length=rows.length:=by
 induction rs with
 |nil=>intro rows;rfl
 |cons r rs ih=>intro rows;simp only[YF];rw[ih];simp
theorem zku (hi:Inv w0 Z0 κ σ a.tmps w) {t e d n len:Nat} (hd:d<a.tmps.size) (ht:P.underlying t=some (.slice e)) (hn:yJ P e=some n) (h0:0<n) (hle:len*n<=2 ^ 24) {zero:List C} (hz:sG P e=some zero)
  {parts:Array (Nat×Operand)} {ps:List (Nat×AX)} (hps:(parts.toList.mapM fun(p:Nat×Operand)=>(ax p.2).map fun x=>(p.1,x))=some ps) {Kp:St->Prop} (h:zY P σ (.bslice d e n zero len ps) Kp):
  sJ P w0 Z0 a w Kp (some d) (do pure (.value (<-Instr.buildSlice t len (parts.map fun(i,x)=>(i,a.eval x))))):=by
 simp only[zY] at h;obtain⟨l,rs,⟨hf,hzl,hb,hk⟩,hi',hlen,hrs⟩:=zbb parts.toList ps hi hps h;obtain⟨i,z,hinfo,hzero,hzrow⟩:=mV hz;have hni:i.size=n:=by simpa [yJ,hinfo] using hn
 have hzs:z.cells.size=n:=by have:=(hzrow w (fun _=>True)).1;simp at this;omega
 have hA0:qT w (Zof w0 Z0 κ (σ.frzs l).o w) n len (List.replicate len zero) (madeCells z.cells (len*n)):=by
  refine⟨by simp,size_madeCells _ _,by intro r hr;simp at hr;rw[hr.2];exact hzl,fun i j r c hr hc=>?_⟩;rw[List.getElem?_replicate] at hr;split at hr
  ·rename_i hi'
   cases hr;have hj:j<n:=by rw[<-hzl];exact(Zr.1 hc).1
   rw[dD z.cells len i j n hzs h0 hi' hj];have hlt:j<z.cells.size:=by omega
   exact⟨z.cells[j],Z8 hlt,(hzrow w _).2 j c _ hc (by simp[hlt])⟩
  ·simp at hr
 obtain⟨cells',hfill,hA⟩:=dE (parts.toList.map fun p=>(p.1,a.eval p.2)) rs _ _ hA0 (by simp) (by simp[hlen]) (fun j p r h1 h2=>by
  simp only[Zv,Zc] at h1
  obtain⟨q,hq,rfl⟩:=h1
  exact hrs j q r hq h2) hb
 obtain⟨c1,c2,c3,c4⟩:=hA;have hI:=dC hi' hd (nl:=some false) (cap:=len) (e:=e) (cur:=cells') h0 c2 (by omega) (by have:len<=len*n:=Nat.le_mul_of_pos_right _ h0;simp only[maxLen];omega) (by simp) c3 c4 hf (sK w _) (alloc_get w _);have c0:(rs.foldl (fun rows p=>rows.set p.1 p.2) (List.replicate len zero)).length=len:=by rw[zbc];simp
 rw[c0] at hI;refine vT (u:=.slice (some ⟨w.heap.size,0,none⟩) len len) (w':=w.alloc (.cells cells' e)) ?_ hI hk;have n1: ¬(len*n>2 ^ 24):=by omega
 have hzv:(zeroValue e).run P w=.ok z w:=by simp[zeroValue,typeInfo,hinfo,hzero]
 by_cases hz0:len*n=0
 ·rw[hz0] at hfill
  have hr0:Array.range 0= #[]:=rfl;have hm:madeCells z.cells 0= #[]:=by simp[madeCells,hr0]
  rw[hm] at hfill;simp[Instr.buildSlice,run_underlying ht,vA hn,hz0,hr0,hfill,newRow]
 ·unfold madeCells at hfill
  simp[Instr.buildSlice,run_underlying ht,vA hn,hz0,n1,hzv,hfill,newRow]
theorem zkv {row r:List C} (h:r.length=row.length):splice row 0 r=r:=by simp[splice,h]
theorem zkw (hi:Inv w0 Z0 κ σ a.tmps w) {t n τ i off e sz:Nat} (hn:yJ P t=some n) {nl:Option Bool} {rows:List (List C)} {r:List C} {x y:Value} (ho:σ.o τ=some (.arr e sz nl rows)) (hx:zD w (Zof w0 Z0 κ σ.o w) κ σ.o (.k (.elem τ i off)) x)
  (hy:yD w (Zof w0 Z0 κ σ.o w) r y.cells.toList) (hl:r.length=n) (hb:off+n<=sz):
  ∃w',(Instr.storeAt t x y).run P w=.ok () w'/\Inv w0 Z0 κ (σ.setO τ (.arr e sz nl (rows.set i (if off=0/\n=sz then r else splice (rows.getD i []) off r)))) a.tmps w':=by
 obtain⟨b',hκ',hilt,hp⟩:=hx.2 e sz nl rows ho;rcases hi.objs τ _ ho with⟨hκ,hr,_⟩|⟨b,cur,cap,hκ,hheap,h0,hcs,hlen,hcap,hnl,hall,hrr⟩
 ·rw[hκ] at hκ';simp at hκ'
 obtain rfl:b=b':=by rw[hκ] at hκ';simpa using hκ'
 have hyl:y.cells.toList.length=n:=by rw[hy.1,hl]
 have hrl:(rows[i]'hilt).length=sz:=hall _ (Zy hilt);have hsz:i*sz+sz<=cur.size:=by
  rw[hcs];have:(i+1)*sz<=cap*sz:=ZT _ (by omega);rw[Yp] at this;omega
 have h1: ∀v∈y.cells.toList,v.oneCell'=true:=by
  intro v hv;obtain⟨j,hj⟩:=XD hv;have hlt:j<r.length:=by rw[<-hy.1];exact(Zr.1 hj).1
  exact(hy.2 j r[j] v (Zh hlt) hj).oneCell
 have hst:=run_storeCells_at P b (i*sz+off) e y.cells.toList 0 cur w hheap (by omega) h1;simp only[Yk] at hst;have hrow:(if off=0/\n=sz then r else splice (rows.getD i []) off r)=splice (rows[i]'hilt) off r:=by
  have:rows.getD i []=rows[i]'hilt:=by simp[Zi,hilt]
  rw[this];split
  ·rename_i h;rw[h.1,zkv (by omega)]
  ·rfl
 rw[hrow];refine⟨w.setRow b (cur.toList.take (i*sz+off)++y.cells.toList++cur.toList.drop (i*sz+off+y.cells.toList.length)).toArray,?_,?_⟩
 ·rw[hp]
  have hsz:y.cells.size=n:=by simpa using hyl
  simp only[Instr.storeAt,Instr.sureAddr,storeVar,Sem.run_bind,Sem.run_pure,Result.andThen_ok,vA hn,hsz,ne_eq,not_true_eq_false,if_false];exact hst
 ·have hW:Wrote w (w.setRow b (cur.toList.take (i*sz+off)++y.cells.toList++cur.toList.drop (i*sz+off+y.cells.toList.length)).toArray) b cur (cur.toList.take (i*sz+off)++y.cells.toList++cur.toList.drop (i*sz+off+y.cells.toList.length)).toArray e:=
   ⟨rfl,rfl,rfl,by simp,hheap,setRow_heap w b cur _ e (0,0) hheap,by simp at hyl⊢;omega,fun k hk=>setRow_other w b k _ hk⟩
  have hlike:yC (some (.arr e sz nl rows)) (some (.arr e sz nl (rows.set i (splice (rows[i]'hilt) off r)))):=by
   exact⟨rfl,rfl,by simp⟩
  obtain⟨hsub,hsame,htab⟩:=dB (ob':=.arr e sz nl (rows.set i (splice (rows[i]'hilt) off r))) hi ho hlike hκ hW;refine hi.setG ho hlike hκ hW (.inr ⟨b,_,cap,hκ,setRow_heap w b cur _ e (0,0) hheap,h0,?_,by simp;omega,hcap,hnl,?_⟩)
  ·have:=hW.len;rw[this];exact hcs
  ·have hA:qT w (Zof w0 Z0 κ σ.o w) sz cap rows cur:=⟨hlen,hcs,hall,hrr⟩
   have hA':=hA.set (i:=i) (off:=off) (r:=r) (uN:=rows[i]'hilt) (vs:=y.cells.toList) hy (Zh hilt) (by omega)
    (cells':=(cur.toList.take (i*sz+off)++y.cells.toList++cur.toList.drop (i*sz+off+y.cells.toList.length)).toArray) rfl
   refine⟨hA'.2.2.1,fun i' j q c h1 h2=>?_⟩;obtain⟨v,hv,hp⟩:=hA'.2.2.2 i' j q c h1 h2;exact⟨v,hv,hp.mono hsame hsub⟩
end
section
variable {P : Program} {w0 : Base} {w : World} {Z0 : Bk -> Prop} {κ : Kap} {σ : St} {a : Act}
def xJ (w:World) (Z:Bk->Prop) (sz:Nat) (rows:List (List C)) (f:Nat->Option Value):Prop:=
 (∀r,r∈rows->r.length=sz)/\ ∀(i j:Nat) r c,rows[i]?=some r->r[j]?=some c-> ∃v,f (i*sz+j)=some v/\PRep w Z c v
theorem xJ.nil (w:World) (Z:Bk->Prop) (sz:Nat) (f:Nat->Option Value):xJ w Z sz [] f:=⟨by simp,by simp⟩
theorem xJ.at {Z:Bk->Prop} {sz:Nat} {rows:List (List C)} {f:Nat->Option Value} (h:xJ w Z sz rows f) (h0:0<sz) (k:Nat) (hk:k<rows.length*sz): ∃v c,f k=some v/\PRep w Z c v:=by
 have h1:k/sz<rows.length:=Nat.div_lt_of_lt_mul (by rwa [Nat.mul_comm]);have h2:k % sz<sz:=Xj _ h0;have h3:(rows[k/sz]'h1).length=sz:=h.1 _ (Zy h1);obtain⟨v,hv,hp⟩:=h.2 (k/sz) (k % sz) (rows[k/sz]'h1) ((rows[k/sz]'h1)[k % sz]'(by omega)) (Zh h1) (Zh _);have:k/sz*sz+k % sz=k:=by rw[Nat.mul_comm];exact Nat.div_add_mod k sz
 rw[this] at hv;exact⟨v,_,hv,hp⟩
theorem xJ.append {Z:Bk->Prop} {sz:Nat} {xs ys:List (List C)} {f g h:Nat->Option Value} (hf:xJ w Z sz xs f) (hg:xJ w Z sz ys g)
  (h1: ∀k,k<xs.length*sz->h k=f k) (h2: ∀k,k<ys.length*sz->h (xs.length*sz+k)=g k):xJ w Z sz (xs++ys) h:=by
 have bd: ∀(l:List (List C)) (i j:Nat) r c,(∀r,r∈l->r.length=sz)->l[i]?=some r->r[j]?=some c->i*sz+j<l.length*sz:=by
  intro l i j r c hl hr hc;have hj:j<sz:=by rw[<-hl r (ZI hr)];exact(Zr.1 hc).1
  have hi:i<l.length:=(Zr.1 hr).1;have:(i+1)*sz<=l.length*sz:=ZT _ hi;rw[Yp] at this;omega
 refine⟨fun r hr=>?_,fun i j r c hr hc=>?_⟩
 ·rcases YI.1 hr with hr|hr
  ·exact hf.1 r hr
  ·exact hg.1 r hr
 ·by_cases hi:i<xs.length
  ·rw[ZC hi] at hr
   rw[h1 _ (bd xs i j r c hf.1 hr hc)];exact hf.2 i j r c hr hc
  ·rw[ZD (by omega)] at hr
   have e:i*sz+j=xs.length*sz+((i-xs.length)*sz+j):=by
    have:i*sz=xs.length*sz+(i-xs.length)*sz:=by rw[<-Yp];congr 1;omega
    omega
   rw[e,h2 _ (bd ys _ j r c hg.1 hr hc)];exact hg.2 _ j r c hr hc
theorem xJ.mono {w':World} {Z Z':Bk->Prop} {sz:Nat} {rows:List (List C)} {f:Nat->Option Value} (h:xJ w Z sz rows f) (hs:yV Z w w') (hz: ∀b,Z b->Z' b):xJ w' Z' sz rows f:=
 ⟨h.1,fun i j r c hr hc=>let ⟨v,hv,hp⟩:=h.2 i j r c hr hc;⟨v,hv,hp.mono hs hz⟩⟩
theorem zkx {Z:Bk->Prop} {sz:Nat} {rows:List (List C)} {f:Nat->Option Value} (h:xJ w Z sz rows f) (h0:0<sz):
  ∃news:List Value,news.length=rows.length*sz/\(∀k v,news[k]?=some v->f k=some v/\v.oneCell'=true)/\xJ w Z sz rows (fun k=>news[k]?):=by
 refine⟨(List.range (rows.length*sz)).map fun k=>(f k).getD undef,by simp,fun k v hk=>?_,h.1,fun i j r c hr hc=>?_⟩
 ·simp only[Zv,Zc] at hk
  obtain⟨k',hk',rfl⟩:=hk;have hlt:k<rows.length*sz:=by have:=(Zr.1 hk').1;simpa using this
  rw[List.getElem?_range hlt] at hk';cases hk';obtain⟨v,c,hv,hp⟩:=h.at h0 k hlt;simp[hv,hp.oneCell]
 ·obtain⟨v,hv,hp⟩:=h.2 i j r c hr hc
  refine⟨v,?_,hp⟩;have hj:j<sz:=by rw[<-h.1 r (ZI hr)];exact(Zr.1 hc).1
  have hi:i<rows.length:=(Zr.1 hr).1;have hlt:i*sz+j<rows.length*sz:=by
   have:(i+1)*sz<=rows.length*sz:=ZT _ hi;rw[Yp] at this;omega
  simp[List.getElem?_range hlt,hv]
theorem zky (hi:Inv w0 Z0 κ σ a.tmps w) {t e:TypeId} (ht:P.underlying t=some (.slice e)) {sz:Nat} (h0:0<sz) {y:Operand} {y':AX} (hy:ax y=some y') {Kp:List (List C)->Prop} (h:zY.srcP σ e sz y' Kp):
  ∃ys news,Kp ys/\Src P sz t (a.eval y) ys.length news w/\xJ w (Zof w0 Z0 κ σ.o w) sz ys (fun k=>news[k]?):=by
 simp only[zY.srcP] at h;obtain⟨h,hv⟩:=yF hi hy h;generalize (y'.ev σ).strip.1=v at h hv;have mk: ∀(ys:List (List C)) b q cap,xJ w (Zof w0 Z0 κ σ.o w) sz ys (fun k=>w.cell? ⟨b,q+k,none⟩)->a.eval y=.slice (some ⟨b,q,none⟩) ys.length cap->
   ∃news,Src P sz t (a.eval y) ys.length news w/\xJ w (Zof w0 Z0 κ σ.o w) sz ys (fun k=>news[k]?):=by
  intro ys b q cap hc hv;obtain⟨news,hl,hn,hr⟩:=zkx hc h0;refine⟨news,?_,hr⟩;rw[hv];refine Src.ofSlice w ht _ _ cap news hl (fun j u hu=>?_) (fun u hu=>?_)
  ·rw[sH];exact(hn j u hu).1
  ·obtain⟨j,hj⟩:=XD hu
   exact(hn j u hj).2
 split at h
 ·rename_i sz' nl rows
  obtain⟨h1,h2⟩:=h;rcases oC (hv rfl).2 with⟨rfl,hp,_⟩|⟨b,q,cap,hp,_,_,_,hl⟩|⟨rfl,a0,hp,_⟩
  ·exact⟨[],[],h2,by rw[hp];exact Src.ofNil w ht 0,xJ.nil _ _ _ _⟩
  ·have hc:xJ w (Zof w0 Z0 κ σ.o w) sz rows (fun k=>w.cell? ⟨b,q+k,none⟩):=by
    rcases h1 with rfl|rfl
    ·exact⟨hl.2.1,hl.2.2⟩
    ·exact xJ.nil _ _ _ _
   obtain⟨news,hs,hr⟩:=mk rows b q cap hc hp;exact⟨rows,news,h2,hs,hr⟩
  ·exact⟨[],[],h2,by rw[hp];exact Src.ofSlice w ht _ _ 0 [] (by simp) (fun j u hu=>by simp at hu) (fun u hu=>by simp at hu),xJ.nil _ _ _ _⟩
 ·rename_i τ
  split at h
  ·rename_i e' sz' nl rows ho
   obtain⟨rfl,h2⟩:=h;rcases hi.objs τ _ ho with⟨hκ,hr,hnl⟩|⟨b,cur,cap,hκ,hheap,_,hcs,hlen,hcap,hnl,hall,hrr⟩
   ·subst hr
    rcases(hv rfl).2 _ _ _ _ ho with⟨_,hp⟩|⟨b,_,_,hκ',_⟩
    ·exact⟨[],[],h2,by rw[hp];exact Src.ofNil w ht 0,xJ.nil _ _ _ _⟩
    ·rw[hκ] at hκ';simp at hκ'
   ·rcases(hv rfl).2 _ _ _ _ ho with⟨hκ',_⟩|⟨b',cur',cap',hκ',hheap',hcs',hp⟩
    ·rw[hκ] at hκ';simp at hκ'
    ·obtain rfl:b=b':=by rw[hκ] at hκ';simpa using hκ'
     obtain⟨news,hs,hr⟩:=mk rows b 0 cap' ⟨hall,fun i j r c h1 h2=>by
      obtain⟨v,hv,hp⟩:=hrr i j r c h1 h2
      refine⟨v,?_,hp⟩
      show w.cell? ⟨b,0+(i*_+j),none⟩=some v
      rw[ZU,cell_of_row w b _ cur e' (0,0) hheap]
      exact hv⟩ hp
     exact⟨rows,news,h2,hs,hr⟩
  ·exact h.elim
 ·exact h.elim
theorem run_append_room_row (t tx ty e:TypeId) (i:TypeInfo) (ht:P.underlying t=some (.slice e)) (hi:P.info? e=some i) (b sLen sCap:Nat) (cur:Array Value) (hh:w.heap[b]?=some (.cells cur e (0,0))) (x:Value) (n:Nat) (news:List Value) (hs:Src P i.size tx x n news w)
  (hroom:sLen+n<=sCap) (hc:cur.size=sCap*i.size):
  (Builtin.append_ #[t,tx] ty #[.slice (some ⟨b,0,none⟩) sLen sCap,x]).run P w=.ok (.slice (some ⟨b,0,none⟩) (sLen+n) sCap) (w.setRow b (cur.toList.take (sLen*i.size)++news++cur.toList.drop (sLen*i.size+news.length)).toArray):=by
 have hle:sLen*i.size+news.length<=cur.size:=by
  rw[hc,hs.newsLen,<-Yp];exact ZT _ hroom
 have hst:=run_storeCells_at P b (sLen*i.size) e news 0 cur w hh (by omega) hs.one;simp only[Yk] at hst;rcases hs.kind with⟨e',hk⟩|hk<;>simp[Builtin.append_,run_underlying ht,run_underlying hk,sizeOf,typeInfo,hi,hs.len,hroom,hs.cells,Addr.add_lit,hst]
theorem jR {nl:Option Bool} {ys:List (List C)} (h:nl≠some true\/ys≠[]):nlApp nl ys≠some true:=by
 cases ys<;>simp_all [nlApp]
theorem zkz (hi:Inv w0 Z0 κ σ a.tmps w) {t ty e d:Nat} (hd:d<a.tmps.size) (ht:P.underlying t=some (.slice e)) {i:TypeInfo} (hinfo:P.info? e=some i) {z:Value} (hz:i.zero=some z) (h0:0<i.size) (hzs:z.cells.size=i.size)
  {x y:Operand} {x' y':AX} (hx:ax x=some x') (hy:ax y=some y') {Kp:St->Prop} (h:zY P σ (.append d e i.size i.bytes x' y') Kp):
  sJ P w0 Z0 a w Kp (some d) (do pure (.value (<-Builtin.append_ #[t,t] ty #[a.eval x,a.eval y]))):=by
 simp only[zY] at h;obtain⟨h,hv⟩:=yF hi hx h;obtain⟨ys,news,h,hs,hcr⟩:=zky hi ht h0 hy h;generalize (x'.ev σ).strip.1=v at h hv;have hnl:=hs.newsLen;have grow: ∀(base:Option Addr) (sLen sCap:Nat) (olds:List Value) (xs:List (List C)),a.eval x=.slice base sLen sCap->(Builtin.firstCells i.size sLen (.slice base sLen sCap)).run P w.drew=.ok olds.toArray w.drew->sCap<sLen+ys.length->sLen<=sCap->
   sLen+ys.length<=9223372036854775807->(sLen+ys.length)*i.bytes<=140737488355328->xs.length=sLen->olds.length=sLen*i.size->xJ w (Zof w0 Z0 κ σ.o w) i.size xs (fun k=>olds[k]?)->
   ∃cur cap,(Builtin.append_ #[t,t] ty #[a.eval x,a.eval y]).run P w=.ok (.slice (some ⟨w.heap.size,0,none⟩) (xs++ys).length cap) (w.drew.alloc (.cells cur e))/\cur.size=cap*i.size/\(xs++ys).length<=cap/\cap<=maxLen/\
    xJ w (Zof w0 Z0 κ σ.o w) i.size (xs++ys) (fun k=>cur[k]?):=by
  intro base sLen sCap olds xs hv hold hg hle h63 hb hxl hol hcx;have hfit:Builtin.nextslicecap (sLen+ys.length) sCap*i.bytes<=281474976710656:=growslice_fits hg hb;have hrun:=run_append_grow_src (P:=P) w t t ty e i z ht hinfo hz base sLen sCap olds hold (a.eval y) ys.length news hs hg (by omega) hfit;have hge:=grownCap_ge w (sLen+ys.length) sCap e;have hlm:=grownCap_le_maxLen w (sLen+ys.length) sCap e (by simp only[maxLen];omega);generalize grownCap w (sLen+ys.length) sCap e=cap at hrun hge hlm;refine⟨(olds++news).toArray++Builtin.zeroCells z.cells (cap-(sLen+ys.length)),cap,?_,?_,by simp;omega,hlm,?_⟩
  ·rw[hv,hrun];simp[hxl]
  ·simp only[Yv,Array.size_append,Zu,Builtin.zeroCells,Array.size_map,Array.size_range,hol,hnl,hzs]
   rw[<-Yp,<-Yp];congr 1;omega
  ·refine hcx.append hcr (fun k hk=>?_) (fun k hk=>?_)
   ·rw[hxl] at hk
    rw[YQ (by simp;omega)];simp only[Y1];rw[ZC (by omega)]
   ·rw[YQ (by simp;rw[hxl];omega)]
    simp only[Y1];rw[ZD (by rw[hxl];omega)];congr 1;rw[hxl];omega
 split at h
 ·rename_i τ
  split at h
  ·rename_i e' sz' nl xs ho
   obtain⟨rfl,rfl,b1,b2,hk⟩:=h;rcases hi.objs τ _ ho with⟨hκ,hr,hnl'⟩|⟨b,cur,cap,hκ,hheap,_,hcs,hlen,hcap,hnl',hall,hrr⟩
   ·subst hr
    rcases(hv rfl).2 _ _ _ _ ho with⟨_,hp⟩|⟨b,_,_,hκ',_⟩
    ·by_cases hys:ys=[]
     ·subst hys
      have hnn:news=[]:=Yb (by simpa using hnl);subst hnn;refine vT (u:=.slice none 0 0) (w':=w) ?_ (hi.moveG (ob:=.arr e' i.size (nlApp nl []) ([]++[])) (v:=.k (.own τ)) (bo:=none) ho hd rfl rfl rfl (Zs _) (fun _ _ _=>rfl) (by simp) (fun Z hZ=> .inl ⟨by simp,rfl,by simpa [nlApp] using hnl'⟩) ⟨rfl,fun e2 sz2 nl2 rows2 h2=> .inl ⟨by simp,rfl⟩⟩) hk;rw[hp];exact run_append_nothing w t t ty e' i ht hinfo none 0 0 (Zs _) (a.eval y) hs
     ·obtain⟨cur,cap,hrun,c1,c2,c3,c4⟩:=grow none 0 0 [] [] hp (run_firstCells_none w.drew i.size 0 0 0) (by have:=Yd.2 hys;omega) (Zs _) (by simpa using b1) (by simpa using b2) rfl (by simp) (xJ.nil _ _ _ _)
      refine vT hrun (hi.moveG (ob:=.arr e' i.size (nlApp nl ys) ([]++ys)) (v:=.k (.own τ)) (bo:=some w.heap.size) ho hd rfl rfl rfl (by simp) (fun k hk _=>(sK w.drew _).block k hk) (by intro b hb;cases hb;exact .inl ⟨Zs _,by simp⟩) (fun Z hZ=>?_) ⟨rfl,fun e2 sz2 nl2 rows2 h2=>?_⟩) hk
      ·refine .inr ⟨w.heap.size,cur,cap,by simp,alloc_get w.drew _,h0,c1,c2,c3,jR (.inr hys),c4.1,(c4.mono ((sK w.drew _).same _ (fun b hb=>hb.2.1)) hZ).2⟩
      ·have:(((σ.scrub τ).setO τ (.arr e' i.size (nlApp nl ys) ([]++ys))).put d (.k (.own τ))).o τ=some (.arr e' i.size (nlApp nl ys) ([]++ys)):=by simp[St.put,St.setO]
       rw[this] at h2;cases h2;exact .inr ⟨w.heap.size,cur,cap,by simp,alloc_get w.drew _,c1,rfl⟩
    ·rw[hκ] at hκ';simp at hκ'
   ·rcases(hv rfl).2 _ _ _ _ ho with⟨hκ',_⟩|⟨b',cur',cap',hκ',hheap',hcs',hp⟩
    ·rw[hκ] at hκ';simp at hκ'
    obtain rfl:b=b':=by rw[hκ] at hκ';simpa using hκ'
    rw[hheap] at hheap';cases hheap';obtain rfl:cap=cap':=by rw[hcs] at hcs';exact Nat.eq_of_mul_eq_mul_right h0 hcs'
    have hxs:xJ w (Zof w0 Z0 κ σ.o w) i.size xs (fun k=>cur[k]?):=⟨hall,hrr⟩;have hle:xs.length*i.size<=cur.size:=by rw[hcs];exact ZT _ hlen
    have hst:(((σ.scrub τ).setO τ (.arr e' i.size (nlApp nl ys) (xs++ys))).put d (.k (.own τ))).o τ=some (.arr e' i.size (nlApp nl ys) (xs++ys)):=by simp[St.put,St.setO]
    by_cases hroom:xs.length+ys.length<=cap
    ·have hrun:=run_append_room_row (P:=P) t t ty e' i ht hinfo b xs.length cap cur hheap (a.eval y) ys.length news hs hroom hcs
     have hb:xs.length*i.size+news.length<=cur.size:=by
      rw[hcs,hnl,<-Yp];exact ZT _ hroom
     have hz1:(cur.toList.take (xs.length*i.size)++news++cur.toList.drop (xs.length*i.size+news.length)).toArray.size=cur.size:=by simp;omega
     have hA:xJ w (Zof w0 Z0 κ σ.o w) i.size (xs++ys) (fun k=>(cur.toList.take (xs.length*i.size)++news++cur.toList.drop (xs.length*i.size+news.length)).toArray[k]?):=by
      refine hxs.append hcr (fun k hk=>?_) (fun k hk=>?_)
      ·simp only[Y1]
       rw[Z9,ZC (by simp;omega),Z2,if_pos hk];simp
      ·simp only[Y1]
       rw[Z9,ZD (by simp;omega),ZC (by simp;omega)];simp only[Yt,YC];congr 1;omega
     generalize (cur.toList.take (xs.length*i.size)++news++cur.toList.drop (xs.length*i.size+news.length)).toArray=cur2 at hrun hz1 hA;have hsame:yV (Zof w0 Z0 κ σ.o w) w (w.setRow b cur2):=fun k hk'=>setRow_other w b k.2 _ (by intro hkb;exact hk'.2.2 τ (by simp[ho]) (by rw[hkb];exact hκ))
     have hlen2:(xs++ys).length=xs.length+ys.length:=by simp
     refine vT (u:=.slice (some ⟨b,0,none⟩) (xs++ys).length cap) (w':=w.setRow b cur2) ?_ (hi.moveG (ob:=.arr e' i.size (nlApp nl ys) (xs++ys)) (v:=.k (.own τ)) (bo:=some b) ho hd rfl rfl rfl (by simp) (fun k hk' hk2=>setRow_other w b k _ (by rintro rfl;exact hk2 hκ)) (by intro b' hb';cases hb';exact .inr hκ) (fun Z hZ=>?_) ⟨rfl,fun e2 sz2 nl2 rows2 h2=>?_⟩) hk
     ·rw[hp,hlen2];exact hrun
     ·exact .inr ⟨b,cur2,cap,by simp,setRow_heap w b cur _ e' (0,0) hheap,h0,hz1.trans hcs,by omega,hcap,jR (.inl hnl'),hA.1,(hA.mono hsame hZ).2⟩
     ·rw[hst] at h2;cases h2
      exact .inr ⟨b,cur2,cap,by simp,setRow_heap w b cur _ e' (0,0) hheap,hz1.trans hcs,rfl⟩
    ·have hcell: ∀(j:Nat) u,(cur.toList.take (xs.length*i.size))[j]?=some u->w.cell? ((⟨b,0,none⟩:Addr).add j)=some u:=by
      intro j u hu;rw[sH,ZU,cell_of_row w b j cur e' (0,0) hheap];rw[Z2] at hu;split at hu
      ·simpa using hu
      ·simp at hu
     obtain⟨cur2,cap2,hrun,c1,c2,c3,c4⟩:=grow (some ⟨b,0,none⟩) xs.length cap (cur.toList.take (xs.length*i.size)) xs hp
      (run_firstCells_some w.drew i.size xs.length ⟨b,0,none⟩ xs.length cap _ (by simp;omega) (by simpa using hcell)) (by omega) hlen b1 b2 rfl (by simp;omega)
      ⟨hall,fun i' j r c hr hc=>by
       obtain⟨v,hv,hp⟩:=hrr i' j r c hr hc
       refine⟨v,?_,hp⟩
       have hj:j<i.size:=by rw[<-hall r (ZI hr)];exact(Zr.1 hc).1
       have hi':i'<xs.length:=(Zr.1 hr).1
       have:(i'+1)*i.size<=xs.length*i.size:=ZT _ hi'
       rw[Yp] at this
       show(cur.toList.take (xs.length*i.size))[i'*i.size+j]?=some v
       rw[Z2,if_pos (by omega)]
       simpa using hv⟩
     have hys:ys≠[]:=by rintro rfl;simp at hroom;omega
     refine vT hrun (hi.moveG (ob:=.arr e' i.size (nlApp nl ys) (xs++ys)) (v:=.k (.own τ)) (bo:=some w.heap.size) ho hd rfl rfl rfl (by simp) (fun k hk _=>(sK w.drew _).block k hk) (by intro b hb;cases hb;exact .inl ⟨Zs _,by simp⟩) (fun Z hZ=>?_) ⟨rfl,fun e2 sz2 nl2 rows2 h2=>?_⟩) hk
     ·refine .inr ⟨w.heap.size,cur2,cap2,by simp,alloc_get w.drew _,h0,c1,c2,c3,jR (.inr hys),c4.1,(c4.mono ((sK w.drew _).same _ (fun b hb=>hb.2.1)) hZ).2⟩
     ·rw[hst] at h2;cases h2
      exact .inr ⟨w.heap.size,cur2,cap2,by simp,alloc_get w.drew _,c1,rfl⟩
  ·exact h.elim
 ·obtain⟨hf,b1,b2,hk⟩:=h
  rcases oC (hv rfl).2 with⟨_,hp,_⟩|⟨b,q,cap,hp,_,_,hne,_⟩|⟨_,_,_,hne⟩
  ·by_cases hys:ys=[]
   ·subst hys
    have hnn:news=[]:=Yb (by simpa using hnl);subst hnn;refine vT (u:=.slice none 0 0) (w':=w) ?_ (hi.newG (ob:=.arr e i.size (some true) []) (v:=.k (.own d)) (xG.refl w) hd hf (bo:=none) (by simp) (fun Z hZ=> .inl ⟨by simp,rfl,by simp⟩) ⟨rfl,fun e' sz' nl rows ho=> .inl ⟨by simp,rfl⟩⟩) hk;rw[hp];exact run_append_nothing w t t ty e i ht hinfo none 0 0 (Zs _) (a.eval y) hs
   ·obtain⟨cur,cap,hrun,c1,c2,c3,c4⟩:=grow none 0 0 [] [] hp (run_firstCells_none w.drew i.size 0 0 0) (by have:=Yd.2 hys;omega) (Zs _) (by simpa using b1) (by simpa using b2) rfl (by simp) (xJ.nil _ _ _ _)
    have hI:=dC hi hd (d:=d) (rows:=ys) (nl:=nlApp (some true) ys) (cap:=cap) (e:=e) (cur:=cur) h0 c1 (by simpa using c2) c3 (jR (.inr hys)) (by simpa using c4.1) (by simpa using c4.2) hf (w':=w.drew.alloc (.cells cur e)) ⟨rfl,rfl,rfl,by simp,(sK w.drew _).block⟩ (alloc_get w.drew _);exact vT (by simpa using hrun) hI hk
  ·exact absurd rfl hne
  ·exact absurd rfl hne
 ·exact h.elim
end
section
variable {P : Program} {w0 : Base} {w w' : World} {Z0 : Bk -> Prop} {κ κr : Kap} {σ : St} {a : Act} {fr : Array Value}
theorem zbd: ∀(obs:List O) (n:Nat) (σ:St),(σ.adds n obs).t=σ.t
 |[],_,_=>rfl
 |ob::l,n,σ=>by
  show((σ.setO n ob).adds (n+1) l).t=σ.t;rw[zbd l (n+1)];rfl
theorem zkA (n:Nat) (ob:O) (l:List O) (τ:Nat):zS n (ob::l) τ=if τ=n then some ob else zS (n+1) l τ:=by
 unfold zS;by_cases h:τ=n
 ·subst h;simp
 ·simp only[h,if_false]
  by_cases h2:n<=τ
  ·rw[if_pos h2,if_pos (by omega)]
   have:τ-n=(τ-(n+1))+1:=by omega
   rw[this];rfl
  ·rw[if_neg h2,if_neg (by omega)]
theorem zkB (n:Nat) (l:List O):zS (n+1) l n=none:=by unfold zS;rw[if_neg (by omega)]
theorem zbe: ∀(obs:List O) (n:Nat) (σ:St) (τ:Nat),(σ.adds n obs).o τ=(zS n obs τ).or (σ.o τ)
 |[],n,σ,τ=>by simp[St.adds,zS]
 |ob::l,n,σ,τ=>by
  show((σ.setO n ob).adds (n+1) l).o τ=_;rw[zbe l (n+1),zkA];by_cases h:τ=n
  ·subst h;simp[zkB,St.setO]
  ·simp[h,St.setO]
theorem dF: ∀(k:Nat) {d n:Nat} (_:mO σ d n k) (m:Nat),n<=m->m<n+k->σ.Free m/\(m=d\/(σ.t m).noRef m=true)
 |0,d,n,_,m,h1,h2=>by omega
 |k+1,d,n,h,m,h1,h2=>by
  by_cases hm:m=n
  ·subst hm;exact h.1
  ·exact dF k h.2 m (by omega) (by omega)
theorem jS {n:Nat} {obs:List O} {τ:Nat} {ob:O} (h:zS n obs τ=some ob):n<=τ/\τ<n+obs.length/\ob∈obs:=by
 unfold zS at h;split at h
 ·have:=(Zr.1 h).1
  exact⟨by assumption,by omega,ZI h⟩
 ·simp at h
theorem Inv.merge (hi:Inv w0 Z0 κ σ fr w) {Z:Bk->Prop} {rv:V} {v:Value} {n:Nat} {obs:List O}
  (hr:Inv (base w) Z κr {t:=fun s=>if s=0 then rv else .any,o:=zS n obs} #[v] w') (hZ: ∀b,Z b->b.2<w.heap.size->Zof w0 Z0 κ σ.o w b) {d:Nat} (hd:d<fr.size)
  (hfree:mO σ d n obs.length) (hrefs: ∀τ,rv.noRef τ=false->(zS n obs τ).isSome=true) (hobs: ∀ob,ob∈obs-> ∀τ,ob.noRef τ=true):
  Inv w0 Z0 (fun τ=>if (zS n obs τ).isSome then κr τ else κ τ) ((σ.adds n obs).put d rv) (fr.setIfInBounds d v) w':=by
 have hk:=hr.kept;have ho: ∀τ,((σ.adds n obs).put d rv).o τ=(zS n obs τ).or (σ.o τ):=fun τ=>zbe obs n σ τ
 have htN:yO (fun τ=>(zS n obs τ).isSome=true) (zS n obs) ((σ.adds n obs).put d rv).o κr (fun τ=>if (zS n obs τ).isSome then κr τ else κ τ) w' w':=by
  intro τ hτ;refine⟨?_,by simp[hτ],fun _ b hb cur e f h=>⟨cur,h,rfl⟩⟩;rw[ho];obtain⟨ob,hob⟩:=Option.isSome_iff_exists.1 hτ;rw[hob];exact yC.refl _
 have htO:yO (fun τ=>zS n obs τ=none) σ.o ((σ.adds n obs).put d rv).o κ (fun τ=>if (zS n obs τ).isSome then κr τ else κ τ) w w':=by
  refine yO.of_eq (fun τ hτ=>⟨by rw[ho,hτ];rfl,by simp[hτ]⟩) hk
 have hsubO: ∀b,Zof w0 Z0 κ σ.o w b->Zof w0 Z0 (fun τ=>if (zS n obs τ).isSome then κr τ else κ τ) ((σ.adds n obs).put d rv).o w' b:=by
  rintro b ⟨h1,h2,h3⟩;refine⟨h1.imp id fun h=>⟨h.1,nG (hk.block b.2 h2) h.2⟩,ZL h2 hk.size,fun τ hτ=>?_⟩;cases hn:zS n obs τ with
  |none=>
   simp only[hn,YJ,Z3,if_false];exact h3 τ (by rw[ho,hn] at hτ;exact hτ)
  |some ob=>
   simp only[hn,Xe,if_true];intro hb;exact(hr.own τ b.2 (by simp[hn]) hb).1 h2
 have hsubN: ∀b,Zof (base w) Z κr (zS n obs) w' b->Zof w0 Z0 (fun τ=>if (zS n obs τ).isSome then κr τ else κ τ) ((σ.adds n obs).put d rv).o w' b:=by
  rintro b ⟨h1,h2,h3⟩;rcases h1 with⟨hz,hlt⟩|⟨hge,hsf⟩
  ·exact hsubO b (hZ b hz hlt)
  ·have hge':w.heap.size<=b.2:=Xh hge
   refine⟨.inr ⟨hi.kept.fresh hge',hsf⟩,h2,fun τ hτ=>?_⟩;cases hn:zS n obs τ with
   |none=>
    simp only[hn,YJ,Z3,if_false];intro hb;have:=(hi.own τ b.2 (by rw[ho,hn] at hτ;exact hτ) hb).2;omega
   |some ob=>
    simp only[hn,Xe,if_true];exact h3 τ (by simp[hn])
 have hsameO:yV (Zof w0 Z0 κ σ.o w) w w':=xG.same hk _ (fun b hb=>hb.2.1);have hnref: ∀τ ob,σ.o τ=some ob->zS n obs τ=none-> ∀m,(zS n obs m).isSome=true->ob.noRef m=true:=by
  intro τ ob h hn m hm;obtain⟨ob',hob'⟩:=Option.isSome_iff_exists.1 hm;obtain⟨m1,m2,_⟩:=jS hob';exact(dF _ hfree m m1 m2).1.2 τ ob h (by rintro rfl;rw[hn] at hob';simp at hob')
 refine⟨hi.kept.trans' hk,hi.glob,fun τ b hτ hb=>?_,fun τ τ' b hτ hτ' hb hb'=>?_,fun τ ob hob=>?_,fun s=>?_⟩
 ·rw[ho] at hτ
  cases hn:zS n obs τ with
  |none=>
   simp only[hn,YJ,Z3,if_false,Xy] at hb hτ;have:=hi.own τ b hτ hb;exact⟨this.1,ZL this.2 hk.size⟩
  |some ob=>
   simp only[hn,Xe,if_true] at hb;have:=hr.own τ b (by simp[hn]) hb;exact⟨hi.kept.fresh (Xh this.1),this.2⟩
 ·rw[ho] at hτ hτ'
  cases hn:zS n obs τ with
  |none=>
   cases hn':zS n obs τ' with
   |none=>
    simp only[hn,hn',YJ,Z3,if_false,Xy] at hb hb' hτ hτ';exact hi.inj τ τ' b hτ hτ' hb hb'
   |some ob'=>
    simp only[hn,hn',YJ,Xe,Z3,if_false,if_true,Xy] at hb hb' hτ;exact absurd (hi.own τ b hτ hb).2 (hr.own τ' b (by simp[hn']) hb').1
  |some ob=>
   cases hn':zS n obs τ' with
   |none=>
    simp only[hn,hn',YJ,Xe,Z3,if_false,if_true,Xy] at hb hb' hτ';exact absurd (hi.own τ' b hτ' hb').2 (hr.own τ b (by simp[hn]) hb).1
   |some ob'=>
    simp only[hn,hn',Xe,if_true] at hb hb';exact hr.inj τ τ' b (by simp[hn]) (by simp[hn']) hb hb'
 ·rw[ho] at hob
  cases hn:zS n obs τ with
  |none=>
   rw[hn] at hob;simp only[Xy] at hob;refine(hi.objs τ ob hob).mono hsameO hsubO htO (by simp[hn]) (fun b hb=>hk.block b (hi.own τ b (by simp[hob]) hb).2) (fun τ' hτ'=>?_);cases hn':zS n obs τ' with
   |none=>rfl
   |some ob'=>rw[hnref τ ob hob hn τ' (by simp[hn'])] at hτ';simp at hτ'
  |some ob'=>
   rw[hn] at hob;simp only[Option.some_or,Ze] at hob;subst hob;refine(hr.objs τ ob' hn).mono (fun _ _=>rfl) hsubN htN (by simp[hn]) (fun b hb=>rfl) (fun τ' hτ'=>?_);rw[hobs ob' (jS hn).2.2] at hτ';simp at hτ'
 ·by_cases h:s=d
  ·subst h
   have h0:=hr.tmps 0;have e1:((σ.adds n obs).put s rv).t s=rv:=by simp[St.put]
   have e2:(fr.setIfInBounds s v).getD s undef=v:=by simp[hd]
   rw[e1,e2];have e3:(#[v]:Array Value).getD 0 undef=v:=rfl;simp only[e3,if_true] at h0;exact h0.mono (fun _ _=>rfl) hsubN htN hrefs
  ·have e1:((σ.adds n obs).put d rv).t s=σ.t s:=by simp[St.put,h,zbd]
   have e2:(fr.setIfInBounds d v).getD s undef=fr.getD s undef:=by
    simp[ZP,Yi,Ne.symm h]
   rw[e1,e2];refine(hi.tmps s).mono hsameO hsubO htO (fun τ' hτ'=>?_);cases hn':zS n obs τ' with
   |none=>rfl
   |some ob'=>
    obtain⟨m1,m2,_⟩:=jS hn';obtain⟨f1,f2⟩:=dF _ hfree τ' m1 m2;by_cases hs:s=τ'
    ·subst hs
     rcases f2 with rfl|f2
     ·exact absurd rfl h
     ·rw[f2] at hτ';simp at hτ'
    ·rw[f1.1 s hs] at hτ';simp at hτ'
theorem Inv.later (hi:Inv w0 Z0 κ σ fr w) (hk:xG w w'):Inv w0 Z0 κ σ fr w':=by
 have hsub: ∀b,Zof w0 Z0 κ σ.o w b->Zof w0 Z0 κ σ.o w' b:=fun b ⟨h1,h2,h3⟩=>⟨h1.imp id fun h=>⟨h.1,nG (hk.block b.2 h2) h.2⟩,ZL h2 hk.size,h3⟩
 have hsame:yV (Zof w0 Z0 κ σ.o w) w w':=hk.same _ (fun b hb=>hb.2.1);have ht:yO (fun _=>True) σ.o σ.o κ κ w w':=yO.of_eq (σ:=σ) (σ':=σ) (fun _ _=>⟨rfl,rfl⟩) hk;refine⟨hi.kept.trans' hk,hi.glob,fun τ b h1 h2=>⟨(hi.own τ b h1 h2).1,ZL (hi.own τ b h1 h2).2 hk.size⟩,hi.inj,fun τ ob h=>?_,fun s=>?_⟩
 ·exact(hi.objs τ ob h).mono hsame hsub ht rfl (fun b hb=>hk.block b (hi.own τ b (by simp[h]) hb).2) (fun _ _=>trivial)
 ·exact(hi.tmps s).mono hsame hsub ht (fun _ _=>trivial)
mutual
theorem dG {w w':World} {Z Z':Bk->Prop} {κ κ':Kap} {o o':Nat->Option O}: ∀(r:V) {v:Value},r.scalar=true->zD w Z κ o r v->zD w' Z' κ' o' r v
 | .k (.c (.int _ _)),v,_,h=>by rw[vS h];exact uH _ _
 | .k (.c (.bool _)),v,_,h=>by rw[uR h];exact tD _
 | .k (.c (.str _)),v,_,h=>by rw[jI h];exact zaV _
 | .tup vs,v,hs,h=>by
   obtain⟨us,rfl,hl,h⟩:=h;exact⟨us,rfl,hl,scalarL_any vs hs h⟩
theorem scalarL_any {w w':World} {Z Z':Bk->Prop} {κ κ':Kap} {o o':Nat->Option O}: ∀(rs:List V) {vs:List Value},V.scalarL rs=true->VRepL w Z κ o rs vs->VRepL w' Z' κ' o' rs vs
 |[],_,_,_=>trivial
 |_::_,[],_,_=>trivial
 |r::rs,v::vs,hs,h=>by
  simp only[V.scalarL,Zp] at hs;exact⟨dG r hs.1 h.1,scalarL_any rs hs.2 h.2⟩
end
mutual
theorem dH (n:Nat): ∀(r:V),r.scalar=true->r.reg n=(r,[])
 | .k (.c (.int _ _)),_=>rfl
 | .k (.c (.bool _)),_=>rfl
 | .k (.c (.str _)),_=>rfl
 | .tup vs,h=>by
   have h':=scalarL_reg vs h n;simp only[V.reg,h']
theorem scalarL_reg: ∀(rs:List V),V.scalarL rs=true-> ∀n,V.regL n rs=(rs,[])
 |[],_,_=>rfl
 |r::rs,h,n=>by
  simp only[V.scalarL,Zp] at h;simp only[V.regL,dH n r h.1,ZF,Yk,scalarL_reg rs h.2 n,Zk]
end
def jT (obs:List O):Prop:= ∀ob,ob∈obs-> ∀τ,ob.noRef τ=true
theorem zbf: ∀(r:List K) (n:Nat),(∀x,x∈r-> ∀τ,x.noRef τ=true)->jT (K.regs n r).2/\ ∀x,x∈(K.regs n r).1-> ∀τ,x.noRef τ=false->n<=τ/\τ<n+(K.regs n r).2.length
 |[],n,_=>⟨by intro ob h;simp[K.regs] at h,by intro x h;simp[K.regs] at h⟩
 |k::r,n,h=>by
  have hr: ∀m,_:=fun m=>zbf r m (fun x hx=>h x (Zz _ hx))
  have hk:=h k Yh;have other:K.regs n (k::r)=(k::(K.regs n r).1,(K.regs n r).2)->jT (K.regs n (k::r)).2/\ ∀x,x∈(K.regs n (k::r)).1-> ∀τ,x.noRef τ=false->n<=τ/\τ<n+(K.regs n (k::r)).2.length:=by
   intro e;rw[e];refine⟨(hr n).1,fun x hx τ hτ=>?_⟩;rcases ZH.1 hx with rfl|hx
   ·rw[hk τ] at hτ;simp at hτ
   ·exact(hr n).2 x hx τ hτ
  cases k with
  |newl e sz nl rows=>
   refine⟨?_,fun x hx τ hτ=>?_⟩
   ·intro ob hob
    simp only[K.regs,ZH] at hob;rcases hob with rfl|hob
    ·intro τ;rfl
    ·exact(hr (n+1)).1 ob hob
   ·simp only[K.regs,ZH,Zn] at hx⊢
    rcases hx with rfl|hx
    ·simp[K.noRef] at hτ;omega
    ·have:=(hr (n+1)).2 x hx τ hτ;omega
  |c=>exact other rfl
  |own=>exact other rfl
  |ptr=>exact other rfl
  |elem=>exact other rfl
  |pel=>exact other rfl
  |fnk=>exact other rfl
  |dead=>exact other rfl
mutual
theorem zbg: ∀(r:V) (n:Nat),(∀τ,r.noRef τ=true)->jT (r.reg n).2/\ ∀τ,(r.reg n).1.noRef τ=false->n<=τ/\τ<n+(r.reg n).2.length
 | .k x,n,h=>by
   cases x with
   |newl e sz nl rows=>
    refine⟨by intro ob hob;simp[V.reg] at hob;subst hob;intro τ;rfl,fun τ hτ=>?_⟩;simp[V.reg,V.noRef,K.noRef] at hτ⊢;omega
   |_=>exact⟨by intro ob hob;simp[V.reg] at hob,fun τ hτ=>by have:=h τ;simp only[V.reg] at hτ;rw[this] at hτ;simp at hτ⟩
 | .agg r,n,h=>⟨by intro ob hob;simp[V.reg] at hob,fun τ hτ=>by simp[V.reg,V.noRef] at hτ⟩
 | .agk r,n,h=>by
   have h': ∀x,x∈r-> ∀τ,x.noRef τ=true:=fun x hx τ=>by
    have:=h τ;simp only[V.noRef,Zw] at this;exact this x hx
   obtain⟨h1,h2⟩:=zbf r n h';refine⟨h1,fun τ hτ=>?_⟩;simp only[V.reg,V.noRef,Yx] at hτ⊢;obtain⟨x,hx,hx'⟩:=hτ;exact h2 x hx τ (by simpa using hx')
 | .tup vs,n,h=>regL_ok vs n (fun τ=>h τ)
 | .undef,n,h=>⟨by intro ob hob;simp[V.reg] at hob,fun τ hτ=>by simp[V.reg,V.noRef] at hτ⟩
 | .any,n,h=>⟨by intro ob hob;simp[V.reg] at hob,fun τ hτ=>by simp[V.reg,V.noRef] at hτ⟩
theorem regL_ok: ∀(rs:List V) (n:Nat),(∀τ,V.noRefL τ rs=true)->jT (V.regL n rs).2/\ ∀τ,V.noRefL τ (V.regL n rs).1=false->n<=τ/\τ<n+(V.regL n rs).2.length
 |[],n,h=>⟨by intro ob hob;simp[V.regL] at hob,fun τ hτ=>by simp[V.regL,V.noRefL] at hτ⟩
 |r::rs,n,h=>by
  have h1: ∀τ,r.noRef τ=true:=fun τ=>by have:=h τ;simp only[V.noRefL,Zp] at this;exact this.1
  have h2: ∀τ,V.noRefL τ rs=true:=fun τ=>by have:=h τ;simp only[V.noRefL,Zp] at this;exact this.2
  obtain⟨a1,a2⟩:=zbg r n h1;obtain⟨b1,b2⟩:=regL_ok rs (n+(r.reg n).2.length) h2;refine⟨fun ob hob=>?_,fun τ hτ=>?_⟩
  ·simp only[V.regL,YI] at hob
   rcases hob with hob|hob
   ·exact a1 ob hob
   ·exact b1 ob hob
  ·simp only[V.regL,V.noRefL,Bool.and_eq_false_iff,Zu] at hτ⊢
   rcases hτ with hτ|hτ
   ·have:=a2 τ hτ;omega
   ·have:=b2 τ hτ;omega
end
theorem zkC {n:Nat} {obs:List O} {τ:Nat} (h1:n<=τ) (h2:τ<n+obs.length):(zS n obs τ).isSome=true:=by
 unfold zS;rw[if_pos h1];have:τ-n<obs.length:=by omega
 simp[this]
theorem zbh: ∀(l:List Nat) (σ:St) (τ:Nat),τ∈l->(σ.frzs l).o τ=none
 |τ'::l,σ,τ,h=>by
  unfold St.frzs;by_cases h1:τ=τ'
  ·subst h1
   have e: ∀σ1:St,(σ1.frz τ).o τ=none:=by
    intro σ1;unfold St.frz;split
    ·assumption
    ·simp
   exact Classical.byContradiction fun hne=>jQ l _ τ hne (e _)
  ·have:τ∈l:=by
    rcases ZH.1 h with h|h
    ·exact absurd h h1
    ·exact h
   exact zbh l _ τ this
theorem nH {f:FuncId} (hc:sB P f) (args:Array Value) (w:World):(callFunc f args).run P w=.ok (.enter f args) w:=by
 obtain⟨fn,h1,h2,h3⟩:=hc;have h2':fn.body≠none:=by rintro h;simp[h] at h2
 have h3': ¬fn.name= "runtime.NumGoroutine" :=by simpa using h3
 simp[callFunc,h1,h2',h3']
def rB (w0:Base) (Z0:Bk->Prop) (κ:Kap) (σ:St) (w:World) (ts:List Nat) (b:Bk):Prop:=
 Zof w0 Z0 κ σ.o w b\/ ∃τ,τ∈ts/\(∃e nl rows,σ.o τ=some (.arr e b.1 nl rows))/\κ τ=some b.2
theorem rB.lt (hi:Inv w0 Z0 κ σ fr w) {ts:List Nat} {b:Bk} (h:rB w0 Z0 κ σ w ts b):b.2<w.heap.size:=by
 rcases h with h|⟨τ,_,⟨e,nl,rows,h1⟩,h2⟩
 ·exact h.2.1
 ·exact(hi.own τ b.2 (by simp[h1]) h2).2
theorem rB.frzs (hi:Inv w0 Z0 κ σ fr w) {ts:List Nat} {b:Bk} (h:rB w0 Z0 κ σ w ts b):Zof w0 Z0 κ (σ.frzs ts).o w b:=by
 rcases h with h|⟨τ,ht,⟨e,nl,rows,h1⟩,h2⟩
 ·exact Zof_frzs ts b h
 ·have:=hi.own τ b.2 (by simp[h1]) h2
  refine⟨.inr ⟨this.1,jP (hi.objs τ _ h1) h2⟩,this.2,fun τ' h3 h4=>?_⟩;have h5:=hi.inj τ τ' b.2 (by simp[h1]) (jQ ts σ τ' h3) h2 h4;subst h5;exact h3 (zbh ts σ τ ht)
theorem dI (hi:Inv w0 Z0 κ σ a.tmps w) {x:Operand} {x':AX} (hx:ax x=some x') (h1:(x'.ev σ).strip.2=true) (h2:((x'.ev σ).strip.1.lend σ).isPure=true) {ts:List Nat} (ht: ∀τ,τ∈(x'.ev σ).strip.1.toks->τ∈ts):
  zD w (rB w0 Z0 κ σ w ts) (fun _=>none) (fun _=>none) ((x'.ev σ).strip.1.lend σ) (a.eval x):=by
 have hv:=(sI hi hx).strip h1;generalize (x'.ev σ).strip.1=v at h2 ht hv⊢;have hz: ∀b,Zof w0 Z0 κ σ.o w b->rB w0 Z0 κ σ w ts b:=fun b h=> .inl h
 by_cases hown: ∃τ,v=.k (.own τ)
 ·obtain⟨τ,rfl⟩:=hown
  cases ho:σ.o τ with
  |none=>simp[V.lend,ho,V.isPure] at h2
  |some ob=>
   cases ob with
   |var e row=>simp[V.lend,ho,V.isPure] at h2
   |arr e sz nl rows=>
    simp only[V.lend,ho];have hm:τ∈ts:=ht τ (by simp[V.toks,K.toks]);refine⟨hv.1,?_⟩;show PRep _ _ (.list sz nl rows) _;rcases hi.objs τ _ ho with⟨hκ,rfl,hnl⟩|⟨b,cur,cap,hκ,hheap,h0,hcs,hlen,hcap,hnl,hall,hrr⟩
    ·rcases hv.2 _ _ _ _ ho with⟨_,hp⟩|⟨b,_,_,hκ',_⟩
     ·rw[hp];exact .nil sz nl hnl
     ·rw[hκ] at hκ';simp at hκ'
    ·rcases hv.2 _ _ _ _ ho with⟨hκ',_⟩|⟨b',cur',cap',hκ',hheap',hcs',hp⟩
     ·rw[hκ] at hκ';simp at hκ'
     obtain rfl:b=b':=by rw[hκ] at hκ';simpa using hκ'
     rw[hheap] at hheap';cases hheap';obtain rfl:cap=cap':=by rw[hcs] at hcs';exact Nat.eq_of_mul_eq_mul_right h0 hcs'
     rw[hp];refine mU hnl hlen hcap ⟨fun _=> .inr ⟨τ,hm,⟨e,nl,rows,ho⟩,hκ⟩,hall,fun i j r c hr hc=>?_⟩;obtain⟨v,hv,hp⟩:=hrr i j r c hr hc;exact⟨v,by rw[ZU,cell_of_row w b _ cur e (0,0) hheap];exact hv,hp.mono (fun _ _=>rfl) hz⟩
 ·have e:v.lend σ=v:=by
   unfold V.lend;split
   ·exact absurd ⟨_,rfl⟩ hown
   ·rfl
  rw[e] at h2⊢;exact(hv.pure_any h2).mono (fun _ _=>rfl) hz (τs:=fun _=>True) (yO.of_eq (σ:=⟨fun _=> .any,fun _=>none⟩) (σ':=⟨fun _=> .any,fun _=>none⟩) (fun _ _=>⟨rfl,rfl⟩) (xG.refl w)) (fun _ _=>trivial)
theorem jU: ∀{args:List Operand} {xs:List AX},args.mapM ax=some xs->xs.length=args.length/\ ∀(j:Nat) x x',args[j]?=some x->xs[j]?=some x'->ax x=some x'
 |[],xs,h=>by simp at h;subst h;simp
 |x::args,xs,h=>by
  simp only[Yw,Zf,Zb,Zj,Ze] at h;obtain⟨x',hx,xs',hxs,rfl⟩:=h;obtain⟨h1,h2⟩:=jU hxs;refine⟨by simp[h1],fun j y y' hy hy'=>?_⟩;cases j with
  |zero=>simp at hy hy';subst hy;subst hy';exact hx
  |succ j=>exact h2 j y y' (by simpa using hy) (by simpa using hy')
theorem zbi (hi:Inv w0 Z0 κ σ a.tmps w) {d:Option Nat} (hd: ∀s,d=some s->s<a.tmps.size) {f:FuncId} {args:List Operand} {xs:List AX} (hxs:args.mapM ax=some xs) {cs:List C} {us:List Value}
  (hcs:yD w (Zof w0 Z0 κ σ.o w) cs us) {Kp:St->Prop} (h:pN P σ d f xs cs Kp):
  sB P f/\Calls P f (args.map a.eval++us).toArray w fun e w'=> ∃v κ' σ',e=.returned v/\Inv w0 Z0 κ' σ' (a.put d v).tmps w'/\Kp σ':=by
 obtain⟨h1,h2,S,hS,h3⟩:=h;obtain⟨hlen,hget⟩:=jU hxs;have hA: ∃args',Spec P f args' S/\wH w (rB w0 Z0 κ σ w (xs.flatMap fun x=>(x.ev σ).strip.1.toks)) args' (args.map a.eval++us):=by
  rcases hS with hS|⟨rfl,hS⟩
  ·refine⟨_,hS,by simp[hlen,hcs.1],fun j x v hx hv=>?_⟩
   by_cases hj:j<args.length
   ·rw[ZC (by simpa [hlen] using hj)] at hx
    rw[ZC (by simpa using hj)] at hv;simp only[Zv,Zc] at hx hv;obtain⟨x',hx',rfl⟩:=hx;obtain⟨y,hy,rfl⟩:=hv;have hm:=ZI hx';exact zD.norm (h2 x' hm) (dI hi (hget j y x' hy hx') (h1 x' hm) (h2 x' hm) (fun τ hτ=>XH.2 ⟨x',hm,hτ⟩))
   ·rw[ZD (by simp[hlen];omega)] at hx
    rw[ZD (by simp;omega)] at hv;simp only[Zg,hlen] at hx hv;simp only[Zv,Zc] at hx;obtain⟨c,hc,rfl⟩:=hx;have hp:=hcs.2 _ c v hc hv;exact⟨rfl,hp.oneCell,(hp.mono (fun _ _=>rfl) (fun b hb=> .inl hb)).norm⟩
  ·have hu:us=[]:=List.length_eq_zero_iff.1 hcs.1
   subst hu;refine⟨_,hS,by simp[hlen],fun j x v hx hv=>?_⟩;rw[Zk] at hv;simp only[Zv,Zc] at hx hv;obtain⟨x',hx',rfl⟩:=hx;obtain⟨y,hy,rfl⟩:=hv;have hm:=ZI hx';exact⟨h2 x' hm,dI hi (hget j y x' hy hx') (h1 x' hm) (h2 x' hm) (fun τ hτ=>XH.2 ⟨x',hm,hτ⟩)⟩
 obtain⟨args',hS,hA⟩:=hA;refine⟨hS.1,(hS.2 w (rB w0 Z0 κ σ w (xs.flatMap fun x=>(x.ev σ).strip.1.toks)) (args.map a.eval++us).toArray hi.globB (fun b hb=>hb.lt hi) hA).mono ?_⟩
 ·rintro e w' ⟨v,r,rfl,hr,hcl,hrep⟩
  have h4:=h3 r hr;split at h4
  ·rename_i hsc
   obtain⟨κr,hI⟩:=hrep 0;have hv:=hI.tmps 0;have e3:(#[v]:Array Value).getD 0 undef=v:=rfl;simp only[e3,if_true,dH 0 r hsc] at hv;refine⟨v,κ,putD σ d r,rfl,?_,h4⟩;have hi':=hi.later hI.kept;cases d with
   |none=>exact hi'
   |some s=>exact hi'.put (hd s rfl) (dG r hsc hv)
  ·have hi':=hi.frzs (xs.flatMap fun x=>(x.ev σ).strip.1.toks)
   cases d with
   |none=>
    obtain⟨κr,hI⟩:=hrep 0;exact⟨v,κ,_,rfl,hi'.later hI.kept,h4⟩
   |some s=>
    obtain⟨h5,h6⟩:=h4;obtain⟨κr,hI⟩:=hrep (regN s r);obtain⟨g1,g2⟩:=zbg r (regN s r) hcl;exact⟨v,_,_,rfl,hi'.merge hI (fun b hb _=>hb.frzs hi) (hd s rfl) h5 (fun τ hτ=>let ⟨m1,m2⟩:=g2 τ hτ;zkC m1 m2) g1,h6⟩
end
section
variable {w0 : Base} {w w' : World} {Z0 Z : Bk -> Prop} {κ κ' : Kap} {σ σ' : St} {fr : Array Value} {o : Nat -> Option O}
theorem K.nrm_rep {x:K} {v:Value} (h:v.oneCell'=true/\yK w Z κ o x v):v.oneCell'=true/\yK w Z κ o x.nrm v:=by
 refine⟨h.1,?_⟩;cases x with
 |c x=>exact PRep.norm h.2
 |pel=>trivial
 |_=>exact h.2
theorem zX.nrm {r:List K} {cs:List Value} (h:zX w Z κ o r cs):zX w Z κ o (r.map K.nrm) cs:=by
 refine⟨by simp[h.1],fun j k v hk hv=>?_⟩;simp only[Zv,Zc] at hk;obtain⟨k0,hk0,rfl⟩:=hk;exact K.nrm_rep (h.2 j k0 v hk0 hv)
mutual
theorem zD.nrm: ∀{x:V} {v:Value},zD w Z κ o x v->zD w Z κ o x.nrm v
 | .k x,v,h=>K.nrm_rep h
 | .agg r,v,⟨cs,e,hr⟩=>⟨cs,e,hr.norm⟩
 | .agk r,v,⟨cs,e,hr⟩=>⟨cs,e,hr.nrm⟩
 | .tup vs,v,⟨us,e,hl,hr⟩=>⟨us,e,by rw[hl,zD.nrmL_len],zD.nrmL hr⟩
 | .undef,v,h=>h
 | .any,v,h=>trivial
theorem zD.nrmL: ∀{xs:List V} {vs:List Value},VRepL w Z κ o xs vs->VRepL w Z κ o (V.nrmL xs) vs
 |[],_,h=>trivial
 |_::_,[],h=>trivial
 |x::xs,v::vs,h=>⟨zD.nrm h.1,zD.nrmL h.2⟩
theorem zD.nrmL_len: ∀(xs:List V),(V.nrmL xs).length=xs.length
 |[]=>rfl
 |x::xs=>by simp[V.nrmL,zD.nrmL_len xs]
end
theorem xA.nrm {τ:Nat} {ob:O} (h:xA w Z κ o τ ob):xA w Z κ o τ ob.nrm:=by
 cases ob with
 |var e row=>
  obtain⟨b,cur,h1,h2,h3⟩:=h;exact⟨b,cur,h1,h2,h3.nrm⟩
 |arr e sz nl rows=>
  rcases h with⟨h1,rfl,h3⟩|⟨b,cur,cap,h1,h2,h3,h4,h5,h6,h7,h8,h9⟩
  ·exact .inl ⟨h1,rfl,by simp⟩
  ·refine .inr ⟨b,cur,cap,h1,h2,h3,h4,by rw[C.normRows_map];simpa using h5,h6,by simp,fun r hr=>?_,fun i j r c hr hc=>?_⟩
   ·rw[C.normRows_map] at hr
    obtain⟨r0,hr0,rfl⟩:=ZS.1 hr;simpa using h8 r0 hr0
   ·rw[C.normRows_map] at hr
    simp only[Zv,Zc] at hr;obtain⟨r0,hr0,rfl⟩:=hr;simp only[Zv,Zc] at hc;obtain⟨c0,hc0,rfl⟩:=hc;obtain⟨v,hv,hp⟩:=h9 i j r0 c0 hr0 hc0;exact⟨v,hv,hp.norm⟩
theorem yC.nrm (x:Option O):yC x (x.map O.nrm):=by
 rcases x with _|(⟨e,row⟩|⟨e,sz,nl,rows⟩)
 ·trivial
 ·rfl
 ·exact⟨rfl,rfl,by rw[C.normRows_map];simp⟩
theorem Inv.nrm (hi:Inv w0 Z0 κ σ fr w):Inv w0 Z0 κ σ.nrm fr w:=by
 have hdom: ∀τ,σ.nrm.o τ≠none->σ.o τ≠none:=fun τ h=>by simpa [St.nrm] using h
 have hsub: ∀b,Zof w0 Z0 κ σ.o w b->Zof w0 Z0 κ σ.nrm.o w b:=fun b ⟨h1,h2,h3⟩=>⟨h1,h2,fun τ hτ=>h3 τ (hdom τ hτ)⟩
 have hself:yV (Zof w0 Z0 κ σ.o w) w w:=fun _ _=>rfl
 have ht:yO (fun _=>True) σ.o σ.nrm.o κ κ w w:=fun s _=>⟨yC.nrm _,rfl,fun _ b _ cur e f hb=>⟨cur,hb,rfl⟩⟩
 refine⟨hi.kept,hi.glob,fun τ b h hb=>hi.own τ b (hdom τ h) hb,fun τ τ' b h h' hb hb'=>hi.inj τ τ' b (hdom τ h) (hdom τ' h') hb hb',fun τ ob h=>?_,fun s=>?_⟩
 ·have h':(σ.o τ).map O.nrm=some ob:=h
  simp only[Zc] at h';obtain⟨ob0,h0,rfl⟩:=h';exact((hi.objs τ ob0 h0).nrm).mono hself hsub ht rfl (fun _ _=>rfl) (fun _ _=>trivial)
 ·exact((hi.tmps s).nrm).mono hself hsub ht (fun _ _=>trivial)
end
theorem Cap.within_ref {T:List Nat} {c:Cap} (h:c.within T=true) {τ:Nat} (hr:c.noRef τ=false):τ∈T:=by
 cases c with
 |tok s=>simp[Cap.within,Cap.noRef] at h hr;subst hr;exact h
 |ro=>simp[Cap.noRef] at hr
theorem K.within_ref {T:List Nat} {x:K} (h:x.within T=true) {τ:Nat} (hr:x.noRef τ=false):τ∈T:=by
 cases x with
 |own s=>simp[K.within,K.noRef] at h hr;subst hr;exact h
 |ptr s=>simp[K.within,K.noRef] at h hr;subst hr;exact h
 |elem s=>simp[K.within,K.noRef] at h hr;subst hr;exact h
 |fnk f caps=>
  simp only[K.within,K.noRef,Zw,Yx] at h hr;obtain⟨c,hc,hc'⟩:=hr;exact Cap.within_ref (h c hc) (by simpa using hc')
 |_=>simp[K.noRef] at hr
mutual
theorem V.within_ref {T:List Nat}: ∀{x:V} (_:x.within T=true) {τ:Nat} (_:x.noRef τ=false),τ∈T
 | .k x,h,τ,hr=>K.within_ref h hr
 | .agg _,h,τ,hr=>by simp[V.noRef] at hr
 | .agk r,h,τ,hr=>by
   simp only[V.within,V.noRef,Zw,Yx] at h hr;obtain⟨c,hc,hc'⟩:=hr;exact K.within_ref (h c hc) (by simpa using hc')
 | .tup vs,h,τ,hr=>V.withinL_ref h hr
 | .undef,h,τ,hr=>by simp[V.noRef] at hr
 | .any,h,τ,hr=>by simp[V.noRef] at hr
theorem V.withinL_ref {T:List Nat}: ∀{xs:List V} (_:V.withinL T xs=true) {τ:Nat} (_:V.noRefL τ xs=false),τ∈T
 |[],h,τ,hr=>by simp[V.noRefL] at hr
 |x::xs,h,τ,hr=>by
  simp only[V.withinL,V.noRefL,Zp,Bool.and_eq_false_iff] at h hr;rcases hr with hr|hr
  ·exact V.within_ref h.1 hr
  ·exact V.withinL_ref h.2 hr
end
theorem O.within_ref {T:List Nat} {x:O} (h:x.within T=true) {τ:Nat} (hr:x.noRef τ=false):τ∈T:=by
 cases x with
 |var e r=>
  simp only[O.within,O.noRef,Zw,Yx] at h hr;obtain⟨c,hc,hc'⟩:=hr;exact K.within_ref (h c hc) (by simpa using hc')
 |arr=>simp[O.noRef] at hr
theorem V.noRef_scrub' {τ τ':Nat}: ∀{x:V},(x.scrub τ).noRef τ'=false->x.noRef τ'=false
 | .k x,h=>K.noRef_scrub' h
 | .agk r,h=>by
   simp only[V.scrub,V.noRef,Yx,ZS] at h⊢;obtain⟨x,⟨y,hy,rfl⟩,hx⟩:=h;exact⟨y,hy,by simpa using K.noRef_scrub' (by simpa using hx)⟩
 | .agg _,h=>h
 | .undef,h=>h
 | .tup _,h=>by simp[V.scrub,V.noRef] at h
 | .any,h=>h
theorem O.noRef_scrub' {τ τ':Nat} {x:O} (h:(x.scrub τ).noRef τ'=false):x.noRef τ'=false:=by
 cases x with
 |var e r=>
  simp only[O.scrub,O.noRef,Yx,ZS] at h⊢;obtain⟨x,⟨y,hy,rfl⟩,hx⟩:=h;exact⟨y,hy,by simpa using K.noRef_scrub' (by simpa using hx)⟩
 |arr=>exact h
theorem V.noRef_scrubs: ∀{l:List Nat} {x:V} {τ:Nat},(x.scrubs l).noRef τ=false->τ ∉ l/\x.noRef τ=false
 |[],x,τ,h=>⟨by simp,h⟩
 |s::l,x,τ,h=>by
  obtain⟨h1,h2⟩:=V.noRef_scrubs (l:=l) h;refine⟨?_,V.noRef_scrub' h2⟩;rintro hm;rcases ZH.1 hm with rfl|hm
  ·rw[V.noRef_scrub] at h2;simp at h2
  ·exact h1 hm
theorem O.noRef_scrubs: ∀{l:List Nat} {x:O} {τ:Nat},(x.scrubs l).noRef τ=false->τ ∉ l/\x.noRef τ=false
 |[],x,τ,h=>⟨by simp,h⟩
 |s::l,x,τ,h=>by
  obtain⟨h1,h2⟩:=O.noRef_scrubs (l:=l) h;refine⟨?_,O.noRef_scrub' h2⟩;rintro hm;rcases ZH.1 hm with rfl|hm
  ·rw[O.noRef_scrub] at h2;simp at h2
  ·exact h1 hm
section
variable {P : Program} {w0 : Base} {w w' : World} {Z0 : Bk -> Prop} {κ κ' : Kap} {σ : St} {a : Act} {fr : Array Value}
theorem zD.scrubs {w:World} {Z:Bk->Prop} {o:Nat->Option O}: ∀(l:List Nat) {x:V} {v:Value},zD w Z κ o x v->zD w Z κ o (x.scrubs l) v
 |[],_,_,h=>h
 |τ::l,_,_,h=>zD.scrubs l (h.scrub τ)
theorem xA.scrubs {w:World} {Z:Bk->Prop} {o:Nat->Option O} {τ:Nat}: ∀(l:List Nat) {x:O},xA w Z κ o τ x->xA w Z κ o τ (x.scrubs l)
 |[],_,h=>h
 |s::l,_,h=>xA.scrubs l (h.scrub s)
theorem yC.trans {x y z:Option O} (h:yC x y) (k:yC y z):yC x z:=by
 rcases x with _|(⟨e,row⟩|⟨e,sz,nl,rows⟩)
 ·rcases y with _|(⟨e',row'⟩|⟨e',sz',nl',rows'⟩)
  ·exact k
  ·exact h.elim
  ·exact h.elim
 ·rcases y with _|(⟨e',row'⟩|⟨e',sz',nl',rows'⟩)
  ·exact h.elim
  ·rcases z with _|(⟨e'',row''⟩|⟨e'',sz'',nl'',rows''⟩)
   ·exact k.elim
   ·have h':e'=e:=h
    have k':e''=e':=k;exact k'.trans h'
   ·exact k.elim
  ·exact h.elim
 ·rcases y with _|(⟨e',row'⟩|⟨e',sz',nl',rows'⟩)
  ·exact h.elim
  ·exact h.elim
  ·rcases z with _|(⟨e'',row''⟩|⟨e'',sz'',nl'',rows''⟩)
   ·exact k.elim
   ·exact k.elim
   ·obtain⟨h1,h2,h3⟩:=h
    obtain⟨k1,k2,k3⟩:=k;exact⟨k1.trans h1,k2.trans h2,k3.trans h3⟩
theorem yC.scrubs: ∀(l:List Nat) (x:Option O),yC x (x.map (O.scrubs l))
 |[],x=>by cases x<;>exact yC.refl _
 |τ::l,x=>by
  have h1:=yC.scrub τ x;have h2:=yC.scrubs l (x.map (O.scrub τ));cases x with
  |none=>trivial
  |some ob=>exact h1.trans h2
def nI (κ:Kap) (σ:St) (T:List Nat) (w:World):Base:=
 ⟨w,fun b=>b<w.heap.size/\ ∀τ,τ∈T->σ.o τ≠none->κ τ≠some b,fun _ h=>h.1⟩
theorem zkD (hi:Inv w0 Z0 κ σ fr w) {T:List Nat} {vs:List V} {vals:List Value} (hl:vals.length=vs.length)
  (hv: ∀(j:Nat) v u,vs[j]?=some v->vals[j]?=some u->zD w (Zof w0 Z0 κ σ.o w) κ σ.o v u)
  (h1:vs.all (V.within T)=true) (h2: ∀τ,τ∈T-> ∀ob,σ.o τ=some ob->ob.within T=true):
  Inv (nI κ σ T w) (Zof w0 Z0 κ σ.o w) κ ⟨fun s=>(vs.map V.nrm).getD s .any,yE T fun τ=>(σ.o τ).map O.nrm⟩ vals.toArray w:=by
 have base:Inv (nI κ σ T w) (Zof w0 Z0 κ σ.o w) κ ⟨fun s=>vs.getD s .any,yE T σ.o⟩ vals.toArray w:=by
  have htab: ∀τ,yE T σ.o τ≠none->τ∈T/\σ.o τ≠none:=by
   intro τ h;unfold yE at h;by_cases hc:T.contains τ=true
   ·rw[if_pos hc] at h;exact⟨by simpa using hc,h⟩
   ·rw[if_neg hc] at h;exact absurd rfl h
  have hin: ∀τ,τ∈T->yE T σ.o τ=σ.o τ:=by
   intro τ h;unfold yE;rw[if_pos (by simpa using h)]
  have hsub: ∀b,Zof w0 Z0 κ σ.o w b->Zof (nI κ σ T w) (Zof w0 Z0 κ σ.o w) κ (yE T σ.o) w b:=fun b hb=>
   ⟨.inl ⟨hb,hb.2.1,fun τ _ hn=>hb.2.2 τ hn⟩,hb.2.1,fun τ hτ=>hb.2.2 τ (htab τ hτ).2⟩
  have hself:yV (Zof w0 Z0 κ σ.o w) w w:=fun _ _=>rfl
  have ht:yO (fun τ=>τ∈T) σ.o (yE T σ.o) κ κ w w:=fun τ hτ=>⟨by rw[hin τ hτ];exact yC.refl _,rfl,fun _ b _ cur e f hb=>⟨cur,hb,rfl⟩⟩
  refine⟨⟨rfl,rfl,rfl,Zs _,fun _ _=>rfl⟩,⟨fun g l hg=>⟨⟨(hi.globB.1 g l hg).1,fun τ _ hn hκ=>(hi.own τ g hn hκ).1 (hi.glob.1 g l hg).1⟩,(hi.globB.1 g l hg).2⟩,fun g p hg=>⟨⟨(hi.globB.2 g p hg).1,fun τ _ hn hκ=>(hi.own τ g hn hκ).1 (hi.glob.2 g p hg).1⟩,(hi.globB.2 g p hg).2⟩⟩,fun τ b h hb=>?_,fun τ τ' b h h' hb hb'=>hi.inj τ τ' b (htab τ h).2 (htab τ' h').2 hb hb',fun τ ob h=>?_,fun s=>?_⟩
  ·obtain⟨g1,g2⟩:=htab τ h
   exact⟨fun hB=>hB.2 τ g1 g2 hb,(hi.own τ b g2 hb).2⟩
  ·have hτ:=(htab τ (by simp only at h;rw[h];simp)).1
   have h':yE T σ.o τ=some ob:=h;rw[hin τ hτ] at h';exact(hi.objs τ ob h').mono hself hsub ht rfl (fun _ _=>rfl) (fun τ' hr=>O.within_ref (h2 τ hτ ob h') hr)
  ·by_cases hs:s<vs.length
   ·have e1:vs.getD s .any=vs[s]:=by simp[Zi,hs]
    have e2:vals.toArray.getD s undef=vals[s]'(by omega):=by simp[hl,hs]
    simp only[e1,e2];have:=hv s vs[s] (vals[s]'(by omega)) (Zh hs) (Zh (by omega));refine this.mono hself hsub ht (fun τ' hr=>?_);rw[Zw] at h1;exact V.within_ref (h1 _ (Zy hs)) hr
   ·have e1:vs.getD s .any=.any:=by rw[Zi,Y2 (by omega)];rfl
    simp only[e1];trivial
 have hn:=base.nrm;have e:St.nrm ⟨fun s=>vs.getD s .any,yE T σ.o⟩=⟨fun s=>(vs.map V.nrm).getD s .any,yE T fun τ=>(σ.o τ).map O.nrm⟩:=by
  simp only[St.nrm,St.mk.injEq];constructor
  ·funext s
   simp only[Zi,Zv];cases vs[s]?<;>rfl
  ·funext s
   simp only[yE];split<;>rfl
 rw[e] at hn;exact hn
theorem zkE (hi:Inv w0 Z0 κ σ fr w) {T A dead:List Nat} {o':Nat->Option O} {r:V} {v:Value} (hA: ∀τ,τ∈T->τ∈A\/τ∈dead)
  (hr:Inv (nI κ σ T w) (Zof w0 Z0 κ σ.o w) κ' ⟨fun s=>if s=0 then r else .any,o'⟩ #[v] w')
  (ht:yO (fun τ=>τ∈A) (yE T fun τ=>(σ.o τ).map O.nrm) o' κ κ' w w') (ho: ∀τ,τ ∉ T->o' τ=none) (hrT:r.within T=true) (hoT: ∀τ ob,o' τ=some ob->ob.within T=true)
  {d:Option Nat} (hd: ∀s,d=some s->s<fr.size):
  Inv w0 Z0 (fun τ=>if τ∈T then κ' τ else κ τ) (putD (σ.back T dead o') d r) (match d with|some s=>fr.setIfInBounds s v|none=>fr) w':=by
 have hk:=hr.kept;have hobk: ∀τ,(putD (σ.back T dead o') d r).o τ=if τ∈T then o' τ else(σ.o τ).map (O.scrubs dead):=by
  intro τ;have:(putD (σ.back T dead o') d r).o τ=(σ.back T dead o').o τ:=by cases d<;>rfl
  rw[this];simp only[St.back,List.contains_iff_mem]
 have hslot: ∀s,(putD (σ.back T dead o') d r).t s=if d=some s then r else(σ.t s).scrubs dead:=by
  intro s;cases d with
  |none=>simp[putD,St.back]
  |some d'=>
   by_cases h:s=d'
   ·subst h;simp[putD,St.put]
   ·simp[putD,St.put,St.back,h,Ne.symm h]
 generalize putD (σ.back T dead o') d r=σ2 at hobk hslot⊢;have hdom: ∀τ,τ ∉ T->σ2.o τ≠none->σ.o τ≠none:=by
  intro τ h hn;rw[hobk,if_neg h] at hn;simpa using hn
 have hBk: ∀b:Nat,b<w.heap.size->(∀τ,τ∈T->σ.o τ≠none->κ τ≠some b)->w'.heap[b]?=w.heap[b]?:=fun b h1 h2=>hk.block b ⟨h1,h2⟩
 have hsubO: ∀b,Zof w0 Z0 κ σ.o w b->Zof w0 Z0 (fun τ=>if τ∈T then κ' τ else κ τ) σ2.o w' b:=by
  rintro b ⟨h1,h2,h3⟩;refine⟨h1.imp id fun h=>⟨h.1,nG (hBk b.2 h2 fun τ _ hn=>h3 τ hn) h.2⟩,ZL h2 hk.size,fun τ hτ hb=>?_⟩;by_cases hT:τ∈T
  ·simp only[if_pos hT] at hb
   have hτ':o' τ≠none:=by rw[hobk,if_pos hT] at hτ;exact hτ
   exact(hr.own τ b.2 hτ' hb).1 ⟨h2,fun τ' _ hn=>h3 τ' hn⟩
  ·simp only[if_neg hT] at hb
   exact h3 τ (hdom τ hT hτ) hb
 have hnotB: ∀b:Nat,¬(nI κ σ T w).B b-> ¬w0.B b/\ ∀τ,τ ∉ T->σ.o τ≠none->κ τ≠some b:=by
  intro b hb;by_cases hlt:b<w.heap.size
  ·have: ∃τ,τ∈T/\σ.o τ≠none/\κ τ=some b:=Classical.byContradiction fun hne=>hb ⟨hlt,fun τ h1 h2 h3=>hne ⟨τ,h1,h2,h3⟩⟩
   obtain⟨τ,h1,h2,h3⟩:=this;exact⟨(hi.own τ b h2 h3).1,fun τ' hT hn hκ=>hT (by rw[hi.inj τ' τ b hn h2 hκ h3];exact h1)⟩
  ·exact⟨hi.kept.fresh (Xh hlt),fun τ hT hn hκ=>hlt (hi.own τ b hn hκ).2⟩
 have hsubN: ∀b,Zof (nI κ σ T w) (Zof w0 Z0 κ σ.o w) κ' o' w' b->Zof w0 Z0 (fun τ=>if τ∈T then κ' τ else κ τ) σ2.o w' b:=by
  rintro b ⟨h1,h2,h3⟩;rcases h1 with⟨h1,_⟩|⟨h1,hsf⟩
  ·exact hsubO b h1
  ·obtain⟨g1,g2⟩:=hnotB b.2 h1
   refine⟨.inr ⟨g1,hsf⟩,h2,fun τ hτ hb=>?_⟩;by_cases hT:τ∈T
   ·simp only[if_pos hT] at hb
    exact h3 τ (by rw[hobk,if_pos hT] at hτ;exact hτ) hb
   ·simp only[if_neg hT] at hb
    exact g2 τ hT (hdom τ hT hτ) hb
 have hblk: ∀τ b,τ ∉ T->σ.o τ≠none->κ τ=some b->w'.heap[b]?=w.heap[b]?:=by
  intro τ b hT hn hκ;exact hBk b (hi.own τ b hn hκ).2 (fun τ' hT' hn' hκ'=>hT (by rw[hi.inj τ τ' b hn hn' hκ hκ'];exact hT'))
 have hsameO:yV (Zof w0 Z0 κ σ.o w) w w':=fun b hb=>hBk b.2 hb.2.1 (fun τ _ hn=>hb.2.2 τ hn)
 have htabO:yO (fun τ=>τ ∉ dead) σ.o σ2.o κ (fun τ=>if τ∈T then κ' τ else κ τ) w w':=by
  intro τ hτ;by_cases hT:τ∈T
  ·have hAτ:τ∈A:=(hA τ hT).resolve_right hτ
   obtain⟨g1,g2,g3⟩:=ht τ hAτ;have e:yE T (fun τ=>(σ.o τ).map O.nrm) τ=(σ.o τ).map O.nrm:=by unfold yE;rw[if_pos (by simpa using hT)]
   rw[e] at g1 g3;refine⟨by rw[hobk,if_pos hT];exact(yC.nrm _).trans g1,by simp only[if_pos hT];exact g2,fun hn b hb cur e f hc=>g3 (by simpa using hn) b hb cur e f hc⟩
  ·refine⟨by rw[hobk,if_neg hT];exact yC.scrubs dead _,by simp only[if_neg hT],fun hn b hb cur e f hc=>⟨cur,by rw[hblk τ b hT hn hb];exact hc,rfl⟩⟩
 have htabN:yO (fun τ=>τ∈T) o' σ2.o κ' (fun τ=>if τ∈T then κ' τ else κ τ) w' w':=by
  intro τ hT;exact⟨by rw[hobk,if_pos hT];exact yC.refl _,by simp only[if_pos hT],fun _ b _ cur e f hc=>⟨cur,hc,rfl⟩⟩
 refine⟨⟨hk.os.trans hi.kept.os,hk.tape.trans hi.kept.tape,hk.output.trans hi.kept.output,ZY hi.kept.size hk.size,fun b hb=>?_⟩,hi.glob,fun τ b hτ hb=>?_,fun τ τ' b hτ hτ' hb hb'=>?_,fun τ ob hob=>?_,fun s=>?_⟩
 ·rw[hBk b (ZL (w0.lt b hb) hi.kept.size) (fun τ _ hn hκ=>(hi.own τ b hn hκ).1 hb)]
  exact hi.kept.block b hb
 ·by_cases hT:τ∈T
  ·simp only[if_pos hT] at hb
   have hτ':o' τ≠none:=by rw[hobk,if_pos hT] at hτ;exact hτ
   have:=hr.own τ b hτ' hb;exact⟨(hnotB b this.1).1,this.2⟩
  ·simp only[if_neg hT] at hb
   have:=hi.own τ b (hdom τ hT hτ) hb;exact⟨this.1,ZL this.2 hk.size⟩
 ·by_cases hT:τ∈T<;>by_cases hT':τ'∈T
  ·simp only[if_pos hT] at hb;simp only[if_pos hT'] at hb'
   exact hr.inj τ τ' b (by rw[hobk,if_pos hT] at hτ;exact hτ) (by rw[hobk,if_pos hT'] at hτ';exact hτ') hb hb'
  ·simp only[if_pos hT] at hb;simp only[if_neg hT'] at hb'
   have:=hr.own τ b (by rw[hobk,if_pos hT] at hτ;exact hτ) hb;exact absurd hb' ((hnotB b this.1).2 τ' hT' (hdom τ' hT' hτ'))
  ·simp only[if_neg hT] at hb;simp only[if_pos hT'] at hb'
   have:=hr.own τ' b (by rw[hobk,if_pos hT'] at hτ';exact hτ') hb';exact absurd hb ((hnotB b this.1).2 τ hT (hdom τ hT hτ))
  ·simp only[if_neg hT] at hb;simp only[if_neg hT'] at hb'
   exact hi.inj τ τ' b (hdom τ hT hτ) (hdom τ' hT' hτ') hb hb'
 ·rw[hobk] at hob
  by_cases hT:τ∈T
  ·rw[if_pos hT] at hob
   exact(hr.objs τ ob hob).mono (fun _ _=>rfl) hsubN htabN (by simp only[if_pos hT]) (fun _ _=>rfl) (fun τ' hτ'=>O.within_ref (hoT τ ob hob) hτ')
  ·rw[if_neg hT] at hob
   simp only[Zc] at hob;obtain⟨ob0,h0,rfl⟩:=hob;exact((hi.objs τ ob0 h0).scrubs dead).mono hsameO hsubO htabO (by simp only[if_neg hT]) (fun b hb=>hblk τ b hT (by simp[h0]) hb) (fun τ' hτ'=>(O.noRef_scrubs hτ').1)
 ·rw[hslot]
  have old:zD w' (Zof w0 Z0 (fun τ=>if τ∈T then κ' τ else κ τ) σ2.o w') (fun τ=>if τ∈T then κ' τ else κ τ) σ2.o ((σ.t s).scrubs dead) (fr.getD s undef):=
   ((hi.tmps s).scrubs dead).mono hsameO hsubO htabO (fun τ' hτ'=>(V.noRef_scrubs hτ').1)
  cases d with
  |none=>rw[if_neg (by simp)];exact old
  |some d'=>
   by_cases hs:s=d'
   ·subst hs
    rw[if_pos rfl];have h0:=hr.tmps 0;have e3:(#[v]:Array Value).getD 0 undef=v:=rfl;have e4:(fr.setIfInBounds s v).getD s undef=v:=by simp[hd s rfl]
    simp only[e3,if_true] at h0;show zD _ _ _ _ _ ((fr.setIfInBounds s v).getD s undef);rw[e4];exact h0.mono (fun _ _=>rfl) hsubN htabN (fun τ' hτ'=>V.within_ref hrT hτ')
   ·rw[if_neg (by simpa using Ne.symm hs)]
    have e4:(fr.setIfInBounds d' v).getD s undef=fr.getD s undef:=by
     simp[ZP,Yi,Ne.symm hs]
    show zD _ _ _ _ _ ((fr.setIfInBounds d' v).getD s undef);rw[e4];exact old
theorem zbj (hi:Inv w0 Z0 κ σ a.tmps w) {d:Option Nat} (hd: ∀s,d=some s->s<a.tmps.size) {f:FuncId} {args:List Operand} {xs:List AX} (hxs:args.mapM ax=some xs) {caps:List Cap} {us:List Value}
  (hul:us.length=caps.length) (hcs: ∀(j:Nat) c,caps[j]?=some c-> ∃u,us[j]?=some u/\wY w (Zof w0 Z0 κ σ.o w) κ σ.o c u) {Kp:St->Prop} (h:nC P σ d f xs caps Kp):
  sB P f/\Calls P f (args.map a.eval++us).toArray w fun e w'=> ∃v κ' σ',e=.returned v/\Inv w0 Z0 κ' σ' (a.put d v).tmps w'/\Kp σ':=by
 obtain⟨T,A,dead,S,h1,h0,h2,h3,h4,h5⟩:=h;obtain⟨hlen,hget⟩:=jU hxs;have hin:=zkD hi (T:=T) (vs:=xs.map (fun x=>x.ev σ)++caps.map mM) (vals:=args.map a.eval++us) (by simp[hlen,hul]) (fun j v u hv hu=>?_) h1 h2
 ·refine⟨h4.1,(h4.2 _ _ κ w _ (by simp[hlen,hul]) hin).mono ?_⟩
  rintro e w' ⟨v,κ',r,o',rfl,hr,ht,hI⟩;obtain⟨g1,g2,g3,hk⟩:=h5 r o' hr;refine⟨v,fun τ=>if τ∈T then κ' τ else κ τ,_,rfl,?_,hk⟩;have:=zkE hi h3 hI ht g1 g2 g3 (d:=d) hd;cases d<;>exact this
 ·by_cases hj:j<args.length
  ·rw[ZC (by simpa [hlen] using hj)] at hv
   rw[ZC (by simpa using hj)] at hu;simp only[Zv,Zc] at hv hu;obtain⟨x',hx',rfl⟩:=hv;obtain⟨y,hy,rfl⟩:=hu;exact sI hi (hget j y x' hy hx')
  ·rw[ZD (by simp[hlen];omega)] at hv
   rw[ZD (by simp;omega)] at hu;simp only[Zg,hlen] at hv hu;simp only[Zv,Zc] at hv;obtain⟨c,hc,rfl⟩:=hv;obtain⟨u',hu',hrep⟩:=hcs _ c hc;rw[hu] at hu';cases hu';cases c with
   |ro row off=>exact⟨PRep.oneCell hrep,hrep⟩
   |tok τ=>
    rw[Zw] at h0;have hlive:=h0 _ (ZI hc);simp only[Cap.live] at hlive;cases ho:σ.o τ with
    |none=>rw[ho] at hlive;simp[isVarO] at hlive
    |some ob=>
     cases ob with
     |arr=>rw[ho] at hlive;simp[isVarO] at hlive
     |var e row=>
      obtain⟨b,hb,rfl⟩:=hrep e row ho;exact⟨rfl,fun e' row' ho'=>⟨b,hb,rfl⟩⟩
end
section
variable {P : Program} {w0 : Base} {w : World} {Z0 : Bk -> Prop} {κ : Kap} {σ : St} {a : Act}
structure Fm where
 n:Nat
 kp:Nat->Bool
 fr0:Array Value
def Fm.ok (F:Fm) (a:Act):Prop:=a.tmps.size=F.n/\ ∀s,F.kp s=true->a.tmps.getD s undef=F.fr0.getD s undef
def Nx (w0:Base) (Z0:Bk->Prop) (D:List Deferred) (F:Fm) (Kp:St->Prop) (a:Act) (w:World):Prop:=
 a.defers=D/\F.ok a/\ ∃κ σ,Inv w0 Z0 κ σ a.tmps w/\Kp σ
theorem nJ (a:Act) (d:Option Nat) (v:Value):(a.put d v).defers=a.defers:=by cases d<;>rfl
theorem zkF (a:Act) (d:Option Nat) (v:Value):(a.put d v).tmps.size=a.tmps.size:=by cases d<;>simp[Act.put]
theorem Fm.put {F:Fm} (hF:F.ok a) {dst:Option Nat} (hkp: ∀d,dst=some d->F.kp d=false) (v:Value):F.ok (a.put dst v):=by
 refine⟨by rw[zkF];exact hF.1,fun s hs=>?_⟩;cases dst with
 |none=>exact hF.2 s hs
 |some d=>
  have hne:d≠s:=by
   rintro rfl;rw[hkp d rfl] at hs;simp at hs
  rw[<-hF.2 s hs];simp[Act.put,ZP,Yi,hne]
theorem rS {F:Fm} (hF:F.ok a) {o:Oper} (hkp: ∀d,o.dst=some d->F.kp d=false) {Kp:St->Prop} {s:Sem Next} (he:execOp a.eval o=s) (h:sJ P w0 Z0 a w Kp o.dst s) {Q:Exit->Act->World->Prop}:o.wp P a w (Nx w0 Z0 a.defers F Kp) Q:=by
 unfold Oper.wp;rw[he];rcases h with⟨σ',κ',w',u,hr,hi,hk⟩|⟨σ',κ',w',hr,hi,hk⟩
 ·rw[hr,Oper.upon_value]
  exact⟨nJ _ _ _,Fm.put hF hkp _,κ',σ',hi,hk⟩
 ·rw[hr,Oper.upon_skip]
  exact⟨nJ _ _ _,Fm.put hF hkp _,κ',σ',hi,hk⟩
theorem xD {F:Fm} (hF:F.ok a) {o:Oper} (hkp: ∀d,o.dst=some d->F.kp d=false) {op:AOp} (hc:cOp P o=some op) (hd: ∀d,o.dst=some d->d<a.tmps.size) (hi:Inv w0 Z0 κ σ a.tmps w) {Kp:St->Prop} (h:zA σ true op fun d v=>Kp (σ.put d v)) {Q:Exit->Act->World->Prop}:
  o.wp P a w (Nx w0 Z0 a.defers F Kp) Q:=by
 obtain⟨d,r,hdst,hk,hg⟩:=zkn hc hi h;obtain⟨u,hr,hv⟩:=hg rfl;unfold Oper.wp;rw[hr,Oper.upon_value,hdst];exact⟨nJ _ _ _,Fm.put hF (fun e he=>hkp e (by rw[hdst];exact he)) _,κ,_,hi.put (hd d hdst) hv,hk⟩
theorem zbk {w:World} {Z:Bk->Prop} {f:FuncId} {cs:List C} {v:Value} (h:PRep w Z (.fn f cs) v): ∃us:List Value,v=.func (.func f) #[] us.toArray/\yD w Z cs us:=by
 cases h with
 |fn _ _ vs val h1 h2 h3=>
  refine⟨vs.toList,by simp,by simpa using h1,fun j c v hc hv=>?_⟩;have:=h2 j c hc;simp at hv;rw[hv] at this;cases this;exact h3 j c hc
theorem zkG (hi:Inv w0 Z0 κ σ a.tmps w) {d:Nat} (hd:d<a.tmps.size) {t ty:TypeId} {e:TypeId} (ht:P.underlying t=some (.slice e)) {x:Operand} {x':AX} (hx:ax x=some x') {Kp:St->Prop} (h:zY P σ (.cap d x') Kp):
  sJ P w0 Z0 a w Kp (some d) (do pure (.value (<-Builtin.cap_ #[t] ty #[a.eval x]))):=by
 simp only[zY] at h;obtain⟨h,hv⟩:=yF hi hx h;generalize (x'.ev σ).strip.1=v at h hv;split at h
 ·rename_i sz nl rows
  rcases oC (hv rfl).2 with⟨rfl,hp,_⟩|⟨b,q,cap,hp,c1,c2,_,_⟩|⟨rfl,_,hp,_⟩
  ·refine vT (u:=.int .i64 0) (w':=w) ?_ (hi.put hd (uH .i64 0)) (h 0 (by simp) (by omega))
   rw[hp];simp[Builtin.cap_,run_underlying ht,goInt]
  ·refine vT (u:=.int .i64 cap) (w':=w) ?_ (hi.put hd (uH .i64 cap)) (h cap c1 (by simp only[maxLen] at c2;omega))
   rw[hp];simp[Builtin.cap_,run_underlying ht,goInt]
  ·refine vT (u:=.int .i64 0) (w':=w) ?_ (hi.put hd (uH .i64 0)) (h 0 (by simp) (by omega))
   rw[hp];simp[Builtin.cap_,run_underlying ht,goInt]
 ·exact h.elim
theorem zkH (hi:Inv w0 Z0 κ σ a.tmps w) {t:TypeId} {n:Nat} (hn:yJ P t=some n) {x y:Operand} {x' y':AX} (hx:ax x=some x') (hy:ax y=some y') {Kp:St->Prop} (h:zY P σ (.store n x' y') Kp):
  sJ P w0 Z0 a w Kp none (do Instr.storeAt t (a.eval x) (a.eval y);pure .skip):=by
 simp only[zY] at h;obtain⟨h,hv⟩:=yF hi hx h;generalize (x'.ev σ).strip.1=v at h hv;split at h
 ·rename_i τ off
  split at h
  ·rename_i e row ho
   obtain⟨h,hu⟩:=yF hi hy h;generalize (y'.ev σ).strip.1=u at h hu;split at h
   ·rename_i ks hks
    obtain⟨hl,hb,hk⟩:=h;obtain⟨w',hr,hI⟩:=zks hi hn ho (hv rfl) (jN hks (hu rfl)) hl hb;exact .inr ⟨_,κ,w',by simp[hr],hI,hk⟩
   ·exact h.elim
  ·exact h.elim
 ·obtain⟨l,r,h,hi1,hr⟩:=za9 hi hy h
  obtain⟨h,hv⟩:=yF hi1 hx h;generalize (x'.ev (σ.frzs l)).strip.1=v at h hv;split at h
  ·rename_i τ i off
   split at h
   ·rename_i e sz nl rows ho
    obtain⟨hl,hb,hk⟩:=h;obtain⟨w',hr,hI⟩:=zkw hi1 hn ho (hv rfl) hr hl hb;exact .inr ⟨_,κ,w',by simp[hr],hI,hk⟩
   ·exact h.elim
  ·exact h.elim
 ·exact h.elim
theorem nK {F:Fm} (hF:F.ok a) {o:Oper} (hkp: ∀d,o.dst=some d->F.kp d=false) {f:FuncId} {args:Array Value} (hc:sB P f) (he:(execOp a.eval o).run P w=.ok (.enter f args) w) {Kp:St->Prop}
  (h:Calls P f args w fun e w'=> ∃v κ' σ',e=.returned v/\Inv w0 Z0 κ' σ' (a.put o.dst v).tmps w'/\Kp σ') {Q:Exit->Act->World->Prop}:o.wp P a w (Nx w0 Z0 a.defers F Kp) Q:=by
 unfold Oper.wp;rw[he,Oper.upon_enter];refine h.mono ?_;rintro e w' ⟨v,κ',σ',rfl,hI,hk⟩;exact⟨nJ _ _ _,Fm.put hF hkp _,κ',σ',hI,hk⟩
set_option maxHeartbeats 1000000 in
theorem jV {F:Fm} (hF:F.ok a) {o:Oper} (hkp: ∀d,o.dst=some d->F.kp d=false) {op:AOp} (hc:cOp P o=some op) (hdd: ∀d,o.dst=some d->d<a.tmps.size) (hi:Inv w0 Z0 κ σ a.tmps w) {Kp:St->Prop} (h:zY P σ op Kp) {Q:Exit->Act->World->Prop}:
  o.wp P a w (Nx w0 Z0 a.defers F Kp) Q:=by
 have hc0:=hc;unfold cOp at hc;split at hc
 ·
  rename_i x d ho hd;simp only[Zc] at hc;obtain⟨x',hx,rfl⟩:=hc;exact xD hF hkp hc0 hdd hi h
 ·
  rename_i d ho hd;simp only[Zf,Zb,Zj,Ze] at hc;obtain⟨e,_,n,_,rfl⟩:=hc;exact rS hF hkp (s:=do pure (.value (<-(pure (.slice none 0 0):Sem Value)))) (by simp[execOp,ho,Act.eval]) (by rw[hd];exact zko hi (hdd d hd) h)
 ·rename_i x d _ ho hd
  simp only[Zc] at hc;obtain⟨x',hx,rfl⟩:=hc;exact xD hF hkp hc0 hdd hi h
 ·
  rename_i c x y d ho hd;simp only[Zf,Zb,Zj,Ze] at hc;obtain⟨c',hc',x',hx',y',hy',rfl⟩:=hc;exact xD hF hkp hc0 hdd hi h
 ·
  rename_i e d ho hd;simp only[Zc] at hc;obtain⟨z,hz,rfl⟩:=hc;exact rS hF hkp (s:=do pure (.value (<-Instr.alloc e true (.tuple #[])))) (by simp[execOp,ho]) (by rw[hd];exact zkp hi (hdd d hd) hz h)
 ·
  rename_i e x d ho hd;simp only[Zc] at hc;obtain⟨z,hz,rfl⟩:=hc;exact rS hF hkp (s:=do pure (.value (<-Instr.box e (a.eval x)))) (by simp[execOp,ho]) (by rw[hd];exact zkq hi (hdd d hd) hz h)
 ·
  rename_i t ps d ho hd;simp only[Zf,Zb,Zj,Ze] at hc;obtain⟨z,hz,l,hl,rfl⟩:=hc;exact xD hF hkp hc0 hdd hi h
 ·
  rename_i t len ps d ho hd;simp only[Zf,Zb,Zj] at hc;obtain⟨e,he,n,hn,z,hz,l,hl,hc⟩:=hc;have hu:P.underlying t=some (.slice e):=by unfold uG at he;split at he<;>simp_all
  split at hc
  ·rename_i hb
   cases hc;exact rS hF hkp (s:=do pure (.value (<-Instr.buildSlice t len (ps.map fun(i,x)=>(i,a.eval x))))) (by simp[execOp,ho]) (by rw[hd];exact zku hi (hdd d hd) hu hn hb.1 hb.2 hz hl h)
  ·simp at hc
 ·
  rename_i t x d ho hd;simp only[Zf,Zb,Zj] at hc;obtain⟨n,hn,hc⟩:=hc;split at hc
  ·rename_i h0
   simp only[Zb,Ze] at hc;obtain⟨agg,ha,x',hx',rfl⟩:=hc;exact xD hF hkp hc0 hdd hi h
  ·simp at hc
 ·
  rename_i t x y ho hd;simp only[Zf,Zb,Zj,Ze] at hc;obtain⟨n,hn,x',hx,y',hy,rfl⟩:=hc;exact rS hF hkp (s:=do Instr.storeAt t (a.eval x) (a.eval y);pure .skip) (by simp[execOp,ho]) (by rw[hd];exact zkH hi hn hx hy h)
 ·
  rename_i x d ho hd;simp only[Zc] at hc;obtain⟨x',hx,rfl⟩:=hc;exact xD hF hkp hc0 hdd hi h
 ·
  rename_i op t x y yt d ho hd;have he:execOp a.eval o=(do pure (.value (<-(do eqGuard op t x y (a.eval x) (a.eval y);binOp op t (a.eval x) (a.eval y):Sem Value)))):=by simp[execOp,ho]
  split at hc
  ·rename_i hop
   unfold cEq at hc;split at hc
   ·rename_i hu
    simp only[Zf,Zb,Zj,Ze] at hc;obtain⟨x',hx',y',hy',rfl⟩:=hc;exact xD hF hkp hc0 hdd hi h
   ·simp only[Zf,Zb,Zj,Ze] at hc
    obtain⟨x',hx',y',hy',rfl⟩:=hc;exact xD hF hkp hc0 hdd hi h
   ·simp only[Zf,Zb,Zj,Ze] at hc
    obtain⟨x',hx',y',hy',rfl⟩:=hc;exact xD hF hkp hc0 hdd hi h
   ·rename_i fs hu
    simp only[Zf,Zb,Zj] at hc;obtain⟨ts,hts,hc⟩:=hc;split at hc
    ·rename_i hq
     simp only[Zb,Ze] at hc;obtain⟨x',hx',y',hy',rfl⟩:=hc;exact xD hF hkp hc0 hdd hi h
    ·simp at hc
   ·rename_i e hu
    split at hc
    ·simp only[Zf,Zb,Zj,Ze] at hc
     obtain⟨x',hx',rfl⟩:=hc;exact xD hF hkp hc0 hdd hi h
    ·simp only[Zf,Zb,Zj,Ze] at hc
     obtain⟨x',hx',rfl⟩:=hc;exact xD hF hkp hc0 hdd hi h
    ·simp at hc
   ·simp at hc
  ·simp only[Zf,Zb,Zj,Ze] at hc
   obtain⟨x',hx',y',hy',rfl⟩:=hc;exact xD hF hkp hc0 hdd hi h
 ·
  rename_i op t x d ho hd;simp only[Zc] at hc;obtain⟨x',hx,rfl⟩:=hc;exact xD hF hkp hc0 hdd hi h
 ·
  rename_i src dst x d ho hd;split at hc
  ·rename_i k0 kk hs hdd'
   simp only[Zc] at hc;obtain⟨x',hx,rfl⟩:=hc;exact xD hF hkp hc0 hdd hi h
  ·simp at hc
 ·
  rename_i f first caps d ho hd
  split at hc
  ·rename_i hf
   simp only[Zc] at hc;obtain⟨caps',hx,rfl⟩:=hc;have e:first= #[]:=YK hf
   exact xD hF hkp hc0 hdd hi h
  ·simp at hc
 ·
  rename_i t lx cx d ho hd;simp only[Zf,Zb,Zj] at hc;obtain⟨e,he,n,hn,i,hinfo,hc⟩:=hc;have hu:P.underlying t=some (.slice e):=by unfold uG at he;split at he<;>simp_all
  split at hc
  ·rename_i h0
   simp only[Zb,Ze] at hc;obtain⟨z,hz,l',hl,c',hcx,rfl⟩:=hc;exact rS hF hkp (s:=do pure (.value (<-Instr.makeSlice t (a.eval lx) (a.eval cx)))) (by simp[execOp,ho]) (by rw[hd];exact zkr hi (hdd d hd) hu hinfo hn h0 hz hl hcx h)
  ·simp at hc
 ·
  rename_i t x lo hi' d ho hd;simp only[Zf,Zb] at hc;obtain⟨lo',hlo,hi'',hhi,hc⟩:=hc;have he:execOp a.eval o=(do pure (.value (<-Instr.sliceAt t (a.eval x) (lo.map a.eval) (hi'.map a.eval) none))):=by simp[execOp,ho]
  split at hc
  ·rename_i hu
   simp only[Zj,Zb,Ze] at hc;obtain⟨x',hx',rfl⟩:=hc;exact xD hF hkp hc0 hdd hi h
  ·rename_i e hu
   simp only[Zj,Zb,Ze] at hc;obtain⟨n,hn,x',hx',rfl⟩:=hc;exact xD hF hkp hc0 hdd (hi.frzs _) h
  ·obtain⟨g,l,rfl,rfl,rfl,_,_,_,_,rfl⟩:=mR hc
   exact xD hF hkp hc0 hdd hi h
  ·simp at hc
 ·
  rename_i s x f d ho hd;split at hc
  ·rename_i fs hu
   simp only[Zf,Zb,Zj] at hc;obtain⟨fl,hf,n,hn,hc⟩:=hc;split at hc
   ·rename_i h0
    simp only[Zb,Ze] at hc;obtain⟨x',hx',rfl⟩:=hc;exact xD hF hkp hc0 hdd hi h
   ·simp at hc
  ·simp at hc
 ·
  rename_i s x f d ho hd;split at hc
  ·rename_i fs hu
   simp only[Zf,Zb,Zj] at hc;obtain⟨fl,hf,n,hn,hc⟩:=hc;split at hc
   ·rename_i h0
    simp only[Zb,Ze] at hc;obtain⟨agg,ha,x',hx',rfl⟩:=hc;exact xD hF hkp hc0 hdd hi h
   ·simp at hc
  ·simp at hc
 ·
  rename_i t x i d ho hd;have he:execOp a.eval o=(do pure (.value (<-Instr.indexAt t (a.eval x) (a.eval i)))):=by simp[execOp,ho]
  split at hc
  ·rename_i e hu
   simp only[Zf,Zb,Zj] at hc;obtain⟨n,hn,hc⟩:=hc;split at hc
   ·simp only[Zb,Ze] at hc
    obtain⟨x',hx',i',hi',rfl⟩:=hc;exact xD hF hkp hc0 hdd hi h
   ·simp at hc
  ·rename_i len e hu
   simp only[Zf,Zb,Zj] at hc;obtain⟨n,hn,hc⟩:=hc;split at hc
   ·simp only[Zb,Ze] at hc
    obtain⟨x',hx',i',hi',rfl⟩:=hc;exact xD hF hkp hc0 hdd hi h
   ·simp at hc
  ·simp at hc
 ·
  rename_i t x i d ho hd;have he:execOp a.eval o=(do pure (.value (<-Instr.index t (a.eval x) (a.eval i)))):=by simp[execOp,ho]
  split at hc
  ·rename_i hu
   simp only[Zf,Zb,Zj,Ze] at hc;obtain⟨x',hx',i',hi',rfl⟩:=hc;exact xD hF hkp hc0 hdd hi h
  ·rename_i len e hu
   simp only[Zf,Zb,Zj] at hc;obtain⟨n,hn,hc⟩:=hc;split at hc
   ·rename_i h0
    simp only[Zb,Ze] at hc;obtain⟨agg,ha,x',hx',i',hi',rfl⟩:=hc;exact xD hF hkp hc0 hdd hi h
   ·simp at hc
  ·simp at hc
 ·
  rename_i x i d ho hd;simp only[Zf,Zb,Zj,Ze] at hc;obtain⟨x',hx',rfl⟩:=hc;exact xD hF hkp hc0 hdd hi h
 ·
  rename_i c ho;split at hc
  ·rename_i f hf
   simp only[Zc] at hc;obtain⟨xs,hxs,rfl⟩:=hc;have hm:(c.args.toList.map a.eval++[]).toArray=c.args.map a.eval:=by apply XB;simp
   rcases h with h|h
   ·obtain⟨hcall,hC⟩:=zbi (hi.frzs _) hdd hxs (cs:=[]) (us:=[]) ⟨rfl,by simp⟩ h
    refine nK hF hkp hcall ?_ hC;rw[hm];simp[execOp,ho,resolve,hf,Act.eval,Deferred.ofValue,invoke,nH hcall]
   ·obtain⟨hcall,hC⟩:=zbj hi hdd hxs (caps:=[]) (us:=[]) rfl (by simp) h
    refine nK hF hkp hcall ?_ hC;rw[hm];simp[execOp,ho,resolve,hf,Act.eval,Deferred.ofValue,invoke,nH hcall]
  ·rename_i t hf
   simp only[Zc] at hc;obtain⟨xs,hxs,rfl⟩:=hc;simp only[zY] at h;rcases h with⟨f,caps,hfn,h⟩|h
   ·have hv:=sI hi (x:=.tmp t) (y:=.t t) rfl
    rw[hfn] at hv;obtain⟨_,us,hev,hl,hcap⟩:=hv;obtain⟨hcall,hC⟩:=zbj hi hdd hxs (us:=us.toList) (by simpa using hl) (fun j c hc=>by
     obtain⟨u,hu,hr⟩:=hcap j c hc
     exact⟨u,by simpa using hu,hr⟩) h
    refine nK hF hkp hcall ?_ hC;have hm:(c.args.toList.map a.eval++us.toList).toArray=c.args.map a.eval++us:=by apply XB;simp
    rw[hm];simp[execOp,ho,resolve,hf,hev,Deferred.ofValue,invoke,nH hcall]
   obtain⟨h1,h⟩:=h;have hi':=hi.frzs ((AX.ev σ (.t t)).strip.1.toks++xs.flatMap fun x=>(x.ev σ).strip.1.hard);have hv:=(sI hi' (x:=.tmp t) (y:=.t t) rfl).strip h1;split at h
   ·rename_i f cs hfn
    rw[hfn] at hv;obtain⟨us,hev,hpr⟩:=zbk hv.2;obtain⟨hcall,hC⟩:=zbi hi' hdd hxs hpr h;refine nK hF hkp hcall ?_ hC;have hm:(c.args.toList.map a.eval++us).toArray=c.args.map a.eval++us.toArray:=by apply XB;simp
    rw[hm];simp[execOp,ho,resolve,hf,hev,Deferred.ofValue,invoke,nH hcall]
   ·exact h.elim
  ·rename_i b hb
   split at hc
   ·
    rename_i d x t hd hargs hts;have e1:c.args= #[x]:=by rw[<-ZK (xs:=c.args),hargs]
    have e2:c.argTypes= #[t]:=by rw[<-ZK (xs:=c.argTypes),hts]
    have he:execOp a.eval o=(do pure (.value (<-Builtin.len_ #[t] o.type #[a.eval x]))):=by
     simp[execOp,ho,resolve,hb,invoke,builtin,e1,e2]
    split at hc
    ·rename_i e hu
     simp only[Zc] at hc;obtain⟨x',hx',rfl⟩:=hc;exact xD hF hkp hc0 hdd hi h
    ·rename_i hu
     simp only[Zc] at hc;obtain⟨x',hx',rfl⟩:=hc;exact xD hF hkp hc0 hdd hi h
    ·simp at hc
   ·
    rename_i d x t hd hargs hts;have e1:c.args= #[x]:=by rw[<-ZK (xs:=c.args),hargs]
    have e2:c.argTypes= #[t]:=by rw[<-ZK (xs:=c.argTypes),hts]
    have he:execOp a.eval o=(do pure (.value (<-Builtin.cap_ #[t] o.type #[a.eval x]))):=by
     simp[execOp,ho,resolve,hb,invoke,builtin,e1,e2]
    split at hc
    ·rename_i e hu
     simp only[Zc] at hc;obtain⟨x',hx',rfl⟩:=hc;exact rS hF hkp he (by rw[hd];exact zkG hi (hdd d hd) hu hx' h)
    ·simp at hc
   ·
    rename_i d x y t t' hd hargs hts;simp only[Zf,Zb] at hc;obtain⟨e,he,i,hinfo,z,hz,x',hx,y',hy,hc⟩:=hc;have hu:P.underlying t=some (.slice e):=by unfold uG at he;split at he<;>simp_all
    split at hc
    ·rename_i hb'
     obtain⟨h0,hzs,rfl⟩:=hb';cases hc;have e1:c.args= #[x,y]:=by rw[<-ZK (xs:=c.args),hargs]
     have e2:c.argTypes= #[t',t']:=by rw[<-ZK (xs:=c.argTypes),hts]
     have he:execOp a.eval o=(do pure (.value (<-Builtin.append_ #[t',t'] o.type #[a.eval x,a.eval y]))):=by
      simp[execOp,ho,resolve,hb,invoke,builtin,e1,e2]
     exact rS hF hkp he (by rw[hd];exact zkz hi (hdd d hd) hu hinfo hz h0 hzs hx hy h)
    ·simp at hc
   ·
    rename_i d x ys hd hargs;have e1:c.args=(x::ys).toArray:=by rw[<-ZK (xs:=c.args),hargs]
    simp only[Zf,Zb,Zj,Ze] at hc;obtain⟨x',hx',ys',hys',rfl⟩:=hc;exact xD hF hkp hc0 hdd hi h
   ·
    rename_i d x ys hd hargs;have e1:c.args=(x::ys).toArray:=by rw[<-ZK (xs:=c.args),hargs]
    simp only[Zf,Zb,Zj,Ze] at hc;obtain⟨x',hx',ys',hys',rfl⟩:=hc;exact xD hF hkp hc0 hdd hi h
   ·simp at hc
  ·simp at hc
 ·simp at hc
end
section
variable {P : Program} {w0 : Base} {w : World} {Z0 : Bk -> Prop} {κ : Kap} {σ : St} {a : Act}
set_option maxHeartbeats 1000000 in
theorem zbl {o:Oper} {op:AOp} (hc:cOp P o=some op):op.dst=o.dst:=by
 unfold cOp at hc;split at hc
 ·
  rename_i x d ho hd;simp only[Zc] at hc;obtain⟨x',hx,rfl⟩:=hc
  first|rfl|exact hd.symm
 ·
  rename_i d ho hd;simp only[Zf,Zb,Zj,Ze] at hc;obtain⟨e,_,n,_,rfl⟩:=hc
  first|rfl|exact hd.symm
 ·rename_i x d _ ho hd
  simp only[Zc] at hc;obtain⟨x',hx,rfl⟩:=hc
  first|rfl|exact hd.symm
 ·
  rename_i c x y d ho hd;simp only[Zf,Zb,Zj,Ze] at hc;obtain⟨c',hc',x',hx',y',hy',rfl⟩:=hc
  first|rfl|exact hd.symm
 ·
  rename_i e d ho hd;simp only[Zc] at hc;obtain⟨z,hz,rfl⟩:=hc
  first|rfl|exact hd.symm
 ·
  rename_i e x d ho hd;simp only[Zc] at hc;obtain⟨z,hz,rfl⟩:=hc
  first|rfl|exact hd.symm
 ·
  rename_i t ps d ho hd;simp only[Zf,Zb,Zj,Ze] at hc;obtain⟨z,hz,l,hl,rfl⟩:=hc
  first|rfl|exact hd.symm
 ·
  rename_i t len ps d ho hd;simp only[Zf,Zb,Zj] at hc;obtain⟨e,he,n,hn,z,hz,l,hl,hc⟩:=hc;have hu:P.underlying t=some (.slice e):=by unfold uG at he;split at he<;>simp_all
  split at hc
  ·rename_i hb
   cases hc
   first|rfl|exact hd.symm
  ·simp at hc
 ·
  rename_i t x d ho hd;simp only[Zf,Zb,Zj] at hc;obtain⟨n,hn,hc⟩:=hc;split at hc
  ·rename_i h0
   simp only[Zb,Ze] at hc;obtain⟨agg,ha,x',hx',rfl⟩:=hc
   first|rfl|exact hd.symm
  ·simp at hc
 ·
  rename_i t x y ho hd;simp only[Zf,Zb,Zj,Ze] at hc;obtain⟨n,hn,x',hx,y',hy,rfl⟩:=hc
  first|rfl|exact hd.symm
 ·
  rename_i x d ho hd;simp only[Zc] at hc;obtain⟨x',hx,rfl⟩:=hc
  first|rfl|exact hd.symm
 ·
  rename_i op t x y yt d ho hd;split at hc
  ·rename_i hop
   unfold cEq at hc;split at hc
   ·rename_i hu
    simp only[Zf,Zb,Zj,Ze] at hc;obtain⟨x',hx',y',hy',rfl⟩:=hc
    first|rfl|exact hd.symm
   ·simp only[Zf,Zb,Zj,Ze] at hc
    obtain⟨x',hx',y',hy',rfl⟩:=hc
    first|rfl|exact hd.symm
   ·simp only[Zf,Zb,Zj,Ze] at hc
    obtain⟨x',hx',y',hy',rfl⟩:=hc
    first|rfl|exact hd.symm
   ·rename_i fs hu
    simp only[Zf,Zb,Zj] at hc;obtain⟨ts,hts,hc⟩:=hc;split at hc
    ·rename_i hq
     simp only[Zb,Ze] at hc;obtain⟨x',hx',y',hy',rfl⟩:=hc
     first|rfl|exact hd.symm
    ·simp at hc
   ·rename_i e hu
    split at hc
    ·simp only[Zf,Zb,Zj,Ze] at hc
     obtain⟨x',hx',rfl⟩:=hc
     first|rfl|exact hd.symm
    ·simp only[Zf,Zb,Zj,Ze] at hc
     obtain⟨x',hx',rfl⟩:=hc
     first|rfl|exact hd.symm
    ·simp at hc
   ·simp at hc
  ·simp only[Zf,Zb,Zj,Ze] at hc
   obtain⟨x',hx',y',hy',rfl⟩:=hc
   first|rfl|exact hd.symm
 ·
  rename_i op t x d ho hd;simp only[Zc] at hc;obtain⟨x',hx,rfl⟩:=hc
  first|rfl|exact hd.symm
 ·
  rename_i src dst x d ho hd;split at hc
  ·rename_i k0 kk hs hdd'
   simp only[Zc] at hc;obtain⟨x',hx,rfl⟩:=hc
   first|rfl|exact hd.symm
  ·simp at hc
 ·
  rename_i f first caps d ho hd
  split at hc
  ·rename_i hf
   simp only[Zc] at hc;obtain⟨caps',hx,rfl⟩:=hc;have e:first= #[]:=YK hf
   first|rfl|exact hd.symm
  ·simp at hc
 ·
  rename_i t lx cx d ho hd;simp only[Zf,Zb,Zj] at hc;obtain⟨e,he,n,hn,i,hinfo,hc⟩:=hc;have hu:P.underlying t=some (.slice e):=by unfold uG at he;split at he<;>simp_all
  split at hc
  ·rename_i h0
   simp only[Zb,Ze] at hc;obtain⟨z,hz,l',hl,c',hcx,rfl⟩:=hc
   first|rfl|exact hd.symm
  ·simp at hc
 ·
  rename_i t x lo hi' d ho hd;simp only[Zf,Zb] at hc;obtain⟨lo',hlo,hi'',hhi,hc⟩:=hc;split at hc
  ·rename_i hu
   simp only[Zj,Zb,Ze] at hc;obtain⟨x',hx',rfl⟩:=hc
   first|rfl|exact hd.symm
  ·rename_i e hu
   simp only[Zj,Zb,Ze] at hc;obtain⟨n,hn,x',hx',rfl⟩:=hc
   first|rfl|exact hd.symm
  ·obtain⟨g,l,rfl,rfl,rfl,_,_,_,_,rfl⟩:=mR hc
   exact hd.symm
  ·simp at hc
 ·
  rename_i s x f d ho hd;split at hc
  ·rename_i fs hu
   simp only[Zf,Zb,Zj] at hc;obtain⟨fl,hf,n,hn,hc⟩:=hc;split at hc
   ·rename_i h0
    simp only[Zb,Ze] at hc;obtain⟨x',hx',rfl⟩:=hc
    first|rfl|exact hd.symm
   ·simp at hc
  ·simp at hc
 ·
  rename_i s x f d ho hd;split at hc
  ·rename_i fs hu
   simp only[Zf,Zb,Zj] at hc;obtain⟨fl,hf,n,hn,hc⟩:=hc;split at hc
   ·rename_i h0
    simp only[Zb,Ze] at hc;obtain⟨agg,ha,x',hx',rfl⟩:=hc
    first|rfl|exact hd.symm
   ·simp at hc
  ·simp at hc
 ·
  rename_i t x i d ho hd;split at hc
  ·rename_i e hu
   simp only[Zf,Zb,Zj] at hc;obtain⟨n,hn,hc⟩:=hc;split at hc
   ·simp only[Zb,Ze] at hc
    obtain⟨x',hx',i',hi',rfl⟩:=hc
    first|rfl|exact hd.symm
   ·simp at hc
  ·rename_i len e hu
   simp only[Zf,Zb,Zj] at hc;obtain⟨n,hn,hc⟩:=hc;split at hc
   ·simp only[Zb,Ze] at hc
    obtain⟨x',hx',i',hi',rfl⟩:=hc
    first|rfl|exact hd.symm
   ·simp at hc
  ·simp at hc
 ·
  rename_i t x i d ho hd;split at hc
  ·rename_i hu
   simp only[Zf,Zb,Zj,Ze] at hc;obtain⟨x',hx',i',hi',rfl⟩:=hc
   first|rfl|exact hd.symm
  ·rename_i len e hu
   simp only[Zf,Zb,Zj] at hc;obtain⟨n,hn,hc⟩:=hc;split at hc
   ·rename_i h0
    simp only[Zb,Ze] at hc;obtain⟨agg,ha,x',hx',i',hi',rfl⟩:=hc
    first|rfl|exact hd.symm
   ·simp at hc
  ·simp at hc
 ·
  rename_i x i d ho hd;simp only[Zf,Zb,Zj,Ze] at hc;obtain⟨x',hx',rfl⟩:=hc
  first|rfl|exact hd.symm
 ·
  rename_i c ho;split at hc
  ·rename_i f hf
   simp only[Zc] at hc;obtain⟨xs,hxs,rfl⟩:=hc;rfl
  ·rename_i t hf
   simp only[Zc] at hc;obtain⟨xs,hxs,rfl⟩:=hc;rfl
  ·rename_i b hb
   split at hc
   ·
    rename_i d x t hd hargs hts;have e1:c.args= #[x]:=by rw[<-ZK (xs:=c.args),hargs]
    have e2:c.argTypes= #[t]:=by rw[<-ZK (xs:=c.argTypes),hts]
    split at hc
    ·rename_i e hu
     simp only[Zc] at hc;obtain⟨x',hx',rfl⟩:=hc
     first|rfl|exact hd.symm
    ·rename_i hu
     simp only[Zc] at hc;obtain⟨x',hx',rfl⟩:=hc
     first|rfl|exact hd.symm
    ·simp at hc
   ·
    rename_i d x t hd hargs hts;have e1:c.args= #[x]:=by rw[<-ZK (xs:=c.args),hargs]
    have e2:c.argTypes= #[t]:=by rw[<-ZK (xs:=c.argTypes),hts]
    split at hc
    ·rename_i e hu
     simp only[Zc] at hc;obtain⟨x',hx',rfl⟩:=hc
     first|rfl|exact hd.symm
    ·simp at hc
   ·
    rename_i d x y t t' hd hargs hts;simp only[Zf,Zb] at hc;obtain⟨e,he,i,hinfo,z,hz,x',hx,y',hy,hc⟩:=hc;have hu:P.underlying t=some (.slice e):=by unfold uG at he;split at he<;>simp_all
    split at hc
    ·rename_i hb'
     obtain⟨h0,hzs,rfl⟩:=hb';cases hc;have e1:c.args= #[x,y]:=by rw[<-ZK (xs:=c.args),hargs]
     have e2:c.argTypes= #[t',t']:=by rw[<-ZK (xs:=c.argTypes),hts]
     first|rfl|exact hd.symm
    ·simp at hc
   ·
    rename_i d x ys hd hargs;have e1:c.args=(x::ys).toArray:=by rw[<-ZK (xs:=c.args),hargs]
    simp only[Zf,Zb,Zj,Ze] at hc;obtain⟨x',hx',ys',hys',rfl⟩:=hc
    first|rfl|exact hd.symm
   ·
    rename_i d x ys hd hargs;have e1:c.args=(x::ys).toArray:=by rw[<-ZK (xs:=c.args),hargs]
    simp only[Zf,Zb,Zj,Ze] at hc;obtain⟨x',hx',ys',hys',rfl⟩:=hc
    first|rfl|exact hd.symm
   ·simp at hc
  ·simp at hc
 ·simp at hc
set_option maxHeartbeats 1000000 in
theorem zkI {o:Oper} {op:AOp} (hc:cOp P o=some op) (hs:op.special=true):(∃t len ps,o.op=.buildSlice t len ps)\/(∃c,o.op=.call c)\/(∃t x lo hi,o.op=.slice t x lo hi none):=by
 unfold cOp at hc;split at hc
 ·
  rename_i x d ho hd;simp only[Zc] at hc;obtain⟨x',hx,rfl⟩:=hc
  first|exact .inl ⟨_,_,_,ho⟩|exact .inr (.inl ⟨_,ho⟩)|exact .inr (.inr ⟨_,_,_,_,ho⟩)|(exfalso;simp[AOp.special] at hs;done)
 ·
  rename_i d ho hd;simp only[Zf,Zb,Zj,Ze] at hc;obtain⟨e,_,n,_,rfl⟩:=hc
  first|exact .inl ⟨_,_,_,ho⟩|exact .inr (.inl ⟨_,ho⟩)|exact .inr (.inr ⟨_,_,_,_,ho⟩)|(exfalso;simp[AOp.special] at hs;done)
 ·rename_i x d _ ho hd
  simp only[Zc] at hc;obtain⟨x',hx,rfl⟩:=hc
  first|exact .inl ⟨_,_,_,ho⟩|exact .inr (.inl ⟨_,ho⟩)|exact .inr (.inr ⟨_,_,_,_,ho⟩)|(exfalso;simp[AOp.special] at hs;done)
 ·
  rename_i c x y d ho hd;simp only[Zf,Zb,Zj,Ze] at hc;obtain⟨c',hc',x',hx',y',hy',rfl⟩:=hc
  first|exact .inl ⟨_,_,_,ho⟩|exact .inr (.inl ⟨_,ho⟩)|exact .inr (.inr ⟨_,_,_,_,ho⟩)|(exfalso;simp[AOp.special] at hs;done)
 ·
  rename_i e d ho hd;simp only[Zc] at hc;obtain⟨z,hz,rfl⟩:=hc
  first|exact .inl ⟨_,_,_,ho⟩|exact .inr (.inl ⟨_,ho⟩)|exact .inr (.inr ⟨_,_,_,_,ho⟩)|(exfalso;simp[AOp.special] at hs;done)
 ·
  rename_i e x d ho hd;simp only[Zc] at hc;obtain⟨z,hz,rfl⟩:=hc
  first|exact .inl ⟨_,_,_,ho⟩|exact .inr (.inl ⟨_,ho⟩)|exact .inr (.inr ⟨_,_,_,_,ho⟩)|(exfalso;simp[AOp.special] at hs;done)
 ·
  rename_i t ps d ho hd;simp only[Zf,Zb,Zj,Ze] at hc;obtain⟨z,hz,l,hl,rfl⟩:=hc
  first|exact .inl ⟨_,_,_,ho⟩|exact .inr (.inl ⟨_,ho⟩)|exact .inr (.inr ⟨_,_,_,_,ho⟩)|(exfalso;simp[AOp.special] at hs;done)
 ·
  rename_i t len ps d ho hd;simp only[Zf,Zb,Zj] at hc;obtain⟨e,he,n,hn,z,hz,l,hl,hc⟩:=hc;have hu:P.underlying t=some (.slice e):=by unfold uG at he;split at he<;>simp_all
  split at hc
  ·rename_i hb
   cases hc
   first|exact .inl ⟨_,_,_,ho⟩|exact .inr (.inl ⟨_,ho⟩)|exact .inr (.inr ⟨_,_,_,_,ho⟩)|(exfalso;simp[AOp.special] at hs;done)
  ·simp at hc
 ·
  rename_i t x d ho hd;simp only[Zf,Zb,Zj] at hc;obtain⟨n,hn,hc⟩:=hc;split at hc
  ·rename_i h0
   simp only[Zb,Ze] at hc;obtain⟨agg,ha,x',hx',rfl⟩:=hc
   first|exact .inl ⟨_,_,_,ho⟩|exact .inr (.inl ⟨_,ho⟩)|exact .inr (.inr ⟨_,_,_,_,ho⟩)|(exfalso;simp[AOp.special] at hs;done)
  ·simp at hc
 ·
  rename_i t x y ho hd;simp only[Zf,Zb,Zj,Ze] at hc;obtain⟨n,hn,x',hx,y',hy,rfl⟩:=hc
  first|exact .inl ⟨_,_,_,ho⟩|exact .inr (.inl ⟨_,ho⟩)|exact .inr (.inr ⟨_,_,_,_,ho⟩)|(exfalso;simp[AOp.special] at hs;done)
 ·
  rename_i x d ho hd;simp only[Zc] at hc;obtain⟨x',hx,rfl⟩:=hc
  first|exact .inl ⟨_,_,_,ho⟩|exact .inr (.inl ⟨_,ho⟩)|exact .inr (.inr ⟨_,_,_,_,ho⟩)|(exfalso;simp[AOp.special] at hs;done)
 ·
  rename_i op t x y yt d ho hd;split at hc
  ·rename_i hop
   unfold cEq at hc;split at hc
   ·rename_i hu
    simp only[Zf,Zb,Zj,Ze] at hc;obtain⟨x',hx',y',hy',rfl⟩:=hc
    first|exact .inl ⟨_,_,_,ho⟩|exact .inr (.inl ⟨_,ho⟩)|exact .inr (.inr ⟨_,_,_,_,ho⟩)|(exfalso;simp[AOp.special] at hs;done)
   ·simp only[Zf,Zb,Zj,Ze] at hc
    obtain⟨x',hx',y',hy',rfl⟩:=hc
    first|exact .inl ⟨_,_,_,ho⟩|exact .inr (.inl ⟨_,ho⟩)|exact .inr (.inr ⟨_,_,_,_,ho⟩)|(exfalso;simp[AOp.special] at hs;done)
   ·simp only[Zf,Zb,Zj,Ze] at hc
    obtain⟨x',hx',y',hy',rfl⟩:=hc
    first|exact .inl ⟨_,_,_,ho⟩|exact .inr (.inl ⟨_,ho⟩)|exact .inr (.inr ⟨_,_,_,_,ho⟩)|(exfalso;simp[AOp.special] at hs;done)
   ·rename_i fs hu
    simp only[Zf,Zb,Zj] at hc;obtain⟨ts,hts,hc⟩:=hc;split at hc
    ·rename_i hq
     simp only[Zb,Ze] at hc;obtain⟨x',hx',y',hy',rfl⟩:=hc
     first|exact .inl ⟨_,_,_,ho⟩|exact .inr (.inl ⟨_,ho⟩)|exact .inr (.inr ⟨_,_,_,_,ho⟩)|(exfalso;simp[AOp.special] at hs;done)
    ·simp at hc
   ·rename_i e hu
    split at hc
    ·simp only[Zf,Zb,Zj,Ze] at hc
     obtain⟨x',hx',rfl⟩:=hc
     first|exact .inl ⟨_,_,_,ho⟩|exact .inr (.inl ⟨_,ho⟩)|exact .inr (.inr ⟨_,_,_,_,ho⟩)|(exfalso;simp[AOp.special] at hs;done)
    ·simp only[Zf,Zb,Zj,Ze] at hc
     obtain⟨x',hx',rfl⟩:=hc
     first|exact .inl ⟨_,_,_,ho⟩|exact .inr (.inl ⟨_,ho⟩)|exact .inr (.inr ⟨_,_,_,_,ho⟩)|(exfalso;simp[AOp.special] at hs;done)
    ·simp at hc
   ·simp at hc
  ·simp only[Zf,Zb,Zj,Ze] at hc
   obtain⟨x',hx',y',hy',rfl⟩:=hc
   first|exact .inl ⟨_,_,_,ho⟩|exact .inr (.inl ⟨_,ho⟩)|exact .inr (.inr ⟨_,_,_,_,ho⟩)|(exfalso;simp[AOp.special] at hs;done)
 ·
  rename_i op t x d ho hd;simp only[Zc] at hc;obtain⟨x',hx,rfl⟩:=hc
  first|exact .inl ⟨_,_,_,ho⟩|exact .inr (.inl ⟨_,ho⟩)|exact .inr (.inr ⟨_,_,_,_,ho⟩)|(exfalso;simp[AOp.special] at hs;done)
 ·
  rename_i src dst x d ho hd;split at hc
  ·rename_i k0 kk hs hdd'
   simp only[Zc] at hc;obtain⟨x',hx,rfl⟩:=hc
   first|exact .inl ⟨_,_,_,ho⟩|exact .inr (.inl ⟨_,ho⟩)|exact .inr (.inr ⟨_,_,_,_,ho⟩)|(exfalso;simp[AOp.special] at hs;done)
  ·simp at hc
 ·
  rename_i f first caps d ho hd
  split at hc
  ·rename_i hf
   simp only[Zc] at hc;obtain⟨caps',hx,rfl⟩:=hc;have e:first= #[]:=YK hf
   first|exact .inl ⟨_,_,_,ho⟩|exact .inr (.inl ⟨_,ho⟩)|exact .inr (.inr ⟨_,_,_,_,ho⟩)|(exfalso;simp[AOp.special] at hs;done)
  ·simp at hc
 ·
  rename_i t lx cx d ho hd;simp only[Zf,Zb,Zj] at hc;obtain⟨e,he,n,hn,i,hinfo,hc⟩:=hc;have hu:P.underlying t=some (.slice e):=by unfold uG at he;split at he<;>simp_all
  split at hc
  ·rename_i h0
   simp only[Zb,Ze] at hc;obtain⟨z,hz,l',hl,c',hcx,rfl⟩:=hc
   first|exact .inl ⟨_,_,_,ho⟩|exact .inr (.inl ⟨_,ho⟩)|exact .inr (.inr ⟨_,_,_,_,ho⟩)|(exfalso;simp[AOp.special] at hs;done)
  ·simp at hc
 ·
  rename_i t x lo hi' d ho hd;simp only[Zf,Zb] at hc;obtain⟨lo',hlo,hi'',hhi,hc⟩:=hc;split at hc
  ·rename_i hu
   simp only[Zj,Zb,Ze] at hc;obtain⟨x',hx',rfl⟩:=hc
   first|exact .inl ⟨_,_,_,ho⟩|exact .inr (.inl ⟨_,ho⟩)|exact .inr (.inr ⟨_,_,_,_,ho⟩)|(exfalso;simp[AOp.special] at hs;done)
  ·rename_i e hu
   simp only[Zj,Zb,Ze] at hc;obtain⟨n,hn,x',hx',rfl⟩:=hc
   first|exact .inl ⟨_,_,_,ho⟩|exact .inr (.inl ⟨_,ho⟩)|exact .inr (.inr ⟨_,_,_,_,ho⟩)|(exfalso;simp[AOp.special] at hs;done)
  ·obtain⟨g,l,rfl,rfl,rfl,_,_,_,_,rfl⟩:=mR hc
   simp[AOp.special] at hs
  ·simp at hc
 ·
  rename_i s x f d ho hd;split at hc
  ·rename_i fs hu
   simp only[Zf,Zb,Zj] at hc;obtain⟨fl,hf,n,hn,hc⟩:=hc;split at hc
   ·rename_i h0
    simp only[Zb,Ze] at hc;obtain⟨x',hx',rfl⟩:=hc
    first|exact .inl ⟨_,_,_,ho⟩|exact .inr (.inl ⟨_,ho⟩)|exact .inr (.inr ⟨_,_,_,_,ho⟩)|(exfalso;simp[AOp.special] at hs;done)
   ·simp at hc
  ·simp at hc
 ·
  rename_i s x f d ho hd;split at hc
  ·rename_i fs hu
   simp only[Zf,Zb,Zj] at hc;obtain⟨fl,hf,n,hn,hc⟩:=hc;split at hc
   ·rename_i h0
    simp only[Zb,Ze] at hc;obtain⟨agg,ha,x',hx',rfl⟩:=hc
    first|exact .inl ⟨_,_,_,ho⟩|exact .inr (.inl ⟨_,ho⟩)|exact .inr (.inr ⟨_,_,_,_,ho⟩)|(exfalso;simp[AOp.special] at hs;done)
   ·simp at hc
  ·simp at hc
 ·
  rename_i t x i d ho hd;split at hc
  ·rename_i e hu
   simp only[Zf,Zb,Zj] at hc;obtain⟨n,hn,hc⟩:=hc;split at hc
   ·simp only[Zb,Ze] at hc
    obtain⟨x',hx',i',hi',rfl⟩:=hc
    first|exact .inl ⟨_,_,_,ho⟩|exact .inr (.inl ⟨_,ho⟩)|exact .inr (.inr ⟨_,_,_,_,ho⟩)|(exfalso;simp[AOp.special] at hs;done)
   ·simp at hc
  ·rename_i len e hu
   simp only[Zf,Zb,Zj] at hc;obtain⟨n,hn,hc⟩:=hc;split at hc
   ·simp only[Zb,Ze] at hc
    obtain⟨x',hx',i',hi',rfl⟩:=hc
    first|exact .inl ⟨_,_,_,ho⟩|exact .inr (.inl ⟨_,ho⟩)|exact .inr (.inr ⟨_,_,_,_,ho⟩)|(exfalso;simp[AOp.special] at hs;done)
   ·simp at hc
  ·simp at hc
 ·
  rename_i t x i d ho hd;split at hc
  ·rename_i hu
   simp only[Zf,Zb,Zj,Ze] at hc;obtain⟨x',hx',i',hi',rfl⟩:=hc
   first|exact .inl ⟨_,_,_,ho⟩|exact .inr (.inl ⟨_,ho⟩)|exact .inr (.inr ⟨_,_,_,_,ho⟩)|(exfalso;simp[AOp.special] at hs;done)
  ·rename_i len e hu
   simp only[Zf,Zb,Zj] at hc;obtain⟨n,hn,hc⟩:=hc;split at hc
   ·rename_i h0
    simp only[Zb,Ze] at hc;obtain⟨agg,ha,x',hx',i',hi',rfl⟩:=hc
    first|exact .inl ⟨_,_,_,ho⟩|exact .inr (.inl ⟨_,ho⟩)|exact .inr (.inr ⟨_,_,_,_,ho⟩)|(exfalso;simp[AOp.special] at hs;done)
   ·simp at hc
  ·simp at hc
 ·
  rename_i x i d ho hd;simp only[Zf,Zb,Zj,Ze] at hc;obtain⟨x',hx',rfl⟩:=hc
  first|exact .inl ⟨_,_,_,ho⟩|exact .inr (.inl ⟨_,ho⟩)|exact .inr (.inr ⟨_,_,_,_,ho⟩)|(exfalso;simp[AOp.special] at hs;done)
 ·
  rename_i c ho;split at hc
  ·rename_i f hf
   simp only[Zc] at hc;obtain⟨xs,hxs,rfl⟩:=hc
   first|exact .inl ⟨_,_,_,ho⟩|exact .inr (.inl ⟨_,ho⟩)|exact .inr (.inr ⟨_,_,_,_,ho⟩)|(exfalso;simp[AOp.special] at hs;done)
  ·rename_i t hf
   simp only[Zc] at hc;obtain⟨xs,hxs,rfl⟩:=hc
   first|exact .inl ⟨_,_,_,ho⟩|exact .inr (.inl ⟨_,ho⟩)|exact .inr (.inr ⟨_,_,_,_,ho⟩)|(exfalso;simp[AOp.special] at hs;done)
  ·rename_i b hb
   split at hc
   ·
    rename_i d x t hd hargs hts;have e1:c.args= #[x]:=by rw[<-ZK (xs:=c.args),hargs]
    have e2:c.argTypes= #[t]:=by rw[<-ZK (xs:=c.argTypes),hts]
    split at hc
    ·rename_i e hu
     simp only[Zc] at hc;obtain⟨x',hx',rfl⟩:=hc
     first|exact .inl ⟨_,_,_,ho⟩|exact .inr (.inl ⟨_,ho⟩)|exact .inr (.inr ⟨_,_,_,_,ho⟩)|(exfalso;simp[AOp.special] at hs;done)
    ·rename_i hu
     simp only[Zc] at hc;obtain⟨x',hx',rfl⟩:=hc
     first|exact .inl ⟨_,_,_,ho⟩|exact .inr (.inl ⟨_,ho⟩)|exact .inr (.inr ⟨_,_,_,_,ho⟩)|(exfalso;simp[AOp.special] at hs;done)
    ·simp at hc
   ·
    rename_i d x t hd hargs hts;have e1:c.args= #[x]:=by rw[<-ZK (xs:=c.args),hargs]
    have e2:c.argTypes= #[t]:=by rw[<-ZK (xs:=c.argTypes),hts]
    split at hc
    ·rename_i e hu
     simp only[Zc] at hc;obtain⟨x',hx',rfl⟩:=hc
     first|exact .inl ⟨_,_,_,ho⟩|exact .inr (.inl ⟨_,ho⟩)|exact .inr (.inr ⟨_,_,_,_,ho⟩)|(exfalso;simp[AOp.special] at hs;done)
    ·simp at hc
   ·
    rename_i d x y t t' hd hargs hts;simp only[Zf,Zb] at hc;obtain⟨e,he,i,hinfo,z,hz,x',hx,y',hy,hc⟩:=hc;have hu:P.underlying t=some (.slice e):=by unfold uG at he;split at he<;>simp_all
    split at hc
    ·rename_i hb'
     obtain⟨h0,hzs,rfl⟩:=hb';cases hc;have e1:c.args= #[x,y]:=by rw[<-ZK (xs:=c.args),hargs]
     have e2:c.argTypes= #[t',t']:=by rw[<-ZK (xs:=c.argTypes),hts]
     first|exact .inl ⟨_,_,_,ho⟩|exact .inr (.inl ⟨_,ho⟩)|exact .inr (.inr ⟨_,_,_,_,ho⟩)|(exfalso;simp[AOp.special] at hs;done)
    ·simp at hc
   ·
    rename_i d x ys hd hargs;have e1:c.args=(x::ys).toArray:=by rw[<-ZK (xs:=c.args),hargs]
    simp only[Zf,Zb,Zj,Ze] at hc;obtain⟨x',hx',ys',hys',rfl⟩:=hc
    first|exact .inl ⟨_,_,_,ho⟩|exact .inr (.inl ⟨_,ho⟩)|exact .inr (.inr ⟨_,_,_,_,ho⟩)|(exfalso;simp[AOp.special] at hs;done)
   ·
    rename_i d x ys hd hargs;have e1:c.args=(x::ys).toArray:=by rw[<-ZK (xs:=c.args),hargs]
    simp only[Zf,Zb,Zj,Ze] at hc;obtain⟨x',hx',ys',hys',rfl⟩:=hc
    first|exact .inl ⟨_,_,_,ho⟩|exact .inr (.inl ⟨_,ho⟩)|exact .inr (.inr ⟨_,_,_,_,ho⟩)|(exfalso;simp[AOp.special] at hs;done)
   ·simp at hc
  ·simp at hc
 ·simp at hc
end
section
variable {P : Program} {w0 : Base} {w : World} {Z0 : Bk -> Prop} {κ : Kap} {σ : St} {a : Act}
section
variable {o o' : Nat -> Option O} {κ' : Kap} {Z Z' : Bk -> Prop}
theorem K.fz_pure {x:K} {v:Value} (h:v.oneCell'=true/\yK w Z κ o x v) (hx: ∀e sz nl rows,x≠.newl e sz nl rows) (hz: ∀b,Z b->Z' b):v.oneCell'=true/\yK w Z' κ' o' x.fz v:=by
 refine⟨h.1,?_⟩;cases x with
 |c x=>exact PRep.mono (fun _ _=>rfl) hz h.2
 |newl e sz nl rows=>exact absurd rfl (hx _ _ _ _)
 |_=>trivial
def jW (w:World) (Z Z':Bk->Prop) (κ:Kap) (o:Nat->Option O):Prop:=(∀b,Z b->Z' b)/\ ∀τ ob,o τ=some ob->xA w Z κ o τ ob/\ ∀c b,κ τ=some b->Z' (c,b)
theorem zbm (ht:jW w Z Z' κ o) {n:Nat} {e sz:Nat} {nl:Option Bool} {rows:List (List C)} (ho:o n=some (.arr e sz nl rows)) {v:Value} (h:v.oneCell'=true/\yK w Z κ o (.own n) v):
  v.oneCell'=true/\yK w Z' κ' o' (.c (.list sz nl rows)) v:=by
 refine⟨h.1,?_⟩;obtain⟨h1,h2⟩:=ht.2 n _ ho;have h1':xA w Z' κ o n (.arr e sz nl rows):=by
  rcases h1 with h1|⟨b,cur,cap,g1,g2,g3,g4,g5,g6,g7,g8,g9⟩
  ·exact .inl h1
  ·exact .inr ⟨b,cur,cap,g1,g2,g3,g4,g5,g6,g7,g8,fun i j r c hr hc=>let ⟨v,hv,hp⟩:=g9 i j r c hr hc;⟨v,hv,hp.mono (fun _ _=>rfl) ht.1⟩⟩
 exact(za6 (Z:=Z') ho h1' h2).2.1 e sz nl rows rfl v h.2
theorem fz_row (ht:jW w Z Z' κ o): ∀(r:List K) (n:Nat) (cs:List Value),(∀(i:Nat) ob,(K.regs n r).2[i]?=some ob->o (n+i)=some ob)->zX w Z κ o (K.regs n r).1 cs->zX w Z' κ' o' (r.map K.fz) cs
 |[],n,cs,_,h=>⟨h.1,by simp⟩
 |x::r,n,cs,ho,h=>by
  cases cs with
  |nil=>have:=h.1;cases x<;>simp[K.regs] at this
  |cons v cs=>
   have cons: ∀{k:K} {l:List K},(v.oneCell'=true/\yK w Z' κ' o' k v)->zX w Z' κ' o' l cs->zX w Z' κ' o' (k::l) (v::cs):=by
    intro k l hk hl;refine⟨by simp[hl.1],fun j k' u h1 h2=>?_⟩;cases j with
    |zero=>simp at h1 h2;subst h1;subst h2;exact hk
    |succ j=>exact hl.2 j k' u (by simpa using h1) (by simpa using h2)
   have tl: ∀{k:K} {l:List K},zX w Z κ o (k::l) (v::cs)->zX w Z κ o l cs:=fun h=>⟨by simpa using h.1,fun j k' u h1 h2=>h.2 (j+1) k' u (by simpa using h1) (by simpa using h2)⟩
   by_cases hx: ∃e sz nl rows,x=.newl e sz nl rows
   ·obtain⟨e,sz,nl,rows,rfl⟩:=hx
    simp only[K.regs] at ho h;refine cons (zbm ht (n:=n) (ho 0 _ rfl) (h.2 0 _ _ rfl rfl)) (fz_row ht r (n+1) cs (fun i ob hi=>?_) (tl h));have:=ho (i+1) ob (by simpa using hi);rw[Yy,YX 1 i];exact this
   ·have hx': ∀e sz nl rows,x≠.newl e sz nl rows:=fun e sz nl rows h=>hx ⟨e,sz,nl,rows,h⟩
    rw[regs_same hx'] at ho h;exact cons (K.fz_pure (h.2 0 _ _ rfl rfl) hx' ht.1) (fz_row ht r n cs ho (tl h))
where
 regs_same {x:K} (hx: ∀e sz nl rows,x≠.newl e sz nl rows) {n:Nat} {r:List K}:K.regs n (x::r)=(x::(K.regs n r).1,(K.regs n r).2):=by
  cases x<;>first|rfl|exact absurd rfl (hx _ _ _ _)
mutual
theorem dJ (ht:jW w Z Z' κ o): ∀(r:V) (n:Nat) (v:Value),(∀(i:Nat) ob,(r.reg n).2[i]?=some ob->o (n+i)=some ob)->zD w Z κ o (r.reg n).1 v->zD w Z' κ' o' r.fz v
 | .k x,n,v,ho,h=>by
   by_cases hx: ∃e sz nl rows,x=.newl e sz nl rows
   ·obtain⟨e,sz,nl,rows,rfl⟩:=hx
    exact zbm ht (n:=n) (ho 0 _ rfl) h
   ·have hx': ∀e sz nl rows,x≠.newl e sz nl rows:=fun e sz nl rows h=>hx ⟨e,sz,nl,rows,h⟩
    have e1:(V.k x).reg n=(.k x,[]):=by cases x<;>first|rfl|exact absurd rfl (hx' _ _ _ _)
    rw[e1] at h;exact K.fz_pure h hx' ht.1
 | .agg r,n,v,ho,h=>by
   obtain⟨cs,rfl,hr⟩:=h;exact⟨cs,rfl,hr.mono (fun _ _=>rfl) ht.1⟩
 | .agk r,n,v,ho,h=>by
   obtain⟨cs,rfl,hr⟩:=h;have:=fz_row (κ':=κ') (o':=o') ht r n _ ho hr;simp only[V.fz];split
   ·rename_i l hl
    rw[nF hl] at this;exact⟨cs,rfl,this.toPure⟩
   ·exact⟨cs,rfl,this⟩
 | .tup vs,n,v,ho,h=>by
   obtain⟨us,rfl,hl,hr⟩:=h;have h1:us.toList.length=(V.regL n vs).1.length:=hl;exact⟨us,rfl,by rw[h1,regL_len,fzL_len],fzL_rep ht vs n us.toList ho h1 hr⟩
 | .undef,n,v,ho,h=>trivial
 | .any,n,v,ho,h=>trivial
theorem fzL_rep (ht:jW w Z Z' κ o): ∀(rs:List V) (n:Nat) (vs:List Value),(∀(i:Nat) ob,(V.regL n rs).2[i]?=some ob->o (n+i)=some ob)->vs.length=(V.regL n rs).1.length->VRepL w Z κ o (V.regL n rs).1 vs->VRepL w Z' κ' o' (V.fzL rs) vs
 |[],n,vs,ho,hl,h=>trivial
 |r::rs,n,[],ho,hl,h=>by simp[V.regL] at hl
 |r::rs,n,v::vs,ho,hl,h=>by
  simp only[V.regL] at ho hl h;refine⟨dJ ht r n v (fun i ob hi=>ho i ob ?_) h.1,fzL_rep ht rs _ vs (fun i ob hi=>?_) (by simpa using hl) h.2⟩
  ·rw[ZC (Zr.1 hi).1];exact hi
  ·have:=ho ((r.reg n).2.length+i) ob (by rw[ZD (by omega)];simpa using hi)
   rw[Yy];exact this
theorem regL_len: ∀(rs:List V) (n:Nat),(V.regL n rs).1.length=rs.length
 |[],_=>rfl
 |r::rs,n=>by simp[V.regL,regL_len rs]
theorem fzL_len: ∀(rs:List V),(V.fzL rs).length=rs.length
 |[]=>rfl
 |r::rs=>by simp[V.fzL,fzL_len rs]
end
end
theorem zbn (hi:Inv w0 Z0 κ σ a.tmps w) {d:Nat} (hd:d<a.tmps.size) {f:FuncId} {args:List Operand} {xs:List AX} (hxs:args.mapM ax=some xs) {cs:List C} {us:List Value}
  (hcs:yD w (Zof w0 Z0 κ σ.o w) cs us) {Kp:St->Prop} (h:qK P σ d f xs cs Kp):
  sB P f/\Calls P f (args.map a.eval++us).toArray w fun e w'=> ∃v κ' σ',e=.returned v/\Inv w0 Z0 κ' σ' (a.put (some d) v).tmps w'/\Kp σ':=by
 obtain⟨h1,h2,r,hS,h3,hk⟩:=h;obtain⟨hlen,hget⟩:=jU hxs;refine⟨hS.1,(hS.2 w (rB w0 Z0 κ σ w (xs.flatMap fun x=>(x.ev σ).strip.1.toks)) (args.map a.eval++us).toArray hi.globB (fun b hb=>hb.lt hi) ?_).mono ?_⟩
 ·refine⟨by simp[hlen,hcs.1],fun j x v hx hv=>?_⟩
  simp only at hv;by_cases hj:j<args.length
  ·rw[ZC (by simpa [hlen] using hj)] at hx
   rw[ZC (by simpa using hj)] at hv;simp only[Zv,Zc] at hx hv;obtain⟨x',hx',rfl⟩:=hx;obtain⟨y,hy,rfl⟩:=hv;have hm:=ZI hx';exact zD.norm (h2 x' hm) (dI hi (hget j y x' hy hx') (h1 x' hm) (h2 x' hm) (fun τ hτ=>XH.2 ⟨x',hm,hτ⟩))
  ·rw[ZD (by simp[hlen];omega)] at hx
   rw[ZD (by simp;omega)] at hv;simp only[Zg,hlen] at hx hv;simp only[Zv,Zc] at hx;obtain⟨c,hc,rfl⟩:=hx;have hp:=hcs.2 _ c v hc hv;exact⟨rfl,hp.oneCell,(hp.mono (fun _ _=>rfl) (fun b hb=> .inl hb)).norm⟩
 ·rintro e w' ⟨v,r',rfl,rfl,hcl,hrep⟩
  obtain⟨κr,hI⟩:=hrep 0;have hv:=hI.tmps 0;have e3:(#[v]:Array Value).getD 0 undef=v:=rfl;simp only[e3,if_true] at hv;have hi':=hi.later hI.kept;refine⟨v,κ,σ.put d r'.fz,rfl,hi'.put hd ?_,hk⟩;rcases h3 with h3|h3
  ·simp only[dH 0 r' h3] at hv
   have e4:r'.fz=r':=scalar_fz r' h3;rw[e4];exact dG r' h3 hv
  ·refine dJ (Z:=Zof (base w) (rB w0 Z0 κ σ w (xs.flatMap fun x=>(x.ev σ).strip.1.toks)) κr (zS 0 (r'.reg 0).2) w') (κ:=κr) (o:=zS 0 (r'.reg 0).2) ⟨fun b hb=>?_,fun τ ob hob=>⟨hI.objs τ ob hob,fun c b hb=>?_⟩⟩ r' 0 v (fun i ob hob=>?_) hv
   ·obtain⟨g1,g2,g3⟩:=hb
    have hsz:=hI.kept.size;rcases g1 with⟨g1,g4⟩|g1
    ·rcases g1 with g1|⟨τ,hτ,_⟩
     ·exact⟨g1.1.imp id fun h=>⟨h.1,nG (hI.kept.block b.2 g1.2.1) h.2⟩,g2,g1.2.2⟩
     ·obtain⟨x,hx,hx'⟩:=XH.1 hτ
      rw[h3 x hx] at hx';simp at hx'
    ·refine⟨.inr ⟨hi.kept.fresh (Xh g1.1),g1.2⟩,g2,fun τ hτ hκ=>?_⟩
     exact g1.1 (hi.own τ b.2 hτ hκ).2
   ·have:=hI.own τ b (by simp only[hob];simp) hb
    refine⟨.inr ⟨hi.kept.fresh (Xh this.1),jP (hI.objs τ ob hob) hb⟩,this.2,fun τ hτ hκ=>?_⟩;exact this.1 (hi.own τ b hτ hκ).2
   ·simp only[zS,ZB,if_true,XE,ZU];exact hob
where
 scalar_fz: ∀(r:V),r.scalar=true->r.fz=r
  | .k (.c _),_=>rfl
  | .tup vs,h=>by
    simp only[V.scalar] at h;simp only[V.fz,scalar_fzL vs h]
  | .k (.own _),h=>by simp[V.scalar] at h
  | .k (.ptr _ _),h=>by simp[V.scalar] at h
  | .k (.elem _ _ _),h=>by simp[V.scalar] at h
  | .k (.pel _ _ _ _),h=>by simp[V.scalar] at h
  | .k (.fnk _ _),h=>by simp[V.scalar] at h
  | .k (.newl _ _ _ _),h=>by simp[V.scalar] at h
  | .k .dead,h=>by simp[V.scalar] at h
  | .agg _,h=>by simp[V.scalar] at h
  | .agk _,h=>by simp[V.scalar] at h
  | .undef,h=>by simp[V.scalar] at h
  | .any,h=>by simp[V.scalar] at h
 scalar_fzL: ∀(rs:List V),V.scalarL rs=true->V.fzL rs=rs
  |[],_=>rfl
  |r::rs,h=>by
   simp only[V.scalarL,Zp] at h;simp only[V.fzL,scalar_fz r h.1,scalar_fzL rs h.2]
theorem zbo (hi:Inv w0 Z0 κ σ a.tmps w): ∀(parts:List (Nat×Operand)) (ps:List (Nat×AX)) {Kp:List (Nat×List C)->Prop},
  (parts.mapM fun(p:Nat×Operand)=>(ax p.2).map fun x=>(p.1,x))=some ps->wZ σ ps Kp->
  ∃rs,Kp rs/\rs.length=parts.length/\ ∀(j:Nat) p r,parts[j]?=some p->rs[j]?=some r->r.1=p.1/\yD w (Zof w0 Z0 κ σ.o w) r.2 (a.eval p.2).cells.toList
 |[],ps,Kp,hps,h=>by
  simp at hps;subst hps;exact⟨[],h,rfl,by simp⟩
 |(i,x)::parts,ps,Kp,hps,h=>by
  simp only[Yw,Zf,Zb,Zj,Ze,Zc] at hps;obtain⟨p,⟨x',hx',rfl⟩,ps',hps',rfl⟩:=hps;simp only[wZ] at h;obtain⟨h1,h⟩:=h;split at h
  ·rename_i r hr
   obtain⟨rs,h,hl,hrs⟩:=zbo hi parts ps' hps' h;refine⟨(i,r)::rs,h,by simp[hl],fun j p q hp hq=>?_⟩;cases j with
   |zero=>
    simp at hp hq;subst hp;subst hq;exact⟨rfl,pure_row hr ((sI hi hx').strip h1)⟩
   |succ j=>exact hrs j p q (by simpa using hp) (by simpa using hq)
  ·exact h.elim
theorem zkJ (hi:Inv w0 Z0 κ σ a.tmps w) {t e d n len:Nat} (hd:d<a.tmps.size) (ht:P.underlying t=some (.slice e)) (hn:yJ P e=some n) (h0:0<n) (hle:(len+1)*n<=2 ^ 24) {zero:List C} (hz:sG P e=some zero)
  {parts:Array (Nat×Operand)} {ps:List (Nat×AX)} (hps:(parts.toList.mapM fun(p:Nat×Operand)=>(ax p.2).map fun x=>(p.1,x))=some ps) {Kp:St->Prop} (h:zU P σ (.bslice d e n zero (len+1) ps) Kp):
  sJ P w0 Z0 a w Kp (some d) (do pure (.value (<-Instr.buildSlice t (len+1) (parts.map fun(i,x)=>(i,a.eval x))))):=by
 simp only[zU] at h;obtain⟨rs,⟨hzl,hb,hk⟩,hlen,hrs⟩:=zbo hi parts.toList ps hps h;obtain⟨i,z,hinfo,hzero,hzrow⟩:=mV hz;have hni:i.size=n:=by simpa [yJ,hinfo] using hn
 have hzs:z.cells.size=n:=by have:=(hzrow w (fun _=>True)).1;simp at this;omega
 have hA0:qT w (Zof w0 Z0 κ σ.o w) n (len+1) (List.replicate (len+1) zero) (madeCells z.cells ((len+1)*n)):=by
  refine⟨by simp,size_madeCells _ _,by intro r hr;rw[List.eq_of_mem_replicate hr];exact hzl,fun i j r c hr hc=>?_⟩;rw[List.getElem?_replicate] at hr;split at hr
  ·rename_i hi'
   cases hr;have hj:j<n:=by rw[<-hzl];exact(Zr.1 hc).1
   rw[dD z.cells (len+1) i j n hzs h0 hi' hj];have hlt:j<z.cells.size:=by omega
   exact⟨z.cells[j],Z8 hlt,(hzrow w _).2 j c _ hc (by simp[hlt])⟩
  ·simp at hr
 obtain⟨cells',hfill,hA⟩:=dE (parts.toList.map fun p=>(p.1,a.eval p.2)) rs _ _ hA0 (by simp) (by simp[hlen]) (fun j p r h1 h2=>by
  simp only[Zv,Zc] at h1
  obtain⟨q,hq,rfl⟩:=h1
  exact hrs j q r hq h2) hb
 obtain⟨c1,c2,c3,c4⟩:=hA;have c0:(rs.foldl (fun rows p=>rows.set p.1 p.2) (List.replicate (len+1) zero)).length=len+1:=by rw[zbc];simp
 have hkept:=sK w (.cells cells' e);have hi':=hi.later hkept;have hv:zD (w.alloc (.cells cells' e)) (Zof w0 Z0 κ σ.o (w.alloc (.cells cells' e))) κ σ.o (.list n (some false) (rs.foldl (fun rows p=>rows.set p.1 p.2) (List.replicate (len+1) zero))) (.slice (some ⟨w.heap.size,0,none⟩) (len+1) (len+1)):=by
  refine⟨rfl,?_⟩;show PRep _ _ _ _;have hm:=mU (w:=w.alloc (.cells cells' e)) (Z:=Zof w0 Z0 κ σ.o (w.alloc (.cells cells' e))) (b:=w.heap.size) (q:=0) (cap:=len+1) (sz:=n) (nl:=some false)
   (rows:=rs.foldl (fun rows p=>rows.set p.1 p.2) (List.replicate (len+1) zero)) (by simp) (by omega) (by have:len+1<=(len+1)*n:=Nat.le_mul_of_pos_right _ h0;simp only[maxLen];omega) ⟨fun _=>?_,c3,fun i j r c hr hc=>?_⟩
  ·rw[c0] at hm;exact hm
  ·refine⟨.inr ⟨hi.kept.fresh (Zs _),fun cur e f hc=>by rw[alloc_get] at hc;cases hc;rfl⟩,xV (alloc_get w _),fun τ hτ hκ=>?_⟩
   have:=(hi.own τ _ hτ hκ).2;omega
  ·obtain⟨v,hv,hp⟩:=c4 i j r c hr hc
   refine⟨v,by rw[ZU,cell_of_row _ w.heap.size _ cells' e (0,0) (alloc_get w _)];exact hv,hp.mono (hkept.same _ (fun b hb=>hb.2.1)) (fun b hb=>⟨hb.1.imp id fun h=>⟨h.1,nG (hkept.block b.2 hb.2.1) h.2⟩,ZL hb.2.1 hkept.size,hb.2.2⟩)⟩
 refine vT (u:=.slice (some ⟨w.heap.size,0,none⟩) (len+1) (len+1)) (w':=w.alloc (.cells cells' e)) ?_ (hi'.put hd hv) hk;have n1: ¬((len+1)*n>2 ^ 24):=by omega
 have hzv:(zeroValue e).run P w=.ok z w:=by simp[zeroValue,typeInfo,hinfo,hzero]
 have hz0: ¬(len+1)*n=0:=by
  have:0<(len+1)*n:=Nat.mul_pos (by omega) h0;omega
 unfold madeCells at hfill;simp[Instr.buildSlice,run_underlying ht,vA hn,hz0,n1,hzv,hfill,newRow]
theorem zbp {F:Fm} (hF:F.ok a) {o:Oper} (hkp: ∀d,o.dst=some d->F.kp d=false) {op:AOp} (hc:cOp P o=some op) (hdd: ∀d,o.dst=some d->d<a.tmps.size) (hi:Inv w0 Z0 κ σ a.tmps w) {Kp:St->Prop} (h:zU P σ op Kp) {Q:Exit->Act->World->Prop}:
  o.wp P a w (Nx w0 Z0 a.defers F Kp) Q:=by
 by_cases hs:op.special=true
 case neg=>
  have he:=jD (P:=P) (op:=op) (by simpa using hs);rw[congrFun (congrFun he σ) Kp] at h;exact jV hF hkp hc hdd hi h
 rcases zkI hc hs with⟨t,len,ps,ho⟩|⟨c,ho⟩|⟨t,x,lo,hi',ho⟩
 ·have hc':=hc
  simp only[cOp,ho] at hc';cases hd:o.dst with
  |none=>rw[hd] at hc';simp at hc'
  |some d=>
   rw[hd] at hc';simp only[Zf,Zb,Zj] at hc';obtain⟨e',he,n,hn,z,hz,l,hl,hc'⟩:=hc';have hu:P.underlying t=some (.slice e'):=by unfold uG at he;split at he<;>simp_all
   split at hc'
   ·rename_i hb
    cases hc';cases len with
    |zero=>simp[AOp.special] at hs
    |succ len=>exact rS hF hkp (s:=do pure (.value (<-Instr.buildSlice t (len+1) (ps.map fun(i,x)=>(i,a.eval x))))) (by simp[execOp,ho]) (by rw[hd];exact zkJ hi (hdd d hd) hu hn hb.1 hb.2 hz hl h)
   ·simp at hc'
 ·have hc':=hc
  simp only[cOp,ho] at hc';split at hc'
  ·rename_i f hf
   simp only[Zc] at hc';obtain⟨xs,hxs,rfl⟩:=hc';cases hd:o.dst with
   |none=>rw[hd] at hs;simp[AOp.special] at hs
   |some d=>
    rw[hd] at h;obtain⟨hcall,hC⟩:=zbn hi (hdd d hd) hxs (cs:=[]) (us:=[]) ⟨rfl,by simp⟩ h;rw[<-hd] at hC;refine nK hF hkp hcall ?_ hC;have hm:(c.args.toList.map a.eval++[]).toArray=c.args.map a.eval:=by apply XB;simp
    rw[hm];simp[execOp,ho,resolve,hf,Act.eval,Deferred.ofValue,invoke,nH hcall]
  ·rename_i t hf
   simp only[Zc] at hc';obtain⟨xs,hxs,rfl⟩:=hc';cases hd:o.dst with
   |none=>rw[hd] at hs;simp[AOp.special] at hs
   |some d=>
    rw[hd] at h;simp only[zU] at h;obtain⟨h1,h⟩:=h;have hv:=(sI hi (x:=.tmp t) (y:=.t t) rfl).strip h1;split at h
    ·rename_i f cs hfn
     rw[hfn] at hv;obtain⟨us,hev,hpr⟩:=zbk hv.2;obtain⟨hcall,hC⟩:=zbn hi (hdd d hd) hxs hpr h;rw[<-hd] at hC;refine nK hF hkp hcall ?_ hC;have hm:(c.args.toList.map a.eval++us).toArray=c.args.map a.eval++us.toArray:=by apply XB;simp
     rw[hm];simp[execOp,ho,resolve,hf,hev,Deferred.ofValue,invoke,nH hcall]
    ·exact h.elim
  ·rename_i b hb
   exfalso;split at hc'<;>try simp only[Zf,Zb,Zj,Ze,Zc] at hc'
   ·split at hc'
    ·simp only[Zc] at hc'
     obtain⟨_,_,rfl⟩:=hc';simp[AOp.special] at hs
    ·simp only[Zc] at hc'
     obtain⟨_,_,rfl⟩:=hc';simp[AOp.special] at hs
    ·simp at hc'
   ·split at hc'
    ·simp only[Zc] at hc'
     obtain⟨_,_,rfl⟩:=hc';simp[AOp.special] at hs
    ·simp at hc'
   ·obtain⟨e,he,i,hinfo,z,hz,x',hx,y',hy,hc'⟩:=hc'
    split at hc'
    ·cases hc';simp[AOp.special] at hs
    ·simp at hc'
   ·obtain⟨_,_,_,_,rfl⟩:=hc';simp[AOp.special] at hs
   ·obtain⟨_,_,_,_,rfl⟩:=hc';simp[AOp.special] at hs
   ·simp at hc'
  ·simp at hc'
 ·cases op
  case slice d sz x lo hi'=>
   simp only[zU] at h;refine jV hF hkp hc hdd hi ?_;simp only[zY];rw[h.1];exact h.2
  all_goals
   exfalso;simp only[cOp,ho] at hc;cases hd:o.dst with
   |none=>rw[hd] at hc;simp at hc
   |some d=>
    rw[hd] at hc;simp only[Zf,Zb] at hc;obtain⟨lo',hlo,hi'',hhi,hc⟩:=hc
    first
     |(simp[AOp.special] at hs;done)
     |(split at hc<;>first|(simp[Zb] at hc;done)|(obtain⟨_,_,_,_,_,_,_,_,_,e⟩:=mR hc;cases e))
end
section
variable {P : Program} {w0 : Base} {w : World} {Z0 : Bk -> Prop} {κ : Kap} {σ : St} {a : Act} {fr : Array Value}
theorem zbq {ops:Array Oper} {j s:Nat} {o':Oper} (ho:ops[j]?=some o') (hs:o'.dst=some s) (hlt:s<a.tmps.size):
  yielded ops a.tmps j=match a.tmps.getD s undef with| .bool b=>some b|_=>none:=by
 unfold yielded;simp only[ho,Y8,hs];have:a.tmps[s]?=some (a.tmps.getD s undef):=by
  rw[ZP,Z8 hlt];rfl
 rw[this];cases a.tmps.getD s undef<;>rfl
theorem zbr {F:Fm} {ops:Array Oper} {Q:Exit->Act->World->Prop} {i:Nat} {o:Oper} {ai:AI} (ho:ops[i]?=some o) (hc:cAI P F.n ops o=some ai) (hF:F.ok a) (hav:ai.avoids F.kp=true) (hi:Inv w0 Z0 κ σ a.tmps w)
  {Kp:St->Prop} (h:uO P ai Kp σ):wpOp P ops Q i (Nx w0 Z0 a.defers F Kp) a w:=by
 have hn:=hF.1;unfold cAI at hc;simp only[Zf,Zb] at hc;obtain⟨op,hop,hc⟩:=hc;have hdst:=zbl hop;rw[Option.ite_none_right_eq_some] at hc;obtain⟨hb,hc⟩:=hc;have hai:ai.op=op:=by
  cases hg:o.guard with
  |none=>
   rw[hg] at hc;simp only[Zj,Ze] at hc;rw[<-hc]
  |some jw=>
   obtain⟨j,want⟩:=jw;rw[hg] at hc;simp only[Zf,Zb] at hc;obtain⟨o',ho',s,hs,hc⟩:=hc;split at hc
   ·simp only[Zj,Ze] at hc
    rw[<-hc]
   ·simp at hc
 have hkp: ∀d,o.dst=some d->F.kp d=false:=by
  intro d hd;simp only[AI.avoids,hai,hdst,hd] at hav;simpa using hav
 have hdd: ∀d,o.dst=some d->d<a.tmps.size:=by
  intro d hd;rw[hd] at hb;rw[hn];simpa using hb
 have skip: ∀(v:V),Kp (putD σ op.dst v)->zD w (Zof w0 Z0 κ σ.o w) κ σ.o v undef->Nx w0 Z0 a.defers F Kp (a.put o.dst undef) w:=by
  intro v hk hv;refine⟨nJ _ _ _,Fm.put hF hkp _,κ,putD σ op.dst v,?_,hk⟩;rw[hdst];cases hd:o.dst with
  |none=>exact hi
  |some d=>exact hi.put (hdd d hd) hv
 unfold wpOp;simp only[ho];cases hg:o.guard with
 |none=>
  rw[hg] at hc;simp only[Zj,Ze] at hc;subst hc;have hw:Region.wanted o (yielded ops a.tmps)=true:=by simp[Region.wanted,hg]
  rw[if_pos hw];left;exact jV hF hkp hop hdd hi (Q:=Q) (Kp:=Kp) h
 |some jw=>
  obtain⟨j,want⟩:=jw;rw[hg] at hc;simp only[Zf,Zb] at hc;obtain⟨o',ho',s,hs,hc⟩:=hc;by_cases hlt:s<F.n
  case neg=>rw[if_neg hlt] at hc;simp at hc
  rw[if_pos hlt] at hc;simp only[Zj,Ze] at hc;subst hc;have hw:Region.wanted o (yielded ops a.tmps)=(yielded ops a.tmps j==some want):=by simp[Region.wanted,hg]
  rw[zbq ho' hs (by rw[hn];exact hlt)] at hw;have hv:=hi.tmps s;simp only[uO] at h;generalize σ.t s=x at h hv;split at h
  ·rename_i b
   have hwant:Region.wanted o (yielded ops a.tmps)=(b==want):=by
    rw[hw,uR hv];simp
   by_cases hq:(b==want)=true
   ·rw[if_pos (by rw[hwant];exact hq)]
    left;exact jV hF hkp hop hdd hi (Q:=Q) (Kp:=Kp) (h.1 hq)
   ·rw[if_neg (by rw[hwant];exact hq)]
    exact skip .undef (h.2 (by simpa using hq)) rfl
  ·have hwant: ¬Region.wanted o (yielded ops a.tmps)=true:=by
    have hu:a.tmps.getD s undef=undef:=hv;rw[hw,hu];simp[undef]
   rw[if_neg hwant];exact skip .undef h rfl
  ·exact h.elim
theorem zbs {F:Fm} {ops:Array Oper} {Q:Exit->Act->World->Prop} {D:List Deferred} {Kp:St->Prop} (hQ: ∀a w,Nx w0 Z0 D F Kp a w->Q .normal a w):
  ∀(os:List Oper) (l:List AI) (k:Nat),(∀j:Nat,j<os.length->os[j]?=ops[k+j]?)->os.mapM (cAI P F.n ops)=some l->l.all (AI.avoids F.kp)=true-> ∀(a:Act) (w:World) (κ:Kap) (σ:St),a.defers=D->F.ok a->Inv w0 Z0 κ σ a.tmps w->sF P l Kp σ->
  wpOps P ops Q (Xk k os.length) a w
 |[],l,k,_,hl,_,a,w,κ,σ,hD,hn,hi,h=>by
  simp at hl;subst hl;obtain⟨σ1,hle,h⟩:=h;obtain⟨κ1,hi⟩:=hle _ _ _ _ _ hi;exact hQ a w ⟨hD,hn,κ1,σ1,hi,h⟩
 |o::os,l,k,hk,hl,hav,a,w,κ,σ,hD,hn,hi,h=>by
  simp only[Yw,Zf,Zb,Zj,Ze] at hl;obtain⟨ai,hai,l',hl',rfl⟩:=hl;simp only[Zn,List.range'_succ];rw[wpOps_cons];have ho:ops[k]?=some o:=by have:=hk 0 (by simp);simpa using this.symm
  simp only[Ys,Zp] at hav;obtain⟨σ1,hle,h⟩:=h;obtain⟨κ1,hi⟩:=hle _ _ _ _ _ hi;have:=zbr (Q:=Q) ho hai hn hav.1 hi h;rw[hD] at this;refine wpOp_mono (fun a' w' h'=>?_) this;obtain⟨hD',hn',κ',σ',hi',h'⟩:=h';exact zbs hQ os l' (k+1) (fun j hj=>by have:=hk (j+1) (by simpa using hj);rw[Yy,YX 1 j];simpa using this) hl' hav.2 a' w' κ' σ' hD' hn' hi' h'
theorem zbt {F:Fm} {ops:Array Oper} {Q:Exit->Act->World->Prop} {i:Nat} {o:Oper} {ai:AI} (ho:ops[i]?=some o) (hc:cAI P F.n ops o=some ai) (hF:F.ok a) (hav:ai.avoids F.kp=true) (hi:Inv w0 Z0 κ σ a.tmps w)
  {Kp:St->Prop} (h:wpQ P ai Kp σ):wpOp P ops Q i (Nx w0 Z0 a.defers F Kp) a w:=by
 have hn:=hF.1;unfold cAI at hc;simp only[Zf,Zb] at hc;obtain⟨op,hop,hc⟩:=hc;have hdst:=zbl hop;rw[Option.ite_none_right_eq_some] at hc;obtain⟨hb,hc⟩:=hc;have hai:ai.op=op:=by
  cases hg:o.guard with
  |none=>
   rw[hg] at hc;simp only[Zj,Ze] at hc;rw[<-hc]
  |some jw=>
   obtain⟨j,want⟩:=jw;rw[hg] at hc;simp only[Zf,Zb] at hc;obtain⟨o',ho',s,hs,hc⟩:=hc;split at hc
   ·simp only[Zj,Ze] at hc
    rw[<-hc]
   ·simp at hc
 have hkp: ∀d,o.dst=some d->F.kp d=false:=by
  intro d hd;simp only[AI.avoids,hai,hdst,hd] at hav;simpa using hav
 have hdd: ∀d,o.dst=some d->d<a.tmps.size:=by
  intro d hd;rw[hd] at hb;rw[hn];simpa using hb
 have skip: ∀(v:V),Kp (putD σ op.dst v)->zD w (Zof w0 Z0 κ σ.o w) κ σ.o v undef->Nx w0 Z0 a.defers F Kp (a.put o.dst undef) w:=by
  intro v hk hv;refine⟨nJ _ _ _,Fm.put hF hkp _,κ,putD σ op.dst v,?_,hk⟩;rw[hdst];cases hd:o.dst with
  |none=>exact hi
  |some d=>exact hi.put (hdd d hd) hv
 unfold wpOp;simp only[ho];cases hg:o.guard with
 |none=>
  rw[hg] at hc;simp only[Zj,Ze] at hc;subst hc;have hw:Region.wanted o (yielded ops a.tmps)=true:=by simp[Region.wanted,hg]
  rw[if_pos hw];left;exact zbp hF hkp hop hdd hi (Q:=Q) (Kp:=Kp) h
 |some jw=>
  obtain⟨j,want⟩:=jw;rw[hg] at hc;simp only[Zf,Zb] at hc;obtain⟨o',ho',s,hs,hc⟩:=hc;by_cases hlt:s<F.n
  case neg=>rw[if_neg hlt] at hc;simp at hc
  rw[if_pos hlt] at hc;simp only[Zj,Ze] at hc;subst hc;have hw:Region.wanted o (yielded ops a.tmps)=(yielded ops a.tmps j==some want):=by simp[Region.wanted,hg]
  rw[zbq ho' hs (by rw[hn];exact hlt)] at hw;have hv:=hi.tmps s;simp only[wpQ] at h;generalize σ.t s=x at h hv;split at h
  ·rename_i b
   have hwant:Region.wanted o (yielded ops a.tmps)=(b==want):=by
    rw[hw,uR hv];simp
   by_cases hq:(b==want)=true
   ·rw[if_pos (by rw[hwant];exact hq)]
    left;exact zbp hF hkp hop hdd hi (Q:=Q) (Kp:=Kp) (h.1 hq)
   ·rw[if_neg (by rw[hwant];exact hq)]
    exact skip .undef (h.2 (by simpa using hq)) rfl
  ·have hwant: ¬Region.wanted o (yielded ops a.tmps)=true:=by
    have hu:a.tmps.getD s undef=undef:=hv;rw[hw,hu];simp[undef]
   rw[if_neg hwant];exact skip .undef h rfl
  ·exact h.elim
theorem jX {α β:Type} {f:α->Option β}: ∀{l:List α} {l':List β},l.mapM f=some l'-> ∀(i:Nat) x,l[i]?=some x-> ∃y,l'[i]?=some y/\f x=some y
 |[],l',h,i,x,hx=>by simp at hx
 |a::l,l',h,i,x,hx=>by
  simp only[Yw,Zf,Zb,Zj,Ze] at h;obtain⟨y,hy,l2,hl,rfl⟩:=h;cases i with
  |zero=>simp at hx;subst hx;exact⟨y,rfl,hy⟩
  |succ i=>exact jX hl i x (by simpa using hx)
theorem jY {α β:Type} {f:α->Option β}: ∀{l:List α} {l':List β},l.mapM f=some l'->l'.length=l.length
 |[],l',h=>by simp at h;subst h;rfl
 |a::l,l',h=>by
  simp only[Yw,Zf,Zb,Zj,Ze] at h;obtain⟨y,hy,l2,hl,rfl⟩:=h;simp[jY hl]
theorem zbu {F:Fm} {ops:Array Oper} {Q:Exit->Act->World->Prop} {D:List Deferred} {Kp:St->Prop} (hQ: ∀a w,Nx w0 Z0 D F Kp a w->Q .normal a w) {ais:List AI} (hl:ops.toList.mapM (cAI P F.n ops)=some ais) (hav:ais.all (AI.avoids F.kp)=true):
  ∀(l:List Nat),(∀i,i∈l->i<ops.size)-> ∀(a:Act) (w:World) (κ:Kap) (σ:St),a.defers=D->F.ok a->Inv w0 Z0 κ σ a.tmps w->xQ P (l.map fun i=>ais.getD i default) Kp σ->
  wpOps P ops Q l a w
 |[],_,a,w,κ,σ,hD,hn,hi,h=>hQ a w ⟨hD,hn,κ,σ,hi,h⟩
 |i::l,hlt,a,w,κ,σ,hD,hn,hi,h=>by
  rw[wpOps_cons];have hlt0:i<ops.size:=hlt i Yh;have ho:ops[i]?=some ops[i]:=by simp[hlt0]
  obtain⟨ai,hai,hcai⟩:=jX hl i _ (by rw[Yr];exact ho);simp only[Zl,xQ] at h;have e:ais.getD i default=ai:=by rw[Zi,hai];rfl
  rw[e] at h;have:=zbt (Q:=Q) ho hcai hn (Zw.1 hav _ (ZI hai)) hi h;rw[hD] at this;refine wpOp_mono (fun a' w' h'=>?_) this;obtain⟨hD',hn',κ',σ',hi',h'⟩:=h';exact zbu hQ hl hav l (fun i hi=>hlt i (Zz _ hi)) a' w' κ' σ' hD' hn' hi' h'
theorem zbv {F:Fm} {ops:Array Oper} {Q:Exit->Act->World->Prop} {D:List Deferred} {Kp:St->Prop} (hQ: ∀a w,Nx w0 Z0 D F Kp a w->Q .normal a w) {az:List AI} {x:AI} (hl:ops.toList.mapM (cAI P F.n ops)=some (az++[x])) (hav:(az++[x]).all (AI.avoids F.kp)=true) (hm:az.length<ops.size):
  ∀(l:List Nat),(∀i,i∈l->i<ops.size)-> ∀(a:Act) (w:World) (κ:Kap) (σ:St),a.defers=D->F.ok a->Inv w0 Z0 κ σ a.tmps w->xQ P (l.map fun i=>(az++[x]).getD i default) (uO P x Kp) σ->
  wpOps P ops Q (l++[az.length]) a w
 |[],_,a,w,κ,σ,hD,hn,hi,h=>by
  rw[Ya,wpOps_cons];have ho:ops[az.length]?=some ops[az.length]:=by simp[hm]
  obtain⟨ai,hai,hcai⟩:=jX hl az.length _ (by rw[Yr];exact ho);have e:ai=x:=by
   rw[ZD (Zs _),Nat.sub_self] at hai;cases hai;rfl
  subst e;have h':uO P ai Kp σ:=h;have:=zbr (Q:=Q) ho hcai hn (Zw.1 hav _ (by simp)) hi h';rw[hD] at this;exact wpOp_mono (fun a' w' h'=>hQ a' w' h') this
 |i::l,hlt,a,w,κ,σ,hD,hn,hi,h=>by
  rw[ZR,wpOps_cons];have hlt0:i<ops.size:=hlt i Yh;have ho:ops[i]?=some ops[i]:=by simp[hlt0]
  obtain⟨ai,hai,hcai⟩:=jX hl i _ (by rw[Yr];exact ho);simp only[Zl,xQ] at h;have e:(az++[x]).getD i default=ai:=by rw[Zi,hai];rfl
  rw[e] at h;have:=zbt (Q:=Q) ho hcai hn (Zw.1 hav _ (ZI hai)) hi h;rw[hD] at this;refine wpOp_mono (fun a' w' h'=>?_) this;obtain⟨hD',hn',κ',σ',hi',h'⟩:=h';exact zbv hQ hl hav hm l (fun i hi=>hlt i (Zz _ hi)) a' w' κ' σ' hD' hn' hi' h'
theorem Inv.drew (hi:Inv w0 Z0 κ σ fr w):Inv w0 Z0 κ σ fr {w with drawn:=w.drawn+1}:=
 hi.later ⟨rfl,rfl,rfl,Zs _,fun _ _=>rfl⟩
def LQ (w0:Base) (Z0:Bk->Prop) (D:List Deferred) (F:Fm) (Q:AE->St->Prop):Exit->Act->World->Prop
 | .normal=>Nx w0 Z0 D F (Q .normal)
 | .exit i=>Nx w0 Z0 D F (Q (.exit i))
 | .ret=>Nx w0 Z0 D F (Q .ret)
 |_=>fun _ _=>False
theorem zkK {Q:Exit->Act->World->Prop} {c:Code} (I:Nat->Act->World->Prop)
  (round: ∀n a w,I n a w->c.wp P (Exit.then (fun a' w'=> ∃m,m<n/\I m a' w') Q) a w) (n:Nat) (a:Act) (w:World) (h0:I n a w):(Code.loop c).wp P Q a w:=by
 intro b k cs;have key: ∀n a w,I n a w-> ∃e a' w',Q e a' w'/\Arrives P (lone (b.at a (.code c::.inLoop c::k)) cs w) b k cs e a' w':=by
  intro n
  induction n using Nat.strongRecOn with
  |_ n ih=>
   intro a w hI;obtain⟨e,a₁,w₁,hq,harr⟩:=round n a w hI b (.inLoop c::k) cs;cases e with
   |normal=>
    obtain⟨m,hlt,hI₁⟩:=hq;obtain⟨e₂,a₂,w₂,hq₂,harr₂⟩:=ih m hlt a₁ w₁ hI₁;exact⟨e₂,a₂,w₂,hq₂,.of_steps (Steps.trans harr (.one step_inLoop)) harr₂⟩
   |exit id=>exact⟨_,a₁,w₁,hq,.pass (x:=.inLoop c) rfl (fun _ _=> .inl (by simp)) harr⟩
   |goto l=>exact⟨_,a₁,w₁,hq,.pass (x:=.inLoop c) rfl (fun _ _=> .inl (by simp)) harr⟩
   |ret=>exact⟨_,a₁,w₁,hq,.pass (x:=.inLoop c) rfl (fun _ _=> .inl (by simp)) harr⟩
   |panic ch=>exact⟨_,a₁,w₁,hq,.pass (x:=.inLoop c) rfl (fun _ _=> .inl (by simp)) harr⟩
   |outgrown=>exact⟨_,a₁,w₁,hq,.pass (x:=.inLoop c) rfl (fun _ _=> .inl (by simp)) harr⟩
 obtain⟨e,a',w',hq,harr⟩:=key n a w h0;exact⟨e,a',w',hq,.of_steps (.one step_loop) harr⟩
theorem Nx.wk {D:List Deferred} {F:Fm} {Kp:St->Prop} {a:Act} {w:World} (h:Nx w0 Z0 D F (Wk Kp) a w):Nx w0 Z0 D F Kp a w:=by
 obtain⟨h1,h2,κ,σ,hi,σ',hle,hk⟩:=h;obtain⟨κ',hi'⟩:=hle _ _ _ _ _ hi;exact⟨h1,h2,κ',σ',hi',hk⟩
theorem nL {D:List Deferred} {F:Fm} {Q:AE->St->Prop} {a:Act} {w:World} (h:Nx w0 Z0 D F (awp P .bad Q) a w):False:=by
 obtain⟨h1,h2,κ,σ,hi,h⟩:=h;simp[AC.bad,awp,AX.evg,AX.ev,V.strip] at h
theorem qU {F:Fm} {D:List Deferred}: ∀(c:Code) (ac:AC),wC P F.n c=some ac->ac.avoids F.kp=true-> ∀(Q:AE->St->Prop) (a:Act) (w:World),Nx w0 Z0 D F (awp P ac Q) a w->c.wp P (LQ w0 Z0 D F Q) a w
 | .skip,ac,hc,hav,Q,a,w,h=>by
   simp only[wC,Ze] at hc;subst hc;exact wp_skip h
 | .region id ops draw,ac,hc,hav,Q,a,w,h=>by
   simp only[wC] at hc;generalize hr:((ops.toList.mapM (cAI P F.n ops)).bind fun l=>
    if draw then(if P.follows .mixedOrders&&sZ 0 (ops.toList.map yW) then some (AC.draw l (ops.toList.map yW)) else none) else some (.region l))=r at hc
   cases r with
   |none=>
    simp only[eU,Ze] at hc;subst hc;exact(nL h).elim
   |some ac0=>
   simp only[eU,Ze] at hc;subst hc;simp only[Zb] at hr;obtain⟨l,hl,hc⟩:=hr;cases draw with
   |true=>
    simp only[if_true] at hc;by_cases hm:(P.follows .mixedOrders&&sZ 0 (ops.toList.map yW))=true
    case neg=>rw[if_neg hm] at hc;simp at hc
    rw[if_pos hm] at hc;cases hc;simp only[Zp] at hm;obtain⟨hD,hn,κ,σ,hi,h⟩:=h;refine wp_region_draw fun t=>?_
    simp only[Region.schedule,hm.1,XA,if_true];rcases h with h|⟨az,x,rfl,hok,h⟩
    ·obtain⟨h1,h2⟩:=zjV (by rw[jY hl];simp) hm.2 h t
     exact zbu (Q:=LQ w0 Z0 D F Q) (D:=D) (fun a w h=>h) hl hav _ h1 a _ κ σ hD hn (hi.drew) h2
    ·obtain⟨l',e,h1,h2⟩:=zjW (a:=x) (by rw[jY hl];simp) hm.2 hok h t
     rw[e];exact zbv (Q:=LQ w0 Z0 D F Q) (D:=D) (fun a w h=>h) hl hav (by have:=jY hl;simp at this;omega) _ h1 a _ κ σ hD hn (hi.drew) h2
   |false=>
   simp only[Z3,if_false,Ze] at hc;subst hc;obtain⟨hD,hn,κ,σ,hi,h⟩:=h;refine wp_region ?_;have:=zbs (Q:=LQ w0 Z0 D F Q) (D:=D) (fun a w h=>h) ops.toList l 0 (fun j _=>by simp) hl hav a w κ σ hD hn hi h;rw[List.range_eq_range'];simpa using this
 | .seq x y,ac,hc,hav,Q,a,w,h=>by
   simp only[wC,Zf,Zb,Zj,Ze] at hc;obtain⟨x',hx,y',hy,rfl⟩:=hc;simp only[AC.avoids,Zp] at hav;refine wp_seq (wp_mono (qU x x' hx hav.1 _ a w h) fun e a' w' h'=>?_);cases e with
   |normal=>exact qU y y' hy hav.2 Q a' w' (Nx.wk h')
   |exit i=>exact h'
   |ret=>exact h'
   |goto l=>exact h'.elim
   |panic ch=>exact h'.elim
   |outgrown=>exact h'.elim
 | .cond c x y,ac,hc,hav,Q,a,w,h=>by
   simp only[wC,Zf,Zb,Zj,Ze] at hc;obtain⟨c',hc',x',hx,y',hy,rfl⟩:=hc;simp only[AC.avoids,Zp] at hav;obtain⟨hD,hn,κ,σ,hi,h⟩:=h;simp only[awp] at h;obtain⟨h,hv⟩:=yF hi hc' h;generalize (c'.ev σ).strip.1=v at h hv;split at h
   ·rename_i t
    refine wp_cond_split (uR (hv rfl)) (fun ht=>qU x x' hx hav.1 Q a w (Nx.wk ⟨hD,hn,κ,σ,hi,h.1 ht⟩)) (fun ht=>qU y y' hy hav.2 Q a w (Nx.wk ⟨hD,hn,κ,σ,hi,h.2 ht⟩))
   ·exact h.elim
 | .block i x,ac,hc,hav,Q,a,w,h=>by
   simp only[wC,Zc] at hc;obtain⟨x',hx,rfl⟩:=hc;refine wp_block (wp_mono (qU x x' hx hav (AE.inBlock i Q) a w (Nx.wk h)) fun e a' w' h'=>?_);cases e with
   |normal=>exact h'
   |exit j=>
    obtain⟨h1,h2,κ,σ,hi,h3⟩:=h';simp only[AE.inBlock] at h3;by_cases hj:j=i
    ·subst hj
     simp only[if_true] at h3;simp only[Exit.inBlock,if_true];exact⟨h1,h2,κ,σ,hi,h3⟩
    ·simp only[hj,if_false] at h3
     simp only[Exit.inBlock,hj,if_false];exact⟨h1,h2,κ,σ,hi,h3⟩
   |ret=>exact h'
   |goto l=>exact h'.elim
   |panic ch=>exact h'.elim
   |outgrown=>exact h'.elim
 | .loop x,ac,hc,hav,Q,a,w,h=>by
   simp only[wC,Zc] at hc;obtain⟨x',hx,rfl⟩:=hc;obtain⟨hD,hn,κ,σ,hi,I,h0,hr⟩:=h;obtain⟨σ',hle,m,hm⟩:=h0;obtain⟨κ',hi'⟩:=hle _ _ _ _ _ hi;refine zkK (fun m=>Nx w0 Z0 D F (I m)) (fun m a w hI=>?_) m a w ⟨hD,hn,κ',σ',hi',hm⟩;obtain⟨hD1,hn1,κ1,σ1,hi1,hI1⟩:=hI;refine wp_mono (qU x x' hx hav _ a w (Nx.wk ⟨hD1,hn1,κ1,σ1,hi1,hr m σ1 hI1⟩)) fun e a' w' h'=>?_
   cases e with
   |normal=>
    obtain⟨g1,g2,κ2,σ2,hi2,q,hlt,hq⟩:=Nx.wk h';exact⟨q,hlt,g1,g2,κ2,σ2,hi2,hq⟩
   |exit i=>exact h'
   |ret=>exact h'
   |goto l=>exact h'.elim
   |panic ch=>exact h'.elim
   |outgrown=>exact h'.elim
 | .exit i,ac,hc,hav,Q,a,w,h=>by
   simp only[wC,Ze] at hc;subst hc;exact wp_exit h
 | .ret,ac,hc,hav,Q,a,w,h=>by
   simp only[wC,Ze] at hc;subst hc;exact wp_ret h
 | .rangeFunc _ _ _ _,ac,hc,hav,Q,a,w,h=>by
   simp only[wC,Ze] at hc;subst hc;exact(nL h).elim
 | .scope _,ac,hc,hav,Q,a,w,h=>by
   simp only[wC,Ze] at hc;subst hc;exact(nL h).elim
 | .label _,ac,hc,hav,Q,a,w,h=>by
   simp only[wC,Ze] at hc;subst hc;exact(nL h).elim
 | .goto _,ac,hc,hav,Q,a,w,h=>by
   simp only[wC,Ze] at hc;subst hc;exact(nL h).elim
 | .refuse _,ac,hc,hav,Q,a,w,h=>by
   simp only[wC,Ze] at hc;subst hc;exact(nL h).elim
end
end Go.Abs
