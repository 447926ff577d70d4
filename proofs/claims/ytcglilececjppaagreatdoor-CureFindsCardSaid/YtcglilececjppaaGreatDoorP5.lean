/- A part of the proof; the last text states what is proved. -/
import Derived.Test.YtcglilececjppaaGreatDoorP4
import Derived.Test.YtcglilececjppaaGreatDoorProg
import Derived.Shelf.Slices.Clone
import Derived.Laws.CopyOwn
import Derived.DataShut
set_option linter.unusedVariables false
set_option linter.unusedSimpArgs false
set_option maxRecDepth 100000
set_option maxHeartbeats 8000000
open And renaming intro → Zx
open Array renaming eq_empty_of_size_eq_zero → YM,getElem?_eq_getElem → Ya,getElem?_eq_some_iff → Zs,getElem?_setIfInBounds → Yi,getElem?_toList → Yu,replicate_succ → YI,replicate_zero → YH,toArray_toList → ZR
open Bool renaming and_eq_true → Zr,and_false → YW,eq_false_iff → Y0,eq_iff_iff → Yw,false_and → Z4,false_eq_true → Z1,false_or → YC,not_eq_true' → Xn,or_eq_true → Yp,or_false → XM,true_and → ZU,true_or → XC
open Eq renaming refl → ZG,trans → ZI
open Exists renaming intro → Yc
open Function renaming comp → Y5
open Iff renaming rfl → Xp
open Int renaming cast_ofNat_Int → YY,natCast_mul → YB,reduceBNe → Xa,reduceLE → YQ,reduceNeg → ZN,toNat_natCast → Ym,toNat_zero → XZ
open List renaming all_cons → Yz,all_eq_true → ZA,all_map → Y4,all_nil → XO,any_eq_true → Yt,any_map → XY,append_assoc → Z3,append_nil → Ze,append_toArray → YO,cons_append → ZQ,contains_cons → Xl,contains_nil → XS,drop_eq_getElem_cons → ZE,drop_eq_nil_of_le → ZB,eq_nil_of_length_eq_zero → Yg,filter_append → Xw,flatten_cons → Yy,foldl_cons → YU,getD_eq_getElem?_getD → Zi,getElem?_append_right → ZM,getElem?_eq_getElem → Zf,getElem?_eq_none → Xe,getElem?_eq_some_iff → Zu,getElem?_map → Zz,getElem?_take → Z6,getElem_mem → Zv,getElem_of_mem → YN,length_append → Zq,length_cons → Zo,length_drop → XV,length_filter_le → Yq,length_map → Zg,length_nil → ZF,length_pos_iff → Ye,length_set → Y6,length_take → Yl,map_append → ZS,map_congr_left → Xj,map_cons → Zk,map_map → Xm,map_nil → Zp,map_take → Xy,mem_append → Yo,mem_cons → ZJ,mem_cons_of_mem → Zy,mem_cons_self → Yj,mem_filter → Yh,mem_flatten → XA,mem_map → ZH,mem_of_mem_take → Xf,mem_range → Z2,mem_singleton → ZT,nil_append → Yd,nodup_cons → ZK,not_mem_nil → Zt,push_toArray → YS,range_succ → Xk,set_append_right → Xr,set_cons_zero → Z8,size_toArray → Yx,take_length → Yk,take_of_length_le → Z7,take_succ_eq_append_getElem → ZD
open Nat renaming add_zero → Yf,le_mul_of_pos_right → XK,le_refl → Zw,le_trans → ZX,lt_of_lt_of_le → ZO,min_eq_left → YV,mod_lt → XE,mul_assoc → XP,mul_le_mul → Xh,mul_le_mul_right → ZZ,mul_one → Yv,one_mul → Xs,pow_le_pow_right → Ys,reduceAdd → Zc,reduceBEq → Za,reduceEqDiff → Zn,reduceLT → Z5,reduceLeDiff → Zl,reduceMul → Z9,reduceSub → Y9,sub_self → Xi,succ_mul → YL,zero_add → ZY,zero_le → ZC,zero_testBit → Xb
open Option renaming bind_some → YG,getD_some → YZ,isSome_none → YT,map_some → YA
open Option.some renaming inj → Yr
namespace Go.Ex
open Go.Lib Go.Wd Go.Wire Go.Abs
structure AskS (L:List Dmd) (D:List Dcm):Prop where
 l8:L.length<=8
 dm: ∀m∈L,DmdS m
 dc:rG D
 rd:(cnts D).2.2=0-> ∀i,i<yF D->tA (rdsD D i)
theorem aW {D:List Dcm} (hD:rG D) (h:(cnts D).2.2=0):0<yF D:=by
 have hok:=rJ h;rw[hok.p];have key: ∀(l:List Dcm) (n:Nat),0<n->(∀d∈l,0<(cntD d).1.toNat)->0<l.foldl (fun a d=>a*(cntD d).1.toNat) n:=by
  intro l
  induction l with
  |nil=>intro n h _;exact h
  |cons d l ih=>intro n hn hd;exact ih _ (Nat.mul_pos hn (hd d (by simp))) fun x hx=>hd x (Zy _ hx)
 exact key D 1 (by decide) fun d hd=>by
  have:=znM (hD.2 d hd) (hok.e d hd);omega
def flawsE (L:List Dmd) (D:List Dcm):List Flw:=if lookE L D=0 then zcL L D else[]
def zc8 (L:List Dmd) (D:List Dcm):Int:=if lookE L D=0 then stateV (viewD L D) else 0
end Go.Ex
namespace Go.Abs
open Go.Proofs Go.RowKit Go.Lib Go.Wd Go.Wire Go.Ex
theorem wK (m:Dmd):C.normRow (zU m)=zU m:=by simp only[zU,C.normRow,C.norm]
theorem c20 (L:List Dmd) (D:List Dcm) (h:AskS L D):Spec Tryz.prog 26 [lst 8 (L.map zU),lst 2 (D.map zJ)] (fun r=>r=.int .i64 (lookE L D)):=by
 refine Spec.of_awlS hf26 okf26 (by simp) fun S hS=>?_
 have g:=c32 L D h.l8 h.dm h.dc h.rd;simp only[Qs,Zc,Za,ztC];refine yQ g ?_ (ha:=by simp only[Zk,Zp,zC,V.norm,zM,zQ yK,zQ wK,C.norm]<;>rfl);simp only[Qs,Ze,Zc,Z9,Za,jB];exact hS
theorem c12 (L:List Dmd) (D:List Dcm) (h:AskS L D):Spec Tryz.prog 31 [lst 8 (L.map zU),lst 2 (D.map zJ)] (fun r=>r=.tup [.int .i64 (zc8 L D),.int .i64 (lookE L D)]):=by
 refine Spec.of_awlS hf31 okf31 (by simp) fun S hS=>?_
 have g:=c32 L D h.l8 h.dm h.dc h.rd;unfold lS at g;unfold zc8 at hS;have hle:=h.l8;by_cases h0:lookE L D=0
 ·rw[if_pos h0,h0] at hS
  rw[if_pos h0,h0] at g;have hcn:(cnts D).2.2=0:=by
   unfold lookE at h0;split at h0
   ·exact h0
   ·cases h0
  have hok:=rJ hcn;have hsl:(viewD L D).sets.length<=4096:=by
   have:=zc5 (yT L D) [];have h2:(yT L D).length=yF D:=by simp[yT]
   have h3:=hok.le;show(wL (yT L D) []).length<=4096;simp at this;omega
  have g2:=c36 (viewD L D).sets 0 (by omega);generalize viewD L D=v at g g2 hS hsl;obtain⟨S1,nv,db⟩:=v;simp only[] at g g2 hsl;simp only[Qs,Zc,Za,zmr];refine yQ g ?_ (ha:=by simp only[Zk,Zp,zC,V.norm,zM,zQ yK,zQ wK,C.norm]<;>rfl);simp only[show((0:Int) !=0)=false from rfl,Qs,Ze,Zc,Z9,Zl,Za,jB];refine zI g2 ?_ (ha:=by simp only[Zk,Zp,zC,V.norm,zM,C.norm,lP]<;>rfl);unfold stateV at hS;simp only[] at hS;by_cases hm:0∈S1
  ·rw[if_pos hm] at hS
   rw[decide_eq_true hm];by_cases h1:S1.length=1
   ·rw[if_pos h1] at hS
    have e1:((S1.length:Int)==1)=true:=by rw[h1];rfl
    simp only[e1,rK,Qs,Ze,Zc,Zl,Za];exact hS
   ·rw[if_neg h1] at hS
    have e1:((S1.length:Int)==1)=false:=by rw[beq_eq_false_iff_ne];omega
    simp only[e1,rK,Qs,Ze,Zc,Zl,Za];exact hS
  ·rw[if_neg hm] at hS
   rw[decide_eq_false hm];simp only[Qs,Ze,Za];exact hS
 ·rw[if_neg h0] at hS
  rw[if_neg h0] at g;generalize lookE L D=er at hS g h0;have e1:(er !=0)=true:=by rw[bne_iff_ne];exact h0
  simp only[Qs,Zc,Za,zmr];refine yQ g ?_ (ha:=by simp only[Zk,Zp,zC,V.norm,zM,zQ yK,zQ wK,C.norm]<;>rfl);simp only[e1,Qs,Ze,Zc,Z9,Za,YY,jB];exact hS
def uN (x:Flw):List C:=[zB 1 (zG x.dem),zB 2 (pls x.pls),.bool x.sure]
def xU (l:List Flw):List (List C):=l.map uN
theorem qD (l:List Flw):(xU l).length=l.length:=by simp[xU]
theorem jQ (x:Flw):C.normRow (uN x)=uN x:=by simp only[uN,C.normRow,zM,yR,tN,C.norm]
theorem oU (l:List Flw):C.normRows (xU l)=xU l:=zQ jQ l
def pT (L:List Dmd) (p:List Pln) (k:Nat):List C:=[.list 1 (some false) (zG [(k:Int)]),zB 2 (pls (wO L [k] p)),.bool false]
theorem zwj (L:List Dmd) (p:List Pln) (k:Nat):C.normRow (pT L p k)=uN ⟨[(k:Int)],wO L [k] p,false⟩:=by
 simp only[pT,uN,C.normRow,zM,uX,yR,tN,C.norm];rfl
theorem zwk (a b:List (List C)):C.normRows (a++b)=C.normRows a++C.normRows b:=by
 induction a with
 |nil=>rfl
 |cons r a ih=>rw[ZQ,cV,cV,ih];rfl
theorem zoq (L:List Dmd) (p:List Pln): ∀l:List Nat,C.normRows (l.map (pT L p))=xU (l.map fun k:Nat=>⟨[(k:Int)],wO L [k] p,false⟩)
 |[]=>rfl
 |k::l=>by
  rw[Zk,cV,zwj,zoq L p l];rfl
theorem c10 (L:List Dmd) (D:List Dcm) (h:AskS L D):Spec Tryz.prog 27 [lst 8 (L.map zU),lst 2 (D.map zJ)] (fun r=>r=.tup [lst 3 (xU (flawsE L D)),.int .i64 (lookE L D)]):=by
 refine Spec.of_awlP hf27 okf27 (by simp) fun S hS=>?_
 have g:=c32 L D h.l8 h.dm h.dc h.rd;unfold lS at g;unfold flawsE at hS;have hle:=h.l8;by_cases h0:lookE L D=0
 ·rw[if_pos h0,h0] at hS
  rw[if_pos h0,h0] at g;have hcn:(cnts D).2.2=0:=by
   unfold lookE at h0;split at h0
   ·exact h0
   ·cases h0
  have hok:=rJ hcn;have hpos:=aW h.dc hcn;have g14:=c14 D h.dc 0;have e14:oQ D 0=0:=by
   unfold oQ;rw[if_neg (by simp[hcn]),if_neg (by rw[hok.n];omega)]
  have e14':sH D 0=rdsD D 0:=by unfold sH;rw[if_pos e14];rfl
  rw[e14,e14'] at g14;have hpl:=h.rd hcn 0 hpos;have hfl:zcL L D=aB L (viewD L D) (rdsD D 0):=rfl;rw[hfl] at hS;have hF:=rI L D;have h256:2 ^ L.length<=256:=(Ys (by decide) hle:2 ^ L.length<=2 ^ 8);have hnv:(viewD L D).never<256:=ZO zuN h256;have hdb:(viewD L D).doubt<256:=ZO (gS hF) h256;have hsl:(viewD L D).sets.length<=4096:=by
   have:=zc5 (yT L D) [];have h2:(yT L D).length=yF D:=by simp[yT]
   have h3:=hok.le;show(wL (yT L D) []).length<=4096;simp at this;omega
  have hss: ∀s∈(viewD L D).sets,s<256:=fun s hs=>by
   rcases(bQ _ _ s).1 hs with h|h
   ·exact ZO (hF s h) h256
   ·cases h
  have g33:=c33 (viewD L D) hnv hdb hss (by omega);have hF0:yT L D≠[]:=by
   intro e;have:=congrArg List.length e;simp[yT] at this;omega
  have hcl: ∀c∈sortO ltC ((conflP (viewD L D)).map bitsN),c.length<=8/\ ∀k∈c,k<L.length:=by
   intro c hc;obtain⟨s,hs,rfl⟩:=ZH.1 ((vE ltC _).mem_iff.1 hc);have hs2:=((bT hle hF0 hF s).1 hs).1;exact⟨pR s (by omega),fun k hk=>wV.1 hs2 k ((uA (by omega)).1 hk)⟩
  have hcn:(sortO ltC ((conflP (viewD L D)).map bitsN)).length<=320:=by
   rw[(vE ltC _).length_eq,Zg];have hT:conflP (viewD L D)=pS (viewD L D).never 64++(sE (viewD L D).doubt 256 (viewD L D).doubt).filter (vT (viewD L D).sets):=rfl;rw[hT,Zq];have h1:=aL (viewD L D).doubt 256 (viewD L D).doubt;have h2:=Yq (vT (viewD L D).sets) (sE (viewD L D).doubt 256 (viewD L D).doubt);have h3:=zcY (viewD L D).never 64;omega
  have hdk: ∀k∈bitsN (viewD L D).doubt,k<L.length:=fun k hk=>wV.1 (gS hF) k ((uA (Nat.lt_trans hdb (by decide))).1 hk)
  have hbl:=pR _ hdb;have g35:=c35 (viewD L D).doubt hdb;have hfe:aB L (viewD L D) (rdsD D 0)=((sortO ltC ((conflP (viewD L D)).map bitsN)).map fun c=>⟨c.map fun(k:Nat)=>(k:Int),wO L c (rdsD D 0),true⟩)++(bitsN (viewD L D).doubt).map fun k=>⟨[(k:Int)],wO L [k] (rdsD D 0),false⟩:=rfl
  rw[hfe] at hS;generalize sortO ltC ((conflP (viewD L D)).map bitsN)=CS at hS g33 hcl hcn;generalize rdsD D 0=p at hS g14 hpl;generalize bitsN (viewD L D).doubt=DS at hS hdk hbl g35;generalize viewD L D=v at g g33 g35;obtain⟨S1,nv,db⟩:=v;simp only[] at g g33 g35;simp only[Qs,Zc,Za,zmp];refine yQ g ?_ (ha:=by simp only[Zk,Zp,zC,V.norm,zM,zQ yK,zQ wK,C.norm]<;>rfl);simp only[show((0:Int) !=0)=false from rfl,Qs,bne_iff_ne,ne_eq,Ze,Zc,Z9,Zn,Za,jB];refine yQ g14 ?_ (ha:=by simp only[Zk,Zp,zC,V.norm,zM,zQ yK,zQ wK,C.norm]<;>rfl);simp only[Qs,lE,bne_iff_ne,ne_eq,Ze,Zc,Z9,Zn,Za];refine yQ g33 ?_ (ha:=by simp only[Zk,Zp,zC,V.norm,zM,C.normRow,lP,C.norm]<;>rfl);have hcfl:(cfs CS).length=CS.length:=by simp[cfs]
  simp only[hcfl,Qs];refine zR (fun x:Nat×Option Bool=>[(0,lst 8 (L.map zU)),(6,.k (.c (.ro [zB 1 (sets S1),.int .u64 (nv:Int),.int .u64 (db:Int)] 0))),(8,lst 3 (uU p)),(10,.k (.own 10)),(31,lst 1 (cfs CS)),(32,.int .i64 CS.length),(33,.int .i64 x.1)])
   (fun x=>[(10,.arr 66 3 x.2 (xU ((CS.take x.1).map fun c=>⟨natI c,wO L c p,true⟩)))]) (fun x=>x.1<=CS.length) (fun x=>CS.length-x.1) (0,some true) rfl rfl (ZC _) ?_
  rintro⟨i,nl⟩ hi;simp only[] at hi;by_cases hlt:i<CS.length
  ·have d1:(i:Int)<CS.length:=by omega
   have c4:IntKind.i64.wrap ((i:Int)+1)=(i:Int)+1:=wrap_in (by omega) (by omega);have hat:(cfs CS).getD i []=[zB 1 (zG (natI CS[i]))]:=by simp[cfs,hlt]
   have htk:((CS.take (i+1)).map fun c=>(⟨natI c,wO L c p,true⟩:Flw))=((CS.take i).map fun c=>⟨natI c,wO L c p,true⟩)++[⟨natI CS[i],wO L CS[i] p,true⟩]:=by rw[ZD hlt,ZS];rfl
   have hll:((CS.take i).map fun c=>(⟨natI c,wO L c p,true⟩:Flw)).length=i:=by simp;omega
   obtain⟨hc8,hck⟩:=hcl _ (Zv hlt);generalize CS[i]=c at hat htk hc8 hck;generalize ((CS.take i).map fun c=>(⟨natI c,wO L c p,true⟩:Flw))=A at htk hll;have g34:=c34 L c p (by omega) hc8 hck hpl;simp only[d1,hat,hcfl,Qs,Za];refine yQ g34 ?_ (ha:=by simp only[Zk,Zp,zC,V.norm,zM,zQ wK,mC,yR,C.norm]<;>rfl);have hq:xU A++[[zB 1 (zG (natI c)),zB 2 (pls (wO L c p)),.bool true]]=xU (A++[⟨natI c,wO L c p,true⟩]):=by simp[xU,uN]
   simp only[c4,hq,qD,hll,Qs,forall_eq,bne_iff_ne,ne_eq,Ze,ZJ,Zc,Zn,Zl,Z5,Za,Zt];exact⟨by omega,by omega,Next.intro (i+1,some false) rfl (by rw[htk];rfl) (by simp only;omega) (by simp only;omega)⟩
  ·obtain rfl:i=CS.length:=by omega
   have d1: ¬((CS.length:Int)<CS.length):=by omega
   rw[Yk];simp only[d1,Qs,Zc,Za];refine yQ g35 ?_ (ha:=by rfl);have hDl:(zG (natI DS)).length=DS.length:=by rw[yJ,wX]
   simp only[hDl,Qs];have hFL:(xU (List.map (fun c=>(⟨natI c,wO L c p,true⟩:Flw)) CS)).length<=320:=by rw[qD,Zg];exact hcn
   have hSS:((CS.map fun c=>(⟨natI c,wO L c p,true⟩:Flw)))=CS.map fun c=>⟨c.map fun(k:Nat)=>(k:Int),wO L c p,true⟩:=rfl
   rw[<-hSS] at hS;generalize (List.map (fun c=>(⟨natI c,wO L c p,true⟩:Flw)) CS)=FL at hS hFL;refine zR (fun x:Nat×Option Bool=>[(0,lst 8 (L.map zU)),(8,lst 3 (uU p)),(10,.k (.own 10)),(49,lst 1 (zG (natI DS))),(50,.int .i64 DS.length),(51,.int .i64 x.1)])
    (fun x=>[(10,.arr 66 3 x.2 (xU FL++(DS.take x.1).map (pT L p)))]) (fun x=>x.1<=DS.length) (fun x=>DS.length-x.1) (0,nl) rfl (by simp;rfl) (ZC _) ?_
   rintro⟨i,nl2⟩ hi2;simp only[] at hi2;by_cases hil:i<DS.length
   ·have d2:(i:Int)<DS.length:=by omega
    have c4:IntKind.i64.wrap ((i:Int)+1)=(i:Int)+1:=wrap_in (by omega) (by omega);have hat:(zG (natI DS)).getD i []=[.int .i64 (DS[i]:Int)]:=by simp[zG,natI,hil]
    have htk:(DS.take (i+1)).map (pT L p)=(DS.take i).map (pT L p)++[pT L p DS[i]]:=by rw[ZD hil,ZS];rfl
    have hll:((DS.take i).map (pT L p)).length=i:=by simp;omega
    have hkL:=hdk _ (Zv hil);generalize DS[i]=k at hat htk hkL;generalize (DS.take i).map (pT L p)=R at htk hll;have g34:=c34 L [k] p (by omega) (by simp) (fun j hj=>by simp at hj;omega) hpl;simp only[d2,hat,hDl,Qs,forall_eq,bne_iff_ne,ne_eq,ZJ,Zn,Z5,Za,Zt];refine zrL 56 rfl g34 (by simp[zC,vZ,lookO,V.isPure,lst]) (by simp only[Zk,Zp,zC,vZ,lookO,V.norm,zM,uX,zQ wK,mC,C.norm]<;>rfl) (by rfl) (by simp[nP,lookO]) rfl ?_;have hq:xU FL++R++[[.list 1 (some false) [[.int .i64 (k:Int)]],zB 2 (pls (wO L [k] p)),.bool false]]=xU FL++(R++[pT L p k]):=by rw[Z3];rfl
    have hlR:(xU FL++R).length<=328:=by rw[Zq];omega
    simp only[rA,rU,lookO,c4,hq,Qs,forall_eq,bne_iff_ne,ne_eq,ZJ,Zc,Zn,Zl,Z5,Za,Zt,nU];exact⟨by omega,by omega,Next.intro (i+1,some false) rfl (by rw[htk];rfl) (by simp only;omega) (by simp only;omega)⟩
   ·obtain rfl:i=DS.length:=by omega
    have d2: ¬((DS.length:Int)<DS.length):=by omega
    rw[Yk];simp only[d2,Qs,Ze,ZK,Za,Zt];refine hS _ ?_;simp only[V.fz,V.fzL,V.nrm,V.nrmL,zwk,oU,zoq];have e:xU FL++xU (DS.map fun k:Nat=>⟨[(k:Int)],wO L [k] p,false⟩)=xU (FL++DS.map fun k:Nat=>⟨[(k:Int)],wO L [k] p,false⟩):=by simp[xU]
    rw[e,uK (oU _)];rfl
 ·rw[if_neg h0] at hS
  rw[if_neg h0] at g;generalize lookE L D=er at hS g h0;have e1:(er !=0)=true:=by rw[bne_iff_ne];exact h0
  simp only[Qs,Zc,Za,zmp];refine yQ g ?_ (ha:=by simp only[Zk,Zp,zC,V.norm,zM,zQ yK,zQ wK,C.norm]<;>rfl);simp only[e1,Qs,lE,bne_iff_ne,ne_eq,BEq.rfl,Ze,ZK,Zc,Z9,Zn,Za,YY,Zt,jB];exact hS _ rfl
end Go.Abs
namespace Go.Proofs
open Go.Shelf Go.RowKit Go.Lib Go.Sort Go.Abs
theorem zoL (b o:Nat) (x y:Int) (w:World) (hx:w.cell? ⟨b,o,none⟩=some (.int .i64 x)) (hy:w.cell? ⟨b,o+1,none⟩=some (.int .i64 y)):
  Calls Tryz.prog 77 #[.slice (some ⟨b,o,none⟩) 2 2] w fun e w'=>e=.returned (.int .i64 (if x≠0 then x else y))/\w'=w:=by
 go_enter Tryz.func77,Tryz.ntmps77
 go_wp2
 go_loopg [8] 2 (fun g i wr=>(g=2/\i=.int .i64 0/\wr=w)\/(g=1/\i=.int .i64 1/\wr=w/\x=0)\/(g=0/\i=.int .i64 2/\wr=w/\x=0/\y=0))
 case atStart=>exact .inl ⟨rfl,rfl,rfl⟩
 case round=>
  rcases hrel with⟨rfl,rfl,rfl⟩|⟨rfl,rfl,rfl,rfl⟩|⟨rfl,rfl,rfl,rfl,rfl⟩
  ·by_cases h:x=0
   ·subst h
    go_wp2
    go_roundg 1
    case rel=>exact .inr (.inl ⟨rfl,by go_num,by simp⟩)
    case measure=>omega
   ·have hb:(x !=0)=true:=by simpa using h
    go_wp2
    go_ret
    exact⟨by first|rfl|rw[if_pos h],rfl⟩
  ·by_cases h:y=0
   ·subst h
    go_wp2
    go_roundg 0
    case rel=>exact .inr (.inr ⟨rfl,by go_num,by simp⟩)
    case measure=>omega
   ·have hb:(y !=0)=true:=by simpa using h
    go_wp2
    go_ret
    exact⟨by first|rfl|simp,rfl⟩
  ·go_wp2
   go_ret
   exact⟨by first|rfl|simp,rfl⟩
theorem zwX (b1 o1 c1 b2 o2 c2:Nat) (p1 p2:Option Addr) (x y:List Int) (w:World) (hx:x.length<=1000) (hy:y.length<=1000) (I:Aside (mD w p1 b1 o1 x/\mD w p2 b2 o2 y)):
  Calls Tryz.prog 101 #[.slice p1 x.length c1,.slice p2 y.length c2] w fun e w'=>e=.returned (.int .i64 (uV x y))/\ ∃q os',w'=grow (w.drewN q) os':=by
 have c71:=znW b1 o1 c1 b2 o2 c2 p1 p2 x y w hx hy I;have h77:=zoL w.heap.size 0 ((x.length:Int)-y.length) (tP x y) (w.alloc (.cells #[.int .i64 ((x.length:Int)-y.length),.int .i64 (tP x y)] 3)) (by simp only[World.cell?,World.alloc_heap_new];rfl) (by simp only[World.cell?,World.alloc_heap_new];rfl);generalize hz:tP x y=z at c71 h77;by_cases hd:(x.length:Int)-y.length=0
 ·have R:Aside (uV x y=z):=show uV x y=z by unfold uV;rw[if_neg (by simpa using hd),hz]
  rw[hd,if_neg (by simp)] at h77;clear hz
  go_enter Tryz.func101,Tryz.ntmps101
  go_wp2_with (first|(go_at_call 148;refine c71.mono ?_;rintro e w1 ⟨rfl,rfl⟩)|(go_at_call 77;refine h77.mono ?_;rintro e w2 ⟨rfl,rfl⟩))
  go_ret
  exact⟨by rw[R.out];rfl,0,_,by rw[alloc_eq_grow];rfl⟩
 ·have R:Aside (uV x y=(x.length:Int)-y.length):=show uV x y=_ by unfold uV;rw[if_pos hd]
  rw[if_pos hd] at h77;clear hz
  go_enter Tryz.func101,Tryz.ntmps101
  go_wp2_with (first|(go_at_call 148;refine c71.mono ?_;rintro e w1 ⟨rfl,rfl⟩)|(go_at_call 77;refine h77.mono ?_;rintro e w2 ⟨rfl,rfl⟩))
  go_ret
  exact⟨by rw[R.out];rfl,0,_,by rw[alloc_eq_grow];rfl⟩
end Go.Proofs
namespace Go.Ex
open Go.Lib Go.Wd Go.Wire Go.Abs
def mI (D:List Dcm) (i:Nat):List C:=[zB 3 (uU (rdsD D i))]
def oV (D:List Dcm):List (List C):=(List.range (yF D)).map (mI D)
end Go.Ex
namespace Go.Abs
open Go.Proofs Go.RowKit Go.Lib Go.Wd Go.Wire Go.Ex
theorem zwY {α:Type} (f:Nat->α) (z:α) {n i:Nat} (h:i<n):((List.range i).map f++List.replicate (n-i) z).set i (f i)=(List.range (i+1)).map f++List.replicate (n-(i+1)) z:=by
 obtain⟨m,rfl⟩: ∃m,n=i+1+m:=⟨n-(i+1),by omega⟩;rw[show i+1+m-i=m+1 by omega,show i+1+m-(i+1)=m by omega,List.replicate_succ,Xr _ _ (by simp),Xk,ZS];simp
theorem zwZ (D:List Dcm):C.normRows (oV D)=oV D:=zQ (fun x=>by simp only[mI,C.normRow,zM,mC]) _
theorem zoM (D:List Dcm):(oV D).length=yF D:=by simp[oV]
theorem q98 (D:List Dcm) (hD:rG D) (h0:(cnts D).2.2=0):Spec Tryz.prog 98 [lst 2 (D.map zJ)] (fun v=>v=lst 1 (oV D)):=by
 refine Spec.of_awlP hf98 okf98 (by simp) fun S hS=>?_
 have hok:=rJ h0;have g1:=c13 D hD;rw[hok.n,h0] at g1;have hle:=hok.le;simp only[Qs,Za,zsZ];refine zI g1 ?_ (ha:=by simp only[Zk,Zp,zC,V.norm,zM,zQ yK]<;>rfl);simp only[List.length_replicate,Qs,zbR,iV,iW,zbY,bne_iff_ne,ne_eq,Zn,Za,YY];refine⟨by omega,by omega,by omega,?_⟩;refine zR (fun i:Nat=>[(0,lst 2 (D.map zJ)),(5,.k (.own 13)),(15,.int .i64 (yF D:Nat)),(16,.int .i64 i)]) (fun i=>[(13,.arr 92 1 (some false) ((List.range i).map (mI D)++List.replicate (yF D-i) [.list 0 (some true) []]))])
  (fun i=>i<=yF D) (fun i=>yF D-i) 0 rfl rfl (ZC _) ?_
 intro i hi;by_cases hlt:i<yF D
 ·have c1:(i:Int)<yF D:=by omega
  have c4:IntKind.i64.wrap ((i:Int)+1)=(i:Int)+1:=wrap_in (by omega) (by omega);have g:=c14 D hD i;have hE:oQ D i=0:=by unfold oQ;rw[if_neg (by simp[h0]),hok.n,if_neg (by omega)]
  have hP:sH D i=rdsD D i:=by unfold sH;rw[if_pos hE,Ym]
  rw[hE,hP] at g;have hs:=zwY (mI D) [.list 0 (some true) []] hlt;have hlen:((List.range i).map (mI D)++List.replicate (yF D-i) [C.list 0 (some true) []]).length=yF D:=by simp;omega
  have c0:(0:Int)<=i:=by omega
  unfold mI at hs⊢;unfold mI at hlen;simp only[c1,Qs,Za];refine yQ g ?_ (ha:=by simp only[Zk,Zp,zC,V.norm,zM,zQ yK,C.norm]<;>rfl);simp only[c0,c1,c4,hlen,hs,Ym,Qs,kV,kW,Ze,Zc,Z9,Za];exact Next.intro (i+1) rfl rfl (by omega) (by omega)
 ·have c1: ¬(i:Int)<yF D:=by omega
  obtain rfl:i=yF D:=by omega
  simp only[c1,Xi,List.replicate_zero,Ze,Qs,Ze,ZK,Za,Zt];refine hS _ ?_;have e1:=zwZ D;unfold oV at e1;simp only[V.fz,V.fzL,V.nrm,V.nrmL,e1,uK e1];rfl
end Go.Abs
namespace Go.Proofs
open Go.RowKit
theorem zw0 (p:Option Addr) (cap:Nat) (v:Value) (w:World):Calls Tryz.prog 102 #[.slice p 0 cap,v] w fun e w'=>e=.returned (.slice p 0 cap)/\w'=w:=by
 go_enter Tryz.func102,Tryz.ntmps102
 go_wp2
 go_ret
 exact⟨rfl,rfl⟩
end Go.Proofs
namespace Go.Abs
open Go.Sort Go.Proofs Go.Shelf Go.RowKit Go.Lib Go.Wd Go.Wire Go.Ex
theorem zw1 {w:World} {Z:Bk->Prop} {g:Nat} {v:Value} (h:PRep w Z (.fn g []) v):v=.func (.func g) #[] #[]:=by
 cases h with
 |fn f caps us val h1 h2 h3=>
  have:us= #[]:=YM h1;rw[this]
theorem zag {us:List Value} {c:C} (h:us.length=[c].length): ∃v,us=[v]:=by
 match us,h with
 |[v],_=>exact⟨v,rfl⟩
theorem zdo {Z:Bk->Prop} {W W':World} {b:Nat} (hz: ∀q,Z q->q.2≠b/\q.2<W.heap.size) (hg:W.grownBy W' (some b)):xY Z W W':=fun q hq=>hg.block q.2 (hz q hq).2 (fun e=>(hz q hq).1 (by cases e;rfl))
theorem zw2 (τ:Nat) (L:List (List Int)) (hm:L.length<=1000000) (hl: ∀x∈L,x.length<=1000):yV Tryz.prog 102 [.k (.own τ),.k (.c (.fn 103 []))] (zD 28 1 τ (vU L)) [] (fun r o'=>r=.k (.own τ)/\o'=zD 28 1 τ (vU (yL L))):=by
 refine(jS (f:=102) (vN (by kernel_rfl)) 28 τ (k:=1) (by decide) (fun x=>[zB 1 (zG x)]) (fun _=>rfl) L [.fn 103 []] true (fun out=>out=yL L) (fun h=>by subst h;rfl) ?_ ?_).mono fun r o' ⟨h1,out,h2,h3⟩=>⟨h1,by subst h2;exact h3⟩
 ·rintro rfl p cap us W hu
  obtain⟨v,rfl⟩:=zag hu;exact(zw0 p cap v W).mono fun _ _ h=>h
 ·intro _ W Z b cap F0 us hglob hG hu hx hcap _
  obtain⟨v,rfl⟩:=zag hu;obtain rfl:=zw1 (hx 0 (by decide) (by simp));obtain⟨cur,e,h1,h2⟩:=hG.hp;obtain⟨e',sz,hR⟩:=RowIn.start hG;obtain⟨cs,k1,k2,_⟩:=hR.hb;rw[h1] at k1;cases k1;refine(zwW b cap e sz L W Z hR hm hcap ?_).mono ?_
  ·intro x hx y hy W' vx vy hg px py
   have hsz: ∀q,Z q->q.2<W'.heap.size:=fun q hq=>ZO (hG.z q hq).2 hg.size
   exact(zwO x y (by have:=hl x hx;omega) (by have:=hl y hy;omega)).boolC (hglob W' hg) hsz (wS (px.mono (zdo hG.z hg) fun _ h=>h) (wS (py.mono (zdo hG.z hg) fun _ h=>h) (yY _ _)))
  ·rintro ex w' ⟨rfl,dk,wr,hR2,hds,hd,hgb,hc⟩
   have hle:=fK L;refine⟨_,rfl,hle,(fun h=>nomatch h),rfl,?_⟩;refine hR2.ans (fun cur' e2 fr hb=>?_) (by omega) hd w' hgb hc;rw[h1] at hb;cases hb;exact⟨k2,rfl,rfl⟩
end Go.Abs
namespace Go.Ex
open Go.Lib
theorem zoN {α β:Type} [DecidableEq α] [DecidableEq β] {f:α->β} (hf: ∀a b,f a=f b->a=b): ∀(l:List α) (a:α),cfG (f a) (l.map f)=(cfG a l).map f
 |[],_=>rfl
 |b::l,a=>by
  rw[Zk,cfG,cfG,zoN hf l b];by_cases h:a=b
  ·subst h;rw[if_pos rfl,if_pos rfl]
  ·rw[if_neg h,if_neg fun q=>h (hf _ _ q)];rfl
theorem zoO {α β:Type} [DecidableEq α] [DecidableEq β] {f:α->β} (hf: ∀a b,f a=f b->a=b): ∀l:List α,yL (l.map f)=(yL l).map f
 |[]=>rfl
 |a::l=>by rw[Zk,yL,yL,zoN hf];rfl
end Go.Ex
namespace Go.Abs
open Go.Sort Go.Proofs Go.Shelf Go.RowKit Go.Lib Go.Wd Go.Wire Go.Ex
theorem zoP: ∀a b:List Nat,natI a=natI b->a=b
 |[],[],_=>rfl
 |[],_::_,h=>by cases h
 |_::_,[],h=>by cases h
 |a::x,b::y,h=>by
  have h1:(a:Int)::natI x=(b:Int)::natI y:=h
  injection h1 with h2 h3
  rw[zoP x y h3,Int.ofNat_inj.1 h2]
theorem fL (L:List (List Nat)):cfs L=vU (L.map natI):=by unfold cfs vU;rw[Xm];rfl
theorem zw3 (τ:Nat) (L:List (List Nat)) (hm:L.length<=1000000) (hk: ∀x∈L,x.length<=1000):yV Tryz.prog 100 [.k (.own τ),.k (.c (.fn 101 []))] (zD 28 1 τ (cfs L)) [τ] (fun r o'=>r=.tup []/\o'=zD 28 1 τ (cfs (sortO ltC L))):=by
 refine(znX Tryz.laysSortC (vN (by kernel_rfl)) 28 (fun x=>zB 1 (zG (natI x))) (fun x y=>uV (natI x) (natI y)) ltC znZ (aJ jN) 101 (enters_of Tryz.func101 (by kernel_rfl) rfl) τ L (by omega) ?_).mono ?_
 ·intro x hx y hy W Z vx vy hZ hvx hvy
  obtain⟨p1,b1,o1,c1,rfl,q1⟩:=gV hvx;obtain⟨p2,b2,o2,c2,rfl,q2⟩:=gV hvy;have hx':=hk x hx;have hy':=hk y hy;exact zwX b1 o1 c1 b2 o2 c2 p1 p2 (natI x) (natI y) W (by rw[wX];exact hx') (by rw[wX];exact hy') ⟨q1,q2⟩
 ·rintro r o' ⟨rfl,out,hp,hs,rfl⟩
  rw[jM jN hp hs];exact⟨rfl,rfl⟩
theorem zw4 (τ:Nat) (L:List (List Nat)) (hm:L.length<=1000000) (hl: ∀x∈L,x.length<=1000):yV Tryz.prog 102 [.k (.own τ),.k (.c (.fn 103 []))] (zD 28 1 τ (cfs L)) [] (fun r o'=>r=.k (.own τ)/\o'=zD 28 1 τ (cfs (yL L))):=by
 have h:=zw2 τ (L.map natI) (by simpa using hm) (fun x hx=>by obtain⟨y,hy,rfl⟩:=ZH.1 hx;rw[wX];exact hl y hy);rw[zoO zoP,<-fL,<-fL] at h;exact h
theorem zw5 {P:Program} {f d τ e k g:Nat} {xs:List AX} {K:KK} {ts:TS} {os:OS} {nl:Option Bool} {X:Prop} {rows rows':List (List C)} (rows0:List (List C))
  (hs:yV P f [.k (.own τ),.k (.c (.fn g []))] (zD e k τ rows) [] (fun r o'=>r=.k (.own τ)/\o'=zD e k τ rows')) (ho:lookO τ os=some (.arr e k nl rows0)) (hn:C.normRows rows0=rows)
  (hk:K (insT d (.k (.own τ)) (mapT (V.scrub τ) ts)) (insO τ (.arr e k none rows') (mapO (O.scrub τ) os))):X\/nQ P f [.k (.own τ),.k (.c (.fn g []))] xs K (some d) ts os:=by
 refine .inr (.inl ?_);refine⟨[τ],[],[τ],fun r o'=>r=.k (.own τ)/\o'=zD e k τ rows',by simp[V.within,Abs.K.within],rfl,?_,fun s hs=> .inr hs,?_,?_⟩
 ·intro s hs ob hob
  simp only[ZT] at hs;subst hs;rw[ho] at hob;cases hob;rfl
 ·have e1:(yE [τ] fun s=>(lookO s os).map O.nrm)=zD e k τ rows:=by
   funext s;by_cases h:s=τ
   ·subst h
    simp[yE,ho,zD,O.nrm,hn]
   ·simp[yE,zD,h]
  rw[e1];exact hs
 ·rintro r o' ⟨rfl,rfl⟩
  refine⟨fun s hs=>by simp at hs;simp[zD,hs],by simp[V.within,Abs.K.within],fun s ob h=>?_,?_⟩
  ·unfold zD at h
   split at h
   ·cases h;rfl
   ·cases h
  ·have e2:(mkS ts os).back [τ] [τ] (zD e k τ rows')=mkS (mapT (V.scrub τ) ts) (insO τ (.arr e k none rows') (mapO (O.scrub τ) os)):=by
    simp only[St.back,mkS,St.mk.injEq];refine⟨by funext s;rw[nO _ rfl];rfl,?_⟩;funext s;rw[nM];by_cases h:s=τ
    ·subst h;simp[zD]
    ·simp only[Xl,XS,XM,beq_iff_eq,h,if_false,lA]
     cases lookO s os<;>rfl
   show onS K (((mkS ts os).back [τ] [τ] (zD e k τ rows')).put d (.k (.own τ)));rw[e2,tZ];exact xN hk
theorem fM (L:List (List Nat)):(cfs L).length=L.length:=by simp[cfs]
theorem zoQ (L:List (List Nat)) (x:List Nat):cfs L++[[zB 1 (zG (natI x))]]=cfs (L++[x]):=by simp[cfs]
def failR (L:List Dmd) (D:List Dcm) (i:Nat):List (List Nat):=(List.range i).map fun i=>uD L (rdsD D i)
theorem zw6 (L:List Dmd) (D:List Dcm) (i:Nat):failR L D (i+1)=failR L D i++[uD L (rdsD D i)]:=by unfold failR;rw[Xk,ZS];rfl
theorem zoR (L:List Dmd) (p:List Pln):(uD L p).length<=L.length:=by
 unfold uD;exact ZX (Yq _ _) (by simp)
theorem q47 (L:List Dmd) (D:List Dcm) (hA:AskS L D) (h0:(cnts D).2.2=0):Spec Tryz.prog 47 [lst 8 (L.map zU),lst 2 (D.map zJ)] (fun v=>v=lst 1 (cfs (failC L D))):=by
 refine Spec.of_awlP hf47 okf47 (by simp) fun S hS=>?_
 have hok:=rJ h0;have g1:=q98 D hA.dc h0;have hle:=hok.le;have hL8:=hA.l8;simp only[Qs,bne_iff_ne,ne_eq,Zc,Zn,Za,zs0];refine yQ g1 ?_ (ha:=by simp only[Zk,Zp,zC,V.norm,zM,zQ yK]<;>rfl);simp only[zoM,Qs];refine zR (fun x:Nat×Option Bool=>[(0,lst 8 (L.map zU)),(5,.k (.own 5)),(9,lst 1 (oV D)),(10,.int .i64 (yF D:Nat)),(11,.int .i64 x.1)]) (fun x=>[(5,.arr 28 1 x.2 (cfs (failR L D x.1)))])
  (fun x=>x.1<=yF D) (fun x=>yF D-x.1) (0,some true) rfl rfl (ZC _) ?_
 rintro⟨i,nl⟩ hi;simp only[] at hi;by_cases hlt:i<yF D
 ·have c1:(i:Int)<yF D:=by omega
  have c4:IntKind.i64.wrap ((i:Int)+1)=(i:Int)+1:=wrap_in (by omega) (by omega);have hp:=hA.rd h0 i hlt;have hat:(oV D).getD i []=[zB 3 (uU (rdsD D i))]:=by simp[oV,mI,hlt]
  have g:=c15 L (rdsD D i) (by omega) hp;have hfi:zcS L (rdsD D i)=natI (uD L (rdsD D i)):=rfl;rw[hfi] at g;have hs:=zw6 L D i;have hlr:(failR L D i).length=i:=by simp[failR]
  simp only[c1,hat,zoM,Qs,Za];refine yQ g ?_ (ha:=by simp only[Zk,Zp,zC,V.norm,zM,zQ wK,mC,C.norm]<;>rfl);simp only[c4,fM,hlr,zoQ,<-hs,Qs,forall_eq,bne_iff_ne,ne_eq,ZJ,Zn,Zl,Z5,Za,Zt];exact⟨by omega,by omega,Next.intro (i+1,some false) rfl rfl (by simp only;omega) (by simp only;omega)⟩
 ·have c1: ¬(i:Int)<yF D:=by omega
  obtain rfl:i=yF D:=by omega
  simp only[c1,Qs,Za];have hb: ∀x∈failR L D (yF D),x.length<=1000:=by
   intro x hx;obtain⟨j,_,rfl⟩:=ZH.1 hx;have:=zoR L (rdsD D j);omega
  have hlr:(failR L D (yF D)).length=yF D:=by simp[failR]
  have e:failC L D=yL (sortO ltC (failR L D (yF D))):=rfl;rw[e] at hS;generalize failR L D (yF D)=R at hS hb hlr;have g2:=zw3 5 R (by omega) hb;have hsl:(sortO ltC R).length=R.length:=(vE ltC R).length_eq;have g3:=zw4 5 (sortO ltC R) (by omega) (fun x hx=>hb x ((vE ltC R).mem_iff.1 hx));refine aK (Q:=fun out=>out=sortO ltC R) (encR:=fun x=>[zB 1 (zG (natI x))]) (cfs R) R (g2.mono fun r o ⟨h1,h2⟩=>⟨h1,_,rfl,h2⟩) rfl (mE _) ?_;rintro out rfl;simp only[Qs,Za];refine zw5 (cfs (sortO ltC R)) g3 rfl (mE _) ?_;simp only[Qs,nT,ZK,Zt];refine hS _ ?_;have e1:=mE (yL (sortO ltC R));simp only[V.fz,V.fzL,V.nrm,V.nrmL,e1,uK e1]
end Go.Abs
namespace Go.Proofs
open Go.Shelf Go.RowKit
def Tryz.laysSortS_ren:Go.Shelf.Ren:=
 {
  f:=fun x=>
   match x with
   |190=>64
   |125=>105
   |258=>125
   |128=>173
   |129=>174
   |302=>186
   |303=>187
   |304=>188
   |305=>189
   |306=>190
   |307=>191
   |308=>192
   |309=>193
   |310=>194
   |333=>248
   |329=>233
   |330=>234
   |334=>249
   |335=>250
   |336=>251
   |344=>271
   |n=>n,
  t:=fun x=>
   match x with
   |31=>35
   |9=>9
   |3=>3
   |46=>115
   |0=>0
   |51=>195
   |53=>197
   |4=>4
   |183=>187
   |182=>186
   |131=>192
   |5=>5
   |218=>243
   |222=>247
   |228=>280
   |229=>281
   |n=>n,
  g:=fun n=>n}
theorem Tryz.laysSortS:Lays.n190 Tryz.prog Tryz.laysSortS_ren:=
 {mixed:=by kernel_rfl,f125:=ZI Tryz.func105 (congrArg some (ZG (Body.n125 Tryz.laysSortS_ren))),
  f128:=ZI Tryz.func173 (congrArg some (ZG (Body.n128 Tryz.laysSortS_ren))),
  f129:=ZI Tryz.func174 (congrArg some (ZG (Body.n129 Tryz.laysSortS_ren))),
  f190:=ZI Tryz.func64 (congrArg some (ZG (Body.n190 Tryz.laysSortS_ren))),
  f258:=ZI Tryz.func125 (congrArg some (ZG (Body.n258 Tryz.laysSortS_ren))),
  f302:=ZI Tryz.func186 (congrArg some (ZG (Body.n302 Tryz.laysSortS_ren))),
  f303:=ZI Tryz.func187 (congrArg some (ZG (Body.n303 Tryz.laysSortS_ren))),
  f304:=ZI Tryz.func188 (congrArg some (ZG (Body.n304 Tryz.laysSortS_ren))),
  f305:=ZI Tryz.func189 (congrArg some (ZG (Body.n305 Tryz.laysSortS_ren))),
  f306:=ZI Tryz.func190 (congrArg some (ZG (Body.n306 Tryz.laysSortS_ren))),
  f307:=ZI Tryz.func191 (congrArg some (ZG (Body.n307 Tryz.laysSortS_ren))),
  f308:=ZI Tryz.func192 (congrArg some (ZG (Body.n308 Tryz.laysSortS_ren))),
  f309:=ZI Tryz.func193 (congrArg some (ZG (Body.n309 Tryz.laysSortS_ren))),
  f310:=ZI Tryz.func194 (congrArg some (ZG (Body.n310 Tryz.laysSortS_ren))),
  f329:=ZI Tryz.func233 (congrArg some (ZG (Body.n329 Tryz.laysSortS_ren))),
  f330:=ZI Tryz.func234 (congrArg some (ZG (Body.n330 Tryz.laysSortS_ren))),
  f333:=ZI Tryz.func248 (congrArg some (ZG (Body.n333 Tryz.laysSortS_ren))),
  f334:=ZI Tryz.func249 (congrArg some (ZG (Body.n334 Tryz.laysSortS_ren))),
  f335:=ZI Tryz.func250 (congrArg some (ZG (Body.n335 Tryz.laysSortS_ren))),
  f336:=ZI Tryz.func251 (congrArg some (ZG (Body.n336 Tryz.laysSortS_ren))),
  f344:=ZI Tryz.func271 (congrArg some (ZG (Body.n344 Tryz.laysSortS_ren))),t0:=Tryz.underlying0,
  a0:=Tryz.isAgg0,z0:=Tryz.sizeOf0,v0:=Tryz.zeroValue0,t3:=Tryz.underlying3,a3:=Tryz.isAgg3,
  z3:=Tryz.sizeOf3,v3:=Tryz.zeroValue3,t4:=Tryz.underlying4,a4:=Tryz.isAgg4,z4:=Tryz.sizeOf4,
  v4:=Tryz.zeroValue4,t5:=Tryz.underlying5,a5:=Tryz.isAgg5,z5:=Tryz.sizeOf5,v5:=Tryz.zeroValue5,
  t9:=Tryz.underlying9,a9:=Tryz.isAgg9,z9:=Tryz.sizeOf9,v9:=Tryz.zeroValue9,t31:=Tryz.underlying35,
  a31:=Tryz.isAgg35,z31:=Tryz.sizeOf35,v31:=Tryz.zeroValue35,t46:=Tryz.underlying115,a46:=Tryz.isAgg115,
  z46:=Tryz.sizeOf115,v46:=Tryz.zeroValue115,t51:=Tryz.underlying195,a51:=Tryz.isAgg195,z51:=Tryz.sizeOf195,
  v51:=Tryz.zeroValue195,t53:=Tryz.underlying197,a53:=Tryz.isAgg197,z53:=Tryz.sizeOf197,
  v53:=Tryz.zeroValue197,t131:=Tryz.underlying192,a131:=Tryz.isAgg192,z131:=Tryz.sizeOf192,
  v131:=Tryz.zeroValue192,t182:=Tryz.underlying186,a182:=Tryz.isAgg186,z182:=Tryz.sizeOf186,
  v182:=Tryz.zeroValue186,t183:=Tryz.underlying187,a183:=Tryz.isAgg187,z183:=Tryz.sizeOf187,
  v183:=Tryz.zeroValue187,t218:=Tryz.underlying243,a218:=Tryz.isAgg243,z218:=Tryz.sizeOf243,
  v218:=Tryz.zeroValue243,t222:=Tryz.underlying247,a222:=Tryz.isAgg247,z222:=Tryz.sizeOf247,
  v222:=Tryz.zeroValue247,t228:=Tryz.underlying280,a228:=Tryz.isAgg280,z228:=Tryz.sizeOf280,
  v228:=Tryz.zeroValue280,t229:=Tryz.underlying281,a229:=Tryz.isAgg281,z229:=Tryz.sizeOf281,
  v229:=Tryz.zeroValue281}
def Tryz.laysCompS_ren:Go.Shelf.Ren:=
 {
  f:=fun x=>
   match x with
   |194=>65
   |n=>n,
  t:=fun x=>
   match x with
   |31=>35
   |9=>9
   |3=>3
   |4=>4
   |0=>0
   |n=>n,
  g:=fun n=>n}
theorem Tryz.laysCompS:Lays.n194 Tryz.prog Tryz.laysCompS_ren:=
 {mixed:=by kernel_rfl,f194:=ZI Tryz.func65 (congrArg some (ZG (Body.n194 Tryz.laysCompS_ren))),
  t0:=Tryz.underlying0,a0:=Tryz.isAgg0,z0:=Tryz.sizeOf0,v0:=Tryz.zeroValue0,t3:=Tryz.underlying3,
  a3:=Tryz.isAgg3,z3:=Tryz.sizeOf3,v3:=Tryz.zeroValue3,t4:=Tryz.underlying4,a4:=Tryz.isAgg4,
  z4:=Tryz.sizeOf4,v4:=Tryz.zeroValue4,t9:=Tryz.underlying9,a9:=Tryz.isAgg9,z9:=Tryz.sizeOf9,
  v9:=Tryz.zeroValue9,t31:=Tryz.underlying35,a31:=Tryz.isAgg35,z31:=Tryz.sizeOf35,v31:=Tryz.zeroValue35}
def Tryz.laysSortI_ren:Go.Shelf.Ren:=
 {
  f:=fun x=>
   match x with
   |189=>48
   |125=>105
   |257=>104
   |128=>173
   |129=>174
   |294=>164
   |295=>165
   |296=>166
   |297=>167
   |298=>168
   |299=>169
   |216=>170
   |300=>171
   |301=>172
   |328=>232
   |329=>233
   |330=>234
   |331=>235
   |332=>236
   |215=>237
   |343=>265
   |n=>n,
  t:=fun x=>
   match x with
   |28=>28
   |3=>3
   |46=>115
   |0=>0
   |51=>195
   |53=>197
   |4=>4
   |183=>187
   |182=>186
   |131=>192
   |5=>5
   |9=>9
   |218=>243
   |222=>247
   |228=>280
   |229=>281
   |n=>n,
  g:=fun n=>n}
theorem Tryz.laysSortI:Lays.n189 Tryz.prog Tryz.laysSortI_ren:=
 {mixed:=by kernel_rfl,f125:=ZI Tryz.func105 (congrArg some (ZG (Body.n125 Tryz.laysSortI_ren))),
  f128:=ZI Tryz.func173 (congrArg some (ZG (Body.n128 Tryz.laysSortI_ren))),
  f129:=ZI Tryz.func174 (congrArg some (ZG (Body.n129 Tryz.laysSortI_ren))),
  f189:=ZI Tryz.func48 (congrArg some (ZG (Body.n189 Tryz.laysSortI_ren))),
  f215:=ZI Tryz.func237 (congrArg some (ZG (Body.n215 Tryz.laysSortI_ren))),
  f216:=ZI Tryz.func170 (congrArg some (ZG (Body.n216 Tryz.laysSortI_ren))),
  f257:=ZI Tryz.func104 (congrArg some (ZG (Body.n257 Tryz.laysSortI_ren))),
  f294:=ZI Tryz.func164 (congrArg some (ZG (Body.n294 Tryz.laysSortI_ren))),
  f295:=ZI Tryz.func165 (congrArg some (ZG (Body.n295 Tryz.laysSortI_ren))),
  f296:=ZI Tryz.func166 (congrArg some (ZG (Body.n296 Tryz.laysSortI_ren))),
  f297:=ZI Tryz.func167 (congrArg some (ZG (Body.n297 Tryz.laysSortI_ren))),
  f298:=ZI Tryz.func168 (congrArg some (ZG (Body.n298 Tryz.laysSortI_ren))),
  f299:=ZI Tryz.func169 (congrArg some (ZG (Body.n299 Tryz.laysSortI_ren))),
  f300:=ZI Tryz.func171 (congrArg some (ZG (Body.n300 Tryz.laysSortI_ren))),
  f301:=ZI Tryz.func172 (congrArg some (ZG (Body.n301 Tryz.laysSortI_ren))),
  f328:=ZI Tryz.func232 (congrArg some (ZG (Body.n328 Tryz.laysSortI_ren))),
  f329:=ZI Tryz.func233 (congrArg some (ZG (Body.n329 Tryz.laysSortI_ren))),
  f330:=ZI Tryz.func234 (congrArg some (ZG (Body.n330 Tryz.laysSortI_ren))),
  f331:=ZI Tryz.func235 (congrArg some (ZG (Body.n331 Tryz.laysSortI_ren))),
  f332:=ZI Tryz.func236 (congrArg some (ZG (Body.n332 Tryz.laysSortI_ren))),
  f343:=ZI Tryz.func265 (congrArg some (ZG (Body.n343 Tryz.laysSortI_ren))),t0:=Tryz.underlying0,
  a0:=Tryz.isAgg0,z0:=Tryz.sizeOf0,v0:=Tryz.zeroValue0,t3:=Tryz.underlying3,a3:=Tryz.isAgg3,z3:=Tryz.sizeOf3,
  v3:=Tryz.zeroValue3,t4:=Tryz.underlying4,a4:=Tryz.isAgg4,z4:=Tryz.sizeOf4,v4:=Tryz.zeroValue4,
  t5:=Tryz.underlying5,a5:=Tryz.isAgg5,z5:=Tryz.sizeOf5,v5:=Tryz.zeroValue5,t9:=Tryz.underlying9,
  a9:=Tryz.isAgg9,z9:=Tryz.sizeOf9,v9:=Tryz.zeroValue9,t28:=Tryz.underlying28,a28:=Tryz.isAgg28,
  z28:=Tryz.sizeOf28,v28:=Tryz.zeroValue28,t46:=Tryz.underlying115,a46:=Tryz.isAgg115,z46:=Tryz.sizeOf115,
  v46:=Tryz.zeroValue115,t51:=Tryz.underlying195,a51:=Tryz.isAgg195,z51:=Tryz.sizeOf195,v51:=Tryz.zeroValue195,
  t53:=Tryz.underlying197,a53:=Tryz.isAgg197,z53:=Tryz.sizeOf197,v53:=Tryz.zeroValue197,t131:=Tryz.underlying192,
  a131:=Tryz.isAgg192,z131:=Tryz.sizeOf192,v131:=Tryz.zeroValue192,t182:=Tryz.underlying186,a182:=Tryz.isAgg186,
  z182:=Tryz.sizeOf186,v182:=Tryz.zeroValue186,t183:=Tryz.underlying187,a183:=Tryz.isAgg187,z183:=Tryz.sizeOf187,
  v183:=Tryz.zeroValue187,t218:=Tryz.underlying243,a218:=Tryz.isAgg243,z218:=Tryz.sizeOf243,v218:=Tryz.zeroValue243,
  t222:=Tryz.underlying247,a222:=Tryz.isAgg247,z222:=Tryz.sizeOf247,v222:=Tryz.zeroValue247,
  t228:=Tryz.underlying280,a228:=Tryz.isAgg280,z228:=Tryz.sizeOf280,v228:=Tryz.zeroValue280,
  t229:=Tryz.underlying281,a229:=Tryz.isAgg281,z229:=Tryz.sizeOf281,v229:=Tryz.zeroValue281}
def Tryz.laysCompI_ren:Go.Shelf.Ren:=
 {
  f:=fun x=>
   match x with
   |20=>49
   |n=>n,
  t:=fun x=>
   match x with
   |22=>28
   |3=>3
   |4=>4
   |0=>0
   |n=>n,
  g:=fun n=>n}
theorem Tryz.laysCompI:Lays2.n20 Tryz.prog Tryz.laysCompI_ren:=
 {mixed:=by kernel_rfl,f20:=ZI Tryz.func49 (congrArg some (ZG (Body2.n20 Tryz.laysCompI_ren))),
  t0:=Tryz.underlying0,a0:=Tryz.isAgg0,z0:=Tryz.sizeOf0,v0:=Tryz.zeroValue0,t3:=Tryz.underlying3,
  a3:=Tryz.isAgg3,z3:=Tryz.sizeOf3,v3:=Tryz.zeroValue3,t4:=Tryz.underlying4,a4:=Tryz.isAgg4,z4:=Tryz.sizeOf4,
  v4:=Tryz.zeroValue4,t22:=Tryz.underlying28,a22:=Tryz.isAgg28,z22:=Tryz.sizeOf28,v22:=Tryz.zeroValue28,
  i3:=by kernel_rfl}
def Tryz.laysGrowI_ren:Go.Shelf.Ren:=
 {f:=fun x=>
   match x with
   |4=>97
   |n=>n,
  t:=fun x=>
   match x with
   |22=>28
   |25=>3
   |3=>3
   |4=>4
   |9=>9
   |20=>20
   |0=>0
   |n=>n,
  g:=fun n=>n}
theorem Tryz.laysGrowI:Lays8.n4 Tryz.prog Tryz.laysGrowI_ren:=
 {mixed:=ZG true,
  f4:=Yc "slices.Grow[[]int,int]" ⟨of_decide_eq_true (id (ZG true)),
   ZI Tryz.func97 (congrArg some (ZG {Body8.n4 Tryz.laysGrowI_ren with name:= "slices.Grow[[]int,int]" }))⟩,
  t0:=Tryz.underlying0,a0:=Tryz.isAgg0,z0:=Tryz.sizeOf0,v0:=Tryz.zeroValue0,t3:=Tryz.underlying3,a3:=Tryz.isAgg3,z3:=Tryz.sizeOf3,v3:=Tryz.zeroValue3,
  t4:=Tryz.underlying4,a4:=Tryz.isAgg4,z4:=Tryz.sizeOf4,v4:=Tryz.zeroValue4,t9:=Tryz.underlying9,a9:=Tryz.isAgg9,z9:=Tryz.sizeOf9,v9:=Tryz.zeroValue9,
  t20:=Tryz.underlying20,a20:=Tryz.isAgg20,z20:=Tryz.sizeOf20,v20:=Tryz.zeroValue20,t22:=Tryz.underlying28,a22:=Tryz.isAgg28,z22:=Tryz.sizeOf28,v22:=Tryz.zeroValue28}
end Go.Proofs
namespace Go.Abs
open Go.Proofs
theorem q97 {n:Nat} (h:n<=1000000):Spec Tryz.prog 97 [.k (.c (.list 0 (some true) [])),.int .i64 n] (fun r=>r=.k (.newl 3 1 none [])):=
 zsi (i0:=(Tryz.prog.info? 3).getD default) (z:=.int .i64 0) Tryz.laysGrowI (vN (by kernel_rfl)) (by kernel_rfl) (by kernel_rfl) (by kernel_rfl) rfl (by
  have:((Tryz.prog.info? (Tryz.laysGrowI_ren.t 25)).getD default).bytes=8:=by kernel_rfl
  show n*((Tryz.prog.info? (Tryz.laysGrowI_ren.t 25)).getD default).bytes<=_
  rw[this];omega) (by omega)
end Go.Abs
namespace Go.Abs
open Go.Proofs Go.RowKit Go.Lib Go.Wd Go.Wire Go.Ex
theorem zw7 {P:Program} {f:FuncId} {vs:List V} {K:KK} {d:Nat} {ts:TS} {os:OS} {args:List V} {e sz:Nat} {nl:Option Bool} {rows:List (List C)} {X:Prop} (hs:Spec P f args (fun r'=>r'=.k (.newl e sz nl rows))) (hk:K (insT d (.k (.own d)) ts) (insO d (.arr e sz nl rows) os))
  (hp:vs.all (fun v=>(zC os v).isPure)=true:=by simp[zC,vZ,lookO,V.isPure])
  (ha:vs.map (zC os)=args:=by rfl)
  (ht:vs.all (fun v=>v.toks.isEmpty)=true:=by simp[V.toks,K.toks]) (hf:freeB d ts os:=by rfl):pL P f vs [] K (some d) ts os\/X:=by
 refine .inl ⟨hp,_,.inr ⟨rfl,by rw[ha];exact hs⟩,?_⟩;rw[if_neg (by simp[V.scalar])];refine⟨ht,?_⟩;show regK _ _ _ _ _ _;refine⟨⟨⟨hf,.inl rfl⟩,trivial⟩,hk⟩
theorem zoS {l:List (List Int)} {i:Nat} (h:i<l.length):(l.take (i+1)).flatten=(l.take i).flatten++l[i]:=by
 rw[List.take_add_one,Zf h,List.flatten_append];simp
theorem zoT {l:List (List Int)} (i:Nat):(l.take i).flatten.length<=l.flatten.length:=by
 conv=>rhs;rw[<-List.take_append_drop i l,List.flatten_append,Zq]
 omega
theorem q46 (l:List (List Int)) (hl:l.length<=1000000) (h:l.flatten.length<=1000000):Spec Tryz.prog 46 [lst 1 (vU l)] (fun r=>r=.k (.newl 3 1 none (zG l.flatten))):=by
 refine Spec.of_awlS hf46 okf46 (by simp) fun S hS=>?_
 simp only[oA,Qs,Za,Ψ46];rw[uu f46l35.eq_1];refine zR (fun i:Nat=>[(0,lst 1 (vU l)),(3,.int .i64 ((l.take i).flatten.length:Nat)),(9,lst 1 (vU l)),(10,.int .i64 l.length),(11,.int .i64 i)]) (fun _=>[])
  (fun i=>i<=l.length) (fun i=>l.length-i) 0 rfl rfl (ZC _) ?_
 intro i hi;by_cases hlt:i<l.length
 ·have c1:(i:Int)<l.length:=by omega
  have c4:IntKind.i64.wrap ((i:Int)+1)=(i:Int)+1:=wrap_in (by omega) (by omega);have hf:=zoS hlt;have hle:=zoT (l:=l) (i+1);have hn:(l.take (i+1)).flatten.length=(l.take i).flatten.length+l[i].length:=by rw[hf];simp
  have c5:IntKind.i64.wrap (((l.take i).flatten.length:Nat)+(l[i].length:Int))=((l.take (i+1)).flatten.length:Nat):=by rw[wrap_in (by omega) (by omega)];omega
  have c6: ¬((((l.take (i+1)).flatten.length:Nat):Int)<0):=by omega
  simp only[c1,c4,c5,c6,fI hlt,oA,yJ,Qs,Za,Ψ46];exact Next.intro (i+1) rfl rfl (by omega) (by omega)
 ·have c1: ¬(i:Int)<l.length:=by omega
  obtain rfl:i=l.length:=by omega
  rw[Yk];simp only[c1,Qs,Za,Ψ46];refine zw7 (q97 h) ?_;simp only[oA,Qs,Za,Ψ46];rw[uu f46l13.eq_1];refine zR (fun x:Nat×Option Bool=>[(6,.k (.own 24)),(25,lst 1 (vU l)),(26,.int .i64 l.length),(27,.int .i64 x.1)]) (fun x=>[(24,.arr 3 1 x.2 (zG (l.take x.1).flatten))])
   (fun x=>x.1<=l.length) (fun x=>l.length-x.1) (0,none) rfl rfl (ZC _) ?_
  rintro⟨i,nl⟩ hi;simp only[] at hi;by_cases hlt:i<l.length
  ·have c1:(i:Int)<l.length:=by omega
   have c4:IntKind.i64.wrap ((i:Int)+1)=(i:Int)+1:=wrap_in (by omega) (by omega);have hf:=zoS hlt;have hle:=zoT (l:=l) (i+1);have hn:(l.take (i+1)).flatten.length=(l.take i).flatten.length+l[i].length:=by rw[hf];simp
   simp only[c1,c4,fI hlt,oA,yJ,ztO,<-hf,Qs,Za,gM,Ψ46];refine⟨by omega,by omega,Next.intro (i+1,_) rfl rfl (by simp only[];omega) (by simp only[];omega)⟩
  ·have c1: ¬(i:Int)<l.length:=by omega
   obtain rfl:i=l.length:=by omega
   rw[Yk];simp only[c1,Qs,ZK,Za,Zt,Ψ46];exact hS
end Go.Abs
namespace Go.Ex
def ltI (a b:Int):Bool:=decide (a<b)
theorem zw8:Strict ltI:=⟨fun a=>by simp[ltI],fun a b c h1 h2=>by simp[ltI] at*;omega,fun a b h1 h2=>by simp[ltI] at*;omega⟩
theorem zoU {α β:Type} {lt:α->α->Bool} {lt':β->β->Bool} {f:α->β} (h: ∀a b,lt' (f a) (f b)=lt a b) (x:α): ∀l:List α,insO lt' (f x) (l.map f)=(insO lt x l).map f
 |[]=>rfl
 |y::l=>by
  rw[Zk,insO,insO,h,zoU h x l];split<;>rfl
theorem zoV {α β:Type} {lt:α->α->Bool} {lt':β->β->Bool} {f:α->β} (h: ∀a b,lt' (f a) (f b)=lt a b): ∀l:List α,sortO lt' (l.map f)=(sortO lt l).map f
 |[]=>rfl
 |x::l=>by rw[Zk,sortO,sortO,zoV h l,zoU h]
end Go.Ex
namespace Go.Abs
open Go.Sort Go.Proofs Go.Shelf Go.Lib Go.RowKit Go.Ex
theorem zw9 (l:List Int):(l.mergeSort fun x y=>decide (x<=y))=sortO ltI l:=by
 refine jM zw8 (List.mergeSort_perm l _) ?_;have:=List.pairwise_mergeSort (le:=fun x y:Int=>decide (x<=y)) (fun a b c h1 h2=>by simp only[decide_eq_true_eq] at*;omega) (fun a b=>by simp;omega) l;exact this.imp fun h=>by simp[ltI] at h⊢;exact h
theorem q48 (τ:Nat) (l:List Int) (hm:l.length<4611686018427387904):yV Tryz.prog 48 [.k (.own τ)] (zD 3 1 τ (zG l)) [τ] (fun r o'=>r=.tup []/\ ∃out,out=sortO ltI l/\o'=zD 3 1 τ (zG out)):=by
 refine(jS (f:=48) (vN (by kernel_rfl)) 3 τ (k:=1) (by decide) (fun n=>[C.int .i64 n]) (fun _=>rfl) l [] false (fun out=>out=sortO ltI l) (fun h=>by subst h;rfl) ?_ ?_)
 ·rintro rfl p cap us W hu
  obtain rfl:=mH hu rfl;exact(Any.slices_Sort_int_none Tryz.laysSortI p cap W).mono fun _ _ h=>h
 ·intro _ W Z b cap F0 us _ hG hu _ hcap _
  have hF:=hG.s;rw[Yv] at hF;obtain rfl:=mH hu rfl;refine(Any.slices_Sort_int Tryz.laysSortI b 0 cap l W (zad (enc:=Value.int .i64) (fun w Z x v h=>vK h) hG) hG.lt hm).mono ?_;rintro ex w' ⟨rfl,n,os,rfl⟩;have hls:(sortO ltI l).length=l.length:=(vE ltI l).length_eq;rw[zw9];exact⟨_,rfl,by omega,fun _=>hls,rfl,zac (fun _ _ _=> .int _ _) hG.h (by simp[hls,hF]) (by simp) fun i hi=>by simp[hi]⟩
theorem q49 (τ:Nat) (l:List Int) (hm:l.length<=9223372036854775807):yV Tryz.prog 49 [.k (.own τ)] (zD 3 1 τ (zG l)) [] (fun r o'=>r=.k (.own τ)/\ ∃out,out=yL l/\o'=zD 3 1 τ (zG out)):=by
 refine(jS (f:=49) (vN (by kernel_rfl)) 3 τ (k:=1) (by decide) (fun n=>[C.int .i64 n]) (fun _=>rfl) l [] true (fun out=>out=yL l) (fun h=>by subst h;rfl) ?_ ?_)
 ·rintro rfl p cap us W hu
  obtain rfl:=mH hu rfl;exact(Any.slices_Compact_int_empty Tryz.laysCompI p cap W).mono fun _ _ h=>h
 ·intro _ W Z b cap F0 us _ hG hu _ hcap _
  have hF:=hG.s;rw[Yv] at hF;obtain rfl:=mH hu rfl;refine(Any.slices_Compact_int Tryz.laysCompI b 0 cap l W (zad (enc:=Value.int .i64) (fun w Z x v h=>vK h) hG) hm hcap).mono ?_;rintro ex w' ⟨rfl,q,rfl⟩;have hle:=fK l;rw[gX];refine⟨_,rfl,hle,(fun h=>nomatch h),rfl,?_⟩;rw[<-grow_empty (putRow _ _ _ _ _)];exact zac (fun _ _ _=> .int _ _) hG.h (by simp[hF];omega) (by simp) fun i hi=>by simp[List.getElem?_append,hi]
section
variable {P : Program} {f d τ e k : Nat} {xs : List AX} {K : KK} {ts : TS} {os : OS} {nl : Option Bool} {X : Prop} {β : Type} {encR : β -> List C} {Q : List β -> Prop} {us us' : List V}
theorem zoW {rows rows0:List (List C)} (ho:lookO τ os=some (.arr e k nl rows0)) (hn:C.normRows rows0=rows):(yE [τ] fun s=>(lookO s os).map O.nrm)=zD e k τ rows:=by
 funext s;by_cases h:s=τ
 ·subst h
  simp[yE,ho,zD,O.nrm,hn]
 ·simp[yE,zD,h]
theorem zoX (rows0:List (List C)) (ks:List β) (hs:yV P f (.k (.own τ)::us') (zD e k τ (ks.map encR)) [τ] (fun r o'=>r=.tup []/\ ∃out,Q out/\o'=zD e k τ (out.map encR))) (ho:lookO τ os=some (.arr e k nl rows0)) (hn:C.normRows rows0=ks.map encR)
  (hk: ∀out,Q out->K (insT d (.tup []) ts) (insO τ (.arr e k none (out.map encR)) os)) (hu:us.map V.nrm=us':=by rfl) (hw:us.all (V.within [τ])=true:=by rfl):X\/nQ P f (.k (.own τ)::us) xs K (some d) ts os:=by
 refine .inr (.inl ?_);refine⟨[τ],[τ],[],fun r o'=>r=.tup []/\ ∃out,Q out/\o'=zD e k τ (out.map encR),by rw[Zp,Ze,Yz,hw];simp[V.within,Abs.K.within],rfl,?_,fun s hs=> .inl hs,?_,?_⟩
 ·intro s hs ob hob
  simp only[ZT] at hs;subst hs;rw[ho] at hob;cases hob;rfl
 ·rw[zoW ho hn,Zp,Ze,Zk,hu];exact hs
 ·rintro r o' ⟨rfl,out,hQ,rfl⟩
  refine⟨fun s hs=>by simp at hs;simp[zD,hs],rfl,fun s ob h=>?_,?_⟩
  ·unfold zD at h
   split at h
   ·cases h;rfl
   ·cases h
  ·have e2:(mkS ts os).back [τ] [] (zD e k τ (out.map encR))=mkS ts (insO τ (.arr e k none (out.map encR)) os):=by
    simp only[St.back,mkS,St.mk.injEq];refine⟨by funext s;rfl,?_⟩;funext s;rw[nM];by_cases h:s=τ
    ·subst h;simp[zD]
    ·simp only[Xl,XS,XM,beq_iff_eq,h,if_false]
     cases lookO s os<;>rfl
   show onS K (((mkS ts os).back [τ] [] (zD e k τ (out.map encR))).put d (.tup []));rw[e2,tZ];exact xN (hk out hQ)
theorem zdp (rows0:List (List C)) (ks:List β) (hs:yV P f (.k (.own τ)::us') (zD e k τ (ks.map encR)) [] (fun r o'=>r=.k (.own τ)/\ ∃out,Q out/\o'=zD e k τ (out.map encR))) (ho:lookO τ os=some (.arr e k nl rows0)) (hn:C.normRows rows0=ks.map encR)
  (hk: ∀out,Q out->K (insT d (.k (.own τ)) (mapT (V.scrub τ) ts)) (insO τ (.arr e k none (out.map encR)) (mapO (O.scrub τ) os))) (hu:us.map V.nrm=us':=by rfl) (hw:us.all (V.within [τ])=true:=by rfl):X\/nQ P f (.k (.own τ)::us) xs K (some d) ts os:=by
 refine .inr (.inl ?_);refine⟨[τ],[],[τ],fun r o'=>r=.k (.own τ)/\ ∃out,Q out/\o'=zD e k τ (out.map encR),by rw[Zp,Ze,Yz,hw];simp[V.within,Abs.K.within],rfl,?_,fun s hs=> .inr hs,?_,?_⟩
 ·intro s hs ob hob
  simp only[ZT] at hs;subst hs;rw[ho] at hob;cases hob;rfl
 ·rw[zoW ho hn,Zp,Ze,Zk,hu];exact hs
 ·rintro r o' ⟨rfl,out,hQ,rfl⟩
  refine⟨fun s hs=>by simp at hs;simp[zD,hs],by simp[V.within,Abs.K.within],fun s ob h=>?_,?_⟩
  ·unfold zD at h
   split at h
   ·cases h;rfl
   ·cases h
  ·have e2:(mkS ts os).back [τ] [τ] (zD e k τ (out.map encR))=mkS (mapT (V.scrub τ) ts) (insO τ (.arr e k none (out.map encR)) (mapO (O.scrub τ) os)):=by
    simp only[St.back,mkS,St.mk.injEq];refine⟨by funext s;rw[nO _ rfl];rfl,?_⟩;funext s;rw[nM];by_cases h:s=τ
    ·subst h;simp[zD]
    ·simp only[Xl,XS,XM,beq_iff_eq,h,if_false,lA]
     cases lookO s os<;>rfl
   show onS K (((mkS ts os).back [τ] [τ] (zD e k τ (out.map encR))).put d (.k (.own τ)));rw[e2,tZ];exact xN (hk out hQ)
end
end Go.Abs
namespace Go.Ex
open Go.Lib Go.Wd Go.Wire Go.Abs
theorem zzi (m:Nat) (F:List Nat):stateV (mB m F)=0 ↔ 0 ∉ F:=by
 have h:(0:Nat)∈(mB m F).sets ↔ 0∈F:=by
  show(0:Nat)∈wL F [] ↔ _;rw[bQ];simp
 unfold stateV;rw[<-h];split
 ·rename_i q
  exact⟨fun e=>(by split at e<;>cases e),fun e=>absurd q e⟩
 ·rename_i q;exact⟨fun _=>q,fun _=>rfl⟩
theorem zzj (m:Nat) {F:List Nat} (hne:F≠[]):stateV (mB m F)=1 ↔ ∀f∈F,f=0:=by
 rw[<-zzh];have h1:zyT F=F.length ↔ ∀f∈F,f=0:=by
  unfold zyT;rw[List.length_filter_eq_length_iff];simp
 have hl:0<F.length:=Ye.2 hne;unfold stG;rw[<-h1];split
 ·rename_i q;exact⟨fun e=>(by cases e),fun e=>(by omega)⟩
 ·split
  ·rename_i q;exact⟨fun _=>q,fun _=>rfl⟩
  ·rename_i q;exact⟨fun e=>(by cases e),fun e=>absurd e q⟩
theorem zyW {l:List Nat}:uE l=0 ↔ l=[]:=by
 constructor
 ·intro h
  cases l with
  |nil=>rfl
  |cons a l=>
   exfalso;have:=zcK (a::l) a;rw[h,Xb] at this;simp at this
 ·rintro rfl;rfl
theorem zzk {L:List Dmd} {p:List Pln}:uD L p=[] ↔ ∀m∈L,sF m p=true:=by
 constructor
 ·intro h m hm
  obtain⟨k,hk,rfl⟩:=YN hm;cases q:sF L[k] p with
  |true=>rfl
  |false=>
   have:k∈uD L p:=zcJ.2 ⟨hk,by rw[Zi,Zf hk];exact q⟩;rw[h] at this;cases this
 ·intro h
  rw[List.eq_nil_iff_forall_not_mem];intro k hk;obtain⟨h1,h2⟩:=zcJ.1 hk;rw[Zi,Zf h1,YZ,h _ (Zv h1)] at h2;cases h2
def zyQ (keep:Nat->Bool):List Dmd->Nat->List Dmd
 |[],_=>[]
 |m::l,i=>if keep i=true then m::zyQ keep l (i+1) else zyQ keep l (i+1)
theorem zyX {keep:Nat->Bool} {x:Dmd}: ∀{l:List Dmd} {i:Nat},x∈zyQ keep l i ↔ ∃k,k<l.length/\keep (i+k)=true/\l.getD k wM=x
 |[],i=>by simp[zyQ]
 |m::l,i=>by
  rw[zyQ];have ih:=zyX (keep:=keep) (x:=x) (l:=l) (i:=i+1);constructor
  ·intro h
   have hsplit:(keep i=true/\x=m)\/x∈zyQ keep l (i+1):=by
    split at h
    ·rename_i q
     rcases ZJ.1 h with h|h
     ·exact .inl ⟨q,h⟩
     ·exact .inr h
    ·exact .inr h
   rcases hsplit with⟨q,rfl⟩|h
   ·exact⟨0,by simp,q,rfl⟩
   ·obtain⟨k,h1,h2,h3⟩:=ih.1 h
    exact⟨k+1,by simp;omega,by rw[<-h2];congr 1;omega,h3⟩
  ·rintro⟨k,h1,h2,h3⟩
   cases k with
   |zero=>
    rw[Yf] at h2;rw[if_pos h2];have:m=x:=h3;simp[this]
   |succ k=>
    have:x∈zyQ keep l (i+1):=ih.2 ⟨k,by simpa using h1,by rw[<-h2];congr 1;omega,h3⟩;split
    ·exact Zy _ this
    ·exact this
def onlyD (L:List Dmd) (w:List Nat):List Dmd:=zyQ (fun k=>decide (k∈w)) L 0
theorem zy8 {L:List Dmd} {w:List Nat} {p:List Pln}:uD (onlyD L w) p=[] ↔ ∀k∈uD L p,k ∉ w:=by
 rw[zzk];constructor
 ·intro h k hk q
  obtain⟨h1,h2⟩:=zcJ.1 hk;have:=h _ (zyX.2 ⟨k,h1,by simp[q],rfl⟩);rw[h2] at this;cases this
 ·intro h m hm
  obtain⟨k,h1,h2,rfl⟩:=zyX.1 hm;cases q:sF (L.getD k wM) p with
  |true=>rfl
  |false=>
   have:=h k (zcJ.2 ⟨h1,q⟩);simp[this] at h2
theorem zzl {L:List Dmd} {D:List Dcm}:(0:Nat)∈yT L D ↔ ∃i,i<yF D/\uD L (rdsD D i)=[]:=by
 unfold yT;rw[ZH];constructor
 ·rintro⟨i,hi,h⟩;exact⟨i,Z2.1 hi,zyW.1 h⟩
 ·rintro⟨i,hi,h⟩;exact⟨i,Z2.2 hi,zyW.2 h⟩
theorem zzm {L:List Dmd} {D:List Dcm}:(∀f∈yT L D,f=0) ↔ ∀i,i<yF D->uD L (rdsD D i)=[]:=by
 unfold yT;constructor
 ·intro h i hi;exact zyW.1 (h _ (ZH.2 ⟨i,Z2.2 hi,rfl⟩))
 ·intro h f hf
  obtain⟨i,hi,rfl⟩:=ZH.1 hf;exact zyW.2 (h i (Z2.1 hi))
def zyU (c:List Nat) (s:List Nat):Bool:= !c.any fun k=>decide (k∈s)
def zyY (sure:Bool) (c:List Nat) (F:List (List Nat)):Bool:=if sure=true then F.any (zyU c) else F.all (zyU c)
theorem zy9 {c s:List Nat}:zyU c s=true ↔ ∀k∈s,k ∉ c:=by
 unfold zyU;rw[Xn,List.any_eq_false];constructor
 ·intro h k hk q;exact h k q (by simpa using hk)
 ·intro h k hk q;exact h k (by simpa using q) hk
theorem zzn (v:Vw):stateV v=0\/stateV v=1\/stateV v=2:=by
 unfold stateV;split
 ·split
  ·exact .inr (.inl rfl)
  ·exact .inr (.inr rfl)
 ·exact .inl rfl
theorem zzo {L:List Dmd} (hL:L.length<=8) {D:List Dcm} {p:List Nat->Bool}:(failC L D).any p=true ↔ ∃i,i<yF D/\p (uD L (rdsD D i))=true:=by
 rw[Yt];constructor
 ·rintro⟨x,hx,h⟩
  obtain⟨f,hf,rfl⟩:=(fF hL).1 hx;obtain⟨i,hi,rfl⟩:=ZH.1 hf;exact⟨i,Z2.1 hi,by rw[zwG hL];exact h⟩
 ·rintro⟨i,hi,h⟩
  exact⟨_,(fF hL).2 ⟨_,ZH.2 ⟨i,Z2.2 hi,rfl⟩,rfl⟩,by rw[<-zwG hL];exact h⟩
theorem zzp {L:List Dmd} (hL:L.length<=8) {D:List Dcm} {p:List Nat->Bool}:(failC L D).all p=true ↔ ∀i,i<yF D->p (uD L (rdsD D i))=true:=by
 rw[ZA];constructor
 ·intro h i hi
  rw[zwG hL];exact h _ ((fF hL).2 ⟨_,ZH.2 ⟨i,Z2.2 hi,rfl⟩,rfl⟩)
 ·intro h x hx
  obtain⟨f,hf,rfl⟩:=(fF hL).1 hx;obtain⟨i,hi,rfl⟩:=ZH.1 hf;rw[<-zwG hL];exact h i (Z2.1 hi)
theorem zzq {L:List Dmd} (hL:L.length<=8) {D:List Dcm} (c:List Nat) (sure:Bool) (hne:yT (onlyD L c) D≠[]):
  zyY sure c (failC L D)=(decide (stateV (viewD (onlyD L c) D)=1)||(sure&&decide (stateV (viewD (onlyD L c) D)=2))):=by
 have hany:(failC L D).any (zyU c)=true ↔ stateV (viewD (onlyD L c) D)≠0:=by
  unfold viewD;rw[zzo hL,ne_eq,zzi,Decidable.not_not,zzl];refine exists_congr fun i=>and_congr Xp ?_
  rw[zy9,zy8]
 have hall:(failC L D).all (zyU c)=true ↔ stateV (viewD (onlyD L c) D)=1:=by
  unfold viewD;rw[zzp hL,zzj _ hne,zzm];refine forall_congr' fun i=>imp_congr_right fun _=>?_
  rw[zy9,zy8]
 have hr:=zzn (viewD (onlyD L c) D);unfold zyY;rw[Yw,Yp,Zr,decide_eq_true_eq,decide_eq_true_eq];cases sure with
 |true=>
  rw[if_pos rfl,hany];constructor
  ·intro h;rcases hr with q|q|q
   ·exact absurd q h
   ·exact .inl q
   ·exact .inr ⟨rfl,q⟩
  ·rintro(q|q)
   ·omega
   ·omega
 |false=>
  rw[if_neg (by simp),hall];constructor
  ·intro h;exact .inl h
  ·rintro(q|q)
   ·exact q
   ·cases q.1
def zdq:Flw:=⟨[],[],false⟩
end Go.Ex
namespace Go.Abs
open Go.Proofs Go.RowKit Go.Lib Go.Wd Go.Wire Go.Ex
end Go.Abs
namespace Go.Ex
open Go.Lib Go.Wd Go.Wire
theorem zt8 {c:UInt8} (h:letB c=true):rD c=true:=by unfold rD;rw[h];rfl
theorem zt9 (s:Txt):nameP s=(decide (s≠[])&&(decide (s.length<=20)&&(letB (s.getD 0 0)&&(s.drop 1).all rD))):=by
 unfold nameP;cases s with
 |nil=>rfl
 |cons c t=>
  have e:decide (spanN rD (c::t)=(c::t).length)=(c::t).all rD:=by rw[Yw,decide_eq_true_eq,zcm]
  rw[e];simp only[List.getD_cons_zero,List.drop_one,List.tail_cons,Yz];cases h:letB c with
  |false=>simp
  |true=>rw[zt8 h];simp
theorem zua (c:UInt8):uY c=true ↔ 33<=c.toNat/\c.toNat<=126:=by unfold uY;rw[decide_eq_true_eq]
end Go.Ex
namespace Go.Abs
open Go.Proofs Go.RowKit Go.Lib Go.Wd Go.Wire Go.Ex
theorem zm1 (c:UInt8):Spec Tryz.prog 222 [.int .u8 (c.toNat:Int)] (fun v=>v=.bool (letB c)):=by
 refine Spec.of_awlS hf222 okf222 (by simp) fun S hS=>?_
 unfold letB at hS;generalize c.toNat=a at hS;simp only[Qs,Za,ztH]
 repeat' (apply Zx<;>intro _)
 all_goals (refine wR hS ?_;simp only[Yp,decide_eq_true_eq,Z1,true_iff,false_iff];omega)
theorem zub (c:UInt8):Spec Tryz.prog 223 [.int .u8 (c.toNat:Int)] (fun v=>v=.bool (digB c)):=by
 refine Spec.of_awlS hf223 okf223 (by simp) fun S hS=>?_
 unfold digB at hS;generalize c.toNat=a at hS;simp only[Qs,Za,ztI]
 repeat' (apply Zx<;>intro _)
 all_goals (refine wR hS ?_;simp only[Yp,decide_eq_true_eq,Z1,true_iff,false_iff];omega)
theorem zm2 {s:Txt} {i:Nat} (h:i<s.length):s.getD i 0=s[i]:=by rw[Zi,Zf h];rfl
theorem c80 (s:Txt) (hl:s.length<=9223372036854775807):Spec Tryz.prog 159 [.str s] (fun v=>v=.bool (nameP s)):=by
 refine Spec.of_awlS hf159 okf159 (by simp) fun S hS=>?_
 rw[zt9] at hS;by_cases h0:s=[]
 ·subst h0
  simp only[ZF,Int.natCast_zero,Qs,Za,Int.reduceLT,YY,zcg];exact hS
 have hp:0<s.length:=Ye.2 h0;rw[decide_eq_true h0,ZU] at hS;have c1: ¬(s.length:Int)<1:=by omega
 by_cases h20:s.length<=20
 ·rw[decide_eq_true h20,ZU] at hS
  have c2: ¬(s.length:Int)>20:=by omega
  have c3:(0:Int)<s.length:=by omega
  have g0:=zm1 (s.getD 0 0);simp only[c1,c2,c3,XZ,Qs,Za,YQ,zcg];refine zI g0 ?_ (ha:=by rfl);cases hb:letB (s.getD 0 0) with
  |false=>
   rw[hb] at hS;simp only[Qs,Za];exact hS
  |true=>
   rw[hb,ZU] at hS;simp only[Qs,Za];refine zR (fun i:Nat=>[(0,.str s),(3,.int .i64 i)]) (fun _=>[]) (fun i=>1<=i/\i<=s.length/\(s.drop i).all rD=(s.drop 1).all rD) (fun i=>s.length-i) 1 rfl rfl ⟨Zw _,hp,rfl⟩ ?_;rintro i ⟨hi1,hi,hD⟩;by_cases hlt:i<s.length
   ·have d1:(i:Int)<s.length:=by omega
    have c4:IntKind.i64.wrap ((i:Int)+1)=(i:Int)+1:=wrap_in (by omega) (by omega);have hgt:=zm2 hlt;have g1:=zm1 s[i];have g2:=zub s[i];rw[ZE hlt,Yz] at hD;have hI:rD s[i]=(letB s[i]||(digB s[i]||decide (s[i].toNat=95))):=rfl;have hu:((s[i].toNat:Int) !=95)= !decide (s[i].toNat=95):=by
     rw[Yw,bne_iff_ne,Xn,decide_eq_false_iff_not];omega
    rw[hI] at hD;generalize s[i]=c at hgt g1 g2 hD hu;simp only[d1,hgt,Qs,Za];refine zI g1 ?_ (ha:=by rfl);cases x1:letB c with
    |true=>
     rw[x1,XC,ZU] at hD;simp only[c4,Qs,Za];exact Next.intro (i+1) rfl rfl ⟨by omega,by omega,hD⟩ (by omega)
    |false=>
     rw[x1,YC] at hD;simp only[d1,hgt,Qs,Za];refine zI g2 ?_ (ha:=by rfl);cases x2:digB c with
     |true=>
      rw[x2,XC,ZU] at hD;simp only[c4,Qs,Za];exact Next.intro (i+1) rfl rfl ⟨by omega,by omega,hD⟩ (by omega)
     |false=>
      rw[x2,YC] at hD;cases x3:decide (c.toNat=95) with
      |true=>
       rw[x3,ZU] at hD;rw[x3] at hu;simp only[d1,hgt,hu,c4,Bool.not_true,Qs,Za];exact Next.intro (i+1) rfl rfl ⟨by omega,by omega,hD⟩ (by omega)
      |false=>
       rw[x3,Z4] at hD;rw[x3] at hu;rw[<-hD] at hS;simp only[d1,hgt,hu,Bool.not_false,Qs,Za];exact hS
   ·have d1: ¬(i:Int)<s.length:=by omega
    rw[ZB (by omega)] at hD;rw[<-hD] at hS;simp only[d1,Qs,Za];exact hS
 ·rw[decide_eq_false h20,Z4] at hS
  have c2:(s.length:Int)>20:=by omega
  simp only[c1,c2,Qs,Za,zcg];exact hS
theorem zuc (s:Txt) (hl:s.length<=9223372036854775807):Spec Tryz.prog 131 [.str s] (fun v=>v=.bool (yX s)):=by
 refine Spec.of_awlS hf131 okf131 (by simp) fun S hS=>?_
 unfold yX at hS;simp only[Qs,ztJ];refine zR (fun i:Nat=>[(0,.str s),(3,.int .i64 i)]) (fun _=>[]) (fun i=>i<=s.length/\(s.drop i).all uY=s.all uY) (fun i=>s.length-i) 0 rfl rfl ⟨ZC _,rfl⟩ ?_;rintro i ⟨hi,hD⟩;by_cases hlt:i<s.length
 ·have d1:(i:Int)<s.length:=by omega
  have c4:IntKind.i64.wrap ((i:Int)+1)=(i:Int)+1:=wrap_in (by omega) (by omega);have hgt:=zm2 hlt;rw[ZE hlt,Yz] at hD;have hI:=zua s[i];generalize s[i]=c at hgt hD hI;by_cases h1:(c.toNat:Int)<33
  ·have hf:uY c=false:=by rw[Y0];intro h;have:=hI.1 h;omega
   rw[hf,Z4] at hD;rw[<-hD,YW,YW] at hS;simp only[d1,h1,hgt,Qs,Za];exact hS
  ·by_cases h2:(c.toNat:Int)>126
   ·have hf:uY c=false:=by rw[Y0];intro h;have:=hI.1 h;omega
    rw[hf,Z4] at hD;rw[<-hD,YW,YW] at hS;simp only[d1,h1,h2,hgt,Qs,Za];exact hS
   ·have hf:uY c=true:=hI.2 (by omega)
    rw[hf,ZU] at hD;simp only[d1,h1,h2,c4,hgt,Qs,Za];exact Next.intro (i+1) rfl rfl ⟨by omega,hD⟩ (by omega)
 ·have d1: ¬(i:Int)<s.length:=by omega
  rw[ZB (by omega)] at hD;rw[<-hD,XO,Bool.and_true] at hS;by_cases h0:s=[]
  ·have c1: ¬(s.length:Int)>=1:=by rw[h0];decide
   rw[decide_eq_false (fun q=>q h0)] at hS;simp only[d1,c1,Qs,Za];exact hS
  ·have hp:0<s.length:=Ye.2 h0
   rw[decide_eq_true h0,ZU] at hS;have c1:(s.length:Int)>=1:=by omega
   by_cases h20:s.length<=20
   ·have c2:(s.length:Int)<=20:=by omega
    rw[decide_eq_true h20] at hS;simp only[d1,c1,c2,Qs,Za];exact hS
   ·have c2: ¬(s.length:Int)<=20:=by omega
    rw[decide_eq_false h20] at hS;simp only[d1,c1,c2,Qs,Za];exact hS
theorem c81 (l:List Txt) (hw: ∀s∈l,s.length<=9223372036854775807) (hl:l.length<=9223372036854775807):Spec Tryz.prog 160 [lst 1 (zF l)] (fun v=>v=.int .i64 (vM l)):=by
 refine Spec.of_awlS hf160 okf160 (by simp) fun S hS=>?_
 unfold vM at hS;by_cases h4:l.length>4
 ·rw[if_pos h4] at hS
  have c1:(l.length:Int)>4:=by omega
  simp only[zS,c1,Qs,Za,zch];exact hS
 rw[if_neg h4] at hS;have c1: ¬(l.length:Int)>4:=by omega
 by_cases h0:l=[]
 ·rw[if_pos h0] at hS
  have c2:((l.length:Int)==0)=true:=by simp[h0]
  simp only[zS,c1,c2,Qs,Za,zch];exact hS
 rw[if_neg h0] at hS;have c2:((l.length:Int)==0)=false:=by
  have:=Ye.2 h0;exact beq_false_of_ne (by omega)
 simp only[zS,c1,c2,Qs,Za,zch];refine zR (fun i:Nat=>[(0,lst 1 (zF l)),(3,.int .i64 i)]) (fun _=>[]) (fun i=>i<=l.length/\(l.drop i).all yX=l.all yX) (fun i=>l.length-i) 0 rfl rfl ⟨ZC _,rfl⟩ ?_;rintro i ⟨hi,hD⟩;by_cases hlt:i<l.length
 ·have d1:(i:Int)<l.length:=by omega
  have c4:IntKind.i64.wrap ((i:Int)+1)=(i:Int)+1:=wrap_in (by omega) (by omega);have hat:=uI hlt;have g1:=zuc l[i] (hw _ (Zv hlt));rw[ZE hlt,Yz] at hD;generalize l[i]=s at hat g1 hD;simp only[d1,hat,zS,Qs,Za];refine zI g1 ?_ (ha:=by rfl);cases hv:yX s with
  |true=>
   rw[hv,ZU] at hD;simp only[c4,Qs,Za];exact Next.intro (i+1) rfl rfl ⟨by omega,hD⟩ (by omega)
  |false=>
   rw[hv,Z4] at hD;rw[<-hD,if_neg (by simp)] at hS;simp only[Qs];exact hS
 ·have d1: ¬(i:Int)<l.length:=by omega
  rw[ZB (by omega)] at hD;rw[<-hD,XO,if_pos rfl] at hS;clear hD;simp only[d1,zS,Qs,Za];refine zR (fun i:Nat=>[(0,lst 1 (zF l)),(4,.int .i64 i)]) (fun _=>[]) (fun i=>i<=l.length/\pO l i=false) (fun i=>l.length-i) 0 rfl rfl ⟨ZC _,rfl⟩ ?_;rintro i ⟨hi,hD⟩;by_cases hlt:i<l.length
  ·have d1:(i:Int)<l.length:=by omega
   have c4:IntKind.i64.wrap ((i:Int)+1)=(i:Int)+1:=wrap_in (by omega) (by omega);have hgd:l.getD i []=l[i]:=by rw[Zi,Zf hlt];rfl
   have hsu:=zcs l i;have hat:=uI hlt;rw[hD,hgd,YC] at hsu;simp only[d1,zS,Qs,Za];refine zR (fun j:Nat=>[(0,lst 1 (zF l)),(4,.int .i64 i),(5,.int .i64 j)]) (fun _=>[]) (fun j=>j<=i/\l[i] ∉ l.take j) (fun j=>i-j) 0 rfl rfl ⟨ZC _,by simp⟩ ?_;rintro j ⟨hj,hN⟩;by_cases hji:j<i
   ·have d2:(j:Int)<i:=by omega
    have d3:(j:Int)<l.length:=by omega
    have c5:IntKind.i64.wrap ((j:Int)+1)=(j:Int)+1:=wrap_in (by omega) (by omega);have hjl:j<l.length:=by omega
    have haj:=uI hjl;have htk:l.take (j+1)=l.take j++[l[j]]:=ZD hjl;have hin:l[j]∈l.take i:=by
     rw[List.mem_take_iff_getElem];exact⟨j,by omega,rfl⟩
    generalize l[i]=a at hat hsu hN;generalize l[j]=b at haj htk hin;by_cases hab:a=b
    ·have e1:(a==b)=true:=by simp[hab]
     rw[hab,decide_eq_true hin] at hsu;rw[if_pos (zm0 l (by omega:i+1<=l.length) hsu)] at hS;simp only[d1,d2,d3,e1,hat,haj,zS,Qs,Za];exact hS
    ·have e1:(a==b)=false:=by simp[hab]
     simp only[d1,d2,d3,e1,hat,haj,c5,zS,Qs,Za];exact Next.intro (j+1) rfl rfl ⟨by omega,by rw[htk];simp[hN,hab]⟩ (by omega)
   ·have d2: ¬(j:Int)<i:=by omega
    obtain rfl:j=i:=by omega
    rw[decide_eq_false hN] at hsu;simp only[d2,c4,Qs,Zn,Za];exact Next.intro (j+1) rfl rfl ⟨by omega,hsu⟩ (by omega)
  ·have d1: ¬(i:Int)<l.length:=by omega
   obtain rfl:i=l.length:=by omega
   rw[if_neg (by rw[hD];simp)] at hS;simp only[d1,zS,Qs,Za];exact hS
theorem c82 (f:Fld) (hf:FldR f):Spec Tryz.prog 126 [.agg (zP f)] (fun v=>v=.int .i64 (zX f:Nat)):=by
 refine Spec.of_awlS hf126 okf126 (by simp) fun S hS=>?_
 have h8:=hf.ws;unfold zP;simp only[zL,Qs,Za,ztG];refine zR (fun i:Nat=>[(1,.k (.c (.ro [.str f.name,zB 1 (f.words.map yH)] 0))),(3,.int .i64 (rF (f.words.take i):Nat)),(4,.int .i64 i)]) (fun _=>[]) (fun i=>i<=f.words.length) (fun i=>f.words.length-i) 0 rfl rfl (ZC _) ?_;intro i hi;by_cases hlt:i<f.words.length
 ·have c1:(i:Int)<f.words.length:=by omega
  have c4:IntKind.i64.wrap ((i:Int)+1)=(i:Int)+1:=wrap_in (by omega) (by omega);have hp:=bE hf.ws (fun w hw=>(hf.sp w hw).2) (i+1) (by omega);have hq:4 ^ (i+1)<=4 ^ 8:=Ys (by decide) (by omega);have hpt:=bD hlt;have hws:=jG hlt;generalize f.words[i]=w at hpt hws;have c5:IntKind.i64.wrap (((rF (f.words.take i):Nat):Int)*(w.length:Int))=((rF (f.words.take (i+1)):Nat):Int):=by
   have h4:(4:Nat) ^ 8=65536:=by decide
   rw[hpt,wrap_in]
   ·exact(YB _ _).symm
   ·rw[<-YB];omega
   ·rw[<-YB,<-hpt];omega
  simp only[c1,c4,c5,hws,zL,zS,Qs,Zc,Za,Zg];exact Next.intro (i+1) rfl rfl (by omega) (by omega)
 ·have c1: ¬(i:Int)<f.words.length:=by omega
  rw[Z7 (by omega)];simp only[c1,zL,Qs,Zc,Za,Zg];exact hS
theorem zud {α:Type} {p:α->Bool} {l:List α} {j:Nat} (h:j<l.length):(l.take (j+1)).any p=((l.take j).any p||p l[j]):=by
 rw[ZD h,List.any_append];simp
theorem c41 (d:Dcm) (hd:DcmS d):Spec Tryz.prog 95 [.agg (zJ d)] (fun v=>v=.int .i64 (docE d)):=by
 refine Spec.of_awlS hf95 okf95 (by simp) fun S hS=>?_
 have g1:=c80 d.kind hd.kd;have hfs:=hd.fs;unfold docE at hS;unfold zJ;cases hk:nameP d.kind with
 |false=>
  rw[hk] at g1;rw[if_neg (by rw[hk];simp)] at hS;simp only[Qs,Zc,Zl,Za,zcf];refine zI g1 ?_ (ha:=by rfl);simp only[Qs];exact hS
 |true=>
  rw[hk] at g1;rw[if_pos hk] at hS;by_cases h12:d.flds.length>12
  ·rw[if_pos h12] at hS
   have c1:(d.flds.length:Int)>12:=by omega
   simp only[Qs,Zc,Zl,Za,zcf];refine zI g1 ?_ (ha:=by rfl);simp only[zL,c1,Qs,Zc,Za,Zg];exact hS
  ·rw[if_neg h12] at hS
   have c1: ¬(d.flds.length:Int)>12:=by omega
   simp only[Qs,Zc,Zl,Za,zcf];refine zI g1 ?_ (ha:=by rfl);simp only[zL,c1,Qs,Zc,Za,Zg];refine zR (fun i:Nat=>[(1,.k (.c (.ro [.str d.kind,zB 2 (d.flds.map zP)] 0))),(3,.int .i64 i)]) (fun _=>[]) (fun i=>i<=d.flds.length/\wZ (vY d.flds) (d.flds.length-i) i=wZ (vY d.flds) d.flds.length 0) (fun i=>d.flds.length-i) 0 rfl rfl ⟨ZC _,rfl⟩ ?_;rintro i ⟨hi,hD⟩;by_cases hlt:i<d.flds.length
   ·have d1:(i:Int)<d.flds.length:=by omega
    have c4:IntKind.i64.wrap ((i:Int)+1)=(i:Int)+1:=wrap_in (by omega) (by omega);rw[jH hlt] at hD;have hat:=nX hlt;have hgd:d.flds.getD i zY=d.flds[i]:=by rw[Zi,Zf hlt];rfl
    have hf:=hd.fl _ (Zv hlt);have hE:vY d.flds i=(if nameP d.flds[i].name=true then(if (d.flds.take i).any (fun g=>decide (g.name=d.flds[i].name))=true then 5 else if d.flds[i].words.length>8 then 6 else wZ (fun k=>vM (d.flds[i].words.getD k [])) d.flds[i].words.length 0) else 2):=by
     unfold vY;simp only[hgd]
    generalize d.flds[i]=f at hat hf hE;have g2:=c80 f.name hf.nm;have hbad: ∀e:Int,vY d.flds i=e->e≠0->S (.int .i64 e):=fun e h1 h2=>by
     rw[h1,if_neg h2] at hD;rw[<-hD] at hS;exact hS
    cases hn:nameP f.name with
    |false=>
     rw[hn] at g2;rw[if_neg (by rw[hn];simp)] at hE;simp only[d1,hat,zL,Qs,Ze,Zc,Zl,Za,Zg];refine zI g2 ?_ (ha:=by rfl);simp only[Qs];exact hbad 2 hE (by decide)
    |true=>
     rw[hn] at g2;rw[if_pos hn] at hE;simp only[d1,hat,zL,Qs,Ze,Zc,Zl,Za,Zg];refine zI g2 ?_ (ha:=by rfl);simp only[Qs];refine zR (fun j:Nat=>[(1,.k (.c (.ro [.str d.kind,zB 2 (d.flds.map zP)] 0))),(3,.int .i64 i),(4,.k (.c (.ro [.str f.name,zB 1 (f.words.map yH)] 0))),(5,.int .i64 j)]) (fun _=>[]) (fun j=>j<=i/\(d.flds.take j).any (fun g=>decide (g.name=f.name))=false) (fun j=>i-j) 0 rfl rfl ⟨ZC _,rfl⟩ ?_;rintro j ⟨hj,hN⟩;by_cases hji:j<i
     ·have d2:(j:Int)<i:=by omega
      have d3:(j:Int)<d.flds.length:=by omega
      have c5:IntKind.i64.wrap ((j:Int)+1)=(j:Int)+1:=wrap_in (by omega) (by omega);have hjl:j<d.flds.length:=by omega
      have haj:=nX hjl;have hat2:=zud (p:=fun g:Fld=>decide (g.name=f.name)) hjl;rw[hN,YC] at hat2;have hmono:d.flds[j].name=f.name->(d.flds.take i).any (fun g=>decide (g.name=f.name))=true:=fun h=>by
       rw[Yt];exact⟨d.flds[j],by rw[List.mem_take_iff_getElem];exact⟨j,by omega,rfl⟩,decide_eq_true h⟩
      generalize d.flds[j]=g at haj hat2 hmono;by_cases hab:g.name=f.name
      ·have e1:(g.name==f.name)=true:=by simp[hab]
       rw[if_pos (hmono hab)] at hE;simp only[d2,d3,e1,haj,zL,Qs,Zc,Zl,Za,Zg];exact hbad 5 hE (by decide)
      ·have e1:(g.name==f.name)=false:=by simp[hab]
       rw[decide_eq_false hab] at hat2;simp only[d2,d3,e1,haj,c5,zL,Qs,Zc,Zl,Za,Zg];exact Next.intro (j+1) rfl rfl ⟨by omega,hat2⟩ (by omega)
     ·have d2: ¬(j:Int)<i:=by omega
      obtain rfl:j=i:=by omega
      rw[if_neg (by rw[hN];simp)] at hE;by_cases h8:f.words.length>8
      ·rw[if_pos h8] at hE
       have e8:(f.words.length:Int)>8:=by omega
       simp only[d2,e8,zL,Qs,reduceCtorEq,Zc,Za,Zg];exact hbad 6 hE (by decide)
      ·rw[if_neg h8] at hE
       have e8: ¬(f.words.length:Int)>8:=by omega
       simp only[d2,e8,zL,Qs,reduceCtorEq,Zc,Za,Zg];refine zR (fun k:Nat=>[(1,.k (.c (.ro [.str d.kind,zB 2 (d.flds.map zP)] 0))),(3,.int .i64 j),(4,.k (.c (.ro [.str f.name,zB 1 (f.words.map yH)] 0))),(6,.int .i64 k)]) (fun _=>[]) (fun k=>k<=f.words.length/\wZ (fun k=>vM (f.words.getD k [])) (f.words.length-k) k=vY d.flds j) (fun k=>f.words.length-k) 0 rfl rfl ⟨ZC _,hE.symm⟩ ?_;rintro k ⟨hk2,hD3⟩;by_cases hlk:k<f.words.length
       ·have d3:(k:Int)<f.words.length:=by omega
        have c5:IntKind.i64.wrap ((k:Int)+1)=(k:Int)+1:=wrap_in (by omega) (by omega);have haw:=jG hlk;have hwg:f.words.getD k []=f.words[k]:=by rw[Zi,Zf hlk];rfl
        have hws:=hf.sp _ (Zv hlk);rw[jH hlk,hwg] at hD3;generalize f.words[k]=w at haw hws hD3;have g4:=c81 w hws.2 hws.1;simp only[d3,haw,zL,Qs,Zc,Za,Zg];refine zI g4 ?_ (ha:=by simp only[Zk,Zp,zC,V.norm,C.norm,C.normRow,zM,xR]<;>rfl);by_cases hw0:vM w=0
        ·have w0:(vM w !=0)=false:=by simp[hw0]
         rw[if_pos hw0] at hD3;simp only[w0,c5,Qs,Za];exact Next.intro (k+1) rfl rfl ⟨by omega,hD3⟩ (by omega)
        ·have w0:(vM w !=0)=true:=by simp[hw0]
         rw[if_neg hw0] at hD3;simp only[w0,Qs,Za];exact hbad (vM w) hD3.symm hw0
       ·have d3: ¬(k:Int)<f.words.length:=by omega
        rw[show f.words.length-k=0 by omega] at hD3;have hz:vY d.flds j=0:=hD3.symm;rw[if_pos hz] at hD;simp only[d3,c4,zL,Qs,reduceCtorEq,Zc,Zn,Za,Zg];exact Next.intro (j+1) rfl rfl ⟨by omega,hD⟩ (by omega)
   ·have d1: ¬(i:Int)<d.flds.length:=by omega
    rw[show d.flds.length-i=0 by omega] at hD;have hD2:0=wZ (vY d.flds) d.flds.length 0:=hD;rw[<-hD2] at hS;simp only[d1,zL,Qs,Zc,Za,Zg];exact hS
theorem c42 (d:Dcm) (hd:DcmS d):Spec Tryz.prog 96 [.agg (zJ d)] (fun v=>v=.tup [.int .i64 (cntD d).1,.int .i64 (cntD d).2]):=by
 refine Spec.of_awlP hf96 okf96 (by simp) fun S hS=>?_
 have g1:=c41 d hd;have hn:[C.str d.kind,zB 2 (d.flds.map zP)]=zJ d:=rfl;unfold cntD at hS;by_cases h0:docE d=0
 ·rw[if_pos h0] at hS
  have hR:=uZ hd h0;have hfs:=hR.fs;have w0:(docE d !=0)=false:=by simp[h0]
  rw[<-hn] at g1⊢;simp only[Qs,Zc,Za,zmB];refine zI g1 ?_ (ha:=by simp only[Zk,Zp,zC,V.norm,C.norm,C.normRow,yP vA]<;>rfl);simp only[w0,zL,Qs];refine zR (fun x:Nat×Nat=>[(1,.k (.c (.ro [.str d.kind,zB 2 (d.flds.map zP)] 0))),(5,.int .i64 (x.2:Nat)),(6,.int .i64 x.1)]) (fun _=>[]) (fun x=>x.1<=d.flds.length/\x.2<=4096/\vI (d.flds.drop x.1) x.2=vI d.flds 1) (fun x=>d.flds.length-x.1) (0,1) rfl rfl ⟨ZC _,by simp only;decide,rfl⟩ ?_;rintro⟨i,n⟩ ⟨hi,hn4,hD⟩;simp only[] at hi hn4 hD;by_cases hlt:i<d.flds.length
  ·have c1:(i:Int)<d.flds.length:=by omega
   have c4:IntKind.i64.wrap ((i:Int)+1)=(i:Int)+1:=wrap_in (by omega) (by omega);have hf:=hR.fld (Zv hlt);rw[ZE hlt,vI] at hD;have hat:=nX hlt;generalize d.flds[i]=f at hf hD hat;have g2:=c82 f hf;have hsz:=bG hf;rw[show zP f=[.str f.name,zB 1 (f.words.map yH)] from rfl] at g2;have hmul:n*zX f<=4096*65536:=Xh hn4 hsz;have c5:IntKind.i64.wrap ((n:Int)*((zX f:Nat):Int))=((n*zX f:Nat):Int):=by
    rw[YB,wrap_in]
    ·rw[<-YB];omega
    ·rw[<-YB];omega
   simp only[c1,hat,zL,Qs,Zc,Za,Zg];refine zI g2 ?_ (ha:=by simp only[Zk,Zp,zC,V.norm,C.norm,C.normRow,yP pP]<;>rfl);by_cases hbig:n*zX f>4096
   ·have c6:((n*zX f:Nat):Int)>4096:=by omega
    rw[if_pos hbig] at hD;rw[<-hD] at hS;simp only[c5,c6,Qs,Ze,Za];exact hS _ rfl
   ·have c6: ¬((n*zX f:Nat):Int)>4096:=by omega
    rw[if_neg hbig] at hD;simp only[c4,c5,c6,Qs,Za];exact Next.intro (i+1,n*zX f) rfl rfl ⟨by simp only;omega,by simp only;omega,hD⟩ (by simp only;omega)
  ·have c1: ¬(i:Int)<d.flds.length:=by omega
   rw[ZB (by omega),vI] at hD;rw[<-hD] at hS;simp only[c1,zL,Qs,Ze,Zc,Za,Zg];exact hS _ rfl
 ·rw[if_neg h0] at hS
  have w0:(docE d !=0)=true:=by simp[h0]
  rw[<-hn] at g1⊢;simp only[Qs,Zc,Za,zmB];refine zI g1 ?_ (ha:=by simp only[Zk,Zp,zC,V.norm,C.norm,C.normRow,yP vA]<;>rfl);simp only[w0,Qs,Ze,Za];exact hS _ rfl
end Go.Abs
namespace Go.Ex
open Go.Lib Go.Wd Go.Wire
def mF (w:List Txt):Bool:=decide (w.length<=6)&&w.all fun s=>decide (s.length<=100)
def mG (f:Fld):Bool:=(decide (f.words.length<=10)&&decide (f.name.length<=100))&&f.words.all mF
def qE (d:Dcm):Bool:=(decide (d.flds.length<=14)&&decide (d.kind.length<=100))&&d.flds.all mG
def pU (m:Dmd):Bool:=(((decide (m.txt.length<=500)&&decide (m.doc.length<=60))&&decide (m.fld.length<=60))&&decide (m.oth.length<=60))&&decide (m.sec.length<=60)
end Go.Ex
namespace Go.Abs
open Go.Proofs Go.RowKit Go.Lib Go.Wd Go.Wire Go.Ex
theorem c18 (l:List Dcm) (hl:rG l):Spec Tryz.prog 45 [lst 2 (l.map zJ)] (fun v=>v=.tup [.int .i64 (cnts l).2.1,.int .i64 (cnts l).2.2]):=by
 refine Spec.of_awlP hf45 okf45 (by simp) fun S hS=>?_
 have hlen:=hl.1;unfold cnts at hS;by_cases h8:l.length>8
 ·rw[if_pos h8] at hS
  have c1:(l.length:Int)>8:=by omega
  simp only[zL,c1,Qs,Ze,Za,Zg,zmy];exact hS _ rfl
 ·rw[if_neg h8] at hS
  have c1: ¬(l.length:Int)>8:=by omega
  simp only[zL,c1,Qs,Za,Zg,zmy];refine zR (fun i:Nat=>[(0,lst 2 (l.map zJ)),(4,.int .i64 i)]) (fun _=>[]) (fun i=>i<=l.length/\wZ (fun i=>docE (l.getD i ⟨[],[]⟩)) (l.length-i) i=wZ (fun i=>docE (l.getD i ⟨[],[]⟩)) l.length 0) (fun i=>l.length-i) 0 rfl rfl ⟨ZC _,rfl⟩ ?_;rintro i ⟨hi,hD⟩;by_cases hlt:i<l.length
  ·have d1:(i:Int)<l.length:=by omega
   have c4:IntKind.i64.wrap ((i:Int)+1)=(i:Int)+1:=wrap_in (by omega) (by omega);have hgd:l.getD i ⟨[],[]⟩=l[i]:=by rw[Zi,Zf hlt];rfl
   rw[jH hlt,hgd] at hD;have g1:=c41 _ (hl.2 _ (Zv hlt));have hat:=lH hlt;generalize l[i]=d at hD g1 hat;rw[show zJ d=[.str d.kind,zB 2 (d.flds.map zP)] from rfl] at g1;simp only[d1,hat,zL,Qs,Za,Zg];refine zI g1 ?_ (ha:=by simp only[Zk,Zp,zC,V.norm,C.norm,C.normRow,yP vA]<;>rfl);by_cases h0:docE d=0
   ·have w0:(docE d !=0)=false:=by simp[h0]
    rw[if_pos h0] at hD;simp only[w0,c4,Qs,Za];exact Next.intro (i+1) rfl rfl ⟨by omega,hD⟩ (by omega)
   ·have w0:(docE d !=0)=true:=by simp[h0]
    rw[if_neg h0] at hD;rw[<-hD,if_neg h0] at hS;simp only[w0,Qs,Ze,Za];exact hS _ rfl
  ·have d1: ¬(i:Int)<l.length:=by omega
   rw[show l.length-i=0 by omega] at hD;have hz:wZ (fun i=>docE (l.getD i ⟨[],[]⟩)) l.length 0=0:=hD.symm;rw[if_pos hz] at hS;simp only[d1,zL,Qs,Za,Zg];refine zR (fun x:Nat×List Int×Nat=>[(0,lst 2 (l.map zJ)),(6,.int .i64 (x.2.2:Nat)),(7,.int .i64 x.1)]) (fun _=>[]) (fun x=>x.1<=l.length/\x.2.2<=4096/\uJ (l.drop x.1) x.2.1 x.2.2=uJ l [] 1) (fun x=>l.length-x.1) (0,[],1) rfl rfl ⟨ZC _,by simp only;decide,rfl⟩ ?_;rintro⟨i,L,n⟩ ⟨hi,hn,hD⟩;simp only[] at hi hn hD;by_cases hlt:i<l.length
   ·have d1:(i:Int)<l.length:=by omega
    have c4:IntKind.i64.wrap ((i:Int)+1)=(i:Int)+1:=wrap_in (by omega) (by omega);have g1:=c42 _ (hl.2 _ (Zv hlt));have hat:=lH hlt;rw[ZE hlt,uJ] at hD;have hr:=bI (d:=l[i]);generalize l[i]=d at hD g1 hat hr;rw[show zJ d=[.str d.kind,zB 2 (d.flds.map zP)] from rfl] at g1;generalize cntD d=c at hD g1 hr;obtain⟨cn,ce⟩:=c;simp only[] at hD g1 hr;have hmul:0<=(n:Int)*cn/\(n:Int)*cn<=4096*4096:=⟨Int.mul_nonneg (by omega) hr.1,Int.mul_le_mul (by omega) hr.2 hr.1 (by omega)⟩;have c5:IntKind.i64.wrap ((n:Int)*cn)=(n:Int)*cn:=wrap_in (by omega) (by omega);simp only[d1,hat,zL,Qs,Za,Zg];refine zI g1 ?_ (ha:=by simp only[Zk,Zp,zC,V.norm,C.norm,C.normRow,yP vA]<;>rfl);by_cases he:ce=0
    ·have e1:(ce !=0)=false:=by simp[he]
     by_cases hb:(n:Int)*cn>4096
     ·rw[if_pos (.inr hb)] at hD
      rw[<-hD] at hS;simp only[e1,c5,hb,Qs,Ze,Za];exact hS _ rfl
     ·rw[if_neg (by intro q;rcases q with q|q;exact q he;exact hb q)] at hD
      obtain⟨c',rfl⟩: ∃c':Nat,cn=c':=⟨cn.toNat,by omega⟩;rw[Ym] at hD;have hnn:(n:Int)*(c':Int)=((n*c':Nat):Int):=(YB n c').symm;simp only[e1,c4,c5,hb,Qs,Za];exact Next.intro (i+1,L++[(c':Int)],n*c') (by simp only[hnn];rfl) rfl ⟨by simp only;omega,by simp only;omega,hD⟩ (by simp only;omega)
    ·have e1:(ce !=0)=true:=by simp[he]
     rw[if_pos (.inl he)] at hD;rw[<-hD] at hS;simp only[e1,Qs,Ze,Za];exact hS _ rfl
   ·have d1: ¬(i:Int)<l.length:=by omega
    rw[ZB (by omega),uJ] at hD;rw[<-hD] at hS;simp only[d1,zL,Qs,Ze,Za,Zg];exact hS _ rfl
theorem c31 (L:List Dmd) (hL:L.length<=8):Spec Tryz.prog 44 [lst 8 (L.map zU)] (fun v=>v=.bool (L.all pU)):=by
 refine Spec.of_awlS hf44 okf44 (by simp) fun S hS=>?_
 simp only[zL,Qs,ztF];refine zR (fun i:Nat=>[(0,lst 8 (L.map zU)),(3,.int .i64 i)]) (fun _=>[]) (fun i=>i<=L.length/\(L.drop i).all pU=L.all pU) (fun i=>L.length-i) 0 rfl rfl ⟨ZC _,rfl⟩ ?_;rintro i ⟨hi,hD⟩;by_cases hlt:i<L.length
 ·have d1:(i:Int)<L.length:=by omega
  have d2:(i:Int)<40:=by omega
  have c4:IntKind.i64.wrap ((i:Int)+1)=(i:Int)+1:=wrap_in (by omega) (by omega);have hat:=aG hlt;have hgd:L.getD i wM=L[i]:=by rw[Zi,Zf hlt];rfl
  rw[ZE hlt,Yz] at hD;rw[hgd] at hat;generalize L[i]=m at hat hD;have hbad:pU m=false->S (.bool false):=fun h=>by
   rw[h,Z4] at hD;rw[<-hD] at hS;exact hS
  have hF:pU m=true ↔ m.txt.length<=500/\m.doc.length<=60/\m.fld.length<=60/\m.oth.length<=60/\m.sec.length<=60:=by
   unfold pU;simp only[Zr,decide_eq_true_eq];omega
  have hno: ¬(m.txt.length<=500/\m.doc.length<=60/\m.fld.length<=60/\m.oth.length<=60/\m.sec.length<=60)->S (.bool false):=fun h=>hbad (Y0.2 fun q=>h (hF.1 q))
  simp only[d1,d2,c4,hat,zL,Qs,Zc,Zl,Za,Zg];refine⟨fun q=>hno (by omega),fun q1=>⟨fun q=>hno (by omega),fun q2=>⟨fun q=>hno (by omega),fun q3=>⟨fun q=>hno (by omega),fun q4=>⟨fun q=>hno (by omega),fun q5=>?_⟩⟩⟩⟩⟩;rw[hF.2 (by omega),ZU] at hD;exact Next.intro (i+1) rfl rfl ⟨by omega,hD⟩ (by omega)
 ·have d1: ¬(i:Int)<L.length:=by omega
  have d2:(L.length:Int)<=30:=by omega
  rw[ZB (by omega),XO] at hD;rw[<-hD] at hS;simp only[d1,d2,zL,Qs,Za,Zg];exact hS
theorem c30 (d:Dcm):Spec Tryz.prog 43 [.agg (zJ d)] (fun v=>v=.bool (qE d)):=by
 refine Spec.of_awlS hf43 okf43 (by simp) fun S hS=>?_
 unfold zJ;unfold qE at hS;by_cases h14:d.flds.length<=14
 ·by_cases h100:d.kind.length<=100
  ·rw[decide_eq_true h14,decide_eq_true h100,ZU,ZU] at hS
   have c1: ¬(d.flds.length:Int)>14:=by omega
   have c2: ¬(d.kind.length:Int)>100:=by omega
   simp only[c1,c2,zL,Qs,Zc,Zl,Za,Zg,zce];refine zR (fun i:Nat=>[(1,.k (.c (.ro [.str d.kind,zB 2 (d.flds.map zP)] 0))),(3,.int .i64 i)]) (fun _=>[]) (fun i=>i<=d.flds.length/\(d.flds.drop i).all mG=d.flds.all mG) (fun i=>d.flds.length-i) 0 rfl rfl ⟨ZC _,rfl⟩ ?_;rintro i ⟨hi,hD⟩;by_cases hlt:i<d.flds.length
   ·have d1:(i:Int)<d.flds.length:=by omega
    have c4:IntKind.i64.wrap ((i:Int)+1)=(i:Int)+1:=wrap_in (by omega) (by omega);have hat:=nX hlt;rw[ZE hlt,Yz] at hD;generalize d.flds[i]=f at hat hD;have hbad:mG f=false->S (.bool false):=fun h=>by
     rw[h,Z4] at hD;rw[<-hD] at hS;exact hS
    have hF:mG f=((decide (f.words.length<=10)&&decide (f.name.length<=100))&&f.words.all mF):=rfl;by_cases h10:f.words.length<=10
    ·by_cases hnm:f.name.length<=100
     ·rw[decide_eq_true h10,decide_eq_true hnm,ZU,ZU] at hF
      have e1: ¬(f.words.length:Int)>10:=by omega
      have e2: ¬(f.name.length:Int)>100:=by omega
      simp only[d1,e1,e2,hat,zL,Qs,Zc,Zl,Za,Zg];refine zR (fun k:Nat=>[(1,.k (.c (.ro [.str d.kind,zB 2 (d.flds.map zP)] 0))),(3,.int .i64 i),(4,.int .i64 k)]) (fun _=>[]) (fun k=>k<=f.words.length/\(f.words.drop k).all mF=f.words.all mF) (fun k=>f.words.length-k) 0 rfl rfl ⟨ZC _,rfl⟩ ?_;rintro k ⟨hk,hD2⟩;by_cases hlk:k<f.words.length
      ·have d2:(k:Int)<f.words.length:=by omega
       have c5:IntKind.i64.wrap ((k:Int)+1)=(k:Int)+1:=wrap_in (by omega) (by omega);have haw:=jG hlk;rw[ZE hlk,Yz] at hD2;generalize f.words[k]=w at haw hD2;have hbad2:mF w=false->S (.bool false):=fun h=>hbad (by rw[hF,<-hD2,h,Z4])
       have hW:mF w=(decide (w.length<=6)&&w.all fun s=>decide (s.length<=100)):=rfl;by_cases h6:w.length<=6
       ·rw[decide_eq_true h6,ZU] at hW
        have e3: ¬(w.length:Int)>6:=by omega
        simp only[d1,d2,e3,hat,haw,zL,zS,Qs,Zc,Za,Zg];refine zR (fun j:Nat=>[(1,.k (.c (.ro [.str d.kind,zB 2 (d.flds.map zP)] 0))),(3,.int .i64 i),(4,.int .i64 k),(5,lst 1 (zF w)),(6,.int .i64 j)]) (fun _=>[]) (fun j=>j<=w.length/\(w.drop j).all (fun s=>decide (s.length<=100))=w.all fun s=>decide (s.length<=100)) (fun j=>w.length-j) 0 rfl rfl ⟨ZC _,rfl⟩ ?_;rintro j ⟨hj,hD3⟩;by_cases hlj:j<w.length
        ·have d3:(j:Int)<w.length:=by omega
         have c6:IntKind.i64.wrap ((j:Int)+1)=(j:Int)+1:=wrap_in (by omega) (by omega);have has:=uI hlj;rw[ZE hlj,Yz] at hD3;generalize w[j]=s at has hD3;by_cases hs:s.length<=100
         ·rw[decide_eq_true hs,ZU] at hD3
          have e4: ¬(s.length:Int)>100:=by omega
          simp only[d3,e4,c6,has,zS,Qs,Za];exact Next.intro (j+1) rfl rfl ⟨by omega,hD3⟩ (by omega)
         ·rw[decide_eq_false hs,Z4] at hD3
          have e4:(s.length:Int)>100:=by omega
          simp only[d3,e4,has,zS,Qs,Za];exact hbad2 (by rw[hW,<-hD3])
        ·have d3: ¬(j:Int)<w.length:=by omega
         rw[ZB (by omega),XO] at hD3;rw[hW,<-hD3,ZU] at hD2;simp only[d3,c5,zS,Qs,reduceCtorEq,Zn,Za];exact Next.intro (k+1) rfl rfl ⟨by omega,hD2⟩ (by omega)
       ·rw[decide_eq_false h6,Z4] at hW
        have e3:(w.length:Int)>6:=by omega
        simp only[d1,d2,e3,hat,haw,zL,zS,Qs,Zc,Za,Zg];exact hbad2 hW
      ·have d2: ¬(k:Int)<f.words.length:=by omega
       rw[ZB (by omega),XO] at hD2;rw[hF,<-hD2,ZU] at hD;simp only[d1,d2,c4,hat,zL,Qs,reduceCtorEq,Zc,Za,Zg];exact Next.intro (i+1) rfl rfl ⟨by omega,hD⟩ (by omega)
     ·rw[decide_eq_false hnm,YW,Z4] at hF
      have e1: ¬(f.words.length:Int)>10:=by omega
      have e2:(f.name.length:Int)>100:=by omega
      simp only[d1,e1,e2,hat,zL,Qs,Zc,Zl,Za,Zg];exact hbad hF
    ·rw[decide_eq_false h10,Z4,Z4] at hF
     have e1:(f.words.length:Int)>10:=by omega
     simp only[d1,e1,hat,zL,Qs,Zc,Za,Zg];exact hbad hF
   ·have d1: ¬(i:Int)<d.flds.length:=by omega
    rw[ZB (by omega),XO] at hD;rw[<-hD] at hS;simp only[d1,zL,Qs,Zc,Za,Zg];exact hS
  ·rw[decide_eq_false h100,YW,Z4] at hS
   have c1: ¬(d.flds.length:Int)>14:=by omega
   have c2:(d.kind.length:Int)>100:=by omega
   simp only[c1,c2,zL,Qs,Zc,Zl,Za,Zg,zce];exact hS
 ·rw[decide_eq_false h14,Z4,Z4] at hS
  have c1:(d.flds.length:Int)>14:=by omega
  simp only[c1,zL,Qs,Zc,Za,Zg,zce];exact hS
end Go.Abs
namespace Go.Ex
open Go.Lib Go.Wd Go.Wire Go.Abs
def jR (L:List Dmd) (D:List Dcm):Bool:=(D.take 12).all qE&&(decide (L.length<=8)&&(decide (D.length<=12)&&(L.all pU&&(decide ((cnts D).2.2≠0)||decide ((cnts D).2.1<=128)))))
theorem zor {d:Dcm} (h:qE d=true):DcmS d:=by
 unfold qE at h;simp only[Zr,decide_eq_true_eq,ZA] at h;obtain⟨⟨h1,h2⟩,h3⟩:=h;refine⟨by omega,by omega,fun f hf=>?_⟩;have:=h3 f hf;unfold mG at this;simp only[Zr,decide_eq_true_eq,ZA] at this;obtain⟨⟨h4,h5⟩,h6⟩:=this;refine⟨by omega,by omega,fun w hw=>?_⟩;have:=h6 w hw;unfold mF at this;simp only[Zr,decide_eq_true_eq,ZA] at this;exact⟨by omega,fun s hs=>by have:=this.2 s hs;omega⟩
theorem zc9 {D:List Dcm} (h1:(D.take 12).all qE=true) (h2:D.length<=12):rG D:=by
 rw[Z7 (by omega)] at h1;exact⟨by omega,fun d hd=>zor (ZA.1 h1 d hd)⟩
end Go.Ex
namespace Go.Abs
open Go.Proofs Go.RowKit Go.Lib Go.Wd Go.Wire Go.Ex
theorem c9 (L:List Dmd) (D:List Dcm):Spec Tryz.prog 10 [lst 8 (L.map zU),lst 2 (D.map zJ)] (fun v=>v=.bool (jR L D)):=by
 refine Spec.of_awlS hf10 okf10 (by simp) fun S hS=>?_
 unfold jR at hS;simp only[zL,Qs,Zc,ztE];refine zR (fun i:Nat=>[(0,lst 8 (L.map zU)),(1,lst 2 (D.map zJ)),(5,.int .i64 i)]) (fun _=>[]) (fun i=>i<=D.length/\i<=12/\((D.take 12).drop i).all qE=(D.take 12).all qE) (fun i=>D.length-i) 0 rfl rfl ⟨ZC _,by decide,rfl⟩ ?_;rintro i ⟨hi,hi12,hD⟩;have fin: ¬(i<D.length/\i<12)->(D.take 12).all qE=true:=fun h=>by
  rw[<-hD,ZB (by rw[Yl];omega)];rfl
 by_cases hlt:i<D.length
 ·by_cases h12:i<12
  ·have d1:(i:Int)<D.length:=by omega
   have d2:(i:Int)<12:=by omega
   have c4:IntKind.i64.wrap ((i:Int)+1)=(i:Int)+1:=wrap_in (by omega) (by omega);have hat:=lH hlt;have hlt2:i<(D.take 12).length:=by rw[Yl];omega
   have hg:(D.take 12)[i]=D[i]:=List.getElem_take;rw[ZE hlt2,Yz,hg] at hD;have g1:=c30 D[i];generalize D[i]=d at hat hD g1;rw[show zJ d=[.str d.kind,zB 2 (d.flds.map zP)] from rfl] at g1;simp only[d1,d2,hat,zL,Qs,Za,Zg];refine zI g1 ?_ (ha:=by simp only[Zk,Zp,zC,V.norm,C.norm,C.normRow,yP vA]<;>rfl);cases hf:qE d with
   |true=>
    rw[hf,ZU] at hD;simp only[c4,Qs,Za];exact Next.intro (i+1) rfl rfl ⟨by omega,by omega,hD⟩ (by omega)
   |false=>
    rw[hf,Z4] at hD;rw[<-hD,Z4] at hS;simp only[Qs];exact hS
  ·have d1:(i:Int)<D.length:=by omega
   have d2: ¬(i:Int)<12:=by omega
   have hall:=fin (by omega);simp only[d1,d2,zL,Qs,Za,Zg];rw[hall,ZU] at hS;refine⟨fun q=>?_,fun q1=>⟨fun q=>?_,fun q2=>?_⟩⟩
   ·rw[decide_eq_false (by omega: ¬L.length<=8),Z4] at hS
    exact hS
   ·rw[decide_eq_true (by omega:L.length<=8),ZU,decide_eq_false (by omega: ¬D.length<=12),Z4] at hS
    exact hS
   ·have q12:D.length<=12:=by omega
    rw[decide_eq_true (by omega:L.length<=8),ZU,decide_eq_true q12,ZU] at hS;have g31:=c31 L (by omega);have g18:=c18 D (zc9 hall q12);refine zI g31 ?_ (ha:=by simp only[Zk,Zp,zC,V.norm,zM,zQ wK,C.norm]<;>rfl);cases hm:L.all pU with
    |false=>
     rw[hm,Z4] at hS;simp only[Qs,Za];exact hS
    |true=>
     rw[hm,ZU] at hS;simp only[Qs,Za];refine zI g18 ?_ (ha:=by simp only[Zk,Zp,zC,V.norm,zM,zQ yK,C.norm]<;>rfl);by_cases he:(cnts D).2.2=0
     ·have e1:((cnts D).2.2 !=0)=false:=by simp[he]
      rw[decide_eq_false (fun q=>q he),YC] at hS;simp only[e1,Qs,Za];exact hS
     ·have e1:((cnts D).2.2 !=0)=true:=by simp[he]
      rw[decide_eq_true he,XC] at hS;simp only[e1,Qs,Za];exact hS
 ·have d1: ¬(i:Int)<D.length:=by omega
  have hall:=fin (by omega);simp only[d1,zL,Qs,Za,Zg];rw[hall,ZU] at hS;refine⟨fun q=>?_,fun q1=>⟨fun q=>?_,fun q2=>?_⟩⟩
  ·rw[decide_eq_false (by omega: ¬L.length<=8),Z4] at hS
   exact hS
  ·rw[decide_eq_true (by omega:L.length<=8),ZU,decide_eq_false (by omega: ¬D.length<=12),Z4] at hS
   exact hS
  ·have q12:D.length<=12:=by omega
   rw[decide_eq_true (by omega:L.length<=8),ZU,decide_eq_true q12,ZU] at hS;have g31:=c31 L (by omega);have g18:=c18 D (zc9 hall q12);refine zI g31 ?_ (ha:=by simp only[Zk,Zp,zC,V.norm,zM,zQ wK,C.norm]<;>rfl);cases hm:L.all pU with
   |false=>
    rw[hm,Z4] at hS;simp only[Qs,Za];exact hS
   |true=>
    rw[hm,ZU] at hS;simp only[Qs,Za];refine zI g18 ?_ (ha:=by simp only[Zk,Zp,zC,V.norm,zM,zQ yK,C.norm]<;>rfl);by_cases he:(cnts D).2.2=0
    ·have e1:((cnts D).2.2 !=0)=false:=by simp[he]
     rw[decide_eq_false (fun q=>q he),YC] at hS;simp only[e1,Qs,Za];exact hS
    ·have e1:((cnts D).2.2 !=0)=true:=by simp[he]
     rw[decide_eq_true he,XC] at hS;simp only[e1,Qs,Za];exact hS
end Go.Abs
namespace Go.Ex
open Go.Lib Go.Wd Go.Wire Go.Abs Go.Proofs
structure DmdI (m:Dmd):Prop where
 l1: -9223372036854775808<=m.lo
 l2:m.lo<=9223372036854775807
 h1: -9223372036854775808<=m.hi
 h2:m.hi<=9223372036854775807
theorem zos {B:Nat}: ∀l:List Txt,(∀s∈l,s.length<=B)->wJ l<=l.length*B
 |[],_=>by simp[wJ]
 |s::l,h=>by
  have h1:=h s (by simp);have h2:=zos l fun x hx=>h x (Zy _ hx)
  rw[wJ,Zo,YL];omega
theorem zwl {f:Fld} (hf:mG f=true) (hp: ∀w∈f.words,1<=w.length) (i:Nat):(textF f i).length<=2000:=by
 unfold mG at hf;simp only[Zr,decide_eq_true_eq,ZA] at hf;obtain⟨⟨h4,_⟩,h6⟩:=hf;have hm:=znl (W:=f.words) (i:=i) (B:=100) fun w hw=>⟨hp w hw,fun s hs=>by
  have:=h6 w hw
  unfold mF at this
  simp only[Zr,decide_eq_true_eq,ZA] at this
  exact this.2 s hs⟩
 have hl:=bO f.words i;unfold textF;rw[<-zcD];have h1:=bN [32] (pick f.words i).1;have h2:=zos _ hm;rw[hl] at h1 h2;simp only[Zo,ZF] at h1;omega
theorem zot: ∀(l:List Fld) (i:Nat),(vC l i).1.length=l.length/\ ∀s∈(vC l i).1,∃f∈l,∃j,s=textF f j
 |[],i=>by simp[vC]
 |f::l,i=>by
  have ih:=zot l i;rw[vC];refine⟨by simp[ih.1],fun s hs=>?_⟩;rcases ZJ.1 hs with rfl|hs
  ·exact⟨f,by simp,_,rfl⟩
  ·obtain⟨g,hg,j,e⟩:=ih.2 s hs
   exact⟨g,Zy _ hg,j,e⟩
theorem zwm {d:Dcm} (h:qE d=true) (h0:docE d=0) (q:Nat):PlnS (rdD d q):=by
 have hR:=uZ (zor h) h0;unfold qE at h;simp only[Zr,decide_eq_true_eq,ZA] at h;obtain⟨⟨h1,h2⟩,h3⟩:=h;obtain⟨t1,t2⟩:=zot d.flds q;refine⟨by show d.kind.length<=_;omega,by show(d.flds.map Fld.name).length<=_;rw[Zg];omega,by show(vC d.flds q).1.length<=_;omega,fun s hs=>?_⟩;obtain⟨f,hf,j,rfl⟩:=t2 s hs;obtain⟨i,hi,rfl⟩:=YN hf;have hF:=(gP hi (hR.s.fl _ hf) (hR.fe i hi)).1;have:=zwl (h3 _ hf) (fun w hw=>(hF.sp w hw).1) j;omega
theorem zou: ∀(D:List Dcm) (cs:List Nat) (i:Nat),(wN D cs i).1.length<=D.length/\ ∀p∈(wN D cs i).1,∃d∈D,∃q,p=rdD d q
 |[],cs,i=>by cases cs<;>simp[wN]
 |d::D,[],i=>by simp[wN]
 |d::D,c::cs,i=>by
  have ih:=zou D cs i;rw[wN];refine⟨by simp[ih.1],fun s hs=>?_⟩;rcases ZJ.1 hs with rfl|hs
  ·exact⟨d,by simp,_,rfl⟩
  ·obtain⟨g,hg,j,e⟩:=ih.2 s hs
   exact⟨g,Zy _ hg,j,e⟩
theorem zda {L:List Dmd} {D:List Dcm} (hL: ∀m∈L,DmdI m) (h:jR L D=true):AskS L D/\((cnts D).2.2=0->yF D<=128):=by
 unfold jR at h;simp only[Zr,decide_eq_true_eq,Yp] at h;obtain⟨h1,h2,h3,h4,h5⟩:=h;have hD:=zc9 h1 h3;rw[Z7 (by omega),ZA] at h1;rw[ZA] at h4;refine⟨⟨h2,fun m hm=>?_,hD,fun h0 i _=>?_⟩,fun h0=>?_⟩
 ·have:=h4 m hm
  unfold pU at this;simp only[Zr,decide_eq_true_eq] at this;obtain⟨⟨⟨⟨a1,a2⟩,a3⟩,a4⟩,a5⟩:=this;have hI:=hL m hm;exact⟨by omega,by omega,by omega,by omega,by omega,hI.l1,hI.l2,hI.h1,hI.h2⟩
 ·have hok:=rJ h0
  obtain⟨r1,r2⟩:=zou D (tE D) i;refine⟨by show(wN D (tE D) i).1.length<=_;omega,fun p hp=>?_⟩;obtain⟨d,hd,q,rfl⟩:=r2 p hp;exact zwm (h1 d hd) (lM (hok.e d hd)) q
 ·have hok:=rJ h0
  rcases h5 with h5|h5
  ·exact absurd h0 h5
  ·have:=hok.n
   omega
end Go.Ex
namespace Go.Ex
open Go.Lib Go.Wd Go.Wire Go.Abs
theorem qG {L:List Dmd} {D:List Dcm} (h:lookE L D=0):(cnts D).2.2=0:=by
 unfold lookE at h;split at h
 ·exact h
 ·cases h
theorem zah {L:List Dmd} {D:List Dcm} (hA:AskS L D) (h:(cnts D).2.2=0):yT L D≠[]:=by
 have:=aW hA.dc h;intro e;have:=congrArg List.length e;simp[yT] at this;omega
def zai (L:List Dmd) (D:List Dcm):List Nat:=if lookE L D=0 then fH L D else[]
def fN (L:List Dmd) (D:List Dcm):List (List Nat):=if lookE L D=0 then zy7 L D else[]
theorem zoY (L:List (List Nat)):(L.map natI).flatten=natI L.flatten:=by
 induction L with
 |nil=>rfl
 |cons a L ih=>rw[Zk,Yy,ih,Yy];unfold natI;rw[ZS]
theorem zxb {L:List Dmd} (hL:L.length<=8) (D:List Dcm):yL (sortO ltI (natI (failC L D).flatten))=natI (fH L D):=by
 have hs:Strict (fun a b:Nat=>decide (a<b)):=⟨fun a=>by simp,fun a b c h1 h2=>by simp at*;omega,fun a b h1 h2=>by simp at*;omega⟩;have e:yL (sortO ltI (natI (failC L D).flatten))=natI (yL (sortO (fun a b:Nat=>decide (a<b)) (failC L D).flatten)):=by
  unfold natI;rw[zoV (lt:=fun a b:Nat=>decide (a<b)) (lt':=ltI) (f:=fun k:Nat=>(k:Int)) (fun a b=>by simp[ltI]),zoO fun a b h=>Int.ofNat_inj.1 h]
 rw[e];congr 1;refine zwJ hL ((zoF hs _ (bV hs _)).imp fun h=>by simpa using h) fun k=>?_
 rw[aZ,(vE _ _).mem_iff]
end Go.Ex
namespace Go.Abs
open Go.Sort Go.Proofs Go.Shelf Go.RowKit Go.Lib Go.Wd Go.Wire Go.Ex
theorem zaj (L:List Dmd) (D:List Dcm):(failC L D).length<=yF D:=by
 have h:=fK (sortO ltC (failR L D (yF D)));have h2:(sortO ltC (failR L D (yF D))).length=yF D:=by rw[(vE ltC _).length_eq];simp[failR]
 have e:failC L D=yL (sortO ltC (failR L D (yF D))):=rfl;rw[e];omega
theorem zdr (L:List Dmd) (D:List Dcm): ∀x∈failC L D,x.length<=L.length:=by
 intro x hx;have e:failC L D=yL (sortO ltC (failR L D (yF D))):=rfl;rw[e,aZ,(vE ltC _).mem_iff] at hx;obtain⟨j,_,rfl⟩:=ZH.1 hx;exact zoR L _
theorem zxc (R:List (List Nat)) (h: ∀x∈R,x.length<=8):R.flatten.length<=R.length*8:=by
 induction R with
 |nil=>simp
 |cons a R ih=>
  rw[Yy,Zq,Zo,YL];have h1:=h a (by simp);have h2:=ih fun x hx=>h x (Zy _ hx)
  omega
theorem q11 (L:List Dmd) (D:List Dcm) (hA:AskS L D):Spec Tryz.prog 11 [lst 8 (L.map zU),lst 2 (D.map zJ)] (fun v=>v=.tup [lst 1 (zG (natI (zai L D))),.int .i64 (lookE L D)]):=by
 refine Spec.of_awlP hf11 okf11 (by simp) fun S hS=>?_
 have g1:=c20 L D hA;simp only[Qs,Zc,Za,zs1];refine zI g1 ?_ (ha:=by simp only[Zk,Zp,zC,V.norm,zM,zQ yK,zQ wK]<;>rfl);by_cases h0:lookE L D=0
 ·have hcn:=qG h0
  have hok:=rJ hcn;have g2:=q47 L D hA hcn;have hm:=zxb hA.l8 D;have hlen:=zaj L D;have hl8:=zdr L D;have hL:=hA.l8;unfold zai at hS;rw[if_pos h0,h0] at hS;rw[<-hm] at hS;generalize failC L D=R at g2 hS hlen hl8;have hfl:=zxc R (fun x hx=>by have:=hl8 x hx;omega);have hle:=hok.le;rw[fL] at g2;have g3:=q46 (R.map natI) (by simp;omega) (by rw[zoY,wX];omega);rw[zoY] at g3;have hF:(natI R.flatten).length<=100000:=by rw[wX];omega
  generalize natI R.flatten=F at g3 hS hF;have hsl:(sortO ltI F).length=F.length:=(vE ltI F).length_eq;simp only[h0,Qs,Za,Xa];refine yQ g2 ?_ (ha:=by simp only[Zk,Zp,zC,V.norm,zM,zQ yK,zQ wK]<;>rfl);simp only[Qs];refine cW g3 ?_ (ha:=by simp only[Zk,Zp,zC,V.norm,zM,fJ]<;>rfl);simp only[Qs];refine zoX (β:=Int) (Q:=fun out=>out=sortO ltI F) (encR:=fun n=>[C.int .i64 n]) (zG F) F (q48 17 F (by omega)) rfl (yR F) ?_;rintro out rfl;simp only[Qs,Za];refine zdp (β:=Int) (Q:=fun out=>out=yL (sortO ltI F)) (encR:=fun n=>[C.int .i64 n]) (zG (sortO ltI F)) (sortO ltI F) (q49 17 (sortO ltI F) (by omega)) rfl (yR _) ?_;rintro out rfl;simp only[Qs,nT,Ze,ZK,Zn,Za,Zt];refine hS _ ?_;have e1:C.normRows (zG (yL (sortO ltI F)))=zG (yL (sortO ltI F)):=yR _;have e2:C.normRows (List.map (fun n=>[C.int .i64 n]) (yL (sortO ltI F)))=zG (yL (sortO ltI F)):=yR _;simp only[V.fz,V.fzL,V.nrm,V.nrmL,e1,e2,uK e1];rfl
 ·unfold zai at hS
  rw[if_neg h0] at hS;simp only[h0,Qs,forall_const,BEq.rfl,Ze,ZK,Za,Zt];exact hS _ rfl
theorem zak (a b:List Nat):subI (natI a) (natI b)=zyV a b:=by
 unfold subI zyV natI;rw[Y4];congr 1;funext k;simp only[Y5,decide_eq_decide,ZH];exact⟨fun⟨a,h,e⟩=>by rw[<-Int.ofNat_inj.1 e];exact h,fun h=>⟨k,h,rfl⟩⟩
theorem zal {L:List (List Nat)} {i:Nat} (h:i<L.length):(cfs L).getD i []=[zB 1 (zG (natI L[i]))]:=by simp[cfs,h]
theorem zxd {R:List (List Nat)} {i:Nat} (h:i<R.length) (out:List (List Nat)):sI (R.drop i) out=if (out.any fun t=>zyV t R[i])=true then sI (R.drop (i+1)) out else sI (R.drop (i+1)) (out++[R[i]]):=by
 rw[ZE h,sI]
theorem q13 (L:List Dmd) (D:List Dcm) (hA:AskS L D):Spec Tryz.prog 13 [lst 8 (L.map zU),lst 2 (D.map zJ)] (fun v=>v=.tup [lst 1 (cfs (fN L D)),.int .i64 (lookE L D)]):=by
 refine Spec.of_awlP hf13 okf13 (by simp) fun S hS=>?_
 have g1:=c20 L D hA;simp only[Qs,Zc,Za,zs6];refine zI g1 ?_ (ha:=by simp only[Zk,Zp,zC,V.norm,zM,zQ yK,zQ wK]<;>rfl);by_cases h0:lookE L D=0
 ·have hcn:=qG h0
  have hok:=rJ hcn;have g2:=q47 L D hA hcn;have hlen:=zaj L D;have hl8:=zdr L D;have hL:=hA.l8;have hle:=hok.le;unfold fN at hS;rw[if_pos h0,h0] at hS;have hW:zy7 L D=sI (failC L D) []:=rfl;rw[hW] at hS;generalize failC L D=R at g2 hS hlen hl8;simp only[h0,Qs,implies_true,bne_iff_ne,ne_eq,Zn,Za,Xa,Zt,implies_true];refine yQ g2 ?_ (ha:=by simp only[Zk,Zp,zC,V.norm,zM,zQ yK,zQ wK]<;>rfl);simp only[fM,Qs];refine zR (fun x:Nat×List (List Nat)=>[(7,.k (.own 16)),(19,lst 1 (cfs R)),(20,.int .i64 R.length),(21,.int .i64 x.1)]) (fun x=>[(16,.arr 28 1 (some false) (cfs x.2))])
   (fun x=>x.1<=R.length/\x.2.length<=x.1/\(∀t∈x.2,t.length<=8)/\sI (R.drop x.1) x.2=sI R []) (fun x=>R.length-x.1) (0,[]) rfl rfl ⟨ZC _,ZC _,(fun _ h=>nomatch h),by simp⟩ ?_
  rintro⟨i,out⟩ ⟨hi,hol,ho8,hW⟩;simp only[] at hi hol ho8 hW;by_cases hlt:i<R.length
  ·have c1:(i:Int)<R.length:=by omega
   have c4:IntKind.i64.wrap ((i:Int)+1)=(i:Int)+1:=wrap_in (by omega) (by omega);have hat:=zal hlt;rw[zxd hlt] at hW;have hs8:=hl8 _ (Zv hlt);generalize R[i]=s at hat hW hs8;have g:=q52 (g:=53) (cs:=[C.ro [zB 1 (zG (natI s))] 0]) (p:=fun t=>subI t (natI s)) (zdk _) (zdl _) (out.map natI) (fun x hx=>by
    obtain⟨t,ht,rfl⟩:=ZH.1 hx
    exact q53 (natI t) (natI s) (by rw[wX];have:=ho8 t ht;omega) (by rw[wX];omega)) (by simp;omega)
   have e:((out.map natI).any fun t=>subI t (natI s))=out.any fun t=>zyV t s:=by
    rw[XY];congr 1;funext t;exact zak t s
   rw[e,<-fL] at g;have hsn:=zoQ out s;have hcl:=fM out;cases hq:(out.any fun t=>zyV t s) with
   |true=>
    rw[hq] at g;rw[if_pos hq] at hW;simp only[c1,hat,fM,Qs,bne_iff_ne,ne_eq,Ze,Zn,Za];refine zI g ?_ (ha:=by simp only[Zk,Zp,zC,vZ,lookO,if_true,V.norm,zM,uX,mE,C.norm,C.normRow,yR]<;>rfl);simp only[c4,Qs,Za];exact Next.intro (i+1,out) rfl rfl ⟨by simp only;omega,by simp only;omega,ho8,hW⟩ (by simp only;omega)
   |false=>
    rw[hq] at g;rw[if_neg (by rw[hq];simp)] at hW;simp only[c1,hat,fM,Qs,bne_iff_ne,ne_eq,Ze,Zn,Za];refine zI g ?_ (ha:=by simp only[Zk,Zp,zC,vZ,lookO,if_true,V.norm,zM,uX,mE,C.norm,C.normRow,yR]<;>rfl);simp only[c4,hcl,hsn,Qs,forall_eq,bne_iff_ne,ne_eq,ZJ,Zn,Zl,Z5,Za,Zt];refine⟨by omega,by omega,Next.intro (i+1,out++[s]) rfl rfl ⟨by simp only;omega,by simp;omega,fun t ht=>?_,hW⟩ (by simp only;omega)⟩;rcases Yo.1 ht with ht|ht
    ·exact ho8 t ht
    ·rw[ZT.1 ht];omega
  ·have c1: ¬(i:Int)<R.length:=by omega
   rw[ZB (by omega),sI] at hW;simp only[c1,Qs,Ze,ZK,Za,Zt];refine hS _ ?_;rw[<-hW];have e1:=mE out;simp only[V.fz,V.fzL,V.nrm,V.nrmL,e1,uK e1];rfl
 ·unfold fN at hS
  rw[if_neg h0] at hS;simp only[h0,Qs,implies_true,forall_const,bne_iff_ne,ne_eq,BEq.rfl,Ze,ZK,Zn,Za,Zt,implies_true];exact hS _ rfl
end Go.Abs
namespace Go.Ex
open Go.Lib Go.Wd Go.Wire Go.Abs
def isP (D:List Dcm) (p:Plc):Bool:=decide (0<=p.doc/\p.doc<D.length/\0<=p.fld/\p.fld<(D.getD p.doc.toNat yM).flds.length)
end Go.Ex
namespace Go.Abs
open Go.Sort Go.Proofs Go.Shelf Go.RowKit Go.Lib Go.Wd Go.Wire Go.Ex
theorem zds {l:List Plc} {i:Nat} (h:i<l.length):(pls l).getD i []=[.int .i64 l[i].doc,.int .i64 l[i].fld]:=by simp[pls,wG,h]
theorem zoZ (x y:Plc):(x.doc==y.doc&&x.fld==y.fld)=decide (x=y):=by
 obtain⟨a,b⟩:=x;obtain⟨c,d⟩:=y;rw[Yw,Zr,beq_iff_eq,beq_iff_eq,decide_eq_true_eq,Plc.mk.injEq]
theorem zxe (l:List Plc) (x:Plc) (hl:l.length<=1000000000000000):Spec Tryz.prog 118 [lst 2 (pls l),.agg (wG x)] (fun v=>v=.int .i64 (fstN (fun y=>decide (x=y)) l 0)):=by
 refine Spec.of_awlS hf118 okf118 (by simp) fun S hS=>?_
 simp only[wG,tM,Qs,ZN,Zc,Za,ztj];refine zR (fun i:Nat=>[(0,lst 2 (pls l)),(3,.k (.c (.ro [.int .i64 x.doc,.int .i64 x.fld] 0))),(7,.int .i64 l.length),(8,.int .i64 i)]) (fun _=>[]) (fun i=>i<=l.length/\fstN (fun y=>decide (x=y)) (l.drop i) i=fstN (fun y=>decide (x=y)) l 0) (fun i=>l.length-i) 0 rfl rfl ⟨ZC _,by simp⟩ ?_;rintro i ⟨hi,hD⟩;by_cases hlt:i<l.length
 ·have c1:(i:Int)<l.length:=by omega
  have c4:IntKind.i64.wrap ((i:Int)+1)=(i:Int)+1:=wrap_in (by omega) (by omega);have hat:=zds hlt;rw[qA hlt] at hD;generalize l[i]=y at hat hD;have hb:=zoZ x y;by_cases hp:x=y
  ·rw[if_pos (by simpa using hp)] at hD
   rw[<-hD] at hS;rw[decide_eq_true hp] at hb;simp only[c1,tM,hat,hb,Qs,zgC,cC,cD,cE,cF,cG,ZN,Zc,Za,YG];exact hS
  ·rw[if_neg (by simpa using hp)] at hD
   rw[decide_eq_false hp] at hb;simp only[c1,tM,hat,hb,c4,Qs,zgC,cC,cD,cE,cF,cG,ZN,Zc,Za,YG];exact Next.intro (i+1) rfl rfl ⟨by omega,hD⟩ (by omega)
 ·have c1: ¬(i:Int)<l.length:=by omega
  rw[ZB (by omega)] at hD;rw[<-hD] at hS;simp only[c1,Qs,ZN,Za];exact hS
theorem q59 (l:List Plc) (x:Plc) (hl:l.length<=1000000000000000):Spec Tryz.prog 59 [lst 2 (pls l),.agg (wG x)] (fun v=>v=.bool (decide (x∈l))):=by
 refine Spec.of_awlS hf59 okf59 (by simp) fun S hS=>?_
 have g1:=zxe l x hl;have hp:=rE (p:=fun y=>decide (x=y)) l 0;generalize fstN (fun y=>decide (x=y)) l 0=z at g1 hp;unfold wG at g1⊢;simp only[Qs,Zc,Za,zti];refine zI g1 ?_ (ha:=by simp only[Zk,Zp,zC,V.norm,zM,C.norm,C.normRow,tN]<;>rfl);simp only[Qs];refine wR hS ?_;rw[decide_eq_true_eq,decide_eq_true_eq,hp,Yt];simp
theorem q56 (D:List Dcm) (p:Plc) (hD:D.length<=1000000) (hf: ∀d∈D,d.flds.length<=1000000):Spec Tryz.prog 56 [lst 2 (D.map zJ),.agg (wG p)] (fun v=>v=.bool (isP D p)):=by
 refine Spec.of_awlS hf56 okf56 (by simp) fun S hS=>?_
 unfold wG isP at*
 by_cases h1:0<=p.doc
 ·by_cases h2:p.doc<D.length
  ·obtain⟨n,hn⟩: ∃n:Nat,p.doc=(n:Int):=⟨p.doc.toNat,by omega⟩
   rw[hn] at h1 h2 hS⊢;have hlt:n<D.length:=by omega
   have hat:=lH hlt;have hgd:D.getD n yM=D[n]:=by rw[Zi,Zf hlt];rfl
   rw[Ym,hgd] at hS;by_cases h3:0<=p.fld
   ·simp only[h1,h2,h3,hat,zL,Ym,ge_iff_le,Qs,zbS,Zc,Zl,Za,Zg,cQ]
    refine wR hS ?_;rw[decide_eq_true_eq,decide_eq_true_eq];omega
   ·simp only[h1,h2,h3,zL,ge_iff_le,Qs,zbS,Zc,Zl,Za,Zg,cQ]
    refine wR hS ?_;rw[decide_eq_true_eq];simp only[Z1,false_iff];omega
  ·simp only[h1,h2,zL,ge_iff_le,Qs,zbS,Zc,Zl,Za,Zg,cQ]
   refine wR hS ?_;rw[decide_eq_true_eq];simp only[Z1,false_iff];omega
 ·simp only[h1,zL,ge_iff_le,Qs,Zc,Zl,Za,cQ]
  refine wR hS ?_;rw[decide_eq_true_eq];simp only[Z1,false_iff];omega
end Go.Abs
namespace Go.Ex
open Go.Lib Go.Wd Go.Wire Go.Abs
def qH (f:Fld) (t:Txt):Prop:= ∃i,i<zX f/\t=textF f i
def oZ:List Fld->List Txt->Prop
 |[],[]=>True
 |f::l,t::ts=>qH f t/\oZ l ts
 |_,_=>False
def vF (l:List Fld):List Nat:=l.map zX
theorem zdt: ∀(l:List Fld) (i:Nat),(vC l i).2=(vJ (vF l) i).2/\(vC l i).1=List.zipWith textF l (vJ (vF l) i).1
 |[],i=>⟨rfl,rfl⟩
 |f::l,i=>by
  obtain⟨h1,h2⟩:=zdt l i;show(vC l i).2/zX f=(vJ (vF l) i).2/zX f/\textF f ((vC l i).2 % zX f)::(vC l i).1=List.zipWith textF (f::l) ((vJ (vF l) i).2 % zX f::(vJ (vF l) i).1);rw[h1,h2];exact⟨rfl,rfl⟩
theorem zo0: ∀{l:List Fld} {ds:List Nat},InR (vF l) ds->oZ l (List.zipWith textF l ds)
 |[],[],_=>trivial
 |_::_,d::_,h=>⟨⟨d,h.1,rfl⟩,zo0 h.2⟩
 |[],_::_,h=>h.elim
 |_::_,[],h=>h.elim
theorem zo1: ∀{l:List Fld} {ts:List Txt},oZ l ts-> ∃ds,InR (vF l) ds/\ts=List.zipWith textF l ds
 |[],[],_=>⟨[],trivial,rfl⟩
 |f::l,t::ts,h=>by
  obtain⟨⟨i,hi,rfl⟩,h2⟩:=h;obtain⟨ds,h3,rfl⟩:=zo1 h2;exact⟨i::ds,⟨hi,h3⟩,rfl⟩
 |[],_::_,h=>h.elim
 |_::_,[],h=>h.elim
theorem fO {l:List Fld} (hp: ∀f∈l,0<zX f): ∀s∈vF l,0<s:=fun s hs=>by
 obtain⟨f,hf,rfl⟩:=ZH.1 hs;exact hp f hf
theorem zxf {l:List Fld} (hp: ∀f∈l,0<zX f) (i:Nat):oZ l (vC l i).1:=by
 rw[(zdt l i).2];exact zo0 (znu i (fO hp))
theorem zxg {l:List Fld} (hp: ∀f∈l,0<zX f) {ts:List Txt} (h:oZ l ts): ∃i,i<wF (vF l)/\(vC l i).1=ts:=by
 obtain⟨ds,h1,rfl⟩:=zo1 h;obtain⟨i,hi,hd⟩:=zcG (fO hp) h1;exact⟨i,hi,by rw[(zdt l i).2,hd]⟩
structure posP (d:Dcm) (p:Pln):Prop where
 kd:p.kind=d.kind
 ns:p.names=d.flds.map Fld.name
 ts:oZ d.flds p.texts
def rP:List Dcm->List Pln->Prop
 |[],[]=>True
 |d::l,p::ps=>posP d p/\rP l ps
 |_,_=>False
theorem zo2: ∀{l:List Fld} {n:Nat},(vI l n).2=0->(vI l n).1=((n*wF (vF l):Nat):Int)
 |[],n,_=>by simp[vI,vF,wF]
 |f::l,n,h=>by
  rw[vI] at h⊢;split at h
  ·cases h
  ·rename_i hq
   rw[if_neg hq,zo2 h];show((n*zX f*wF (vF l):Nat):Int)=((n*(zX f*wF (vF l)):Nat):Int);rw[XP]
theorem zo3: ∀{l:List Fld} {n:Nat},(∀f∈l,0<zX f)->n*wF (vF l)<=4096->vI l n=(((n*wF (vF l):Nat):Int),0)
 |[],n,_,_=>by simp[vI,vF,wF]
 |f::l,n,hp,h=>by
  have hp': ∀x∈l,0<zX x:=fun x hx=>hp x (Zy _ hx)
  have h1:=lJ (fO hp');have e:n*wF (vF (f::l))=n*zX f*wF (vF l):=by
   show n*(zX f*wF (vF l))=_;rw[XP]
  rw[e] at h⊢;have:n*zX f<=n*zX f*wF (vF l):=XK _ h1;rw[vI,if_neg (by omega)];exact zo3 hp' h
def prD (d:Dcm):Nat:=wF (vF d.flds)
def prL (D:List Dcm):Nat:=wF (D.map prD)
theorem lT {d:Dcm} (hd:DcmS d) (h:docE d=0): ∀f∈d.flds,0<zX f:=fun _ hf=>zcv ((uZ hd h).fld hf)
theorem zo4 {d:Dcm} (h:(cntD d).2=0):(cntD d).1=(prD d:Nat):=by
 have h0:=lM h;unfold cntD at h⊢;rw[if_pos h0] at h⊢;rw[zo2 h,Xs];rfl
theorem zxh {d:Dcm} (hd:DcmS d) (h:docE d=0) (hp:prD d<=4096):cntD d=(((prD d:Nat):Int),0):=by
 unfold cntD;rw[if_pos h,zo3 (lT hd h) (by rw[Xs];exact hp),Xs];rfl
theorem zam {d:Dcm} (hd:DcmS d) (h:docE d=0):0<prD d:=lJ (fO (lT hd h))
structure GoodD (D:List Dcm):Prop where
 s:rG D
 c:(cnts D).2.2=0
theorem GoodD.ok {D:List Dcm} (h:GoodD D):CntOk D:=rJ h.c
theorem GoodD.doc {D:List Dcm} (h:GoodD D) {d:Dcm} (hd:d∈D):docE d=0:=lM (h.ok.e d hd)
theorem zo5 {D:List Dcm} (h:CntOk D):tE D=D.map prD:=by
 unfold tE;rw[h.l,Xm];exact Xj fun d hd=>by rw[Y5,zo4 (h.e d hd),Ym]
theorem zo6: ∀(D:List Dcm) (a:Nat),(∀d∈D,(cntD d).2=0)->D.foldl (fun a d=>a*(cntD d).1.toNat) a=a*prL D
 |[],a,_=>(Yv a).symm
 |d::D,a,h=>by
  rw[YU,zo6 D _ fun x hx=>h x (Zy _ hx),zo4 (h d (by simp)),Ym];show a*prD d*prL D=a*(prD d*prL D);rw[XP]
theorem zo7 {D:List Dcm} (h:CntOk D):yF D=prL D:=by rw[h.p,zo6 D 1 h.e,Xs]
theorem zan {f:Nat->Int}: ∀{n i:Nat},(∀k,k<n->f (i+k)=0)->wZ f n i=0
 |0,_,_=>rfl
 |n+1,i,h=>by
  rw[wZ,if_pos (show f i=0 from h 0 (by omega))];exact zan fun k hk=>by have:=h (k+1) (by omega);rwa [show i+(k+1)=i+1+k by omega] at this
theorem zo8: ∀{D:List Dcm} {acc:List Int} {n:Nat},0<n->(∀d∈D,DcmS d/\docE d=0)->n*prL D<=4096->(uJ D acc n).2.2=0
 |[],_,_,_,_,_=>rfl
 |d::D,acc,n,hn,hd,h=>by
  obtain⟨h1,h2⟩:=hd d (by simp);have hd': ∀x∈D,DcmS x/\docE x=0:=fun x hx=>hd x (Zy _ hx)
  have hq:0<prL D:=lJ fun s hs=>by obtain⟨x,hx,rfl⟩:=ZH.1 hs;exact zam (hd' x hx).1 (hd' x hx).2
  have e:n*prL (d::D)=n*prD d*prL D:=by
   show n*(prD d*prL D)=_;rw[XP]
  rw[e] at h;have a1:n*prD d<=n*prD d*prL D:=XK _ hq;have a2:prD d<=n*prD d:=Nat.le_mul_of_pos_left _ hn;have hc:=zxh h1 h2 (by omega);have a3:((n*prD d:Nat):Int)=(n:Int)*(prD d:Nat):=YB _ _;rw[uJ,hc,if_neg (by simp only[];omega)];simp only[Ym];exact zo8 (Nat.mul_pos hn (zam h1 h2)) hd' h
theorem zxi {D:List Dcm} (h8:D.length<=8) (hd: ∀d∈D,DcmS d/\docE d=0) (hp:prL D<=4096):GoodD D:=by
 refine⟨⟨by omega,fun d h=>(hd d h).1⟩,?_⟩;unfold cnts;rw[if_neg (by omega),if_pos]
 ·exact zo8 Nat.one_pos hd (by rw[Xs];exact hp)
 ·refine zan fun k hk=>?_
  rw[ZY,Zi,Zf hk];exact(hd _ (Zv hk)).2
theorem GoodD.pr {D:List Dcm} (h:GoodD D):prL D<=4096:=by rw[<-zo7 h.ok];exact h.ok.le
theorem zdu: ∀(D:List Dcm) (cs:List Nat) (i:Nat),cs.length=D.length->(wN D cs i).2=(vJ cs i).2/\(wN D cs i).1=List.zipWith rdD D (vJ cs i).1
 |[],[],i,_=>⟨rfl,rfl⟩
 |d::D,c::cs,i,h=>by
  obtain⟨h1,h2⟩:=zdu D cs i (by simpa using h);show(wN D cs i).2/c=(vJ cs i).2/c/\rdD d ((wN D cs i).2 % c)::(wN D cs i).1=List.zipWith rdD (d::D) ((vJ cs i).2 % c::(vJ cs i).1);rw[h1,h2];exact⟨rfl,rfl⟩
 |[],_::_,_,h=>by simp at h
 |_::_,[],_,h=>by simp at h
theorem zo9: ∀{D:List Dcm} (ds:List Nat),(∀d∈D,DcmS d/\docE d=0)->ds.length=D.length->rP D (List.zipWith rdD D ds)
 |[],[],_,_=>trivial
 |d::D,i::ds,hd,h=>⟨⟨rfl,rfl,zxf (lT (hd d (by simp)).1 (hd d (by simp)).2) i⟩,zo9 ds (fun x hx=>hd x (Zy _ hx)) (by simpa using h)⟩
 |[],_::_,_,h=>by simp at h
 |_::_,[],_,h=>by simp at h
theorem zpa: ∀{D:List Dcm} {P:List Pln},(∀d∈D,DcmS d/\docE d=0)->rP D P-> ∃ds,InR (D.map prD) ds/\P=List.zipWith rdD D ds
 |[],[],_,_=>⟨[],trivial,rfl⟩
 |d::D,p::P,hd,h=>by
  obtain⟨⟨k1,k2,k3⟩,h2⟩:=h;obtain⟨ds,h3,rfl⟩:=zpa (fun x hx=>hd x (Zy _ hx)) h2;obtain⟨i,hi,e⟩:=zxg (lT (hd d (by simp)).1 (hd d (by simp)).2) k3;refine⟨i::ds,⟨hi,h3⟩,?_⟩;show p::_=rdD d i::_;obtain⟨pk,pn,pt⟩:=p;simp only at k1 k2 e;subst k1 k2 e;rfl
 |[],_::_,_,h=>h.elim
 |_::_,[],_,h=>h.elim
theorem GoodD.docs {D:List Dcm} (h:GoodD D): ∀d∈D,DcmS d/\docE d=0:=fun d hd=>⟨h.s.2 d hd,h.doc hd⟩
theorem zdv {D:List Dcm} (h:GoodD D) (i:Nat):rP D (rdsD D i):=by
 unfold rdsD;rw[zo5 h.ok,(zdu D (D.map prD) i (by simp)).2];exact zo9 _ h.docs (by rw[znt];simp)
theorem zxj {D:List Dcm} (h:GoodD D) {P:List Pln} (hP:rP D P): ∃i,i<yF D/\rdsD D i=P:=by
 obtain⟨ds,h1,rfl⟩:=zpa h.docs hP;obtain⟨i,hi,e⟩:=zcG (fun s hs=>by obtain⟨x,hx,rfl⟩:=ZH.1 hs;exact zam (h.docs x hx).1 (h.docs x hx).2) h1;refine⟨i,by rw[zo7 h.ok];exact hi,?_⟩;unfold rdsD;rw[zo5 h.ok,(zdu D (D.map prD) i (by simp)).2,e]
def wP (ws:List Txt):List (List Txt):=ws.map fun s=>[s]
def vR (d:Dcm) (k:Nat) (ws:List Txt):Dcm:=⟨d.kind,d.flds.set k ⟨(d.flds.getD k zY).name,wP ws⟩⟩
def splitW (t:Txt):List Txt:=if t=[] then[] else cutC 32 t
def setE (d:Dcm) (k:Int) (t:Txt):Int:=
 if docE d≠0 then docE d else if 0<=k/\k<d.flds.length then(if (splitW t).length>8\/(splitW t).all yX=false then 2 else 0) else 4
def setD (d:Dcm) (k:Int) (t:Txt):Dcm:=if setE d k t=0 then vR d k.toNat (splitW t) else yM
theorem zpb: ∀(ws:List Txt) (i:Nat),pick (wP ws) i=(ws,i)
 |[],_=>rfl
 |w::ws,i=>by
  show(([w]:List Txt).getD ((pick (wP ws) i).2 % ([w]:List Txt).length) []::(pick (wP ws) i).1,(pick (wP ws) i).2/([w]:List Txt).length)=_;rw[zpb ws i];simp[Nat.mod_one]
theorem zdw (n:Txt): ∀ws:List Txt,zX ⟨n,wP ws⟩=1
 |[]=>rfl
 |w::ws=>by
  show zX ⟨n,[w]::wP ws⟩=1;rw[ztV,zdw n ws];rfl
theorem zpc (n:Txt) (ws:List Txt) (i:Nat):textF ⟨n,wP ws⟩ i=vH 32 ws:=by
 unfold textF;rw[zpb]
theorem zxk {n:Txt} {ws:List Txt} {t:Txt}:qH ⟨n,wP ws⟩ t ↔ t=vH 32 ws:=by
 unfold qH;rw[zdw];constructor
 ·rintro⟨i,_,rfl⟩;exact zpc n ws i
 ·rintro rfl;exact⟨0,Nat.one_pos,(zpc n ws 0).symm⟩
theorem zpd: ∀(t:Txt),vH 32 (cutC 32 t)=t
 |[]=>rfl
 |c::t=>by
  have ih:=zpd t;have hne:=ztQ 32 t;rw[cutC];split
  ·rename_i h
   cases hc:cutC 32 t with
   |nil=>exact absurd hc hne
   |cons w r=>rw[hc] at ih;rw[vH,ih,h];rfl
  ·cases hc:cutC 32 t with
   |nil=>exact absurd hc hne
   |cons w r=>
    rw[hc] at ih;show vH 32 ((c::w)::r)=c::t;rw[<-ih];cases r with
    |nil=>rfl
    |cons v r=>rfl
theorem zxl (t:Txt):vH 32 (splitW t)=t:=by
 unfold splitW;split
 ·rename_i h;rw[h];rfl
 ·exact zpd t
theorem zpe {w:Txt} (h:yX w=true):(32:UInt8) ∉ w/\w≠[]:=by
 unfold yX at h;simp only[Zr,decide_eq_true_eq,ZA] at h;exact⟨fun hm=>by have:=h.2.2 _ hm;unfold uY at this;revert this;decide,h.1⟩
theorem zxm {ws:List Txt} (h: ∀w∈ws,yX w=true):splitW (vH 32 ws)=ws:=by
 unfold splitW;cases ws with
 |nil=>rw[if_pos (show vH 32 []=[] from rfl)]
 |cons w ws=>
  have hne:vH 32 (w::ws)≠[]:=by
   have hw:=(zpe (h w (by simp))).2;cases ws with
   |nil=>exact hw
   |cons v ws=>intro e;simp[vH] at e
  rw[if_neg hne];exact zmR (by simp) fun x hx=>(zpe (h x hx)).1
theorem zpf: ∀(W:List (List Txt)) (i:Nat),(∀w∈W,1<=w.length)-> ∀s∈(pick W i).1,∃w∈W,s∈w
 |[],_,_,s,hs=>by simp[pick] at hs
 |w::W,i,h,s,hs=>by
  rw[pick,ZJ] at hs;rcases hs with rfl|hs
  ·have hw:=h w (by simp)
   have hm:(pick W i).2 % w.length<w.length:=XE _ (by omega);rw[Zi,Zf hm];exact⟨w,by simp,Zv hm⟩
  ·obtain⟨x,hx,hs⟩:=zpf W i (fun y hy=>h y (Zy _ hy)) s hs
   exact⟨x,Zy _ hx,hs⟩
theorem zxn {d:Dcm} (hd:DcmS d) (h:docE d=0) {f:Fld} (hf:f∈d.flds) {t:Txt} (ht:qH f t):(splitW t).length<=8/\(splitW t).all yX=true:=by
 have hR:=uZ hd h;obtain⟨k,hk,rfl⟩:=YN hf;obtain⟨f1,f2,f3,f4⟩:=gP hk (hR.s.fl _ hf) (hR.fe k hk);obtain⟨i,_,rfl⟩:=ht;have hv: ∀s∈(pick d.flds[k].words i).1,yX s=true:=fun s hs=>by
  obtain⟨w,hw,hs⟩:=zpf _ i (fun w hw=>(f1.sp w hw).1) s hs;exact ZA.1 (bF (f4 w hw)).2.2.1 s hs
 unfold textF;rw[zxm hv,bO];exact⟨f1.ws,ZA.2 hv⟩
theorem zxo {l:List Fld} {i:Nat} (hi:i<l.length) (h1:nameP l[i].name=true) (h2:((l.map Fld.name).take i).any (fun n=>decide (n=l[i].name))=false) (h3:l[i].words.length<=8) (h4: ∀w∈l[i].words,vM w=0):vY l i=0:=by
 have hgd:l.getD i zY=l[i]:=by rw[Zi,Zf hi];rfl
 unfold vY;simp only[hgd];rw[if_pos h1,if_neg,if_neg (by omega)]
 ·refine zan fun k hk=>?_
  rw[ZY,Zi,Zf hk];exact h4 _ (Zv hk)
 ·rw[<-Xy,XY] at h2
  rw[Bool.not_eq_true];exact h2
theorem zxp {s:Txt} (h:yX s=true):vM [s]=0:=by
 unfold vM;rw[if_neg (by simp),if_neg (by simp),if_pos (by simp[h]),if_neg (by simp[pO])]
theorem zpg (d:Dcm) (k:Nat) (ws:List Txt):(vR d k ws).flds.map Fld.name=d.flds.map Fld.name:=by
 show(d.flds.set k _).map Fld.name=_;rw[List.map_set];apply List.ext_getElem?;intro j;rw[List.getElem?_set];split
 ·rename_i e
  subst e;split
  ·rename_i hk
   simp only[Zg] at hk;rw[Zz,Zf hk,Zi,Zf hk];rfl
  ·rename_i hk
   simp only[Zg] at hk;rw[Zz,Xe (by omega)];rfl
 ·rfl
theorem zxq {d:Dcm} (hd:DcmS d) (h:docE d=0) {k:Nat} (hk:k<d.flds.length) {ws:List Txt} (h8:ws.length<=8) (hv: ∀w∈ws,yX w=true):DcmS (vR d k ws)/\docE (vR d k ws)=0:=by
 have hR:=uZ hd h;have hlen:(vR d k ws).flds.length=d.flds.length:=Y6;have hgk:d.flds.getD k zY=d.flds[k]:=by rw[Zi,Zf hk];rfl
 have hat: ∀i (hi:i<d.flds.length) (hi2:i<(vR d k ws).flds.length),(vR d k ws).flds[i]=if i=k then⟨d.flds[i].name,wP ws⟩ else d.flds[i]:=fun i hi hi2=>by
  refine(List.getElem_of_eq (show(vR d k ws).flds=d.flds.set k ⟨(d.flds.getD k zY).name,wP ws⟩ from rfl) hi2).trans ?_;rw[List.getElem_set];by_cases e:k=i
  ·subst e;rw[if_pos rfl,if_pos rfl,hgk]
  ·rw[if_neg e,if_neg (Ne.symm e)]
 have hw: ∀w∈wP ws,∃s,yX s=true/\w=[s]:=fun w hw=>by
  obtain⟨s,hs,rfl⟩:=ZH.1 hw;exact⟨s,hv s hs,rfl⟩
 constructor
 ·refine⟨hd.kd,by rw[hlen];exact hd.fs,fun f hf=>?_⟩
  obtain⟨i,hi,rfl⟩:=YN hf;rw[hlen] at hi;rw[hat i hi];have hF:=hd.fl _ (Zv hi);split
  ·refine⟨hF.nm,by show(wP ws).length<=_;unfold wP;rw[Zg];omega,fun w h2=>?_⟩
   obtain⟨s,hs,rfl⟩:=hw w h2;have:=zcP hs;exact⟨by simp,fun x hx=>by rw[ZT.1 hx];omega⟩
  ·exact hF
 ·unfold docE
  rw[show(vR d k ws).kind=d.kind from rfl,if_pos hR.kd,hlen,if_neg (by have:=hR.fs;omega)];refine zan fun i hi=>?_
  rw[ZY];have hi2:i<(vR d k ws).flds.length:=by rw[hlen];exact hi
  obtain⟨f1,f2,f3,f4⟩:=gP hi (hd.fl _ (Zv hi)) (hR.fe i hi);have e:=hat i hi hi2;have hnm:(vR d k ws).flds[i].name=d.flds[i].name:=by rw[e];split<;>rfl
  refine zxo hi2 (by rw[hnm];exact f2) ?_ ?_ ?_
  ·rw[zpg,hnm,<-Xy,XY]
   exact f3
  ·rw[e]
   split
   ·show(wP ws).length<=8;unfold wP;rw[Zg];exact h8
   ·exact f1.ws
  ·rw[e]
   split
   ·intro w h2
    obtain⟨s,hs,rfl⟩:=hw w h2;exact zxp hs
   ·exact f4
theorem zph: ∀{l:List Fld} {ts:List Txt} (k:Nat) {g:Fld} {t:Txt},oZ l ts->qH g t->oZ (l.set k g) (ts.set k t)
 |[],[],_,_,_,_,_=>trivial
 |_::_,_::_,0,_,_,h,hg=>⟨hg,h.2⟩
 |_::_,_::_,k+1,_,_,h,hg=>⟨h.1,zph k h.2 hg⟩
 |[],_::_,_,_,_,h,_=>h.elim
 |_::_,[],_,_,_,h,_=>h.elim
theorem zpi: ∀{l:List Fld} {ts:List Txt} (k:Nat),oZ l ts->k<l.length->qH (l.getD k zY) (ts.getD k [])
 |_::_,_::_,0,h,_=>h.1
 |_::_,_::_,k+1,h,hk=>zpi (l:=_) k h.2 (by simpa using hk)
 |[],_,_,_,hk=>by simp at hk
 |_::_,[],_,h,_=>h.elim
def fP (p:Pln) (k:Nat) (t:Txt):Pln:=⟨p.kind,p.names,p.texts.set k t⟩
theorem zxr {d:Dcm} {k:Nat} (hk:k<d.flds.length) {ws:List Txt} {p:Pln} (h:posP (vR d k ws) p) {t:Txt} (ht:qH (d.flds.getD k zY) t):posP d (fP p k t)/\p.texts.getD k []=vH 32 ws:=by
 obtain⟨h1,h2,h3⟩:=h;refine⟨⟨h1,by rw[<-zpg d k ws];exact h2,?_⟩,?_⟩
 ·have:=zph k h3 ht
  rw[show(vR d k ws).flds=d.flds.set k ⟨(d.flds.getD k zY).name,wP ws⟩ from rfl,List.set_set] at this
  rwa [show d.flds.set k (d.flds.getD k zY)=d.flds by rw[Zi,Zf hk];exact List.set_getElem_self hk] at this
 ·have hlt:k<(vR d k ws).flds.length:=by show k<(d.flds.set k _).length;rw[Y6];exact hk
  have:=zpi k h3 hlt;rw[show(vR d k ws).flds.getD k zY=⟨(d.flds.getD k zY).name,wP ws⟩ by
   show(d.flds.set k _).getD k zY=_
   rw[Zi,List.getElem?_set_self hk];rfl] at this
  exact zxk.1 this
theorem zpj: ∀{D:List Dcm} {P:List Pln} (k:Nat) {d:Dcm} {p:Pln},rP D P->posP d p->rP (D.set k d) (P.set k p)
 |[],[],_,_,_,_,_=>trivial
 |_::_,_::_,0,_,_,h,hg=>⟨hg,h.2⟩
 |_::_,_::_,k+1,_,_,h,hg=>⟨h.1,zpj k h.2 hg⟩
 |[],_::_,_,_,_,h,_=>h.elim
 |_::_,[],_,_,_,h,_=>h.elim
theorem zpk: ∀{D:List Dcm} {P:List Pln} (k:Nat),rP D P->k<D.length->posP (D.getD k yM) (P.getD k ⟨[],[],[]⟩)
 |_::_,_::_,0,h,_=>h.1
 |_::_,_::_,k+1,h,hk=>zpk (D:=_) k h.2 (by simpa using hk)
 |[],_,_,_,hk=>by simp at hk
 |_::_,[],_,h,_=>h.elim
theorem zpl: ∀{D:List Dcm} {P:List Pln},rP D P->P.length=D.length
 |[],[],_=>rfl
 |_::_,_::_,h=>by rw[Zo,zpl h.2,Zo]
 |[],_::_,h=>h.elim
 |_::_,[],h=>h.elim
end Go.Ex
namespace Go.Proofs
open Go.Shelf Go.RowKit
def Tryz.laysClone_ren:Go.Shelf.Ren:=
 {
  f:=fun x=>
   match x with
   |16=>124
   |n=>n,
  t:=fun x=>
   match x with
   |24=>35
   |9=>9
   |4=>4
   |n=>n,
  g:=fun n=>n}
theorem Tryz.laysClone:Lays2.n16 Tryz.prog Tryz.laysClone_ren:=
 {mixed:=by kernel_rfl,f16:=ZI Tryz.func124 (congrArg some (ZG (Body2.n16 Tryz.laysClone_ren))),
  t4:=Tryz.underlying4,a4:=Tryz.isAgg4,z4:=Tryz.sizeOf4,v4:=Tryz.zeroValue4,t9:=Tryz.underlying9,
  a9:=Tryz.isAgg9,z9:=Tryz.sizeOf9,v9:=Tryz.zeroValue9,t24:=Tryz.underlying35,a24:=Tryz.isAgg35,
  z24:=Tryz.sizeOf35,v24:=Tryz.zeroValue35,i9:=by kernel_rfl}
end Go.Proofs
namespace Go.Proofs
open Go.Shelf Go.RowKit Go.Lib Go.Abs Go.Ex Go.Wire Go.Wd
theorem zpm {c:UInt8} (t:Txt): ∀{w:Txt},c ∉ w->indexByte (w++c::t) c=w.length
 |[],_=>by
  show indexByte (c::t) c=0;unfold indexByte;rw[if_pos (by simp)]
 |b::w,h=>by
  have h1:(b==c)=false:=by rw[beq_eq_false_iff_ne];exact fun e=>h (by simp[e])
  have ih:=zpm t (w:=w) (fun e=>h (Zy _ e));rw[ZQ];unfold indexByte;rw[h1,ih,if_neg (by simp),if_neg (by simp)];simp
theorem zxs (c:UInt8): ∀(n:Nat) (s:Txt),s.length<=n->splitK [c] 0 (s.count c) s=Go.Wd.cutC c s:=by
 intro n
 induction n with
 |zero=>
  intro s hs;obtain rfl:s=[]:=Yg (by omega);rfl
 |succ n ih=>
  intro s hs;by_cases hm:c∈s
  ·obtain⟨w,t,rfl,hw⟩:=List.eq_append_cons_of_mem hm
   have hc:(w++c::t).count c=t.count c+1:=by
    rw[List.count_append,List.count_cons_self,List.count_eq_zero.2 hw];omega
   have hi:index (w++c::t) [c]=w.length:=by rw[index_one,zpm t hw]
   rw[hc,Go.Wd.cutC_app t hw,splitK,hi,if_neg (by simp)];rw[Ym,Yf,List.take_left,show w.length+[c].length=w.length+1 from rfl,List.drop_append,ZB (by omega),show w.length+1-w.length=1 by omega];rw[Yd,List.drop_succ_cons,List.drop_zero,ih t (by simp at hs;omega)]
  ·rw[List.count_eq_zero.2 hm,Go.Wd.cutC_word hm];rfl
end Go.Proofs
namespace Go.Abs
open Go.Proofs Go.Shelf Go.RowKit Go.Lib Go.Wd Go.Wire Go.Ex
theorem cell_of {w:World} {g:Nat} {p:Value->Prop} (hG:yN (base w)) (h:zdS g=some (cell0 p)): ∃v,w.cell? ⟨g,0,none⟩=some v/\p v:=by
 obtain⟨_,b,hb,hp⟩:=hG.2 g _ h;have hb':w.heap[g]?=some b:=hb;cases b with
 |cells cs t f=>
  obtain⟨v,h1,h2⟩:=hp;exact⟨v,by simp only[World.cell?,hb'];exact h1,h2⟩
 |_=>exact hp.elim
theorem zxt (s:Txt) (c:UInt8) (hs:s.length<4294967281) {w:World} (hG:yN (base w)):
  Calls Tryz.prog 158 #[.string ⟨s.toArray⟩,.string ⟨[c].toArray⟩] w fun e w'=> ∃v,e=.returned v/\w'.ownsRow w.heap.size 9 1 v (Go.Wd.cutC c s).length (sA (zF (Go.Wd.cutC c s)))/\Below w.heap.size w w':=by
 obtain⟨m,hm,z,rfl⟩:=cell_of hG (g:=3) (p:=fun v=> ∃m,v=.int .i64 m) rfl;refine(Any.strings_Split Tryz.laysSplit (by kernel_rfl) ⟨s.toArray⟩ ⟨[c].toArray⟩ z w (by show s.toArray.size<_;simpa using hs) hm (Zw 1)).mono ?_;rintro e w' ⟨rfl,rfl⟩;have hsp:(splitB (⟨[c].toArray⟩:ByteArray) 0 (countB ⟨s.toArray⟩ ⟨[c].toArray⟩) ⟨s.toArray⟩).map (·.data.toList)=Go.Wd.cutC c s:=by
  rw[splitB_data];show splitK [c] 0 (count s [c]) s=_;rw[count_one];exact zxs c s.length s (Zw _)
 have hlen:=splitB_all (⟨[c].toArray⟩:ByteArray) (Zw 1) 0 _ ⟨s.toArray⟩ rfl;generalize hSB:splitB (⟨[c].toArray⟩:ByteArray) 0 (countB ⟨s.toArray⟩ ⟨[c].toArray⟩) ⟨s.toArray⟩=SB at hsp hlen;have hcv:sA (zF (Go.Wd.cutC c s))=SB.map Value.string:=by
  rw[bP,<-hsp,Xm];refine Xj fun x _=>?_
  show Value.string ⟨x.data.toList.toArray⟩=Value.string x;rw[ZR]
 have hl2:(Go.Wd.cutC c s).length=SB.length:=by rw[<-hsp,Zg]
 have hcl:(countB (⟨s.toArray⟩:ByteArray) ⟨[c].toArray⟩)<=s.length:=by
  have:=countB_le (⟨[c].toArray⟩:ByteArray) (Zw 1) s.length ⟨s.toArray⟩ (by show s.toArray.size<=_;simp);have h2:(⟨s.toArray⟩:ByteArray).size=s.length:=by show s.toArray.size=_;simp
  omega
 refine⟨_,rfl,⟨by rw[(nY _).clen,zS],.inr ⟨w.heap.size,SB.length,(SB.map Value.string).toArray,?_,Zw _,alloc_get _ _,by omega,?_,by simp,?_⟩⟩,?_⟩
 ·rw[hl2,hlen]
 ·unfold maxLen;omega
 ·rw[hcv,hl2];simp;rw[Z7 (by simp)]
 ·exact(Below.refl _ w).alloc (Zw _) _
theorem c91 (s:Txt) (c:UInt8) (hs:s.length<4294967281):Spec Tryz.prog 158 [.str s,.str [c]] (fun r=>r=.k (.newl 9 1 none (zF (Go.Wd.cutC c s)))):=by
 refine⟨vN (by kernel_rfl),fun w Z vs hG hz ha=>?_⟩;obtain⟨vl⟩:=vs
 match vl,ha with
 |[],ha=>exact absurd ha.1 (by simp)
 |[_],ha=>exact absurd ha.1 (by simp)
 |_::_::_::_,ha=>exact absurd ha.1 (by simp)
 |[v,v2],ha=>
  have e1:=vX (ha.2 0 _ v rfl rfl).2.2;have e2:=vX (ha.2 1 _ v2 rfl rfl).2.2;subst e1 e2;refine(zxt s c hs hG).mono ?_;rintro e w' ⟨v,rfl,ho,hb⟩;exact⟨_,_,rfl,rfl,fun τ=>rfl,bB hG (xM hb) (bC (nY _) ho (by rw[zS]))⟩
theorem c54 (s:Txt) (hs:s.length<4294967281):Spec Tryz.prog 93 [.str s] (fun v=>v=lst 1 (zF (splitW s))):=by
 refine Spec.of_awlP hf93 okf93 (by simp) fun S hS=>?_
 unfold splitW at hS;by_cases h0:s=[]
 ·subst h0
  rw[if_pos rfl] at hS;simp only[Qs,BEq.rfl,ZK,Za,Zt,zkV];exact hS _ rfl
 ·rw[if_neg h0] at hS
  simp only[h0,Qs,forall_const,BEq.rfl,ZK,Za,Zt,zkV];refine cW (c91 s 32 hs) ?_ (ha:=by rfl);simp only[Qs,ZK,Zt];exact hS _ (by rw[xR];exact congrArg V.k (uK (xR _) 1 9))
theorem s60 (l:List Txt) (hl:l.length<=1000000):Spec Tryz.prog 124 [lst 1 (zF l)] (fun r=>r=.k (.newl 9 1 none (zF l))):=by
 refine⟨vN (by kernel_rfl),fun w Z vs hG hz ha=>?_⟩;obtain⟨vl⟩:=vs
 match vl,ha with
 |[],ha=>exact absurd ha.1 (by simp)
 |_::_::_,ha=>exact absurd ha.1 (by simp)
 |[v],ha=>
  obtain⟨p,k,rfl,q,m⟩:=(nY l).slice (ha.2 0 _ v rfl rfl).2.2;have hcl:=(nY l).clen;by_cases h0:l=[]
  ·subst h0
   have conc: ∀v' w',w'.ownsRow w.heap.size 9 1 v' 0 []->Below w.heap.size w w'-> ∃v_1 r,Ending.returned v'=.returned v_1/\r=V.k (.newl 9 1 none (zF []))/\(∀τ,r.noRef τ=true)/\qK (base w) Z r v_1 w':=fun v' w' ho hb=>
    ⟨_,_,rfl,rfl,fun τ=>rfl,bB hG (xM hb) (bC (rows:=zF []) (nY []) ho rfl)⟩
   cases p with
   |none=>
    refine(Any.slices_Clone_string_nil Tryz.laysClone 0 k w).mono ?_;rintro e w' ⟨rfl,rfl⟩;exact conc _ _ ⟨rfl,.inl ⟨rfl,rfl⟩⟩ (Below.refl _ _)
   |some a=>
    refine(Any.slices_Clone_string_zero Tryz.laysClone a k w).mono ?_;rintro e w' ⟨v',rfl,ho,_,hb⟩;exact conc _ _ ho hb
  ·have hpos:0<(zF l).length:=by rw[zS];exact Ye.2 h0
   obtain⟨b,o,rfl,g⟩:=q hpos;have hcs:sA (zF l)=(l.map fun s=>(⟨s.toArray⟩:ByteArray)).map Value.string:=by rw[bP,Xm];rfl
   refine(Any.slices_Clone_string Tryz.laysClone b o (zF l).length k (l.map fun s=>(⟨s.toArray⟩:ByteArray)) w (by rw[zS,Zg];exact Zw _) (by rw[zS];omega) ?_).mono ?_
   ·intro j hj
    refine g j _ ?_;rw[hcs,Zz,Zi,Zf hj];rfl
   ·rintro e w' ⟨v',rfl,ho,_,hb⟩
    refine⟨_,_,rfl,rfl,fun τ=>rfl,bB hG (xM hb) (bC (n:=(zF l).length) (nY l) ?_ rfl)⟩;rw[hcs];rw[Z7 (by rw[zS,Zg];exact Zw _)] at ho;exact ho
end Go.Abs
namespace Go.Abs
open Go.Sort Go.Proofs Go.Shelf Go.RowKit Go.Lib Go.Wd Go.Wire Go.Ex
theorem Spec.split_nil {P:Program} {f:FuncId} {sz:Nat} {rows:List (List C)} {S:V->Prop} (ht:rows=[]->Spec P f [.list sz (some true) []] S) (hf:Spec P f [.list sz (some false) rows] S):Spec P f [.list sz none rows] S:=by
 refine⟨hf.1,fun w Z vs hG hz ha=>?_⟩;obtain⟨vl⟩:=vs
 match vl,ha with
 |[],ha=>exact absurd ha.1 (by simp)
 |_::_::_,ha=>exact absurd ha.1 (by simp)
 |[v],ha=>
  have hp:PRep w Z (.list sz none rows) v:=(ha.2 0 _ v rfl rfl).2.2;generalize hn:(none:Option Bool)=nl at hp;cases hp with
  |nil _ _ h=>exact(ht rfl).2 w Z _ hG hz (wS (.nil _ _ (by simp)) (yY _ _))
  |emp _ _ a h=>exact hf.2 w Z _ hG hz (wS (.emp _ _ a (by simp)) (yY _ _))
  |list b o cap _ _ _ val h1 h2 h3 h4 h5 h6 h7=>exact hf.2 w Z _ hG hz (wS (.list b o cap _ _ _ val (by simp) h2 h3 h4 h5 h6 h7) (yY _ _))
theorem zxu (l:List Fld) (hl:l.length<=1000000):Spec Tryz.prog 132 [lst 2 (l.map zP)] (fun r=>r=.k (.newl 76 2 none (l.map zP))):=by
 unfold lst zB;refine Spec.split_nil (fun h=>?_) ?_
 ·refine Spec.of_awlS hf132 okf132 (by simp) fun S hS=>?_
  rw[h] at hS;simp only[Qs,cA,cH,oJ,BEq.rfl,ZK,Za,Zt,zlY];exact hS
 ·refine Spec.of_awlS hf132 okf132 (by simp) fun S hS=>?_
  simp only[zL,Qs,cA,cH,zbZ,implies_true,bne_iff_ne,ne_eq,ZK,Zc,Zn,Za,Zg,Zt,implies_true,zlY];refine⟨by cases l<;>simp,by omega,by omega,?_⟩;rw[zQ vA];exact hS
theorem zxv (l:List (List Txt)) (hl:l.length<=1000000):Spec Tryz.prog 133 [lst 1 (l.map yH)] (fun r=>r=.k (.newl 131 1 none (l.map yH))):=by
 unfold lst zB;refine Spec.split_nil (fun h=>?_) ?_
 ·refine Spec.of_awlS hf133 okf133 (by simp) fun S hS=>?_
  rw[h] at hS;simp only[Qs,cA,cH,oJ,BEq.rfl,ZK,Za,Zt,zl0];exact hS
 ·refine Spec.of_awlS hf133 okf133 (by simp) fun S hS=>?_
  simp only[zL,Qs,cA,cH,zbZ,implies_true,bne_iff_ne,ne_eq,ZK,Zn,Za,Zg,Zt,implies_true,zl0];refine⟨by cases l<;>simp,by omega,by omega,?_⟩;rw[zQ pP];exact hS
end Go.Abs
namespace Go.Ex
open Go.Lib Go.Wd Go.Wire Go.Abs
def mJ:Txt:=[105,110,118,111,105,99,101]
def jT:Txt:=[115,117,109]
def zao:Txt:=[112,111,114,116]
def zap:Txt:=[71,101,110,111,97]
def xmL:List Dmd:=[⟨2,mJ,jT,[],[],[],50,150⟩,⟨2,mJ,jT,[],[],[],600,800⟩,⟨1,mJ,zao,[],[],zap,0,0⟩,⟨0,[112,97,99,107,105,110,103],[],[],[],[],0,0⟩]
def xmD:List Dcm:=[⟨mJ,[⟨jT,[[[49,48,48],[55,48,48]]]⟩,⟨zao,[[zap]]⟩]⟩]
end Go.Ex
namespace Go.Abs
open Go.Proofs Go.RowKit Go.Lib Go.Wd Go.Wire Go.Ex
theorem mK (K:KK) (ts:TS) (os:OS):oH [] K ts os=K ts os:=id rfl
theorem mL (τ:Nat) (l:List Nat) (K:KK) (ts:TS) (os:OS):oH (τ::l) K ts os=oH l K (rA τ ts os (lookO τ os)) (rU τ os (lookO τ os)):=id rfl
theorem lU (P:Program) (K:KK) (ts:TS) (os:OS):lC P [] K ts os=K ts os:=id rfl
theorem lV (P:Program) (l:List AI) (τs:List Nat) (r:List (List AI×List Nat)) (K:KK) (ts:TS) (os:OS):lC P ((l,τs)::r) K ts os=wpLs P l (oH τs (lC P r K)) ts os:=id rfl
theorem lW (P:Program) (ps:List (List AI×List Nat)) (Q:AE->KK) (ts:TS) (os:OS):awl P (.regs ps) Q ts os=lC P ps (Q .normal) ts os:=id rfl
theorem mM (P:Program) (l1 l2:List AI) (τs:List Nat) (Q:AE->KK) (ts:TS) (os:OS):awl P (.regf l1 τs l2) Q ts os=wpLs P l1 (oH τs (wpLs P l2 (Q .normal))) ts os:=id rfl
theorem c60 (l:List Txt) (hl:l.length<=1000000):Spec Tryz.prog 124 [lst 1 (zF l)] (fun r=>r=.k (.newl 9 1 none (zF l))):=s60 l hl
theorem zpn (l:List Txt):(zB 1 (zF l)).norm=zB 1 (zF l):=yP (f:=fun s:Txt=>[C.str s]) (fun _=>rfl) 1 l
theorem zpo {l:List Txt} (h:l≠[]):C.list 1 none (zF l)=zB 1 (zF l):=by
 cases l with
 |nil=>exact absurd rfl h
 |cons a l=>rfl
theorem zdx: ∀R:List (List C),(C.normRows R).length=R.length
 |[]=>rfl
 |a::R=>by rw[C.normRows,Zo,zdx R,Zo]
theorem jU (r:List C): ∀R:List (List C),C.normRows (R++[r])=C.normRows R++[C.normRow r]
 |[]=>rfl
 |a::R=>by rw[ZQ,C.normRows,jU r R,C.normRows,ZQ]
theorem zxw {n:Txt} {W:List (List Txt)} {R:List (List C)} {b:Bool} (h:C.normRows R=W.map yH):C.normRow [.str n,.list 1 (some b) R]=zP ⟨n,W⟩:=by
 have e:R.isEmpty=(W.map yH).isEmpty:=by
  rw[<-h];cases R<;>rfl
 simp only[C.normRow,C.norm,h,e];rfl
theorem zxx (s:Txt):C.normRow [C.list 1 (some false) [[C.str s]]]=yH [s]:=rfl
theorem zxy {d:Dcm} {k i:Nat} {ws:List Txt} (hi:i<d.flds.length) (hi2:i<(vR d k ws).flds.length):(vR d k ws).flds[i]=if i=k then⟨d.flds[i].name,wP ws⟩ else d.flds[i]:=by
 have hl:(d.flds.set k ⟨(d.flds.getD k zY).name,wP ws⟩).length=d.flds.length:=Y6;refine(List.getElem_of_eq (show(vR d k ws).flds=d.flds.set k ⟨(d.flds.getD k zY).name,wP ws⟩ from rfl) hi2).trans ?_;rw[List.getElem_set];by_cases e:k=i
 ·subst e
  rw[if_pos rfl,if_pos rfl,Zi,Zf hi];rfl
 ·rw[if_neg e,if_neg (Ne.symm e)]
theorem zxz {d:Dcm} {k:Int} {t:Txt} (h:docE d≠0):setE d k t=docE d:=by unfold setE;rw[if_pos h]
theorem zxA {d:Dcm} {k:Int} {t:Txt} (h:docE d=0) (hk: ¬(0<=k/\k<d.flds.length)):setE d k t=4:=by unfold setE;rw[if_neg (fun q=>q h),if_neg hk]
theorem zxB {d:Dcm} {k:Int} {t:Txt} (h:docE d=0) (hk:0<=k/\k<d.flds.length) (hw:(splitW t).length>8\/(splitW t).all yX=false):setE d k t=2:=by unfold setE;rw[if_neg (fun q=>q h),if_pos hk,if_pos hw]
theorem zxC {d:Dcm} {k:Int} {t:Txt} (h:docE d=0) (hk:0<=k/\k<d.flds.length) (hw: ¬((splitW t).length>8\/(splitW t).all yX=false)):setE d k t=0:=by unfold setE;rw[if_neg (fun q=>q h),if_pos hk,if_neg hw]
theorem zxD (W:List Txt):(W.any fun s=> !yX s)= !W.all yX:=by
 induction W with
 |nil=>rfl
 |cons a W ih=>rw[List.any_cons,Yz,ih,Bool.not_and]
theorem c26 (d:Dcm) (hd:DcmS d) (k:Int) (t:Txt) (ht:t.length<4294967281):Spec Tryz.prog 63 [.agg (zJ d),.int .i64 k,.str t] (fun v=>v=.tup [.agg (zJ (setD d k t)),.int .i64 (setE d k t)]):=by
 refine Spec.of_awlP hf63 okf63 (by simp) fun S hS=>?_
 have g54:=c54 t ht;have g55:=c55 d hd;have g56:=c56 d hd k;have hbad: ∀e,setE d k t=e->e≠0->S (.tup [.agg [.str [],.list 0 none []],.int .i64 e]):=fun e he h0=>hS _ (by unfold setD;rw[he,if_neg h0];rfl)
 have hgood:setE d k t=0-> ∀r:V,r.fz.nrm=.tup [.agg (zJ (vR d k.toNat (splitW t))),.int .i64 0]->S r:=fun he r hr=>hS r (by unfold setD;rw[he,if_pos rfl];exact hr)
 have eD:=zxz (d:=d) (k:=k) (t:=t);have eN:=zxA (d:=d) (k:=k) (t:=t);have eF:=zxB (d:=d) (k:=k) (t:=t);have eO:=zxC (d:=d) (k:=k) (t:=t);clear hS;generalize setE d k t=E at hbad hgood eD eN eF eO;have g57:=fun(h8:(splitW t).length<=8)=>c57 (g:=122) (p:=fun s=> !yX s) (splitW t) (fun s _=>c58 s) (by omega)
 simp only[zxD] at g57;have hn:[C.str d.kind,zB 2 (d.flds.map zP)]=zJ d:=rfl;generalize splitW t=W at g54 g57 hgood eF eO;rw[<-hn] at g55 g56⊢;have hfl:=hd.fs;simp only[Qs,bne_iff_ne,ne_eq,Zc,Zn,Za,zsB];refine yQ g54 ?_ (ha:=by rfl);simp only[Qs,Zc,Za];refine zI g55 ?_ (ha:=by simp only[Zk,Zp,zC,V.norm,C.norm,C.normRow,yP vA]<;>rfl);by_cases h0:docE d=0
 ·simp only[h0,Qs,Zc,Za,Xa]
  refine zI g56 ?_ (ha:=by simp only[Zk,Zp,zC,V.norm,C.norm,C.normRow,yP vA]<;>rfl);by_cases hk:0<=k/\k<d.flds.length
  ·have e1:decide (docE d=0/\0<=k/\k<d.flds.length)=true:=decide_eq_true ⟨h0,hk⟩
   by_cases h8:W.length<=8
   ·have c8: ¬(W.length:Int)>8:=by omega
    simp only[e1,c8,zS,Qs,Za];refine rC (g57 h8) ?_ (ha:=by simp only[Zk,Zp,zC,V.norm,zM,C.norm,xR]<;>rfl);cases hv:W.all yX with
    |false=>
     simp only[Qs,zi7,oJ,Ze,Zc,Z5,Za];exact hbad 2 (eF h0 hk (.inr hv)) (by decide)
    |true=>
     have he:=eO h0 hk (by rw[hv];simp;omega);simp only[zL,Qs,bne_iff_ne,ne_eq,Ze,Zc,Zn,Zl,Za,Zg,zb2,zb3,zfK];obtain⟨n,rfl⟩: ∃n:Nat,k=(n:Int):=⟨k.toNat,by omega⟩;rw[Ym] at hgood;have hnk:n<d.flds.length:=by omega
     obtain⟨D',hD'⟩: ∃D',vR d n W=D':=⟨_,rfl⟩;have hDl:D'.flds.length=d.flds.length:=by rw[<-hD'];exact Y6
     have hDk:D'.kind=d.kind:=by rw[<-hD'];rfl
     have hat': ∀i (hi:i<d.flds.length) (hi2:i<D'.flds.length),D'.flds[i]=if i=n then⟨d.flds[i].name,wP W⟩ else d.flds[i]:=fun i hi hi2=>by
      subst hD';exact zxy hi hi2
     rw[hD'] at hgood;refine zR (fun x:Nat×List (List C)=>[(1,.int .i64 n),(6,.k (.ptr 6 0)),(8,lst 1 (zF W)),(10,.k (.ptr 10 0)),(46,lst 2 (d.flds.map zP)),(47,.int .i64 d.flds.length),(48,.int .i64 x.1)]) (fun x=>[(6,.var 69 [.c (.str []),.c (.list 0 (some true) [])]),(10,.var 69 [.c (.str d.kind),.own 26010]),(26010,.arr 76 2 (some x.2.isEmpty) x.2)]) (fun x=>x.1<=d.flds.length/\x.2.length=x.1/\C.normRows x.2=(D'.flds.take x.1).map zP) (fun x=>d.flds.length-x.1) (0,[]) rfl rfl ⟨ZC _,rfl,rfl⟩ ?_;rintro⟨i,R⟩ ⟨hi,hRl,hRn⟩;simp only[] at hi hRl hRn;by_cases hlt:i<d.flds.length
     ·have d1:(i:Int)<d.flds.length:=by omega
      have c4:IntKind.i64.wrap ((i:Int)+1)=(i:Int)+1:=wrap_in (by omega) (by omega);have hat:=nX hlt;have hF:=(uZ hd h0).fld (Zv hlt);have hf31:=(uZ hd h0).fs;have hw8:=hF.ws;have hwE:(D'.flds.take (i+1)).map zP=(D'.flds.take i).map zP++[zP ⟨d.flds[i].name,if i=n then wP W else d.flds[i].words⟩]:=by
       have hi2:i<D'.flds.length:=by omega
       have e:D'.flds[i]=⟨d.flds[i].name,if i=n then wP W else d.flds[i].words⟩:=by rw[hat' i hlt hi2];split<;>rfl
       rw[ZD hi2,ZS,e];rfl
      have hsp:=hF.sp;clear hF;simp only[d1,hat,zL,Qs,bne_iff_ne,ne_eq,Ze,Zc,Zn,Zl,Za,Zg,zb2,zb3,zfK];generalize d.flds[i]=f at hw8 hwE hsp;refine zR (fun j:Nat=>[(1,.int .i64 n),(6,.k (.ptr 6 0)),(8,lst 1 (zF W)),(10,.k (.ptr 10 0)),(11,.int .i64 i),(13,.k (.ptr 13 0)),(46,lst 2 (d.flds.map zP)),(47,.int .i64 d.flds.length),(48,.int .i64 i),(57,lst 1 (f.words.map yH)),(58,.int .i64 f.words.length),(59,.int .i64 j)]) (fun j=>[(6,.var 69 [.c (.str []),.c (.list 0 (some true) [])]),(10,.var 69 [.c (.str d.kind),.own 26010]),(13,.var 76 [.c (.str f.name),.own 26013]),(26010,.arr 76 2 (some R.isEmpty) R),(26013,.arr 131 1 (some (if i=n then([]:List (List Txt)) else f.words.take j).isEmpty) ((if i=n then([]:List (List Txt)) else f.words.take j).map yH))]) (fun j=>j<=f.words.length) (fun j=>f.words.length-j) 0 rfl (by simp;rfl) (ZC _) ?_;intro j hj;by_cases hjt:j<f.words.length
      ·have k1:(j:Int)<f.words.length:=by omega
       have k4:IntKind.i64.wrap ((j:Int)+1)=(j:Int)+1:=wrap_in (by omega) (by omega);have hws:=jG hjt;have hwj:=hsp _ (Zv hjt);have g60:=c60 f.words[j] (by omega);by_cases hin:i=n
       ·subst hin
        simp only[k1,k4,hws,zL,Qs,pM,oJ,forall_const,bne_iff_ne,ne_eq,Ze,Zc,Zn,Za,not_true_eq_false,Zg];exact Next.intro (j+1) rfl (by first|rfl|(simp;rfl)) (by omega) (by omega)
       ·have m1: ¬(i:Int)=(n:Int):=by omega
        simp only[k1,k4,hws,hin,m1,zL,Qs,pM,forall_const,bne_iff_ne,ne_eq,Ze,Zc,Zn,Za,Zg];refine jE g60 ?_ (ha:=by simp only[Zk,Zp,zC,V.norm,zpn]<;>rfl);simp only[k1,k4,hws,hin,m1,zL,Qs,zrO,zgz,iS,zrQ,zh5,zbZ,gA,gB,zjn,reduceCtorEq,forall_eq,Ze,ZJ,Zc,Zn,Zl,Z5,Za,Zg,Zt];have hsn:(f.words.take (j+1)).map yH=(f.words.take j).map yH++[[.list 1 none (zF f.words[j])]]:=by
         rw[ZD hjt,ZS,zpo (by intro e;rw[e] at hwj;simp at hwj)];rfl
        have hem:(f.words.take (j+1)).isEmpty=false:=by
         have hl:(f.words.take (j+1)).length=j+1:=by rw[Yl];omega
         cases hq:f.words.take (j+1) with
         |nil=>rw[hq] at hl;simp at hl
         |cons=>rfl
        exact⟨by simp;omega,by simp;omega,Next.intro (j+1) rfl (by simp only[hsn,hem];rfl) (by omega) (by omega)⟩
      ·obtain rfl:j=f.words.length:=by omega
       have k1: ¬(f.words.length:Int)<f.words.length:=by omega
       rw[Yk];simp only[k1,zS,Qs,Zn,Za];refine zR (fun x:Nat×List (List C)=>[(1,.int .i64 n),(6,.k (.ptr 6 0)),(8,lst 1 (zF W)),(10,.k (.ptr 10 0)),(11,.int .i64 i),(13,.k (.ptr 13 0)),(46,lst 2 (d.flds.map zP)),(47,.int .i64 d.flds.length),(48,.int .i64 i),(76,lst 1 (zF W)),(77,.int .i64 W.length),(78,.int .i64 x.1)]) (fun x=>[(6,.var 69 [.c (.str []),.c (.list 0 (some true) [])]),(10,.var 69 [.c (.str d.kind),.own 26010]),(13,.var 76 [.c (.str f.name),.own 26013]),(26010,.arr 76 2 (some R.isEmpty) R),(26013,.arr 131 1 (some x.2.isEmpty) x.2)]) (fun x=>x.1<=W.length/\x.2.length<=8/\C.normRows x.2=(if i=n then wP (W.take x.1) else f.words).map yH) (fun x=>W.length-x.1) (0,(if i=n then([]:List (List Txt)) else f.words).map yH) rfl (by first|rfl|(simp;rfl)) ⟨ZC _,by show((if i=n then([]:List (List Txt)) else f.words).map yH).length<=8;rw[Zg];split;exact ZC _;exact hw8,by show C.normRows ((if i=n then([]:List (List Txt)) else f.words).map yH)=(if i=n then wP (W.take 0) else f.words).map yH;split<;>first|rfl|exact zQ pP _⟩ ?_;rintro⟨j,Q⟩ ⟨hj,hQl,hQn⟩;simp only[] at hj hQl hQn;by_cases hjt:j<W.length
       ·have k1:(j:Int)<W.length:=by omega
        have k4:IntKind.i64.wrap ((j:Int)+1)=(j:Int)+1:=wrap_in (by omega) (by omega);by_cases hin:i=n
        ·subst hin
         rw[if_pos rfl] at hQn hwE;have hq:Q.length=j:=by
          have:=congrArg List.length hQn;rw[zdx,Zg] at this;rw[this];unfold wP;rw[Zg,Yl];omega
         simp only[k1,k4,uI hjt,zS,Qs,pM,gA,gB,forall_eq,bne_iff_ne,ne_eq,BEq.rfl,Ze,ZJ,Zc,Zn,Zl,Z5,Za,Zt,nU,gF,mM,mK,mL];have hne:(Q++[[C.list 1 (some false) [[C.str W[j]]]]]).isEmpty=false:=by simp
         refine⟨by omega,by omega,Next.intro (j+1,Q++[[C.list 1 (some false) [[C.str W[j]]]]]) rfl (by simp only[hne];rfl) ⟨by simp only[];omega,by simp;omega,?_⟩ (by simp only[];omega)⟩;show C.normRows (Q++[[C.list 1 (some false) [[C.str W[j]]]]])=(wP (W.take (j+1))).map yH;rw[jU,hQn,zxx,ZD hjt];unfold wP;rw[ZS,ZS];rfl
        ·have m1: ¬(i:Int)=(n:Int):=by omega
         rw[if_neg hin] at hQn;simp only[k1,k4,uI hjt,m1,zS,Qs,forall_const,Za];exact Next.intro (j+1,Q) rfl rfl ⟨by simp only[];omega,hQl,by show C.normRows Q=(if i=n then wP (W.take (j+1)) else f.words).map yH;rw[if_neg hin];exact hQn⟩ (by simp only[];omega)
       ·obtain rfl:j=W.length:=by omega
        have k1: ¬(W.length:Int)<W.length:=by omega
        rw[Yk] at hQn;simp only[k1,c4,Qs,pM,gA,gB,forall_eq,bne_iff_ne,ne_eq,Ze,ZJ,Zc,Zn,Zl,Z5,Za,Zt,nU,gF];have hn2:C.normRows (R++[[C.str f.name,C.list 1 (some Q.isEmpty) Q]])=(D'.flds.take (i+1)).map zP:=by
         rw[jU,hRn,hwE,zxw (W:=if i=n then wP W else f.words) hQn]
        have hne:(R++[[C.str f.name,C.list 1 (some Q.isEmpty) Q]]).isEmpty=false:=by simp
        exact⟨by omega,by omega,Next.intro (i+1,R++[[C.str f.name,C.list 1 (some Q.isEmpty) Q]]) rfl (by simp only[hne];rfl) ⟨by simp only[];omega,by simp only[Zq,Zo,ZF];omega,hn2⟩ (by simp only[];omega)⟩
     ·obtain rfl:i=d.flds.length:=by omega
      have d1: ¬(d.flds.length:Int)<d.flds.length:=by omega
      rw[Z7 (by omega)] at hRn;simp only[d1,Qs,pM,zrY,zr1,zr2,zr3,jA,zsb,zsc,oJ,Ze,ZK,Zc,Z5,Za,Zt];refine hgood he _ ?_;rw[hRn];unfold zJ;rw[hDk];show V.tup [(V.agg [C.str d.kind,C.list 2 none (D'.flds.map zP)]).nrm,_]=_;simp only[V.nrm,C.normRow,C.norm,zQ vA];rfl
   ·have c8:(W.length:Int)>8:=by omega
    simp only[e1,c8,zS,Qs,zi7,oJ,Ze,Zc,Z5,Za];exact hbad 2 (eF h0 hk (.inl (by omega))) (by decide)
  ·have e1:decide (docE d=0/\0<=k/\k<d.flds.length)=false:=decide_eq_false fun q=>hk q.2
   simp only[e1,Qs,zi7,oJ,Ze,Zc,Z5,Za];exact hbad 4 (eN h0 hk) (by decide)
 ·simp only[h0,Qs,zi7,oJ,forall_const,Ze,Zc,Z5,Za]
  exact hbad _ (eD h0) h0
end Go.Abs
namespace Go.Abs
open Go.Sort Go.Proofs Go.Shelf Go.RowKit Go.Lib Go.Wd Go.Wire Go.Ex
structure CopyD (d:Dcm):Prop where
 fs:d.flds.length<=1000000
 ws: ∀f∈d.flds,f.words.length<=1000000
 tx: ∀f∈d.flds,∀w∈f.words,w.length<=1000000
theorem q73 (d:Dcm) (h:CopyD d):Spec Tryz.prog 73 [.agg (zJ d)] (fun v=>v=.agg (zJ d)):=by
 refine Spec.of_awlP hf73 okf73 (by simp) fun S hS=>?_
 have g1:=zxu d.flds h.fs;have hfs:=h.fs;unfold zJ at hS⊢;simp only[Qs,bne_iff_ne,ne_eq,Zc,Zn,Za,ztm];refine cW g1 ?_ (ha:=by simp only[Zk,Zp,zC,V.norm,C.norm,yP vA]<;>rfl);simp only[zL,Qs,iV,iW,pM,Ze,Zc,Za,Zg];have hfl: ∀(R:List (List C)) (i:Nat),i<=d.flds.length->R.length=i->(R++(d.flds.drop i).map zP).length=d.flds.length:=fun R i hi hR=>by rw[Zq,Zg,XV];omega
 refine zR (fun x:Nat×List (List C)=>[(1,.k (.ptr 1 0)),(2,.k (.ptr 2 0)),(12,.k (.own 9)),(13,.int .i64 d.flds.length),(14,.int .i64 x.1)]) (fun x=>[(1,.var 69 [.c (.str d.kind),.own 9]),(2,.var 69 [.c (.str []),.c (.list 0 (some true) [])]),(9,.arr 76 2 none (x.2++(d.flds.drop x.1).map zP))]) (fun x=>x.1<=d.flds.length/\x.2.length=x.1/\C.normRows x.2=(d.flds.take x.1).map zP) (fun x=>d.flds.length-x.1) (0,[]) rfl rfl ⟨ZC _,rfl,rfl⟩ ?_;rintro⟨i,R⟩ ⟨hi,hRl,hRn⟩;simp only[] at hi hRl hRn;have hll:=hfl R i hi hRl;by_cases hlt:i<d.flds.length
 ·have d1:(i:Int)<d.flds.length:=by omega
  have c4:IntKind.i64.wrap ((i:Int)+1)=(i:Int)+1:=wrap_in (by omega) (by omega);have hat:(R++(d.flds.drop i).map zP).getD i []=[.str d.flds[i].name,zB 1 (d.flds[i].words.map yH)]:=by
   rw[ZE hlt,Zi,ZM (by omega),hRl,Xi];rfl
  have hws:=h.ws _ (Zv hlt);have htx:=h.tx _ (Zv hlt);have hset: ∀r,(R++(d.flds.drop i).map zP).set i r=(R++[r])++(d.flds.drop (i+1)).map zP:=fun r=>by
   rw[ZE hlt,Zk,Xr _ _ (by omega),hRl,Xi,Z8,Z3];rfl
  have hsn:(d.flds.take (i+1)).map zP=(d.flds.take i).map zP++[zP d.flds[i]]:=by
   rw[ZD hlt,ZS];rfl
  generalize (d.flds.drop i).map zP=T at hat hset hll;generalize d.flds[i]=f at hat hws htx hsn;have g2:=zxv f.words hws;simp only[d1,hat,hll,Qs,cI,cJ,cK,cL,bne_iff_ne,ne_eq,Ze,Zc,Zn,Za];refine cW g2 ?_ (ha:=by simp only[Zk,Zp,zC,V.norm,C.norm,yP pP]<;>rfl);simp only[zL,Qs,iV,iW,pM,Ze,Zc,Za,Zg];have hwl: ∀(Q:List (List C)) (j:Nat),j<=f.words.length->Q.length=j->(Q++(f.words.drop j).map yH).length=f.words.length:=fun Q j hj hQ=>by rw[Zq,Zg,XV];omega
  refine zR (fun x:Nat×List (List C)=>[(1,.k (.ptr 1 0)),(2,.k (.ptr 2 0)),(3,.int .i64 i),(4,.k (.ptr 4 0)),(12,.k (.own 9)),(13,.int .i64 d.flds.length),(14,.int .i64 i),(24,.k (.own 21)),(25,.int .i64 f.words.length),(26,.int .i64 x.1)]) (fun x=>[(1,.var 69 [.c (.str d.kind),.own 9]),(2,.var 69 [.c (.str []),.c (.list 0 (some true) [])]),(4,.var 76 [.c (.str f.name),.own 21]),(9,.arr 76 2 none (R++T)),(21,.arr 131 1 none (x.2++(f.words.drop x.1).map yH))]) (fun x=>x.1<=f.words.length/\x.2.length=x.1/\C.normRows x.2=(f.words.take x.1).map yH) (fun x=>f.words.length-x.1) (0,[]) rfl rfl ⟨ZC _,rfl,rfl⟩ ?_;rintro⟨j,Q⟩ ⟨hj,hQl,hQn⟩;simp only[] at hj hQl hQn;have hkk:=hwl Q j hj hQl;by_cases hjt:j<f.words.length
  ·have k1:(j:Int)<f.words.length:=by omega
   have k4:IntKind.i64.wrap ((j:Int)+1)=(j:Int)+1:=wrap_in (by omega) (by omega);have hws':(Q++(f.words.drop j).map yH).getD j []=[zB 1 (zF f.words[j])]:=by
    rw[ZE hjt,Zi,ZM (by omega),hQl,Xi];rfl
   have hset2: ∀r,(Q++(f.words.drop j).map yH).set j r=(Q++[r])++(f.words.drop (j+1)).map yH:=fun r=>by
    rw[ZE hjt,Zk,Xr _ _ (by omega),hQl,Xi,Z8,Z3];rfl
   have g60:=c60 f.words[j] (htx _ (Zv hjt));have hsw:(f.words.take (j+1)).map yH=(f.words.take j).map yH++[yH f.words[j]]:=by
    rw[ZD hjt,ZS];rfl
   generalize (f.words.drop j).map yH=T2 at hws' hset2 hkk;generalize f.words[j]=w at hws' g60 hsw;simp only[k1,k4,hws',hkk,Qs,cI,cJ,cK,pM,cL,bne_iff_ne,ne_eq,Ze,Zc,Zn,Za,zka];refine jE g60 ?_ (ha:=by simp only[Zk,Zp,zC,V.norm,zpn]<;>rfl);simp only[k1,k4,hws',hkk,hset2,Qs,iS,zrX,kV,kW,zjn,Ze,Za];refine Next.intro (j+1,Q++[[C.list 1 none (zF w)]]) rfl rfl ⟨by simp only[];omega,by simp only[Zq,Zo,ZF];omega,?_⟩ (by simp only[];omega);show C.normRows (Q++[[C.list 1 none (zF w)]])=_;rw[jU,hQn,hsw];simp only[C.normRow,C.norm,xR,List.append_cancel_left_eq];rfl
  ·obtain rfl:j=f.words.length:=by omega
   have k1: ¬(f.words.length:Int)<f.words.length:=by omega
   rw[Yk] at hQn;simp only[k1,c4,hll,hset,List.drop_length,Qs,pM,kV,kW,reduceCtorEq,Ze,Zc,Zn,Za,nU,gF];refine⟨by omega,Next.intro (i+1,R++[[C.str f.name,C.list 1 none Q]]) rfl rfl ⟨by simp only[];omega,by simp only[Zq,Zo,ZF];omega,?_⟩ (by simp only[];omega)⟩;show C.normRows (R++[[C.str f.name,C.list 1 none Q]])=_;have e:Q.isEmpty=(f.words.map yH).isEmpty:=by rw[<-hQn];cases Q<;>rfl
   rw[jU,hRn,hsn];simp only[C.normRow,C.norm,hQn,e,List.append_cancel_left_eq];rfl
 ·obtain rfl:i=d.flds.length:=by omega
  have d1: ¬(d.flds.length:Int)<d.flds.length:=by omega
  rw[Yk] at hRn;simp only[d1,List.drop_length,Qs,zi7,oJ,Ze,Zc,Zn,Z5,Za,nU,gF];have e:R.isEmpty=(d.flds.map zP).isEmpty:=by rw[<-hRn];cases R<;>rfl
  rw[e,hRn];refine hS _ ?_;simp only[V.fz,V.nrm,C.normRow,C.norm,zQ vA];cases hd:d.flds<;>rfl
end Go.Abs
namespace Go.Proofs
open Go.RowKit Go.Shelf Go.Abs Go.Wd Go.Wire Go.Ex
attribute [local go_sem] Oper.semAt_some
def zdy (s:Txt):Array Value:= #[tV s]
structure FldB (f:Fld) (b:Nat) (vw:Value) (W:World):Prop where
 c0:W.cell? ⟨b,0,none⟩=some (tV f.name)
 c1:W.cell? ⟨b,1,none⟩=some vw
 pw:yG W (zV W) (zP f) [tV f.name,vw]
 gl:yN (base W)
theorem FldB.later {f:Fld} {b:Nat} {vw:Value} {W W':World} (h:FldB f b vw W) (hb:Below W.heap.size W W'):FldB f b vw W':=by
 have k: ∀(j:Nat) v,W.cell? ⟨b,j,none⟩=some v->W'.cell? ⟨b,j,none⟩=some v:=fun j v h0=>(hb.cell (p:=⟨b,j,none⟩) (World.block_lt_of_cell? _ _ h0)).trans h0
 exact⟨k _ _ h.c0,k _ _ h.c1,oP h.pw hb,h.gl.later (xM hb)⟩
theorem zxE (f:Fld) (k:Nat):(List.range (k+1)).map (textF f)=(List.range k).map (textF f)++[textF f k]:=by
 rw[Xk,ZS];rfl
theorem zxF (n:Nat) (hn:3<=n) (f:Fld) (hf:FldR f) (hsw: ∀w∈f.words,∀s∈w,s.length<=100) (b:Nat) (vw:Value) (w:World)
  (Kp:World->World->Prop) (hKt: ∀A B C,Kp A B->Kp B C->Kp A C) (hKb: ∀A B,Kp w A->Below A.heap.size A B->Kp w B) (hW: ∀W,Kp w W->FldB f b vw W) (o1:vw.oneCell'=true):
  bJ Fence.wide n Tryz.prog 156 #[.pointer (some ⟨b,0,none⟩)] zdy Kp (fun xs=>xs=(List.range (zX f)).map (textF f)) (zX f) w:=by
 intro l J W hKW hJ hY h0;have h1n:1<=n:=by omega
 have mixed:Tryz.prog.follows Departure.mixedOrders=true:=by kernel_rfl
 have hle:=bG hf;obtain⟨N,hN⟩: ∃N,zX f=N:=⟨_,rfl⟩;have hF0:=hW W hKW;have k61: ∀W',FldB f b vw W'->Calls Tryz.prog 90 #[.agg #[tV f.name,vw]] W' fun e W''=>e=.returned (.int .i64 (N:Int))/\Below W'.heap.size W' W'':=fun W' h=>by
  have:=(c61 f hf).intC h.gl (Z:=zV W') (fun _ h=>h) (vs:= #[.agg #[tV f.name,vw]]) (qZ h.pw (yY _ _))
  rwa [hN] at this
 have k100: ∀(k:Nat) W',k<N->FldB f b vw W'->Calls Tryz.prog 92 #[.agg #[tV f.name,vw],.int .i64 k] W' fun e W''=>e=.returned (.string ⟨(textF f k).toArray⟩)/\Below W'.heap.size W' W'':=fun k W' hk h=>
  (zno f hf hsw k (by omega)).strC h.gl (Z:=zV W') (fun _ h=>h) (vs:= #[.agg #[tV f.name,vw],.int .i64 k]) (qZ h.pw (wS (.int .i64 (k:Int)) (yY _ _)))
 rw[hN] at hY hle⊢;have c0:=hF0.c0;have c1:=hF0.c1;have k61W:=k61 W hF0;have A1:Aside _:=hY;have A2:Aside _:=hJ;have A4:Aside _:=hW;clear hY hW k61;refine callsIn_of_wp Tryz.func156 rfl trivial ?_ rfl;simp only[Tryz.ntmps156,Yx,Zo,ZF,Zc,Y9,YI,YH,YS,YO,Yd,ZQ]
 gi_wp2_with (refine⟨trivial,?_⟩;gi_at_call 90;refine(callsIn_wide.2 k61W).mono ?_;rintro e w1 ⟨rfl,hb1⟩)
 have hK1:Kp w w1:=hKb _ _ hKW hb1;have hJ1:J [] w1:=A2.out _ _ _ h0 hb1;clear h0 hJ c0 c1 hF0 k61W hb1
 gi_loopw [6] (fun q wr=> ∃(k:Nat) (pre:List Txt),k<=N/\q=.int .i64 k/\pre=(List.range k).map (textF f)/\J pre wr/\Kp w wr)
  (fun q wr=>match q with| .int _ z=>N-z.toNat|_=>0)
 case atStart=>exact⟨0,[],ZC _,rfl,rfl,hJ1,hK1⟩
 case round=>
  obtain⟨k,pre,hk,rfl,hpre,hJw,hKp⟩:=hrel;have hpl:pre.length=k:=by rw[hpre];simp
  by_cases hlt:k<N
  ·have hlti:(k:Int)<N:=by omega
   have c4:IntKind.i64.wrap ((k:Int)+1)=(k:Int)+1:=wrap_in (by omega) (by omega);have hF:=A4.out wr hKp;have c0:=hF.c0;have c1:=hF.c1;have k1:=k100 k wr hlt hF;have A5:Aside _:=hJw;have A6:Aside _:=hKp;clear hF hJw hKp hJ1 hK1 k100
   gi_wp2_with (refine⟨trivial,?_⟩;gi_at_call 92;refine(callsIn_wide.2 k1).mono ?_;rintro e w2 ⟨rfl,hb2⟩;obtain⟨fn,tmps,assign,body,hy,hR⟩:=A1.out pre (textF f k) w2 (A2.out _ _ _ A5.out hb2) (by rw[hpl];exact hlt);simp only[zdy,tV] at hy)
   gi_wp2
   refine hR.mono ?_;rintro e W3 ⟨rfl,hJ3,hk3⟩
   gi_wp2
   exact⟨⟨k+1,_,hlt,by rw[Int.natCast_add];rfl,rfl,by rw[zxE,<-hpre];exact hJ3,hKt _ _ _ (hKb _ _ A6.out hb2) hk3⟩,by simp only[];omega⟩
  ·obtain rfl:k=N:=by omega
   have hkk: ¬(k:Int)<k:=by omega
   clear k100 hJ1 hK1
   gi_wp2
   go_end0
   rw[hpre] at hJw;exact⟨⟨_,rfl⟩,hJw⟩
attribute [local go_sem] Oper.semAt_some
theorem zxG (x y:Value) (w:World) (h1:x.oneCell'=true) (h2:y.oneCell'=true):Calls Tryz.prog 91 #[.agg #[x,y]] w fun e w'=>e=.returned (.func (.func 156) #[] #[.pointer (some ⟨w.heap.size,0,none⟩)])/\w'=w.alloc (.cells #[x,y] 76):=by
 go_enter Tryz.func91,Tryz.ntmps91
 go_wp2
 go_ret
 exact⟨rfl,rfl⟩
theorem zxH {fn:Func} {p u:Tmp} (h:fn.results= #[.tmp p,.tmp u]) (tmps:Array Value) (w:World):(results fn tmps).run Tryz.prog w=.ok (.tuple #[tmps.getD p undef,tmps.getD u undef]) w:=by
 simp[results,h,go_sem]
structure TxI (w W0:World) (N bo:Nat) (pre:List Txt) (W:World):Prop where
 v: ∃vs:Value,W.heap[bo]?=some (.cells #[vs] 35 (0,0))/\W.ownsRow N 9 1 vs pre.length (pre.map tV)
 kp:KpR N bo bo bo W0 W
 bl:Below w.heap.size w W
theorem TxI.own {w W0:World} {N bo:Nat} (hv:bo<N) (hw:w.heap.size<=N) (hW:N<=W0.heap.size):OwnFrom N (TxI w W0 N bo):=by
 rintro pre A B row ⟨⟨vs,k1,k2⟩,k6,k7⟩ hg hr;have hsz:N<=A.heap.size:=ZX hW k6.1;have hb: ∀j,j<N->B.heap[j]?=A.heap[j]?:=fun j hj=>hg.block j (by omega) (fun e=>by have:=(hr j e.symm).1;omega)
 refine⟨⟨vs,(hb _ hv).trans k1,k2.kept hg ?_⟩,k6.trans (KpR.grown hsz hg fun r e=>(hr r e).1),k7.grown hg (ZX hw hsz) fun r e=>by have:=(hr r e).1;omega⟩;cases q:vs.ownBlock with
 |none=>exact .inl rfl
 |some g=>
  right;intro e;obtain⟨cur,hc,_⟩:=aV k2 q;obtain⟨_,o,ho,hno⟩:=hr g e.symm;rw[hc] at ho;cases ho;cases hno
theorem zpp (d:Dcm) (hd:DcmS d) (h0:docE d=0) (k:Nat) (hk:k<d.flds.length) (h4:zX (d.flds.getD k zY)<=4096) (w:World) (hG:yN (base w)) (p:Option Addr) (cap b o:Nat) (fv:Nat->Value×Value) (hf:FldAt w d.flds p b o fv)
  (k55: ∀W,Below w.heap.size w W->Calls Tryz.prog 88 #[.agg #[.string ⟨d.kind.toArray⟩,.slice p d.flds.length cap]] W fun e W'=>e=.returned (.int .i64 0)/\Below W.heap.size W W')
  (k56: ∀W,Below w.heap.size w W->Calls Tryz.prog 89 #[.agg #[.string ⟨d.kind.toArray⟩,.slice p d.flds.length cap],.int .i64 k] W fun e W'=>e=.returned (.bool true)/\Below W.heap.size W W'):
  Calls Tryz.prog 36 #[.agg #[.string ⟨d.kind.toArray⟩,.slice p d.flds.length cap],.int .i64 k] w fun e w'=> ∃vs,e=.returned (.tuple #[vs,.int .i64 0])/\Below w.heap.size w w'/\
   w'.ownsRow w.heap.size 9 1 vs (zX (d.flds.getD k zY)) (((List.range (zX (d.flds.getD k zY))).map (textF (d.flds.getD k zY))).map tV):=by
 refine(callsIn_wide (n:=8)).1 ?_;have hn1:1<=8:=by decide
 have hR:DcmR d:=uZ hd h0;have hn12:=hR.fs;have hFm:d.flds.getD k zY∈d.flds:=by rw[Zi,Zf hk];exact Zv hk
 have hFR:=hR.fld hFm;have hsw: ∀w∈(d.flds.getD k zY).words,∀s∈w,s.length<=100:=fun w hw s hs=>ZX (znH hd h0 _ hFm w hw s hs) (by decide)
 obtain⟨rfl,hbw⟩:=hf.ad (by omega);obtain⟨hc0,hc1⟩:=hf.cl k hk;have hrp:=hf.rp k hk;have ho2:=hf.o2 k;have hx:(fv k).1=tV (d.flds.getD k zY).name:=vX (hrp.2 0 _ _ rfl rfl);rw[hx] at hc0 hrp;generalize (fv k).2=vw at hc1 hrp ho2;obtain⟨F,hFe⟩: ∃F,d.flds.getD k zY=F:=⟨_,rfl⟩;rw[hFe] at hFR hsw hc0 hrp h4⊢;obtain⟨m,hm⟩: ∃m,d.flds.length=m:=⟨_,rfl⟩;rw[hm] at hk hn12 k55 k56⊢;have k61: ∀W,Below w.heap.size w W->Calls Tryz.prog 90 #[.agg #[tV F.name,vw]] W fun e W'=>e=.returned (.int .i64 (zX F:Nat))/\Below W.heap.size W W':=fun W hb=>
  (c61 F hFR).intC (hG.later (xM hb)) (Z:=zV W) (fun _ h=>h) (vs:= #[.agg #[tV F.name,vw]]) (qZ (oP hrp hb) (yY _ _))
 have kc: ∀W,Below w.heap.size w W->W.cell? ⟨b,o+k*2,none⟩=some (tV F.name)/\W.cell? ⟨b,o+k*2+1,none⟩=some vw:=fun W hb=>⟨(hb.cell (p:=⟨b,o+k*2,none⟩) hbw).trans hc0,(hb.cell (p:=⟨b,o+k*2+1,none⟩) hbw).trans hc1⟩
 have hB0: ∀a,Below w.heap.size w (w.alloc a):=fun a=>(Below.refl _ w).alloc (Zw _) _
 obtain⟨N,hN⟩: ∃N,zX F=N:=⟨_,rfl⟩;rw[hN] at h4 k61⊢;have A4:Aside (yN (base w)):=hG;have A5:Aside (yG w (zV w) (zP F) [tV F.name,vw]):=hrp;have hki0:(0:Int)<=k:=by omega
 have hkm:(k:Int)<m:=by omega
 have hNle: ¬(N:Int)>4096:=by omega
 clear hd h0 hR hFm hf hx hc0 hc1 hG hrp;refine callsIn_of_wp_marks Tryz.func36 rfl trivial ?_;simp only[Tryz.ntmps36,Yx,Zo,ZF,Zc,Y9,YI,YH,YS,YO,Yd,ZQ];have hB0':=hB0 (.cells #[.string ⟨d.kind.toArray⟩,.slice (some ⟨b,o,none⟩) m cap] 69);have qb:(w.alloc (.cells #[.string ⟨d.kind.toArray⟩,.slice (some ⟨b,o,none⟩) m cap] 69)).heap[w.heap.size]?=some (.cells #[.string ⟨d.kind.toArray⟩,.slice (some ⟨b,o,none⟩) m cap] 69 (0,0)):=World.alloc_heap_new w _;have hsz0:(w.alloc (.cells #[.string ⟨d.kind.toArray⟩,.slice (some ⟨b,o,none⟩) m cap] 69)).heap.size=w.heap.size+1:=World.size_alloc ..
 gi_wp2_with (first
  |(refine⟨trivial,?_⟩;gi_at_call 88;refine(callsIn_wide.2 (k55 _ hB0')).mono ?_;rintro e w1 ⟨rfl,hb1⟩;have q2:=(hb1.block w.heap.size (by omega)).trans qb;obtain⟨c20,c21⟩:=pA q2;have hB1:=hB0'.trans (hb1.mono hB0'.size);have z1:=(Zs.1 q2).1)
  |(refine⟨trivial,?_⟩;gi_at_call 89;refine(callsIn_wide.2 (k56 _ hB1)).mono ?_;rintro e w2 ⟨rfl,hb2⟩;have q3:=(hb2.block w.heap.size z1).trans q2;obtain⟨c30,c31⟩:=pA q3;have hB2:=hB1.trans (hb2.mono hB1.size);have z2:=(Zs.1 q3).1;obtain⟨c32,c33⟩:=kc w2 hB2)
  |(refine⟨trivial,?_⟩;gi_at_call 90;refine(callsIn_wide.2 (k61 _ hB2)).mono ?_;rintro e w3 ⟨rfl,hb3⟩;have q4:=(hb3.block w.heap.size z2).trans q3;have hB3:=hB2.trans (hb3.mono hB2.size);have z3:=(Zs.1 q4).1;have hB4:Below w.heap.size w (w3.alloc (.cells #[.slice none 0 0] 35)):=hB3.alloc hB3.size _;have q5:(w3.alloc (.cells #[.slice none 0 0] 35)).heap[w.heap.size]?=_:=(Below.heap_alloc _ _ _ (by omega)).trans q4;obtain⟨c50,c51⟩:=pA q5;obtain⟨c52,c53⟩:=kc _ hB4)
  |(refine⟨trivial,?_⟩;gi_at_call 91;refine(callsIn_wide.2 (zxG (tV F.name) vw _ rfl ho2)).mono ?_;rintro e w5 ⟨rfl,hw5⟩))
 have hz5:((w3.alloc (.cells #[.slice none 0 0] 35)).alloc (.cells #[tV F.name,vw] 76)).heap.size=w3.heap.size+2:=by rw[World.size_alloc,World.size_alloc]
 have hB5:Below w.heap.size w ((w3.alloc (.cells #[.slice none 0 0] 35)).alloc (.cells #[tV F.name,vw] 76)):=hB4.alloc hB4.size _;have a0:((w3.alloc (.cells #[.slice none 0 0] 35)).alloc (.cells #[tV F.name,vw] 76)).heap[w3.heap.size]?=some (.cells #[.slice none 0 0] 35 (0,0)):=(Below.heap_alloc _ _ _ (by rw[World.size_alloc];omega)).trans (World.alloc_heap_new w3 _);have a1:((w3.alloc (.cells #[.slice none 0 0] 35)).alloc (.cells #[tV F.name,vw] 76)).heap[w3.heap.size+1]?=some (.cells #[tV F.name,vw] 76 (0,0)):=by
  have:=World.alloc_heap_new (w3.alloc (.cells #[.slice none 0 0] 35)) (.cells #[tV F.name,vw] 76)
  rwa [World.size_alloc] at this
 generalize (w3.alloc (.cells #[.slice none 0 0] 35)).alloc (.cells #[tV F.name,vw] 76)=W5 at hz5 hB5 a0 a1⊢;have hz3:w.heap.size<=w3.heap.size:=hB3.size;have hFA: ∀W,KpR W5.heap.size w3.heap.size w3.heap.size w3.heap.size W5 W->FldB F (w3.heap.size+1) vw W:=by
  intro W hK;have h5:=(hK.2 (w3.heap.size+1) (by omega) (by omega) (by omega) (by omega)).trans a1;obtain⟨u0,u1⟩:=pA h5;have hlow: ∀j,j<w.heap.size->W.heap[j]?=w.heap[j]?:=fun j hj=>(hK.2 j (by omega) (by omega) (by omega) (by omega)).trans (hB5.block j hj)
  have hwz:w.heap.size<=W.heap.size:=by have:=hK.1;omega
  have hr:=A5.out;exact⟨u0,u1,⟨hr.1,fun j c v hc hv=>(hr.2 j c v hc hv).mono (fun b hb=>hlow b.2 hb) fun b hb=>ZO hb hwz⟩,zop A4.out hwz hlow⟩
 have hseq:=zxF 7 (by decide) F hFR hsw (w3.heap.size+1) vw W5 (KpR W5.heap.size w3.heap.size w3.heap.size w3.heap.size) (fun _ _ _=>KpR.trans) (fun A B hA hb=>hA.trans (KpR.grown hA.1 (lI hb) (fun r e=>by cases e))) hFA ho2;rw[hN] at hseq;refine zcw (α:=Txt) rfl (by decide) (gf:=156) (lb:= #[.pointer (some ⟨w3.heap.size+1,0,none⟩)]) rfl trivial (enters_of Tryz.func156 (by kernel_rfl) rfl) hseq
  (fun _ _ _=>KpR.trans) (fun A B row hs hg hr=>KpR.grown hs hg hr) (fun _=>rfl) (TxI w W5 W5.heap.size w3.heap.size) (TxI.own (by omega) hB5.size (Zw _)) ?h0
  (fun x a' W'=>a'={tmps:= #[Value.agg #[Value.string ⟨d.kind.toArray⟩,Value.slice (some ⟨b,o,none⟩) m cap],.int .i64 k,.pointer (some ⟨w.heap.size,0,none⟩),undef,.slice none 0 0,.int .i64 0,.int .i64 0,.pointer (some ⟨w3.heap.size,0,none⟩),Value.string ⟨x.toArray⟩,Value.agg #[Value.string ⟨d.kind.toArray⟩,Value.slice (some ⟨b,o,none⟩) m cap],.int .i64 0,.bool false,.int .i64 0,.bool false,undef,.bool false,Value.agg #[Value.string ⟨d.kind.toArray⟩,Value.slice (some ⟨b,o,none⟩) m cap],.int .i64 k,.bool true,.bool false,.bool (decide (4096<(N:Int))),.pointer (some ⟨w.heap.size,1,none⟩),.slice (some ⟨b,o,none⟩) m cap,.int .i64 k,.pointer (some ⟨b,o+k*2,none⟩),.agg #[tV F.name,vw],.int .i64 (N:Int),.bool (decide (4096<(N:Int))),.pointer (some ⟨w.heap.size,1,none⟩),.slice (some ⟨b,o,none⟩) m cap,.int .i64 k,.pointer (some ⟨b,o+k*2,none⟩),.agg #[tV F.name,vw],.func (.func 156) #[] #[.pointer (some ⟨w3.heap.size+1,0,none⟩)],Value.string ⟨x.toArray⟩,undef,undef,undef,undef,undef],defers:=[]}) (fun x a' W l o o' h _ _ _=>h) ?assign ?body ?done
 case h0=>exact⟨⟨.slice none 0 0,a0,World.ownsRow_nil _ _ _ _⟩,⟨Zw _,fun _ _ _ _ _=>rfl⟩,hB5⟩
 case assign=>
  intro l pre x W' K hI hsz' hK;simp only[zdy,tV]
  gi_wp2
  exact hK _ _ rfl hI (KeepsFrom.refl _ _) ⟨Zw _,fun _ _ _ _ _=>rfl⟩ hsz'
 case body=>
  rintro l pre x a' W rfl hI hlen hsz2;obtain⟨⟨vs,hv,hr⟩,hkp,hbl⟩:=hI;have e0:=sR hv;have hown: ∀g,vs.ownBlock=some g->W5.heap.size<=g/\ ∃cur,W.heap[g]?=some (.cells cur 9 (0,0)):=fun g hg=>by
   obtain⟨cur,hc,hb⟩:=aV hr hg;exact⟨hb,cur,hc⟩
  have hrow2: ∀(W2:World),(W.alloc (.cells #[.string ⟨x.toArray⟩] 9)).grownBy W2 vs.ownBlock->(∀j,j<W.heap.size->vs.ownBlock≠some j->W2.heap[j]?=W.heap[j]?)/\W.heap.size<=W2.heap.size:=fun W2 hg2=>by
   have hsz2:=hg2.size;rw[World.size_alloc] at hsz2;refine⟨fun j h1 h3=>?_,by omega⟩;rw[hg2.block j (by rw[World.size_alloc];omega) (fun e=>h3 e.symm)];rw[Below.heap_alloc _ _ _ (by omega)]
  have nlow: ∀j,j<W5.heap.size->vs.ownBlock≠some j:=fun j hj e=>by have:=(hown j e).1;omega
  have hfin:Aside (∀(W2:World) (v':Value),W2.ownsRow W5.heap.size 9 1 v' (pre.length+1) (pre.map tV++[.string ⟨x.toArray⟩])->(W.alloc (.cells #[.string ⟨x.toArray⟩] 9)).grownBy W2 vs.ownBlock->KeepsFrom W5.heap.size W (W2.setCell ⟨w3.heap.size,0,none⟩ v')/\KpR W5.heap.size w3.heap.size w3.heap.size w3.heap.size W (W2.setCell ⟨w3.heap.size,0,none⟩ v')/\TxI w W5 W5.heap.size w3.heap.size (pre++[x]) (W2.setCell ⟨w3.heap.size,0,none⟩ v')):=by
   rintro W2 v' ho' hg2;obtain⟨hold,hsz⟩:=hrow2 W2 hg2;have hv2:=(hold _ (wU hv) (nlow _ (by omega))).trans hv;have oX: ∀j,j≠w3.heap.size->(W2.setCell ⟨w3.heap.size,0,none⟩ v').heap[j]?=W2.heap[j]?:=fun j hj=>zyS _ _ _ _ hj
   have szX:(W2.setCell ⟨w3.heap.size,0,none⟩ v').heap.size=W2.heap.size:=by simp
   have keep: ∀j,j<W.heap.size->j≠w3.heap.size->vs.ownBlock≠some j->(W2.setCell ⟨w3.heap.size,0,none⟩ v').heap[j]?=W.heap[j]?:=fun j h1 h2 h4=>(oX j h2).trans (hold j h1 h4)
   have hbl2:Below w.heap.size w W2:=(hbl.alloc (by omega) _).grown hg2 (by rw[World.size_alloc];omega) (fun k e=>by have:=(hown k e).1;omega);have kpX:KpR W5.heap.size w3.heap.size w3.heap.size w3.heap.size W (W2.setCell ⟨w3.heap.size,0,none⟩ v'):=⟨by omega,fun j h1 h2 h3 h4=>keep j (by omega) h2 (nlow j h1)⟩;refine⟨⟨by omega,fun j o h1 h2 h3=>(keep j (zc7 h2) (by omega) (fun e=>by obtain⟨_,cur,hc⟩:=hown j e;rw[hc] at h2;cases h2;cases h3)).trans h2⟩,kpX,⟨⟨v',tG W2 _ 0 _ 35 (0,0) v' hv2,?_⟩,hkp.trans kpX,hbl2.setCell (p:=⟨w3.heap.size,0,none⟩) (by omega) _⟩⟩;rw[Zq,ZS];exact ownsRow_setCell_below ho' (by show w3.heap.size<_;omega) _
  have hfac:Aside (∀(W2:World),(W.alloc (.cells #[.string ⟨x.toArray⟩] 9)).grownBy W2 vs.ownBlock->W2.heap[w3.heap.size]?=some (.cells #[vs] 35 (0,0))):=by
   intro W2 hg2;obtain⟨hold,hsz⟩:=hrow2 W2 hg2;exact(hold _ (wU hv) (nlow _ (by omega))).trans hv
  obtain⟨i0,hif,hz0,hz1,hz2⟩:=info_parts (show(Tryz.prog.info? 9).map (fun i=>(i.zero,i.size,i.bytes))=some (some (.string ⟨#[]⟩),1,16) by kernel_rfl);have hSl:pre.length<=4096:=by omega
  clear hv hkp hbl hown hrow2 nlow hFA hseq k61 k55 k56 kc
  gi_wp2_with (gi_at_builtin;refine wpListIn_append_own _ rfl _ _ 35 rfl W5.heap.size 9 i0 (.string ⟨#[]⟩) 1 16 Tryz.underlying35 hif hz0 hz1 hz2 rfl (by decide) _ _ _ rfl (hr.alloc _) ⟨W.heap.size,0,none⟩ 1 1 [.string ⟨x.toArray⟩] rfl rfl (cell_one_new _ _ _) (by simp[Value.oneCell']) (by unfold maxLen;omega) (by omega) (by simp;omega) ?_;intro v' W2 hown' hgrow _;obtain⟨g',cap',rfl⟩:=ownsRow_succ hown';have t1:=hfac.out W2 hgrow;have u0:=sR t1;have v0:W2.frozen? ⟨w3.heap.size,0,none⟩=false:=(by simp[World.frozen?,t1]))
  exact hfin.out _ _ hown' hgrow
 case done=>
  rintro D2 xs W3 hD2 hxs hI hK;obtain⟨⟨vs,hv,hr⟩,hkp,hbl⟩:=hI;obtain⟨sa,sk,sc,rfl⟩: ∃a k c,vs=.slice a k c:=by
   rcases hr with⟨_,⟨hv,_⟩|⟨g2,cap,cur,hv,_⟩⟩
   ·exact⟨_,_,_,hv⟩
   ·exact⟨_,_,_,hv⟩
  have hxs':xs=(List.range N).map (textF F):=hxs;have hxl:xs.length=N:=by rw[hxs'];simp
  rw[hxl,hxs'] at hr;have e0:=sR hv;refine(‹∀(a:Act) (w:World),Code.wpIn Fence.wide 8 Tryz.prog _ _ a w->_›) _ _ ?_;clear hv hkp hFA hseq k61 k55 k56 kc hxs hxs'
  gi_wp2
  refine⟨by simp,.inl ⟨_,_,rfl,run_takeDeferred hK,?_⟩⟩;refine⟨_,zxH rfl _ _,_,rfl,hbl.grown (grownBy_putObj' _ D2 _) hbl.size (fun k e=>by cases e;omega),(ownsRow_putObj hr _ hK rfl).mono (by omega)⟩
end Go.Proofs
namespace Go.Abs
open Go.Proofs Go.RowKit Go.Lib Go.Wd Go.Wire Go.Ex
theorem zxI {W:World} {B:Nat} {l:List Txt} {v:Value} (h:W.ownsRow B 9 1 v l.length (l.map tV)):PRep W (fun b=>B<=b.2/\b.2<W.heap.size/\sW W b.2) (zB 1 (zF l)) v:=by
 rcases h with⟨_,⟨hv,h0⟩|⟨g,cap,cur,hv,hg,hh,h5,h6,h7,h8⟩⟩
 ·obtain rfl:=Yg h0
  subst hv;exact .nil 0 none (by simp)
 ·subst hv
  by_cases h0:l=[]
  ·subst h0
   exact .list g 0 cap 0 none [] (fun _ _=>undef) (by simp) h5 h6 (fun h=>absurd rfl h) (by simp) (by simp) (by simp)
  ·have e:zB 1 (zF l)=.list 1 none (zF l):=by
    unfold zB;rw[if_neg];cases l with|nil=>exact absurd rfl h0|cons a L=>simp[zF]
   have hat: ∀(i j:Nat) r c,(zF l)[i]?=some r->r[j]?=some c->j=0/\ ∃s:Txt,l[i]?=some s/\c=.str s:=fun i j r c hr hc=>by
    rw[zF,Zz] at hr;cases hs:l[i]? with
    |none=>rw[hs] at hr;cases hr
    |some s=>
     rw[hs] at hr;cases hr;cases j with
     |zero=>cases hc;exact⟨rfl,s,rfl,rfl⟩
     |succ j=>simp at hc
   have hcell: ∀j s,l[j]?=some s->W.cell? ⟨g,j,none⟩=some (tV s):=by
    intro j s hs;have hj:=(Zu.1 hs).1;have h9:=congrArg (fun x:List Value=>x[j]?) h8;simp only[Yv,List.getElem?_take_of_lt hj,Zz,hs,YA] at h9;rw[Yu] at h9;simp only[World.cell?,hh];simp only[YT,Z1,if_false];exact h9
   rw[e];have key:PRep W (fun b=>B<=b.2/\b.2<W.heap.size/\sW W b.2) (.list 1 none (zF l)) (.slice (some ⟨g,0,none⟩) (zF l).length cap):=by
    refine .list g 0 cap 1 none (zF l) (fun i _=>tV (l.getD i [])) (by simp) (by rw[zS];exact h5) h6 (fun _=>⟨hg,(Zs.1 hh).1,fun c e f h=>by rw[hh] at h;cases h;rfl⟩) (fun r hr=>by obtain⟨s,_,rfl⟩:=ZH.1 hr;rfl) (fun i j r c hr hcj=>?_) fun i j r c hr hcj=>?_
    ·obtain⟨rfl,s,hs,rfl⟩:=hat i j r c hr hcj
     rw[Yv,Yf,ZY,hcell i s hs];simp[List.getD,hs]
    ·obtain⟨rfl,s,hs,rfl⟩:=hat i j r c hr hcj
     have:l.getD i []=s:=by simp[List.getD,hs]
     rw[this];exact .str s
   rw[zS] at key;exact key
def textsF (f:Fld):List Txt:=(List.range (zX f)).map (textF f)
theorem c27 (d:Dcm) (hd:DcmS d) (h0:docE d=0) (k:Nat) (hk:k<d.flds.length) (h4:zX (d.flds.getD k zY)<=4096):Spec Tryz.prog 36 [.agg (zJ d),.int .i64 k] (fun v=>v=.tup [lst 1 (zF (textsF (d.flds.getD k zY))),.int .i64 0]):=by
 refine⟨vN (by kernel_rfl),fun w Z vs hG hz ha=>?_⟩;obtain⟨vl⟩:=vs
 match vl,ha with
 |[],ha=>exact absurd ha.1 (by simp)
 |[_],ha=>exact absurd ha.1 (by simp)
 |_::_::_::_,ha=>exact absurd ha.1 (by simp)
 |[v,v2],ha=>
  have e2:=vK (ha.2 1 _ v2 rfl rfl).2.2;subst e2;obtain⟨us,rfl,hrow⟩:=(ha.2 0 _ v rfl rfl).2;obtain⟨ul⟩:=us
  match ul,hrow with
  |[],hrow=>exact absurd hrow.1 (by simp[zJ])
  |[_],hrow=>exact absurd hrow.1 (by simp[zJ])
  |_::_::_::_,hrow=>exact absurd hrow.1 (by simp[zJ])
  |[u0,u1],hrow=>
   have e0:=vX (hrow.2 0 (.str d.kind) u0 rfl rfl);subst e0;have h1:PRep w Z (zB 2 (d.flds.map zP)) u1:=hrow.2 1 _ u1 rfl rfl;obtain⟨p,cap,b,o,fv,rfl,hf⟩:=zcM hz h1;have hrow':yG w (zV w) (zJ d) [.string ⟨d.kind.toArray⟩,.slice p d.flds.length cap]:=⟨hrow.1,fun j c v hc hv=>oK hz (hrow.2 j c v hc hv)⟩;have g56:=c56 d hd (k:Int);have e1:decide (docE d=0/\0<=(k:Int)/\(k:Int)<d.flds.length)=true:=decide_eq_true ⟨h0,by omega,by omega⟩;rw[e1] at g56;have g55:=c55 d hd;rw[h0] at g55;refine(zpp d hd h0 k hk h4 w hG p cap b o fv hf (fun W hb=>g55.intC (hG.later (xM hb)) (Z:=zV W) (fun _ h=>h) (qZ (oP hrow' hb) (yY _ _)))
    (fun W hb=>g56.boolC (hG.later (xM hb)) (Z:=zV W) (fun _ h=>h) (qZ (oP hrow' hb) (wS (.int .i64 (k:Int)) (yY _ _))))).mono ?_
   rintro e w' ⟨vs,rfl,hb,hr⟩;have hr':w'.ownsRow w.heap.size 9 1 vs (textsF (d.flds.getD k zY)).length ((textsF (d.flds.getD k zY)).map tV):=by
    unfold textsF;rw[Zg,List.length_range];exact hr
   have hp:=zxI hr';exact⟨_,_,rfl,rfl,fun _=>rfl,zcR hG (xM hb) (fun _=>rfl) ⟨_,rfl,rfl,⟨hp.oneCell,hp⟩,⟨rfl,.int _ _⟩,trivial⟩ (fun _=>rfl)⟩
theorem zxJ {w w':World} {Z:Bk->Prop} {e sz:Nat} {rows:List (List C)} {v:Value} {k:IntKind} {m:Int} (h:qK (base w) Z (.k (.newl e sz none rows)) v w'):qK (base w) Z (.tup [.k (.newl e sz none rows),.int k m]) (.tuple #[v,.int k m]) w':=by
 intro n;obtain⟨κ,hi⟩:=h n;refine⟨κ,hi.kept,hi.glob,hi.own,hi.inj,hi.objs,fun s=>?_⟩;by_cases hs:s=0
 ·subst hs
  have h0:=hi.tmps 0;exact⟨#[v,.int k m],rfl,rfl,h0,⟨rfl,.int _ _⟩,trivial⟩
 ·simp only[hs,if_false];trivial
theorem q36 (d:Dcm) (hd:DcmS d) (h0:docE d=0) (k:Nat) (hk:k<d.flds.length) (h4:zX (d.flds.getD k zY)<=4096):Spec Tryz.prog 36 [.agg (zJ d),.int .i64 k] (fun v=>v=.tup [.k (.newl 9 1 none (zF (textsF (d.flds.getD k zY)))),.int .i64 0]):=by
 refine⟨vN (by kernel_rfl),fun w Z vs hG hz ha=>?_⟩;obtain⟨vl⟩:=vs
 match vl,ha with
 |[],ha=>exact absurd ha.1 (by simp)
 |[_],ha=>exact absurd ha.1 (by simp)
 |_::_::_::_,ha=>exact absurd ha.1 (by simp)
 |[v,v2],ha=>
  have e2:=vK (ha.2 1 _ v2 rfl rfl).2.2;subst e2;obtain⟨us,rfl,hrow⟩:=(ha.2 0 _ v rfl rfl).2;obtain⟨ul⟩:=us
  match ul,hrow with
  |[],hrow=>exact absurd hrow.1 (by simp[zJ])
  |[_],hrow=>exact absurd hrow.1 (by simp[zJ])
  |_::_::_::_,hrow=>exact absurd hrow.1 (by simp[zJ])
  |[u0,u1],hrow=>
   have e0:=vX (hrow.2 0 (.str d.kind) u0 rfl rfl);subst e0;have h1:PRep w Z (zB 2 (d.flds.map zP)) u1:=hrow.2 1 _ u1 rfl rfl;obtain⟨p,cap,b,o,fv,rfl,hf⟩:=zcM hz h1;have hrow':yG w (zV w) (zJ d) [.string ⟨d.kind.toArray⟩,.slice p d.flds.length cap]:=⟨hrow.1,fun j c v hc hv=>oK hz (hrow.2 j c v hc hv)⟩;have g56:=c56 d hd (k:Int);have e1:decide (docE d=0/\0<=(k:Int)/\(k:Int)<d.flds.length)=true:=decide_eq_true ⟨h0,by omega,by omega⟩;rw[e1] at g56;have g55:=c55 d hd;rw[h0] at g55;refine(zpp d hd h0 k hk h4 w hG p cap b o fv hf (fun W hb=>g55.intC (hG.later (xM hb)) (Z:=zV W) (fun _ h=>h) (qZ (oP hrow' hb) (yY _ _)))
    (fun W hb=>g56.boolC (hG.later (xM hb)) (Z:=zV W) (fun _ h=>h) (qZ (oP hrow' hb) (wS (.int .i64 (k:Int)) (yY _ _))))).mono ?_
   rintro e w' ⟨vs,rfl,hb,hr⟩;have hr':w'.ownsRow w.heap.size 9 1 vs (textsF (d.flds.getD k zY)).length ((textsF (d.flds.getD k zY)).map tV):=by
    unfold textsF;rw[Zg,List.length_range];exact hr
   have hF:=bB (Z:=Z) hG (xM hb) (bC (nY _) (by rw[bP];exact hr') (by rw[zS]));exact⟨_,_,rfl,rfl,fun _=>rfl,zxJ hF⟩
end Go.Abs
namespace Go.Ex
open Go.Lib Go.Wd Go.Wire Go.Abs
theorem zxL (L:List Dmd) (D:List Dcm):(conflP (viewD L D)).length<=320:=by
 have hT:conflP (viewD L D)=pS (viewD L D).never 64++(sE (viewD L D).doubt 256 (viewD L D).doubt).filter (vT (viewD L D).sets):=rfl;rw[hT,Zq];have h1:=aL (viewD L D).doubt 256 (viewD L D).doubt;have h2:=Yq (vT (viewD L D).sets) (sE (viewD L D).doubt 256 (viewD L D).doubt);have h3:=zcY (viewD L D).never 64;omega
theorem zpr {L:List Dmd} {D:List Dcm} (hA:AskS L D):(flawsE L D).length<=1000/\ ∀x∈flawsE L D,x.dem.length<=8:=by
 unfold flawsE;split
 ·rename_i h0
  have hcn:=qG h0;have hm: ∀s,s∈conflP (viewD L D) ↔ _:=bT hA.l8 (zah hA hcn) (rI L D);have h256:2 ^ L.length<=256:=(Ys (by decide) hA.l8:2 ^ L.length<=2 ^ 8);have hd:=pR _ (ZO (gS (rI L D)) h256);unfold zcL aB;constructor
  ·rw[Zq,Zg,Zg,(vE ltC _).length_eq,Zg]
   have:=zxL L D;have e:(bitsN (viewD L D).doubt).length<=8:=hd;omega
  ·intro x hx
   rcases Yo.1 hx with hx|hx
   ·obtain⟨c,hc,rfl⟩:=ZH.1 hx
    obtain⟨s,hs2,rfl⟩:=ZH.1 ((vE ltC _).mem_iff.1 hc);have:=((hm s).1 hs2).1;show(List.map _ _).length<=8;rw[Zg];exact pR s (by omega)
   ·obtain⟨k,hk,rfl⟩:=ZH.1 hx
    show[(k:Int)].length<=8;simp
 ·simp
end Go.Ex
namespace Go.Abs
open Go.Proofs Go.RowKit Go.Lib Go.Wd Go.Wire Go.Ex
end Go.Abs
namespace Go.Ex
open Go.Lib Go.Wd Go.Wire Go.Abs
theorem zps {α:Type} (d:α) (p:α->Bool): ∀(l:List α) (i:Nat),fstN p l i= -1\/ ∃j,j<l.length/\fstN p l i=((i+j:Nat):Int)/\p (l.getD j d)=true
 |[],_=> .inl rfl
 |a::l,i=>by
  rw[fstN];split
  ·rename_i h;exact .inr ⟨0,by simp,rfl,h⟩
  ·rcases zps d p l (i+1) with h|⟨j,h1,h2,h3⟩
   ·exact .inl h
   ·exact .inr ⟨j+1,by simp;omega,by rw[h2];congr 1;omega,h3⟩
def zaq (l:List Pln) (i k:Nat) (t:Txt):List Pln:=l.set i (fP (l.getD i ⟨[],[],[]⟩) k t)
theorem zar {z:Plc}: ∀{l:List Plc},z∈uL l ↔ z∈l
 |[]=>Xp
 |[a]=>Xp
 |a::b::l=>by
  rw[uL];split
  ·rename_i h;subst h;rw[zar (l:=a::l)];simp
  ·rw[ZJ,zar (l:=b::l),ZJ (a:=z) (b:=a)]
theorem zdz: ∀(l:List Nat) (i x:Nat),(i<l.length->x<=l.getD i 0)->wF (l.set i x)<=wF l
 |[],_,_,_=>Zw _
 |a::l,0,x,h=>Xh (h (by simp)) (Zw _)
 |a::l,i+1,x,h=>Xh (Zw a) (zdz l i x fun hi=>h (by simpa using hi))
theorem zxN (d:Dcm) (k:Nat) (ws:List Txt):vF (vR d k ws).flds=(vF d.flds).set k 1:=by
 show(d.flds.set k _).map zX=_;rw[List.map_set,zdw];rfl
theorem zxO {d:Dcm} (hd:DcmS d) (h:docE d=0) {k:Nat} (ws:List Txt):prD (vR d k ws)<=prD d:=by
 unfold prD;rw[zxN];refine zdz _ k 1 fun hk=>?_
 unfold vF at hk⊢;rw[Zi,Zf hk,List.getElem_map,YZ];rw[Zg] at hk;exact lT hd h _ (Zv hk)
def sU (D:List Dcm) (d k:Nat) (ws:List Txt):List Dcm:=D.set d (vR (D.getD d yM) k ws)
theorem pC {D:List Dcm} {d:Nat} (h:d<D.length):D.getD d yM∈D:=by
 rw[Zi,Zf h];exact Zv h
theorem zdA {l:List Fld} {k:Nat} (h:k<l.length):l.getD k zY∈l:=by
 rw[Zi,Zf h];exact Zv h
theorem zpt {D:List Dcm} (h:GoodD D) {d k:Nat} (hd:d<D.length) (hk:k<(D.getD d yM).flds.length) {ws:List Txt} (h8:ws.length<=8) (hv: ∀w∈ws,yX w=true):GoodD (sU D d k ws):=by
 obtain⟨s1,s2⟩:=h.docs _ (pC hd);obtain⟨t1,t2⟩:=zxq s1 s2 hk h8 hv;refine zxi (by unfold sU;rw[Y6];exact h.ok.len) (fun x hx=>?_) (ZX ?_ h.pr)
 ·rcases List.mem_or_eq_of_mem_set hx with hx|rfl
  ·exact h.docs x hx
  ·exact⟨t1,t2⟩
 ·unfold prL sU
  rw[List.map_set];refine zdz _ d _ fun hd2=>?_
  have e:D.getD d yM=D[d]:=by rw[Zi,Zf hd];rfl
  have e2:(D.map prD).getD d 0=prD D[d]:=by rw[Zi,Zf hd2,List.getElem_map];rfl
  rw[e2,e];rw[e] at s1 s2;exact zxO s1 s2 ws
theorem zxP {D:List Dcm} {d k:Nat} (hd:d<D.length) (hk:k<(D.getD d yM).flds.length) {ws:List Txt} {P:List Pln} (hP:rP (sU D d k ws) P) {t:Txt} (ht:qH ((D.getD d yM).flds.getD k zY) t):
  rP D (zaq P d k t)/\(P.getD d ⟨[],[],[]⟩).texts.getD k []=vH 32 ws:=by
 have hd2:d<(sU D d k ws).length:=by unfold sU;rw[Y6];exact hd
 have h1:=zpk d hP hd2;have e:(sU D d k ws).getD d yM=vR (D.getD d yM) k ws:=by
  unfold sU;rw[Zi,List.getElem?_set_self hd];rfl
 rw[e] at h1;obtain⟨h2,h3⟩:=zxr hk h1 ht;refine⟨?_,h3⟩;have:=zpj d hP h2;unfold sU at this;rw[List.set_set] at this
 rwa [show D.set d (D.getD d yM)=D by rw[Zi,Zf hd];exact List.set_getElem_self hd] at this
theorem zdB {B:Nat}: ∀ws:List Txt,(∀w∈ws,w.length<=B)->(vH 32 ws).length<=ws.length*(B+1)
 |[],_=>by simp[vH]
 |[w],h=>by have:=h w (by simp);simp[vH];omega
 |w::v::r,h=>by
  have h1:=h w (by simp);have h2:=zdB (v::r) fun x hx=>h x (Zy _ hx)
  rw[vH,Zq,Zo,Zo,YL];omega
theorem zpu {α:Type} {l:List α} {k:Nat} {t s d:α} (hs:s∈l):s∈l.set k t\/s=l.getD k d:=by
 obtain⟨i,hi,rfl⟩:=YN hs;by_cases e:k=i
 ·subst e;right;rw[Zi,Zf hi];rfl
 ·left
  have:=List.getElem_set_ne e (a:=t) (by rw[Y6];exact hi:i<(l.set k t).length);rw[<-this];exact Zv _
theorem zxQ {L:List Dmd} {D:List Dcm} (hA:AskS L D) (h:GoodD D) {d k:Nat} (hd:d<D.length) (hk:k<(D.getD d yM).flds.length) {ws:List Txt} (h8:ws.length<=8) (hv: ∀w∈ws,yX w=true):AskS L (sU D d k ws):=by
 have hN:=zpt h hd hk h8 hv;refine⟨hA.l8,hA.dm,hN.s,fun _ i _=>?_⟩;have hP:=zdv hN i;generalize rdsD (sU D d k ws) i=P at hP;obtain⟨g1,g2⟩:=h.docs _ (pC hd);have hfk:(D.getD d yM).flds.getD k zY∈(D.getD d yM).flds:=by
  exact zdA hk
 have ht:qH ((D.getD d yM).flds.getD k zY) (textF ((D.getD d yM).flds.getD k zY) 0):=⟨0,lT g1 g2 _ hfk,rfl⟩;obtain⟨q1,q2⟩:=zxP hd hk hP ht;generalize textF ((D.getD d yM).flds.getD k zY) 0=t at q1 ht;obtain⟨j,hj,e⟩:=zxj h q1;have hS:=hA.rd h.c j hj;rw[e] at hS;have hl:(zaq P d k t).length=P.length:=by unfold zaq;rw[Y6]
 refine⟨by rw[<-hl];exact hS.1,fun p hp=>?_⟩;rcases zpu (k:=d) (t:=fP (P.getD d ⟨[],[],[]⟩) k t) (d:=⟨[],[],[]⟩) hp with hp|rfl
 ·exact hS.2 p hp
 ·have hdP:d<P.length:=by rw[zpl hP];unfold sU;rw[Y6];exact hd
  have hm:=hS.2 (fP (P.getD d ⟨[],[],[]⟩) k t) (by unfold zaq;exact List.mem_set hdP _);refine⟨hm.kd,hm.ns,by have:=hm.ts;unfold fP at this;rw[Y6] at this;exact this,fun s hs=>?_⟩;rcases zpu (k:=k) (t:=t) (d:=[]) hs with hs|rfl
  ·exact hm.tx s hs
  ·rw[q2]
   have:=zdB ws fun w hw=>zcP (hv w hw)
   have h3:ws.length*(20+1)<=8*21:=Xh h8 (Zw _);omega
def tH (D:List Dcm) (q:Plc):Fld:=(D.getD q.doc.toNat yM).flds.getD q.fld.toNat zY
def uO (D:List Dcm) (p:Plc):List Plc->List Txt
 |[]=>[]
 |q::l=>(if q=p then[] else textsF (tH D q))++uO D p l
def propP (D:List Dcm) (looks:List Plc) (m:Dmd) (p:Plc):List Txt:=
 if m.op=1 then[m.txt] else if m.op=2\/m.op=4 then[itoa m.lo,itoa m.hi] else uO D p looks
theorem zpv (D:List Dcm) (p:Plc): ∀a b:List Plc,uO D p (a++b)=uO D p a++uO D p b
 |[],_=>rfl
 |q::a,b=>by rw[ZQ,uO,uO,zpv D p a b,Z3]
end Go.Ex
namespace Go.Abs
open Go.Sort Go.Proofs Go.Shelf Go.RowKit Go.Lib Go.Wd Go.Wire Go.Ex
theorem zas {l:List Dcm} {i:Nat} (h:i<l.length):(l.map zJ).getD i []=zJ (l.getD i yM):=by simp[h]
theorem pD {D:List Dcm} {p:Plc}:isP D p=true ↔ 0<=p.doc/\p.doc<D.length/\0<=p.fld/\p.fld<(D.getD p.doc.toNat yM).flds.length:=by unfold isP;rw[decide_eq_true_eq]
theorem jV {D:List Dcm} (h:GoodD D) {q:Plc} (hq:isP D q=true):zX (tH D q)<=4096:=by
 obtain⟨h1,h2,h3,h4⟩:=pD.1 hq;have hd:=pC (D:=D) (d:=q.doc.toNat) (by omega);have hp:=h.pr;have key: ∀(l:List Nat) (x:Nat),x∈l->(∀y∈l,0<y)->x<=wF l:=by
  intro l
  induction l with
  |nil=>intro x hx;cases hx
  |cons a l ih=>
   intro x hx hpos;have ha:=hpos a (by simp);have hl:0<wF l:=lJ fun s hs=>hpos s (Zy _ hs)
   rw[wF];rcases ZJ.1 hx with rfl|hx
   ·exact XK _ hl
   ·exact ZX (ih x hx fun y hy=>hpos y (Zy _ hy)) (Nat.le_mul_of_pos_left _ ha)
 have hdoc:=h.docs _ hd;have hf:=zdA (l:=(D.getD q.doc.toNat yM).flds) (k:=q.fld.toNat) (by omega);have e1:=key (vF (D.getD q.doc.toNat yM).flds) (zX (tH D q)) (ZH.2 ⟨_,hf,rfl⟩) (fO (lT hdoc.1 hdoc.2));have e2:=key (D.map prD) (prD (D.getD q.doc.toNat yM)) (ZH.2 ⟨_,hd,rfl⟩) (fun y hy=>by
  obtain⟨x,hx,rfl⟩:=ZH.1 hy
  exact zam (h.docs x hx).1 (h.docs x hx).2)
 have e3:prD (D.getD q.doc.toNat yM)=wF (vF (D.getD q.doc.toNat yM).flds):=rfl;have e4:prL D=wF (D.map prD):=rfl;omega
theorem zat (f:Fld):(textsF f).length=zX f:=by simp[textsF]
theorem zdC {D:List Dcm} (h:GoodD D) (p:Plc): ∀l:List Plc,(∀q∈l,isP D q=true)->(uO D p l).length<=l.length*4096
 |[],_=>by simp[uO]
 |q::l,hq=>by
  have h1:=zdC h p l fun x hx=>hq x (Zy _ hx)
  have h2:=jV h (hq q (by simp));rw[uO,Zq,Zo,YL];split
  ·simp;omega
  ·rw[zat];omega
theorem q27 {D:List Dcm} (h:GoodD D) {q:Plc} (hq:isP D q=true):Spec Tryz.prog 36 [.agg (zJ (D.getD q.doc.toNat yM)),.int .i64 q.fld] (fun v=>v=.tup [lst 1 (zF (textsF (tH D q))),.int .i64 0]):=by
 obtain⟨h1,h2,h3,h4⟩:=pD.1 hq;have hd:=pC (D:=D) (d:=q.doc.toNat) (by omega);have g:=c27 (D.getD q.doc.toNat yM) (h.docs _ hd).1 (h.docs _ hd).2 q.fld.toNat (by omega) (jV h hq);rw[show((q.fld.toNat:Nat):Int)=q.fld by omega] at g;exact g
theorem q60 (m:Dmd) (D:List Dcm) (looks:List Plc) (p:Plc) (h:GoodD D) (hl:looks.length<=1000) (hq: ∀q∈looks,isP D q=true) (hm:DmdI m):Spec Tryz.prog 60 [.agg (zU m),lst 2 (D.map zJ),lst 2 (pls looks),.agg (wG p)] (fun v=>v=.tup [lst 1 (zF (propP D looks m p)),.int .i64 0]):=by
 refine Spec.of_awlP hf60 okf60 (by simp) fun S hS=>?_
 have g1:=aO m.lo hm.l1 hm.l2;have g2:=aO m.hi hm.h1 hm.h2;unfold propP at hS;unfold zU wG;by_cases h1:m.op=1
 ·rw[if_pos h1] at hS
  simp only[h1,Qs,gE,forall_eq,bne_iff_ne,ne_eq,BEq.rfl,Ze,ZJ,ZK,Zc,Zn,Zl,Z5,Za,Zt,zcd];exact hS _ rfl
 ·rw[if_neg h1] at hS
  have b1:(m.op==1)=false:=by simpa using h1
  by_cases h2:m.op=2\/m.op=4
  ·rw[if_pos h2] at hS
   generalize itoa m.lo=x at g1 hS;generalize itoa m.hi=y at g2 hS;rcases h2 with h2|h2<;>
   ·simp only[h2,Qs,bne_iff_ne,ne_eq,BEq.rfl,Zc,Zn,Zl,Za,Int.reduceBEq,zcd]
    refine sP g1 ?_ (ha:=by rfl);simp only[Qs,Zc,Za];refine sP g2 ?_ (ha:=by rfl);simp only[Qs,zgz,zh5,gE,kZ,zb0,forall_eq_or_imp,forall_eq,Ze,ZJ,Zc,Z5,Za,Zt];exact hS _ rfl
  ·rw[if_neg h2] at hS
   have b2:(m.op==2)=false:=by simp;omega
   have b4:(m.op==4)=false:=by simp;omega
   simp only[b1,b2,b4,tM,Qs,bne_iff_ne,ne_eq,Zc,Zn,Zl,Za,zcd];refine zR (fun x:Nat×Option Bool=>[(1,lst 2 (D.map zJ)),(7,.k (.c (.ro [.int .i64 p.doc,.int .i64 p.fld] 0))),(10,.k (.own 10)),(32,lst 2 (pls looks)),(33,.int .i64 looks.length),(34,.int .i64 x.1)]) (fun x=>[(10,.arr 9 1 x.2 (zF (uO D p (looks.take x.1))))])
    (fun x=>x.1<=looks.length) (fun x=>looks.length-x.1) (0,some true) rfl rfl (ZC _) ?_
   rintro⟨i,nl⟩ hi;simp only[] at hi;by_cases hlt:i<looks.length
   ·have c1:(i:Int)<looks.length:=by omega
    have c4:IntKind.i64.wrap ((i:Int)+1)=(i:Int)+1:=wrap_in (by omega) (by omega);have hat:=zds hlt;have hqi:=hq _ (Zv hlt);have hsn:uO D p (looks.take (i+1))=uO D p (looks.take i)++if looks[i]=p then[] else textsF (tH D looks[i]):=by
     rw[ZD hlt,zpv,uO,uO,Ze]
    have hln:=zdC h p (looks.take i) fun q hq'=>hq q (Xf hq')
    rw[Yl,YV (by omega)] at hln;generalize looks[i]=q at hat hqi hsn;have hb:=zoZ q p;by_cases he:q=p
    ·rw[if_pos he,Ze] at hsn
     rw[decide_eq_true he] at hb;simp only[c1,c4,hat,hb,tM,Qs,zgk,cC,cD,cE,cF,cG,bne_iff_ne,ne_eq,Ze,Zc,Zn,Za,YG];exact Next.intro (i+1,nl) rfl (by rw[hsn];rfl) (by simp only;omega) (by simp only;omega)
    ·rw[if_neg he] at hsn
     rw[decide_eq_false he] at hb;obtain⟨h5,h6,h7,h8⟩:=pD.1 hqi;have g:=q27 h hqi;have hgd:=zas (l:=D) (i:=q.doc.toNat) (by omega);have hts:=zat (tH D q);have hsz:=jV h hqi;generalize textsF (tH D q)=T at g hsn hts;generalize D.getD q.doc.toNat yM=dd at g hgd;have hap:zF (uO D p (looks.take i))++zF T=zF (uO D p (looks.take (i+1))):=by rw[hsn];simp[zF]
     simp only[c1,c4,hat,hb,hgd,h5,h6,tM,zL,Qs,zgk,cC,cD,cE,cF,cG,bne_iff_ne,ne_eq,Ze,Zc,Zn,Zl,Za,Zg,YG];refine jE g ?_ (ha:=by simp only[Zk,Zp,zC,V.norm,yK,C.norm]<;>rfl);simp only[zS,hap,c4,V.fz,V.fzL,K.fz,Qs,iT,nT,Za,gM,Xa];exact⟨by omega,by omega,Next.intro (i+1,nlApp nl (zF T)) rfl rfl (by simp only;omega) (by simp only;omega)⟩
   ·have c1: ¬(i:Int)<looks.length:=by omega
    obtain rfl:i=looks.length:=by omega
    rw[Yk];simp only[c1,Qs,Ze,ZK,Za,Zt];refine hS _ ?_;simp only[V.fz,V.fzL,V.nrm,V.nrmL,xR,uK (xR _)];rfl
end Go.Abs
namespace Go.Ex
open Go.Lib Go.Wd Go.Wire Go.Abs
def vV (t:Txt):Bool:=decide ((splitW t).length<=8)&&(splitW t).all yX
theorem zpw {D:List Dcm} (h:GoodD D) {p:Plc} (hp:isP D p=true) (t:Txt):setE (D.getD p.doc.toNat yM) p.fld t=if vV t=true then 0 else 2:=by
 obtain⟨h1,h2,h3,h4⟩:=pD.1 hp;have hd:=pC (D:=D) (d:=p.doc.toNat) (by omega);have h0:=(h.docs _ hd).2;unfold setE vV;rw[if_neg (fun q=>q h0),if_pos ⟨h3,h4⟩];by_cases q:(splitW t).length<=8<;>cases hv:(splitW t).all yX
 ·rw[if_pos (.inr rfl)];simp
 ·rw[if_neg (by simp;omega)];simp[q]
 ·rw[if_pos (.inr rfl)];simp
 ·rw[if_pos (.inl (by omega))];simp[q]
end Go.Ex
namespace Go.Abs
open Go.Sort Go.Proofs Go.Shelf Go.RowKit Go.Lib Go.Wd Go.Wire Go.Ex
theorem q62 {D:List Dcm} (h:GoodD D) {p:Plc} (hp:isP D p=true) (s:Txt) (hs:s.length<4294967281):Spec Tryz.prog 62 [.str s,.k (.c (.ro [zB 2 (D.map zJ)] 0)),.k (.c (.ro [.int .i64 p.doc,.int .i64 p.fld] 0))] (fun v=>v=.bool (!vV s)):=by
 refine Spec.of_awlS hf62 okf62 (by simp) fun S hS=>?_
 obtain⟨h1,h2,h3,h4⟩:=pD.1 hp;have hd:=pC (D:=D) (d:=p.doc.toNat) (by omega);have g:=c26 (D.getD p.doc.toNat yM) (h.docs _ hd).1 p.fld s hs;rw[zpw h hp s] at g;have hgd:=zas (l:=D) (i:=p.doc.toNat) (by omega);generalize setD (D.getD p.doc.toNat yM) p.fld s=d2 at g;generalize D.getD p.doc.toNat yM=dd at g hgd;simp only[h1,h2,hgd,zL,Qs,kT,zgy,zbT,Zc,Zl,Za,Zg,Ψ62,vv f62r3o0.eq_1,vv f62r3o1.eq_1,vv f62r3o2.eq_1,vv f62r3o3.eq_1,vv f62r3o4.eq_1,vv f62r3o5.eq_1,vv f62r3o6.eq_1,vv f62r3o7.eq_1,vv f62r3o8.eq_1,vv f62r3o9.eq_1,vv f62r3o10.eq_1,vv f62r3o11.eq_1,vv f62r3o12.eq_1,vv f62r3o13.eq_1,vv f62r3o14.eq_1,zth,Ψ62];refine jE g ?_ (ha:=by simp only[Zk,Zp,zC,V.norm,yK,C.norm]<;>rfl);cases hf:vV s<;>rw[hf] at hS<;>simp only[V.fz,V.fzL,K.fz,Z1,zJ,Qs,zbO,zbP,kT,zbQ,iS,iT,zbU,zbV,zbW,zbX,Ze,Zc,Za,Xa,Ψ62]
 all_goals exact hS
theorem zxR {g:Nat} {cs:List C} {p:Txt->Bool} (hc:qF cs) (l:List Txt) (hg: ∀x∈l,Spec Tryz.prog g (.str x::cs.map fun c=> .k (.c c)) (fun v=>v=.bool (p x))) (hl:l.length<=1000000000):Spec Tryz.prog 120 [lst 1 (zF l),.k (.c (.fn g cs))] (fun v=>v=.int .i64 (fstN p l 0)):=by
 refine Spec.of_awlS hf120 okf120 (by simp) fun S hS=>?_
 simp only[zS,Qs,ZN,Zc,Za,zb9];refine zR (fun i:Nat=>[(0,lst 1 (zF l)),(1,.k (.c (.fn g cs))),(7,.int .i64 l.length),(8,.int .i64 i)]) (fun _=>[]) (fun i=>i<=l.length/\fstN p (l.drop i) i=fstN p l 0) (fun i=>l.length-i) 0 rfl rfl ⟨ZC _,by simp⟩ ?_;rintro i ⟨hi,hD⟩;by_cases hlt:i<l.length
 ·have c1:(i:Int)<l.length:=by omega
  have c4:IntKind.i64.wrap ((i:Int)+1)=(i:Int)+1:=wrap_in (by omega) (by omega);have hat:=uI hlt;have gi:=hg l[i] (Zv hlt);rw[qA hlt] at hD;generalize l[i]=y at hat hD gi;simp only[c1,zS,hat,Qs,ZN,Za];refine rC gi ?_ (ha:=by rw[hc];rfl);cases hp:p y with
  |true=>
   rw[if_pos hp] at hD;rw[<-hD] at hS;simp only[Qs,ZN,Za];exact hS
  |false=>
   rw[if_neg (by rw[hp];simp)] at hD;simp only[c4,Qs,ZN,Za];exact Next.intro (i+1) rfl rfl ⟨by omega,hD⟩ (by omega)
 ·have c1: ¬(i:Int)<l.length:=by omega
  rw[ZB (by omega)] at hD;rw[<-hD] at hS;simp only[c1,Qs,ZN,Za];exact hS
end Go.Abs
namespace Go.Ex
open Go.Abs
theorem zpx {α:Type} [Inhabited α] {p:α->Bool} {d:α}: ∀{l:List α} {i k:Nat},fstN p l i=((i+k:Nat):Int)-> ∀j,j<k->p (l.getD j d)=false
 |[],i,k,h,_,_=>by unfold fstN at h;omega
 |a::l,i,k,h,j,hj=>by
  unfold fstN at h;cases q:p a with
  |true=>rw[if_pos q] at h;omega
  |false=>
   rw[if_neg (by rw[q];simp)] at h;cases j with
   |zero=>exact q
   |succ j=>exact zpx (k:=k-1) (i:=i+1) (by rw[h];omega) j (by omega)
end Go.Ex
namespace Go.Proofs
open Go.Sort Go.Abs Go.Shelf Go.Lib Go.RowKit Go.Wire Go.Wd Go.Ex
theorem zxS (b cap:Nat) (e:TypeId) (sz:Nat) (l:List Txt) (pr:Txt->Bool) (u0 u1:Value) (W:World) (Z:Bk->Prop) (hI0:RowIn C.str W W Z b e sz l.toArray) (hsz:l.length<=1000000000) (hcap:l.length<=cap)
  (hi:Calls Tryz.prog 120 #[.slice (some ⟨b,0,none⟩) l.length cap,.func (.func 62) #[] #[u0,u1]] W fun ex w'=>ex=.returned (.int .i64 (fstN pr l 0))/\Below W.heap.size W w')
  (hq: ∀x∈l,∀(W':World),W.grownBy W' (some b)->Calls Tryz.prog 62 #[.string ⟨x.toArray⟩,u0,u1] W' fun ex w'=>ex=.returned (.bool (pr x))/\Below W'.heap.size W' w'):
  Calls Tryz.prog 61 #[.slice (some ⟨b,0,none⟩) l.length cap,.func (.func 62) #[] #[u0,u1]] W fun ex w'=>ex=.returned (.slice (some ⟨b,0,none⟩) (l.filter fun x=> !pr x).length cap)/\ ∃(dk:Array Txt) (wr:World),RowIn C.str W wr Z b e sz dk/\dk.size=l.length/\(∀i (hi:i<(l.filter fun x=> !pr x).length),dk[i]! =(l.filter fun x=> !pr x)[i])/\W.grownBy w' (some b)/\ ∀cs,wr.heap[b]?=some (.cells cs e (0,0))-> ∃cs':Array Value,w'.heap[b]?=some (.cells cs' e (0,0))/\cs'.size=cs.size/\ ∀i,i<(l.filter fun x=> !pr x).length->cs'[i]?=cs[i]?:=by
 have eg: ∀args w,(callFunc 62 args).run Tryz.prog w=.ok (.enter 62 args) w:=enters_of Tryz.func62 (by kernel_rfl) rfl;have HI:Aside (RowIn C.str W W Z b e sz l.toArray):=hI0;have HQ:Aside (∀x∈l,∀(W':World),W.grownBy W' (some b)->Calls Tryz.prog 62 #[.string ⟨x.toArray⟩,u0,u1] W' fun ex w'=>ex=.returned (.bool (pr x))/\Below W'.heap.size W' w'):=hq;clear hI0 hq;have hone: ∀x:Txt,(Value.string ⟨x.toArray⟩).oneCell'=true:=fun _=>rfl
 rcases zps [] pr l 0 with hf|⟨k,hk,hf,hpk⟩
 ·have hnone: ∀x∈l,pr x=false:=by
   have:=(rE (p:=pr) l 0);rw[hf] at this;intro x hx;cases q:pr x with
   |false=>rfl
   |true=>exact absurd (this.2 (Yt.2 ⟨x,hx,q⟩)) (by decide)
  have ef:(l.filter fun x=> !pr x)=l:=List.filter_eq_self.2 fun x hx=>by rw[hnone x hx];rfl
  rw[hf] at hi;rw[ef]
  go_enter Tryz.func61,Tryz.ntmps61
  go_wp2_with (go_at_call 120;refine hi.mono ?_;rintro ex w1 ⟨rfl,hb1⟩)
  go_ret
  have hR:=HI.out.later hb1;exact⟨rfl,l.toArray,w1,hR,by simp,fun i hi=>by simp[hi],hR.gb,fun cs h=>⟨cs,h,rfl,fun _ _=>rfl⟩⟩
 ·rw[hf,ZY] at hi
  have hstart:(l.take (k+1)).filter (fun x=> !pr x)=l.take k:=by
   have hlow: ∀j,j<k->pr (l.getD j [])=false:=zpx hf;rw[ZD hk,Xw];have e1:(l.take k).filter (fun x=> !pr x)=l.take k:=List.filter_eq_self.2 fun x hx=>by
    obtain⟨j,hj,rfl⟩:=YN hx;have hj':j<k:=by rw[Yl] at hj;omega
    have:=hlow j hj';rw[Zi,Zf (by omega)] at this;rw[List.getElem_take];simpa using this
   have e2:pr l[k]=true:=by rw[Zi,Zf hk] at hpk;exact hpk
   rw[e1];simp[e2]
  have HS:Aside ((l.take (k+1)).filter (fun x=> !pr x)=l.take k):=hstart;clear hstart;obtain⟨d,hd⟩: ∃d,l.toArray=d:=⟨_,rfl⟩;have hds:d.size=l.length:=by rw[<-hd];simp
  go_enter Tryz.func61,Tryz.ntmps61
  go_wp2_with (go_at_call 120;refine hi.mono ?_;rintro ex w1 ⟨rfl,hb1⟩)
  have hR1:=HI.out.later hb1;clear hb1 hi
  go_loopg [5,6] l.length (fun g s5 s6 wr=> ∃(ii j:Nat) (dk:Array Txt),s5=.int .i64 ii/\s6=.int .i64 j/\ii<j/\j<=l.length/\l.length-j<=g/\RowIn C.str W wr Z b e sz dk/\dk.size=l.length/\(l.take j).filter (fun x=> !pr x)=dk.toList.take ii/\ ∀m,j<=m->dk[m]! =d[m]!)
  case atStart=>exact⟨k,k+1,d,rfl,by go_num,by omega,by omega,by omega,hd▸hR1,hds,by rw[HS.out,<-hd],fun _ _=>rfl⟩
  case round=>
   obtain⟨ii,j,dk,rfl,rfl,hij,hj,hg,hR,hdk,hL,hH⟩:=hrel;by_cases hlt:j<l.length
   ·obtain⟨vx,cm,fm,pm⟩:=hR.cell (i:=j) (by omega)
    obtain⟨vo,ck,fk,_⟩:=hR.cell (i:=ii) (by omega);have hx:d[j]! =l[j]:=by rw[getElem!_pos d j (by omega)];simp[<-hd]
    rw[hH j (Zw _),hx] at pm;obtain rfl:=vX pm;have hcall: ∀W',Below wr.heap.size wr W'->Calls Tryz.prog 62 #[.string ⟨l[j].toArray⟩,u0,u1] W' fun ex w'=>ex=.returned (.bool (pr l[j]))/\Below W'.heap.size W' w':=fun W' hB=>HQ.out _ (Zv hlt) W' (zaf hR.gb hB)
    have J:Aside (RowIn C.str W wr Z b e sz dk):=hR;have LL:Aside ((l.take (j+1)).filter (fun x=> !pr x)=dk.toList.take ii++if pr l[j]=true then[] else[l[j]]):=show _=_ by
     rw[ZD hlt,Xw,hL];cases q:pr l[j]<;>simp[q]
    have HH:Aside (∀m,j<=m->dk[m]! =d[m]!):=hH;clear hR hL hH pm;have hcell: ∀w2:World,Below wr.heap.size wr w2->w2.cell? ⟨b,ii,none⟩=some vo/\w2.frozen? ⟨b,ii,none⟩=false:=fun w2 hB=>⟨(hB.cell (p:=⟨b,ii,none⟩) J.out.lt).trans ck,(hB.frozen (p:=⟨b,ii,none⟩) J.out.lt).trans fk⟩
    generalize hy:l[j]=y at hcall LL cm;cases hp:pr y with
    |true=>
     rw[hp] at hcall LL
     go_wp2_with (go_at_call 62;refine(hcall _ (Below.refl _ _)).mono ?_;rintro ex w2 ⟨rfl,hb2⟩)
     go_roundg (l.length-(j+1))
     case measure=>omega
     case rel=>exact⟨ii,j+1,dk,rfl,by go_num,by omega,by omega,Zw _,J.out.later hb2,hdk,by rw[LL.out];simp,fun m hm=>HH.out m (by omega)⟩
    |false=>
     rw[hp] at hcall LL
     go_wp2_with (go_at_call 62;refine(hcall _ (Below.refl _ _)).mono ?_;rintro ex w2 ⟨rfl,hb2⟩;obtain⟨ck2,fk2⟩:=hcell _ hb2)
     go_roundg (l.length-(j+1))
     case measure=>omega
     case rel=>
      refine⟨ii+1,j+1,dk.setIfInBounds ii y,by go_num,by go_num,by omega,by omega,Zw _,(J.out.later hb2).set (by omega) (.str y),by simpa using hdk,?_,fun m hm=>?_⟩
      ·rw[LL.out]
       simp only[Z1,if_false];have hii:ii<dk.toList.length:=by simp;omega
       rw[Array.toList_setIfInBounds,ZD (by simpa using hii)];simp[List.take_set_of_le]
      ·rw[getElem!_def,getElem!_def,Yi,if_neg (by omega),<-getElem!_def,<-getElem!_def]
       exact HH.out m (by omega)
   ·have hend:j=l.length:=by omega
    subst hend;rw[Yk] at hL;have hlen:(l.filter fun x=> !pr x).length=ii:=by rw[hL];simp;omega
    have hcl: ∀ty,(Builtin.clear_ #[35] ty #[.slice (some ⟨b,ii,none⟩) (l.length-ii) (cap-ii)]).run Tryz.prog wr=.ok (.tuple #[]) (wr.setCells b ii (List.replicate (l.length-ii) (.string ⟨#[]⟩))):=
     fun ty=>Lib.run_clear_slice wr 35 9 ty _ Tryz.underlying35 (fun w=>by simp[go_sem]) rfl rfl b ii _ _ (by omega) (fun q hq=>by
      obtain⟨v,h,_,_⟩:=hR.cell (i:=ii+q) (by omega)
      rw[h];rfl) (fun q hq=>by
      obtain⟨v,_,h,_⟩:=hR.cell (i:=ii+q) (by omega)
      exact h)
    have J:Aside (RowIn C.str W wr Z b e sz dk):=hR;have LL:Aside ((l.filter fun x=> !pr x)=dk.toList.take ii):=hL;have LN:Aside ((l.filter fun x=> !pr x).length=ii):=hlen;clear hR hL hlen
    go_wp2
    go_ret
    have hlen:=LN.out;refine⟨by rw[hlen];rfl,dk,wr,J.out,hdk,fun i hi=>?_,zdm _ _ J.out.gb,fun cs h=>?_⟩
    ·have e:=LL.out
     have hi':i<ii:=by omega
     rw[getElem!_pos dk i (by omega)];have e2:(l.filter fun x=> !pr x)[i]?=(dk.toList.take ii)[i]?:=by rw[e]
     rw[Zf hi,Z6,if_pos hi',Yu,Ya (by omega)] at e2;exact(Yr e2).symm
    ·obtain⟨cs',h1,h2,h3⟩:=zdn (List.replicate (l.length-ii) (Value.string ⟨#[]⟩)) ii h
     exact⟨cs',h1,h2,fun i hi=>h3 i (by omega)⟩
end Go.Proofs
namespace Go.Ex
open Go.Lib Go.Wd Go.Wire Go.Abs
theorem zdD {d:Dcm} (hd:DcmS d) (h:docE d=0) {f:Fld} (hf:f∈d.flds) {t:Txt} (ht:qH f t):t.length<=168:=by
 obtain⟨h1,h2⟩:=zxn hd h hf ht;have h3:=zdB (B:=20) (splitW t) fun w hw=>by
  have:=ZA.1 h2 w hw;unfold yX at this;simp only[Zr,decide_eq_true_eq] at this;exact this.2.1
 rw[zxl] at h3;omega
theorem zdE {f:Fld} {t:Txt}:t∈textsF f ↔ qH f t:=by
 unfold textsF qH;rw[ZH];exact⟨fun⟨i,h1,h2⟩=>⟨i,Z2.1 h1,h2.symm⟩,fun⟨i,h1,h2⟩=>⟨i,Z2.2 h1,h2.symm⟩⟩
theorem zdF {D:List Dcm} {p:Plc} (hp:isP D p=true):D.getD p.doc.toNat yM∈D/\tH D p∈(D.getD p.doc.toNat yM).flds:=by
 obtain⟨h1,h2,h3,h4⟩:=pD.1 hp;exact⟨pC (by omega),zdA (by omega)⟩
theorem zpy (m:Dmd) {D:List Dcm}: ∀{P:List Pln} {Q:List Dcm} (j:Nat),rP Q P->(∀i,i<Q.length->D.getD (j+i) yM=Q.getD i yM)->j+Q.length<=D.length-> ∀q∈uT m P j,isP D q=true
 |[],[],_,_,_,_,q,hq=>by simp[uT] at hq
 |p::P,d::Q,j,h,hD,hl,q,hq=>by
  rw[uT,Yo] at hq;rw[Zo] at hl;rcases hq with hq|hq
  ·unfold oN at hq
   obtain⟨k,hk,rfl⟩:=ZH.1 hq;have hk:=Z2.1 (Yh.1 hk).1;have h0:=hD 0 (by simp);rw[Yf] at h0;have hn:p.names.length=d.flds.length:=by rw[h.1.ns,Zg]
   refine pD.2 ⟨by simp,by simp only[];omega,by simp,?_⟩;simp only[Ym];rw[h0];show(k:Int)<((d::Q).getD 0 yM).flds.length;simp only[List.getD_cons_zero];omega
  ·refine zpy m (j+1) h.2 (fun i hi=>?_) (by omega) q hq
   have:=hD (i+1) (by simp;omega);rw[show j+1+i=j+(i+1) by omega,this,List.getD_cons_succ]
 |[],_::_,_,h,_,_,_,_=>h.elim
 |_::_,[],_,h,_,_,_,_=>h.elim
theorem zau (m:Dmd) {D:List Dcm} (h:GoodD D): ∀q∈looksP m (rdsD D 0),isP D q=true:=by
 intro q hq;unfold looksP at hq;split at hq
 ·cases hq
 ·exact zpy m 0 (zdv h 0) (fun i _=>by rw[ZY]) (by omega) q hq
theorem zpz (m:Dmd): ∀{P:List Pln} {Q:List Dcm} (j:Nat),rP Q P->(∀d∈Q,d.flds.length<=12)->(uT m P j).length<=Q.length*12
 |[],[],_,_,_=>by simp[uT]
 |p::P,d::Q,j,h,h12=>by
  have h1:=zpz m (j+1) h.2 fun x hx=>h12 x (Zy _ hx)
  have hn:p.names.length=d.flds.length:=by rw[h.1.ns,Zg]
  have h2:=h12 d (by simp);have h3:(oN m p j).length<=p.names.length:=by
   unfold oN;rw[Zg];exact ZX (Yq _ _) (by simp)
  rw[uT,Zq,Zo,YL];omega
 |[],_::_,_,h,_=>h.elim
 |_::_,[],_,h,_=>h.elim
theorem zdG (m:Dmd) {D:List Dcm} (h:GoodD D) (h8:D.length<=8):(looksP m (rdsD D 0)).length<=96:=by
 unfold looksP;split
 ·simp
 ·have:=zpz m 0 (zdv h 0) (fun d hd=>(uZ (h.docs d hd).1 (h.docs d hd).2).fs)
  omega
end Go.Ex
namespace Go.Abs
open Go.Sort Go.Proofs Go.Shelf Go.RowKit Go.Lib Go.Wd Go.Wire Go.Ex
theorem zxT {w:World} {Z:Bk->Prop} {g:Nat} {c0 c1:C} {v:Value} (h:PRep w Z (.fn g [c0,c1]) v): ∃u0 u1,v=.func (.func g) #[] #[u0,u1]/\PRep w Z c0 u0/\PRep w Z c1 u1:=by
 cases h with
 |fn f caps us val h1 h2 h3=>
  obtain⟨l⟩:=us
  match l,h1 with
  |[u0,u1],_=>
   have e0:=h2 0 c0 rfl;have e1:=h2 1 c1 rfl;have p0:=h3 0 c0 rfl;have p1:=h3 1 c1 rfl;simp at e0 e1;subst e0 e1;exact⟨_,_,rfl,p0,p1⟩
theorem strs_prep {W:World} {b cap:Nat} {F0:Array Value} {l:List Txt} {Z:Bk->Prop} (hG:RowGot 1 (fun s=>[C.str s]) W Z b F0 l) (h0:0<l.length) (hc:l.length<=cap) (hm:cap<=maxLen):PRep W (zV W) (zB 1 (zF l)) (.slice (some ⟨b,0,none⟩) l.length cap):=by
 have hcell: ∀i (hi:i<l.length),W.cell? ⟨b,i,none⟩=some (.string ⟨l[i].toArray⟩):=fun i hi=>by
  have h1:=(hG.h i (by have:=hG.s;omega)).1;have h2:=hG.r i hi 0 _ rfl;rw[Yv,Yf] at h2;rw[ZY] at h1;rw[h1,id,vX h2]
 have key:PRep W (zV W) (.list 1 none (zF l)) (.slice (some ⟨b,0,none⟩) (zF l).length cap):=by
  have hat: ∀(i j:Nat) r c,(zF l)[i]?=some r->r[j]?=some c->j=0/\ ∃hi:i<l.length,c=.str l[i]:=by
   intro i j r c hr hc;have hi:i<l.length:=by have:=(Zu.1 hr).1;rwa [zS] at this
   have:r=[C.str l[i]]:=by simp[zF,hi] at hr;exact hr.symm
   subst this;cases j with
   |zero=>cases hc;exact⟨rfl,hi,rfl⟩
   |succ j=>simp at hc
  refine .list b 0 cap 1 none (zF l) (fun i _=> .string ⟨(l.getD i []).toArray⟩) (by simp) (by rw[zS];exact hc) hm (fun _=>hG.lt) (fun r hr=>by obtain⟨s,_,rfl⟩:=ZH.1 hr;rfl) (fun i j r c hr hcj=>?_) (fun i j r c hr hcj=>?_)
  ·obtain⟨rfl,hi,rfl⟩:=hat i j r c hr hcj
   rw[Yv,Yf,ZY,hcell i hi,Zi,Zf hi];rfl
  ·obtain⟨rfl,hi,rfl⟩:=hat i j r c hr hcj
   rw[Zi,Zf hi];exact .str _
 have hne:l≠[]:=Ye.1 h0;rw[<-zpo hne];rw[zS] at key;exact key
def lX (D:List Dcm) (p:Plc):List C:=[.ro [zB 2 (D.map zJ)] 0,.ro [.int .i64 p.doc,.int .i64 p.fld] 0]
theorem zxU (D:List Dcm) (p:Plc):qF (lX D p):=by
 unfold qF lX;simp only[Zk,Zp,C.normRow,C.norm,zM,zQ yK]
end Go.Abs
namespace Go.Proofs
open Go.RowKit
theorem zxV (p:Option Addr) (cap:Nat) (v:Value) (w:World) (hi:Calls Tryz.prog 120 #[.slice p 0 cap,v] w fun ex w'=>ex=.returned (.int .i64 (-1))/\w'=w):Calls Tryz.prog 61 #[.slice p 0 cap,v] w fun e w'=>e=.returned (.slice p 0 cap)/\w'=w:=by
 go_enter Tryz.func61,Tryz.ntmps61
 go_wp2_with (go_at_call 120;refine hi.mono ?_;rintro ex w1 ⟨rfl,rfl⟩)
 go_ret
 exact⟨rfl,rfl⟩
theorem zxW (p:Option Addr) (cap:Nat) (v:Value) (w:World):Calls Tryz.prog 120 #[.slice p 0 cap,v] w fun ex w'=>ex=.returned (.int .i64 (-1))/\w'=w:=by
 go_enter Tryz.func120,Tryz.ntmps120
 go_wp2
 go_loopg [8] 1 (fun g i wr=>g=1/\i=.int .i64 0/\wr=w)
 case atStart=>exact⟨rfl,rfl,rfl⟩
 case round=>
  obtain⟨rfl,rfl,rfl⟩:=hrel
  go_wp2
  go_ret
  exact⟨rfl,rfl⟩
end Go.Proofs
namespace Go.Abs
open Go.Sort Go.Proofs Go.Shelf Go.RowKit Go.Lib Go.Wd Go.Wire Go.Ex
theorem q61 {D:List Dcm} (h:GoodD D) {p:Plc} (hp:isP D p=true) (τ:Nat) (l:List Txt) (hm:l.length<=1000000000) (hs: ∀s∈l,s.length<4294967281):yV Tryz.prog 61 [.k (.own τ),.k (.c (.fn 62 (lX D p)))] (zD 9 1 τ (zF l)) [] (fun r o'=>r=.k (.own τ)/\ ∃out,out=l.filter vV/\o'=zD 9 1 τ (zF out)):=by
 have ef:(l.filter fun x=> !!vV x)=l.filter vV:=by congr 1;funext x;simp
 refine(jS (f:=61) (vN (by kernel_rfl)) 9 τ (k:=1) (by decide) (fun s=>[C.str s]) (fun _=>rfl) l [.fn 62 (lX D p)] true (fun out=>out=l.filter vV) (fun h=>by subst h;rfl) ?_ ?_)
 ·rintro rfl q cap us W hu
  obtain⟨v,rfl⟩:=zag hu;exact(zxV q cap v W (zxW q cap v W)).mono fun _ _ h=>h
 ·intro hpos W Z b cap F0 us hglob hG hu hx hcap hmx
  obtain⟨v,rfl⟩:=zag hu;have hv:=hx 0 (by simp) (by simp);obtain⟨u0,u1,rfl,p0,p1⟩:=zxT (c0:=.ro [zB 2 (D.map zJ)] 0) (c1:=.ro [.int .i64 p.doc,.int .i64 p.fld] 0) hv;obtain⟨cur,e,h1,h2⟩:=hG.hp;obtain⟨e',sz,hR⟩:=RowIn.start (encC:=C.str) hG;obtain⟨cs,k1,k2,_⟩:=hR.hb;rw[h1] at k1;cases k1;have hz0: ∀q,Z q->q.2<W.heap.size:=fun q hq=>(hG.z q hq).2
  have gI:W.grownBy W (some b):=⟨rfl,rfl,rfl,Zw _,fun _ _ _=>rfl⟩;refine(zxS b cap e sz l (fun s=> !vV s) u0 u1 W Z hR hm hcap ?_ ?_).mono ?_
  ·exact(zxR (g:=62) (cs:=lX D p) (p:=fun s=> !vV s) (zxU D p) l (fun x hx=>q62 h hp x (hs x hx)) hm).intC (hglob W gI) (Z:=zV W) (fun _ h=>h) (wS (strs_prep hG hpos hcap hmx) (wS (oK hz0 hv) (yY _ _)))
  ·intro x hx W' hg
   have hsz: ∀q,Z q->q.2<W'.heap.size:=fun q hq=>ZO (hG.z q hq).2 hg.size
   have hsm:=zdo hG.z hg;exact(q62 h hp x (hs x hx)).boolC (hglob W' hg) hsz (wS (.str x) (wS (p0.mono hsm fun _ h=>h) (wS (p1.mono hsm fun _ h=>h) (yY _ _))))
  ·rintro ex w' ⟨rfl,dk,wr,hR2,hds,hd,hgb,hc⟩
   rw[ef] at hd hc⊢;have hle:(l.filter vV).length<=l.length:=Yq _ _;refine⟨_,rfl,hle,(fun h=>nomatch h),rfl,?_⟩;refine hR2.ans (fun cur' e2 fr hb=>?_) (by omega) hd w' hgb hc;rw[h1] at hb;cases hb;exact⟨k2,rfl,rfl⟩
theorem q64 (τ:Nat) (l:List Txt) (hm:l.length<4611686018427387904):yV Tryz.prog 64 [.k (.own τ)] (zD 9 1 τ (zF l)) [τ] (fun r o'=>r=.tup []/\ ∃out,out=sortO ltT l/\o'=zD 9 1 τ (zF out)):=zwT Tryz.laysSortS (vN (by kernel_rfl)) 9 τ l hm
theorem q65 (τ:Nat) (l:List Txt) (hm:l.length<=9223372036854775807):yV Tryz.prog 65 [.k (.own τ)] (zD 9 1 τ (zF l)) [] (fun r o'=>r=.k (.own τ)/\ ∃out,out=yL l/\o'=zD 9 1 τ (zF out)):=zwU Tryz.laysCompS (vN (by kernel_rfl)) 9 τ l hm
end Go.Abs
namespace Go.Ex
open Go.Lib Go.Wd Go.Wire Go.Abs
def wH (D:List Dcm) (p:Plc) (P:List Pln):List Dmd->List Txt
 |[]=>[]
 |m::l=>(if p∈looksP m P then propP D (looksP m P) m p else[])++wH D p P l
theorem zpA (D:List Dcm) (p:Plc) (P:List Pln): ∀a b:List Dmd,wH D p P (a++b)=wH D p P a++wH D p P b
 |[],_=>rfl
 |m::a,b=>by rw[ZQ,wH,wH,zpA D p P a b,Z3]
def jW (L:List Dmd) (D:List Dcm) (p:Plc):List Txt:=textsF (tH D p)++wH D p (rdsD D 0) L
def textsC (L:List Dmd) (D:List Dcm) (p:Plc):List Txt:=yL (sortO ltT ((jW L D p).filter vV))
def fQ (L:List Dmd) (D:List Dcm) (p:Plc):List Txt:=if isP D p=true then textsC L D p else[]
theorem DmdS.i {m:Dmd} (h:DmdS m):DmdI m:=⟨h.l1,h.l2,h.h1,h.h2⟩
theorem zpB {D:List Dcm} {p:Plc} {t:Txt}: ∀{l:List Plc},t∈uO D p l-> ∃q∈l,q≠p/\t∈textsF (tH D q)
 |q::l,h=>by
  rw[uO,Yo] at h;rcases h with h|h
  ·by_cases e:q=p
   ·rw[if_pos e] at h;cases h
   ·rw[if_neg e] at h;exact⟨q,by simp,e,h⟩
  ·obtain⟨x,hx,h1,h2⟩:=zpB h
   exact⟨x,Zy _ hx,h1,h2⟩
theorem zpC {D:List Dcm} (h:GoodD D) (h8:D.length<=8) (m:Dmd) (p:Plc):(propP D (looksP m (rdsD D 0)) m p).length<=400000:=by
 unfold propP;split
 ·simp
 ·split
  ·simp
  ·have h1:=zdC h p _ (zau m h)
   have h2:=zdG m h h8;have h3:=ZZ 4096 h2;omega
theorem zxX {D:List Dcm} (h:GoodD D) {m:Dmd} (hm:DmdS m) {p:Plc}: ∀t∈propP D (looksP m (rdsD D 0)) m p,t.length<=1000000:=by
 intro t ht;unfold propP at ht;split at ht
 ·rw[ZT.1 ht];exact hm.t
 ·split at ht
  ·have a1:=itoa_length_le m.lo hm.l1 hm.l2
   have a2:=itoa_length_le m.hi hm.h1 hm.h2;simp only[ZJ,List.mem_nil_iff,or_false] at ht;rcases ht with rfl|rfl<;>omega
  ·obtain⟨q,hq,_,hr⟩:=zpB ht
   obtain⟨h1,h2⟩:=zdF (zau m h q hq);have:=zdD (h.docs _ h1).1 (h.docs _ h1).2 h2 (zdE.1 hr);omega
theorem zdH {D:List Dcm} (h:GoodD D) (h8:D.length<=8) (p:Plc): ∀l:List Dmd,(wH D p (rdsD D 0) l).length<=l.length*400000
 |[]=>by simp[wH]
 |m::l=>by
  have h1:=zdH h h8 p l;have h2:=zpC h h8 m p;rw[wH,Zq,Zo,YL];split
  ·omega
  ·rw[ZF];omega
theorem zdI {D:List Dcm} (h:GoodD D) {p:Plc}: ∀{l:List Dmd},(∀m∈l,DmdS m)-> ∀t∈wH D p (rdsD D 0) l,t.length<=1000000
 |m::l,hm,t,ht=>by
  rw[wH,Yo] at ht;rcases ht with ht|ht
  ·split at ht
   ·exact zxX h (hm m (by simp)) t ht
   ·cases ht
  ·exact zdI h (fun x hx=>hm x (Zy _ hx)) t ht
theorem mN {L:List Dmd} {D:List Dcm} (hA:AskS L D) (h0:lookE L D=0):GoodD D:=⟨hA.dc,qG h0⟩
end Go.Ex
namespace Go.Abs
open Go.Sort Go.Proofs Go.Shelf Go.RowKit Go.Lib Go.Wd Go.Wire Go.Ex
theorem zxY (P:Program) (l:List AI) (x:AI) (r:List AI) (p:List (List Nat)) (Q:AE->KK) (ts:TS) (os:OS):awl P (.drawm l x r p) Q ts os=wpLQs P l (wpLs P [x] (wpLQs P r (Q .normal))) ts os:=id rfl
theorem zxZ {D:List Dcm} (h:GoodD D) {q:Plc} (hq:isP D q=true):Spec Tryz.prog 36 [.agg (zJ (D.getD q.doc.toNat yM)),.int .i64 q.fld] (fun v=>v=.tup [.k (.newl 9 1 none (zF (textsF (tH D q)))),.int .i64 0]):=by
 obtain⟨h1,h2,h3,h4⟩:=pD.1 hq;have hd:=pC (D:=D) (d:=q.doc.toNat) (by omega);have g:=q36 (D.getD q.doc.toNat yM) (h.docs _ hd).1 (h.docs _ hd).2 q.fld.toNat (by omega) (jV h hq);rw[show((q.fld.toNat:Nat):Int)=q.fld by omega] at g;exact g
theorem q15 (L:List Dmd) (D:List Dcm) (p:Plc) (hA:AskS L D) (h0:lookE L D=0):Spec Tryz.prog 15 [lst 8 (L.map zU),lst 2 (D.map zJ),.agg (wG p)] (fun v=>v=.tup [lst 1 (zF (fQ L D p)),.int .i64 (if isP D p=true then 0 else 4)]):=by
 refine Spec.of_awlP hf15 okf15 (by simp) fun S hS=>?_
 have hG:=mN hA h0;have hok:=hG.ok;have h8:=hok.len;have hL8:=hA.l8;have g1:=c20 L D hA;rw[h0] at g1;have g2:=q56 D p (by omega) (fun d hd=>by have:=(uZ (hG.docs d hd).1 (hG.docs d hd).2).fs;omega);unfold wG at g2⊢;unfold fQ at hS;simp only[Qs,iZ,bne_iff_ne,ne_eq,Zc,Zn,Za,ztg];refine zI g1 ?_ (ha:=by simp only[Zk,Zp,zC,V.norm,zM,zQ yK,zQ wK]<;>rfl);simp only[show((0:Int) !=0)=false from rfl,Qs,Zc,Za];refine zI g2 ?_ (ha:=by simp only[Zk,Zp,zC,V.norm,zM,C.norm,C.normRow,zQ yK]<;>rfl);cases hp:isP D p with
 |false=>
  rw[hp] at hS;simp only[Qs,BEq.rfl,Ze,ZK,Za,Zt];exact hS _ rfl
 |true=>
  rw[hp,if_pos rfl,if_pos rfl] at hS;obtain⟨i1,i2,i3,i4⟩:=pD.1 hp;have g3:=zxZ hG hp;have hgd:=zas (l:=D) (i:=p.doc.toNat) (by omega);have hsz:=jV hG hp;have htl:=zat (tH D p);have hin:=zdF hp;have hsm: ∀t∈textsF (tH D p),t.length<=168:=fun t ht=>zdD (hG.docs _ hin.1).1 (hG.docs _ hin.1).2 hin.2 (zdE.1 ht)
  have hC:textsC L D p=yL (sortO ltT ((textsF (tH D p)++wH D p (rdsD D 0) L).filter vV)):=rfl;rw[hC] at hS;generalize textsF (tH D p)=T0 at g3 hS htl hsm;generalize D.getD p.doc.toNat yM=dd at g3 hgd;have g4:=c14 D hA.dc 0;have hE:oQ D 0=0:=by unfold oQ;rw[if_neg (by simp[qG h0]),hok.n,if_neg (by have:=aW hA.dc (qG h0);omega)]
  have hP:sH D 0=rdsD D 0:=by unfold sH;rw[if_pos hE];rfl
  rw[hE,hP] at g4;have hPS:=hA.rd (qG h0) 0 (aW hA.dc (qG h0));simp only[i1,i2,hgd,zL,zxY,Qs,Zc,Zl,Za,Zg];refine yQ g3 ?_ (ha:=by simp only[Zk,Zp,zC,V.norm,yK,C.norm]<;>rfl);simp only[show((0:Int) !=0)=false from rfl,Qs,iT,zrR,lE,zr8,zr9,zsa,or_true,bne_iff_ne,ne_eq,Ze,Zc,Z9,Zn,Za];refine yQ g4 ?_ (ha:=by simp only[Zk,Zp,zC,V.norm,zM,C.norm,C.normRow,zQ yK]<;>rfl);simp only[zL,Qs,Ze,Zc,Z9,Za,Zg];have hsmA: ∀t∈wH D p (rdsD D 0) L,t.length<=1000000:=zdI hG hA.dm;have hlk: ∀m,(looksP m (rdsD D 0)).length<=96:=fun m=>zdG m hG h8
  have hlp: ∀m,∀q∈looksP m (rdsD D 0),isP D q=true:=fun m=>zau m hG
  have hpl: ∀m,(propP D (looksP m (rdsD D 0)) m p).length<=400000:=fun m=>zpC hG h8 m p
  have hal:=zdH hG h8 p;generalize hPd:rdsD D 0=P at hPS hC hS hsmA hlk hlp hpl hal;refine zR (fun x:Nat×Option Bool=>[(4,.k (.c (.ro [zB 2 (D.map zJ)] 0))),(5,.k (.c (.ro [.int .i64 p.doc,.int .i64 p.fld] 0))),(9,.k (.own 37000)),(11,lst 3 (uU P)),(47,lst 8 (L.map zU)),(48,.int .i64 L.length),(49,.int .i64 x.1)]) (fun x=>[(37000,.arr 9 1 x.2 (zF (T0++wH D p P (L.take x.1))))]) (fun x=>x.1<=L.length) (fun x=>L.length-x.1) (0,none) rfl (by simp[wH];rfl) (ZC _) ?_;rintro⟨i,nl⟩ hi;simp only[] at hi;by_cases hlt:i<L.length
  ·have c1:(i:Int)<L.length:=by omega
   have c4:IntKind.i64.wrap ((i:Int)+1)=(i:Int)+1:=wrap_in (by omega) (by omega);have hat:=aG hlt;have hm:=hA.dm _ (Zv hlt);have hsn:wH D p P (L.take (i+1))=wH D p P (L.take i)++if p∈looksP L[i] P then propP D (looksP L[i] P) L[i] p else[]:=by
    rw[ZD hlt,zpA,wH,wH,Ze]
   have hl1:=hal (L.take i);rw[Yl,YV (by omega)] at hl1;have e0:L.getD i wM=L[i]:=by simp[hlt]
   rw[e0] at hat;generalize L[i]=m at hat hm hsn;have g16:=c16 m P hPS;have g60:=q60 m D (looksP m P) p hG (by have:=hlk m;omega) (hlp m) hm.i;have hl2:=hpl m;have hl3:=hlk m;generalize propP D (looksP m P) m p=N at g60 hl2 hsn;generalize looksP m P=B at g16 g60 hsn hl3;have g59:=q59 B p (by omega);unfold zU at g16 g60;unfold wG at g59 g60;simp only[c1,hat,zL,Qs,bne_iff_ne,ne_eq,Ze,Zc,Zn,Za,Zg];refine yQ g16 ?_ (ha:=by simp only[Zk,Zp,zC,V.norm,C.norm,C.normRow,zM,mC]<;>rfl);simp only[Qs,Zc,Za];refine zI g59 ?_ (ha:=by simp only[Zk,Zp,zC,V.norm,C.norm,C.normRow,zM,tN]<;>rfl);by_cases he:p∈B
   ·rw[if_pos he] at hsn
    have hap:zF (T0++wH D p P (L.take i))++zF N=zF (T0++wH D p P (L.take (i+1))):=by rw[hsn];simp[zF]
    simp only[he,decide_true,Qs,Zc,Za];refine yQ g60 ?_ (ha:=by simp only[Zk,Zp,zC,V.norm,C.norm,C.normRow,zM,tN,zQ yK]<;>rfl);simp only[show((0:Int) !=0)=false from rfl,c4,zS,hap,Qs,nT,Ze,Zc,Z9,Za,gM];have hl5:(T0++wH D p P (L.take i)).length+N.length<=10000000:=by rw[Zq];omega
    exact⟨by omega,by omega,Next.intro (i+1,nlApp nl (zF N)) rfl rfl (by simp only;omega) (by simp only;omega)⟩
   ·rw[if_neg he,Ze] at hsn
    simp only[he,decide_false,c4,Qs,Za];exact Next.intro (i+1,nl) rfl (by rw[hsn];rfl) (by simp only;omega) (by simp only;omega)
  ·have c1: ¬(i:Int)<L.length:=by omega
   obtain rfl:i=L.length:=by omega
   rw[Yk];have hln:=hal L;simp only[c1,Qs,Za];have hA5:(T0++wH D p P L).length<=10000000:=by rw[Zq];omega
   have hA6: ∀t∈T0++wH D p P L,t.length<4294967281:=fun t ht=>by
    rcases Yo.1 ht with ht|ht
    ·have:=hsm t ht;omega
    ·have:=hsmA t ht;omega
   generalize T0++wH D p P L=A at hA5 hA6 hS;have hf:=Yq vV A;refine zdp (encR:=fun s:Txt=>[C.str s]) (us':=[.k (.c (.fn 62 (lX D p)))]) (Q:=fun out=>out=A.filter vV) (zF A) A (q61 hG hp 37000 A (by omega) hA6) rfl (xR A) ?_ (hu:=by simp only[Zk,Zp,V.nrm,K.nrm,C.norm,C.normRow,lX,yP yK]<;>rfl);rintro out rfl;simp only[Qs];generalize A.filter vV=F at hf hS;refine zoX (encR:=fun s:Txt=>[C.str s]) (us':=[]) (Q:=fun out=>out=sortO ltT F) (zF F) F (q64 37000 F (by omega)) rfl (xR F) ?_;rintro out rfl;simp only[Qs,Za];have hsl:(sortO ltT F).length=F.length:=(vE ltT F).length_eq;refine zdp (encR:=fun s:Txt=>[C.str s]) (us':=[]) (Q:=fun out=>out=yL (sortO ltT F)) (zF (sortO ltT F)) (sortO ltT F) (q65 37000 (sortO ltT F) (by omega)) rfl (xR _) ?_;rintro out rfl;simp only[Qs,nT,Ze,ZK,Za,Zt];refine hS _ ?_;have e1:C.normRows ((yL (sortO ltT F)).map fun s:Txt=>[C.str s])=zF (yL (sortO ltT F)):=xR _;simp only[V.fz,V.fzL,V.nrm,V.nrmL,e1,xR,uK (xR _)];rfl
end Go.Abs
namespace Go.Ex
open Go.Lib Go.Wd Go.Wire Go.Abs
def qI (D:List Dcm) (p:Plc) (t:Txt):Int:=if D.length>8 then 6 else if 0<=p.doc/\p.doc<D.length then setE (D.getD p.doc.toNat yM) p.fld t else 4
def corD (D:List Dcm) (p:Plc) (t:Txt):List Dcm:=if qI D p t=0 then D.set p.doc.toNat (setD (D.getD p.doc.toNat yM) p.fld t) else[]
end Go.Ex
namespace Go.Abs
open Go.Sort Go.Proofs Go.Shelf Go.RowKit Go.Lib Go.Wd Go.Wire Go.Ex
theorem q20 (D:List Dcm) (p:Plc) (t:Txt) (hD: ∀d∈D,DcmS d) (hC: ∀d∈D,CopyD d) (ht:t.length<4294967281) (hB:D.length<=9223372036854775807):Spec Tryz.prog 20 [lst 2 (D.map zJ),.agg (wG p),.str t] (fun v=>v=.tup [lst 2 ((corD D p t).map zJ),.int .i64 (qI D p t)]):=by
 refine Spec.of_awlP hf20 okf20 (by simp) fun S hS=>?_
 unfold wG;by_cases h8:D.length>8
 ·have c8:(D.length:Int)>8:=by omega
  have e:qI D p t=6:=by unfold qI;rw[if_pos h8]
  unfold corD at hS;rw[e,if_neg (by decide)] at hS;simp only[c8,zL,Qs,bne_iff_ne,ne_eq,BEq.rfl,Ze,ZK,Zc,Zn,Za,Zg,Zt,Ψ20];exact hS _ rfl
 ·have c8: ¬(D.length:Int)>8:=by omega
  by_cases hp:0<=p.doc/\p.doc<D.length
  ·have i1: ¬p.doc<0:=by omega
   have i2: ¬p.doc>=D.length:=by omega
   have i3:0<=p.doc:=hp.1;have i4:p.doc<D.length:=hp.2;have hgd:=zas (l:=D) (i:=p.doc.toNat) (by omega);have hd:=pC (D:=D) (d:=p.doc.toNat) (by omega);have g26:=c26 _ (hD _ hd) p.fld t ht;have e:qI D p t=setE (D.getD p.doc.toNat yM) p.fld t:=by unfold qI;rw[if_neg h8,if_pos hp]
   unfold corD at hS;rw[e] at hS;generalize setE (D.getD p.doc.toNat yM) p.fld t=E at g26 hS;generalize setD (D.getD p.doc.toNat yM) p.fld t=d' at g26 hS;generalize D.getD p.doc.toNat yM=dd at g26 hgd;rw[show zJ d'=[.str d'.kind,zB 2 (d'.flds.map zP)] from rfl] at g26;simp only[c8,i1,i2,i3,i4,hgd,zL,Qs,kT,zgy,zbT,bne_iff_ne,ne_eq,Zc,Zn,Zl,Za,Zg,Ψ20,vv f20r28o0.eq_1,vv f20r28o1.eq_1,vv f20r28o2.eq_1,vv f20r28o3.eq_1,vv f20r28o4.eq_1,vv f20r28o5.eq_1,vv f20r28o6.eq_1,vv f20r28o7.eq_1,vv f20r28o8.eq_1,vv f20r28o9.eq_1,vv f20r28o10.eq_1,vv f20r28o11.eq_1,vv f20r28o12.eq_1,vv f20r28o13.eq_1,vv f20r28o14.eq_1,ztn,Ψ20];refine jE g26 ?_ (ha:=by simp only[Zk,Zp,zC,V.norm,yK,C.norm]<;>rfl);simp only[V.fz,V.fzL,K.fz,Qs,zbO,zbP,kT,zbQ,zbR,iS,iT,zbU,zbV,zbW,zbX,zg3,zg4,zg5,zbY,bne_iff_ne,ne_eq,Ze,ZK,Zc,Zn,Za,Zg,YY,Zt,Ψ20];refine⟨fun hE=>?_,fun hE=>?_⟩
   ·rw[if_neg hE] at hS
    exact hS _ rfl
   ·subst hE
    rw[if_pos rfl] at hS;have hfl: ∀i,i<=D.length->((D.take i).map zJ++List.replicate (D.length-i) [C.str [],C.list 0 (some true) []]).length=D.length:=fun i hi=>by rw[Zq,Zg,Yl,List.length_replicate];omega
    refine⟨by omega,by omega,by omega,?_⟩;rw[uu f20l15.eq_1];refine zR (fun i:Nat=>[(4,.k (.c (.ro [.int .i64 p.doc,.int .i64 p.fld] 0))),(8,.k (.ptr 8 0)),(10,.k (.own 45)),(46,lst 2 (D.map zJ)),(47,.int .i64 D.length),(48,.int .i64 i)]) (fun i=>[(8,.var 69 [.c (.str d'.kind),.c (zB 2 (d'.flds.map zP))]),(45,.arr 69 2 (some false) ((D.take i).map zJ++List.replicate (D.length-i) [C.str [],C.list 0 (some true) []]))]) (fun i=>i<=D.length) (fun i=>D.length-i) 0 rfl rfl (ZC _) ?_;intro i hi;have hll:=hfl i hi;by_cases hlt:i<D.length
    ·have d1:(i:Int)<D.length:=by omega
     have k4:IntKind.i64.wrap ((i:Int)+1)=(i:Int)+1:=wrap_in (by omega) (by omega);have hat:(D.map zJ).getD i []=[.str D[i].kind,zB 2 (D[i].flds.map zP)]:=by simp[hlt,zJ]
     have g73:=q73 D[i] (hC _ (Zv hlt));have hsn:(D.take (i+1)).map zJ=(D.take i).map zJ++[zJ D[i]]:=by rw[ZD hlt,ZS];rfl
     have hset: ∀r,((D.take i).map zJ++List.replicate (D.length-i) [C.str [],C.list 0 (some true) []]).set i r=((D.take i).map zJ++[r])++List.replicate (D.length-(i+1)) [C.str [],C.list 0 (some true) []]:=fun r=>by
      have hl:((D.take i).map zJ).length=i:=by rw[Zg,Yl];omega
      rw[Xr _ _ (by omega),hl,Xi,show D.length-i=(D.length-(i+1))+1 by omega,List.replicate_succ,Z8,Z3];rfl
     generalize D[i]=e at hat g73 hsn;rw[show zJ e=[.str e.kind,zB 2 (e.flds.map zP)] from rfl] at g73 hsn;simp only[d1,hat,zL,Qs,bne_iff_ne,ne_eq,Ze,Zc,Zn,Za,Zg,Ψ20];refine yQ g73 ?_ (ha:=by simp only[Zk,Zp,zC,V.norm,C.norm,C.normRow,yP vA]<;>rfl);simp only[hll,k4,hset,<-hsn,Qs,kV,kW,Zc,Z9,Za];exact⟨by omega,Next.intro (i+1) rfl rfl (by omega) (by omega)⟩
    ·obtain rfl:i=D.length:=by omega
     have d1: ¬(D.length:Int)<D.length:=by omega
     have hset: ∀r,((D.take D.length).map zJ++List.replicate (D.length-D.length) [C.str [],C.list 0 (some true) []]).set p.doc.toNat r=(D.map zJ).set p.doc.toNat r:=fun r=>by
      rw[Yk,Xi,List.replicate_zero,Ze]
     simp only[d1,hll,i3,i4,hset,Qs,kV,kW,Ze,ZK,Zc,Zl,Za,Zt,Ψ20];refine hS _ ?_;have e0:(D.map zJ).set p.doc.toNat [C.str d'.kind,zB 2 (d'.flds.map zP)]=(D.set p.doc.toNat d').map zJ:=by rw[List.map_set];rfl
     have e1:=zQ yK (D.set p.doc.toNat d');rw[e0];simp only[V.fz,V.fzL,V.nrm,V.nrmL,e1,uK e1];rfl
  ·have e:qI D p t=4:=by unfold qI;rw[if_neg h8,if_neg hp]
   unfold corD at hS;rw[e,if_neg (by decide)] at hS;by_cases i1:p.doc<0
   ·simp only[c8,i1,zL,Qs,lD,bne_iff_ne,ne_eq,BEq.rfl,Ze,ZK,Zc,Zn,Zl,Za,Zg,Zt,Ψ20]
    exact hS _ rfl
   ·have i2:p.doc>=D.length:=by omega
    simp only[c8,i1,i2,zL,Qs,bne_iff_ne,ne_eq,BEq.rfl,Ze,ZK,Zc,Zn,Zl,Za,Zg,Zt,Ψ20];exact hS _ rfl
end Go.Abs
namespace Go.Ex
open Go.Lib Go.Wd Go.Wire Go.Abs
def meetsI (c s:List Int):Bool:= !c.any fun k=>decide (k∈s)
def curedI (x:Flw) (F:List (List Int)):Bool:=if x.sure=true then F.any (meetsI x.dem) else F.all (meetsI x.dem)
end Go.Ex
namespace Go.Abs
open Go.Proofs Go.RowKit Go.Lib Go.Wd Go.Wire Go.Ex
theorem zx0 (k:Int) (s:List Int) (hs:s.length<=1000000):Spec Tryz.prog 136 [.int .i64 k,.k (.c (.ro [zB 1 (zG s)] 0))] (fun v=>v=.bool (decide (k∈s))):=by
 refine Spec.of_awlS hf136 okf136 (by simp) fun S hS=>?_
 have g1:=zoH s k hs;simp only[Qs,Zc,Za,ztp];refine zI g1 ?_ (ha:=by simp only[Zk,Zp,zC,V.norm,zM,C.norm,yR]<;>rfl);simp only[Qs];exact hS
theorem zx1 (x:Flw):qF [C.ro (uN x) 0]:=by
 unfold qF;simp only[Zk,Zp,C.norm,jQ]
theorem zx2 (x:Flw):C.normRow [C.ro (uN x) 0]=[C.ro (uN x) 0]:=by simp only[C.normRow,C.norm,jQ]
theorem zpD (x:Flw) (s:List Int) (hc:x.dem.length<=1000000) (hs:s.length<=1000000):Spec Tryz.prog 135 [lst 1 (zG s),.k (.c (.ro (uN x) 0))] (fun v=>v=.bool (meetsI x.dem s)):=by
 refine Spec.of_awlS hf135 okf135 (by simp) fun S hS=>?_
 have g1:=zoI (g:=136) (cs:=[C.ro [zB 1 (zG s)] 0]) (p:=fun k=>decide (k∈s)) (zdk s) (zdl s) x.dem (fun k _=>zx0 k s hs) hc;unfold meetsI at hS;generalize (x.dem.any fun k=>decide (k∈s))=y at g1 hS;unfold uN;simp only[Qs,iZ,Zc,Zl,Za,zto];refine zI g1 ?_ (ha:=by simp only[Zk,Zp,zC,V.norm,zM,C.norm,C.normRow,yR]<;>rfl);simp only[Qs];cases y<;>exact hS
theorem zx3 (x:Flw) (s:List Int) (hc:x.dem.length<=1000000) (hs:s.length<=1000000):Spec Tryz.prog 137 [lst 1 (zG s),.k (.c (.ro [.fn 135 [.ro (uN x) 0]] 0))] (fun v=>v=.bool (!meetsI x.dem s)):=by
 refine Spec.of_awlS hf137 okf137 (by simp) fun S hS=>?_
 have g1:=zpD x s hc hs;generalize meetsI x.dem s=y at g1 hS;simp only[Qs,Zc,Za,ztq];refine rC g1 ?_ (ha:=by simp only[Zk,Zp,zC,V.norm,zM,C.norm,C.normRow,jQ,yR]<;>rfl);simp only[Qs];cases y<;>exact hS
theorem q79 (x:Flw) (F:List (List Int)) (hc:x.dem.length<=1000000) (hF:F.length<=1000000) (hs: ∀s∈F,s.length<=1000000):Spec Tryz.prog 79 [.agg (uN x),lst 1 (vU F)] (fun v=>v=.bool (curedI x F)):=by
 refine Spec.of_awlS hf79 okf79 (by simp) fun S hS=>?_
 have g1:=q52 (g:=135) (cs:=[C.ro (uN x) 0]) (p:=meetsI x.dem) (zx2 x) (zx1 x) F (fun s h=>zpD x s hc (hs s h)) hF;have g2:=q52 (g:=137) (cs:=[C.ro [.fn 135 [.ro (uN x) 0]] 0]) (p:=fun s=> !meetsI x.dem s) (by simp only[C.normRow,C.norm,jQ]) (by unfold qF;simp only[Zk,Zp,C.norm,C.normRow,jQ]) F (fun s h=>zx3 x s hc (hs s h)) hF;have e:F.all (meetsI x.dem)= !F.any fun s=> !meetsI x.dem s:=by rw[List.not_any_eq_all_not];simp
 unfold curedI at hS;rw[e] at hS;generalize F.any (meetsI x.dem)=a at g1 hS;generalize (F.any fun s=> !meetsI x.dem s)=b at g2 hS;have hx:uN x=[zB 1 (zG x.dem),zB 2 (pls x.pls),.bool x.sure]:=rfl;cases hb:x.sure with
 |true=>
  rw[hx,hb] at g1⊢;rw[hb,if_pos rfl] at hS;simp only[Qs,Ze,Zc,Za,zl5];refine zI g1 ?_ (ha:=by simp only[Zk,Zp,zC,V.norm,zM,C.norm,C.normRow,fJ,yR,tN]<;>rfl);simp only[Qs];exact hS
 |false=>
  rw[hx,hb] at g2⊢;rw[hb,if_neg (by decide)] at hS;simp only[Qs,Ze,Zc,Za,zl5];refine zI g2 ?_ (ha:=by simp only[Zk,Zp,zC,V.norm,zM,C.norm,C.normRow,fJ,yR,tN]<;>rfl);simp only[Qs];cases b<;>exact hS
end Go.Abs
namespace Go.Proofs
open Go.RowKit Go.Lib Go.Sort Go.Abs Go.Ex Go.Shelf
theorem zpE (w:World) (o1 o2:Obj) (A:Array Value) (t:TypeId) (i:Nat) (v:Value) (h:A[i]?=some v):(((w.alloc o1).alloc o2).alloc (.cells A t)).cell? ⟨w.heap.size+1+1,i,none⟩=some v:=by
 have e:w.heap.size+1+1=((w.alloc o1).alloc o2).heap.size:=by simp only[World.alloc,Array.size_push]
 rw[e];simp only[World.cell?,World.alloc_heap_new];exact h
theorem zx4 (a b:Plc) (ha:0<=a.doc/\a.doc<=1000000/\0<=a.fld/\a.fld<=1000000) (hb:0<=b.doc/\b.doc<=1000000/\0<=b.fld/\b.fld<=1000000) (w:World):
  Calls Tryz.prog 76 #[.agg #[.int .i64 a.doc,.int .i64 a.fld],.agg #[.int .i64 b.doc,.int .i64 b.fld]] w fun e w'=>e=.returned (.int .i64 (qC a b))/\ ∃q os',w'=grow (w.drewN q) os':=by
 obtain⟨a1,a2⟩:=a;obtain⟨b1,b2⟩:=b;simp only[] at ha hb;have w1:IntKind.i64.wrap (a1-b1)=a1-b1:=Go.Abs.wrap_in (by omega) (by omega);have w2:IntKind.i64.wrap (a2-b2)=a2-b2:=Go.Abs.wrap_in (by omega) (by omega);have R:Aside (qC ⟨a1,a2⟩ ⟨b1,b2⟩=if a1-b1≠0 then a1-b1 else a2-b2):=show _=_ by
  unfold qC;by_cases h:a1=b1
  ·rw[if_neg (by simpa using h),if_neg (by simp;omega)]
  ·rw[if_pos h,if_pos (by omega)]
 go_enter Tryz.func76,Tryz.ntmps76
 go_wp2_with (go_at_call 77;refine(zoL _ _ (a1-b1) (a2-b2) _ ?_ ?_).mono ?_)
 ·exact zpE w _ _ _ _ _ _ rfl
 ·exact zpE w _ _ _ _ _ _ rfl
 all_goals
  go_ret
  refine⟨?_,0,_,by rw[alloc_eq_grow,alloc_eq_grow,alloc_eq_grow,grow_grow,grow_grow];rfl⟩;rw[R.out]
  first|(rw[if_pos h];rfl)|(rw[if_neg h];rfl)
end Go.Proofs
namespace Go.Abs
open Go.Sort Go.Proofs Go.Shelf Go.Lib Go.RowKit Go.Ex
theorem q75 (τ:Nat) (L:List Plc) (hm:L.length<=100000000000000) (hk: ∀x∈L,gW x):yV Tryz.prog 75 [.k (.own τ),.k (.c (.fn 76 []))] (zD 25 2 τ (pls L)) [τ] (fun r o'=>r=.tup []/\o'=zD 25 2 τ (pls (sortO wW L))):=by
 refine(znT Tryz.laysSortP (vN (by kernel_rfl)) 25 2 (by decide) Tryz.isAgg25 Tryz.sizeOf25 wG (fun _=>rfl) qC wW zn0 (aJ aA) 76 (enters_of Tryz.func76 (by kernel_rfl) rfl) τ L (by omega) ?_).mono ?_
 ·intro x hx y hy W Z vx vy hZ hvx hvy
  have e1:=jI (r:=wG x) (by simp[wG,C.sc]) hvx;have e2:=jI (r:=wG y) (by simp[wG,C.sc]) hvy;subst e1 e2;exact zx4 x y (hk x hx) (hk y hy) W
 ·rintro r o' ⟨rfl,out,hp,hs,rfl⟩
  rw[jM aA hp hs];exact⟨rfl,rfl⟩
end Go.Abs
namespace Go.Ex
open Go.Lib Go.Wd Go.Wire Go.Abs
structure Cur where
 pl:Plc
 tx:Txt
 ix:List Int
def fR (c:Cur):List C:=[.int .i64 c.pl.doc,.int .i64 c.pl.fld,.str c.tx,zB 1 (zG c.ix)]
def pE (l:List Cur):List (List C):=l.map fR
theorem zx5 (l:List Cur):(pE l).length=l.length:=by simp[pE]
theorem zx6 (c:Cur):C.normRow (fR c)=fR c:=by simp only[fR,C.normRow,zM,yR,C.norm]
theorem zx7 (l:List Cur):C.normRows (pE l)=pE l:=zQ zx6 l
def sJ (X:List Flw) (F:List (List Int)) (n:Nat):List Int:=((List.range n).filter fun i=>curedI (X.getD i zdq) F).map fun(i:Nat)=>(i:Int)
theorem zx8 (X:List Flw) (F:List (List Int)) (n:Nat):sJ X F (n+1)=sJ X F n++if curedI (X.getD n zdq) F=true then[(n:Int)] else[]:=by
 unfold sJ;rw[Xk,Xw,ZS];congr 1;rw[List.filter_cons];split<;>rfl
theorem zx9 (X:List Flw) (F:List (List Int)) (n:Nat):(sJ X F n).length<=n:=by
 unfold sJ;rw[Zg];exact ZX (Yq _ _) (by simp)
def fS (L:List Dmd) (D:List Dcm) (p:Plc) (t:Txt):List (List Int):=(failC L (corD D p t)).map natI
def cureT (L:List Dmd) (D:List Dcm) (X:List Flw) (p:Plc):List Txt->List Cur
 |[]=>[]
 |t::l=>(if (sJ X (fS L D p t) X.length).length>0 then[⟨p,t,sJ X (fS L D p t) X.length⟩] else[])++cureT L D X p l
theorem zpF (L:List Dmd) (D:List Dcm) (X:List Flw) (p:Plc) (b:List Txt): ∀a,cureT L D X p (a++b)=cureT L D X p a++cureT L D X p b
 |[]=>rfl
 |t::a=>by rw[ZQ,cureT,cureT,zpF L D X p b a,Z3]
theorem zdJ (L:List Dmd) (D:List Dcm) (X:List Flw) (p:Plc): ∀l,(cureT L D X p l).length<=l.length
 |[]=>Zw _
 |t::l=>by
  have:=zdJ L D X p l;rw[cureT,Zq,Zo];split
  ·simp only[Zo,ZF];omega
  ·simp only[ZF];omega
def cureL (L:List Dmd) (D:List Dcm) (X:List Flw):List Plc->List Cur
 |[]=>[]
 |p::l=>cureT L D X p (textsC L D p)++cureL L D X l
theorem zpG (L:List Dmd) (D:List Dcm) (X:List Flw) (b:List Plc): ∀a,cureL L D X (a++b)=cureL L D X a++cureL L D X b
 |[]=>rfl
 |t::a=>by rw[ZQ,cureL,cureL,zpG L D X b a,Z3]
def uP (X:List Flw):List Plc:=(X.map (·.pls)).flatten
def plsX (X:List Flw):List Plc:=uL (sortO wW (uP X))
def curesC (L:List Dmd) (D:List Dcm):List Cur:=cureL L D (flawsE L D) (plsX (flawsE L D))
def zav (L:List Dmd) (D:List Dcm):List Cur:=if lookE L D=0 then curesC L D else[]
theorem zya {L:List Dmd} {D:List Dcm} (hA:AskS L D) (h0:lookE L D=0): ∀x∈flawsE L D,∃(c:List Nat) (b:Bool),x=⟨natI c,wO L c (rdsD D 0),b⟩/\c.length<=8:=by
 have hcn:=qG h0;have hm: ∀s,s∈conflP (viewD L D) ↔ _:=bT hA.l8 (zah hA hcn) (rI L D);have h256:2 ^ L.length<=256:=(Ys (by decide) hA.l8:2 ^ L.length<=2 ^ 8);unfold flawsE;rw[if_pos h0];intro x hx;rcases Yo.1 hx with hx|hx
 ·obtain⟨c,hc,rfl⟩:=ZH.1 hx
  obtain⟨s,hs2,rfl⟩:=ZH.1 ((vE ltC _).mem_iff.1 hc);have:=((hm s).1 hs2).1;exact⟨bitsN s,true,rfl,pR s (by omega)⟩
 ·obtain⟨k,hk,rfl⟩:=ZH.1 hx
  exact⟨[k],false,rfl,by simp⟩
theorem zdL {α:Type} {B:Nat}: ∀l:List (List α),(∀x∈l,x.length<=B)->l.flatten.length<=l.length*B
 |[],_=>by simp
 |a::l,h=>by
  have h1:=h a (by simp);have h2:=zdL l fun x hx=>h x (Zy _ hx)
  rw[Yy,Zq,Zo,YL];omega
theorem zdM {L:List Dmd} {D:List Dcm} (hA:AskS L D) (h0:lookE L D=0): ∀x∈flawsE L D,x.pls.length<=768/\ ∀p∈x.pls,isP D p=true:=by
 have hG:=mN hA h0;intro x hx;obtain⟨c,b,rfl,hc⟩:=zya hA h0 x hx;constructor
 ·show(wO L c (rdsD D 0)).length<=768
  unfold wO;have h1:=zn6 (sortO wW (c.map fun k=>looksP (L.getD k wM) (rdsD D 0)).flatten);rw[(vE wW _).length_eq] at h1;have h2:=zdL (B:=96) (c.map fun k=>looksP (L.getD k wM) (rdsD D 0)) fun y hy=>by
   obtain⟨k,_,rfl⟩:=ZH.1 hy;exact zdG _ hG hG.ok.len
  rw[Zg] at h2;omega
 ·intro p hp
  have hp:=(vE wW _).mem_iff.1 (zar.1 hp);obtain⟨y,hy,hpy⟩:=XA.1 hp;obtain⟨k,_,rfl⟩:=ZH.1 hy;exact zau _ hG p hpy
theorem zyb {L:List Dmd} {D:List Dcm} (hA:AskS L D) (h0:lookE L D=0): ∀p∈uP (flawsE L D),isP D p=true:=by
 intro p hp;obtain⟨y,hy,hpy⟩:=XA.1 hp;obtain⟨x,hx,rfl⟩:=ZH.1 hy;exact(zdM hA h0 x hx).2 p hpy
theorem zyc {L:List Dmd} {D:List Dcm} (hA:AskS L D) (h0:lookE L D=0) (X:List Flw) (hX: ∀x∈X,x∈flawsE L D):(uP X).length<=X.length*768:=by
 have:=zdL (B:=768) (X.map (·.pls)) fun y hy=>by
  obtain⟨x,hx,rfl⟩:=ZH.1 hy;exact(zdM hA h0 x (hX x hx)).1
 rwa [Zg] at this
theorem zyd {L:List Dmd} {D:List Dcm} (hA:AskS L D) (h0:lookE L D=0) {p:Plc} (hp:isP D p=true) {t:Txt} (ht:vV t=true):
  qI D p t=0/\AskS L (corD D p t)/\GoodD (corD D p t):=by
 have hG:=mN hA h0;obtain⟨h1,h2,h3,h4⟩:=pD.1 hp;have hE:=zpw hG hp t;rw[if_pos ht] at hE;have e:qI D p t=0:=by
  have:=hG.ok.len;unfold qI;rw[if_neg (by omega),if_pos ⟨h1,h2⟩,hE]
 have hD:corD D p t=sU D p.doc.toNat p.fld.toNat (splitW t):=by
  unfold corD setD sU;rw[e,hE,if_pos rfl,if_pos rfl]
 unfold vV at ht;rw[Zr,decide_eq_true_eq,ZA] at ht;rw[hD];exact⟨e,zxQ hA hG (by omega) (by omega) ht.1 ht.2,zpt hG (by omega) (by omega) ht.1 ht.2⟩
end Go.Ex
namespace Go.Abs
open Go.Sort Go.Proofs Go.Shelf Go.RowKit Go.Lib Go.Wd Go.Wire Go.Ex
theorem zdN {X:List Flw} {i:Nat} (h:i<X.length):(xU X).getD i []=[zB 1 (zG X[i].dem),zB 2 (pls X[i].pls),.bool X[i].sure]:=by simp[xU,uN,h]
theorem zpH {B:Nat} (L:List Dmd) (D:List Dcm) (X:List Flw): ∀(Q:List Plc),(∀p∈Q,(textsC L D p).length<=B)->(cureL L D X Q).length<=Q.length*B
 |[],_=>by simp[cureL]
 |p::Q,h=>by
  have h1:=zpH L D X Q fun q hq=>h q (Zy _ hq)
  have h2:=zdJ L D X p (textsC L D p);have h3:=h p (by simp);rw[cureL,Zq,Zo,YL];omega
theorem zye {L:List Dmd} {D:List Dcm} (hA:AskS L D) (h0:lookE L D=0) {p:Plc} (hp:isP D p=true): ∀t∈textsC L D p,vV t=true/\t.length<4294967281:=by
 have hG:=mN hA h0;intro t ht;have h1:=Yh.1 ((vE ltT _).mem_iff.1 (aZ.1 ht));refine⟨h1.2,?_⟩;rcases Yo.1 h1.1 with h|h
 ·have hin:=zdF hp
  have:=zdD (hG.docs _ hin.1).1 (hG.docs _ hin.1).2 hin.2 (zdE.1 h);omega
 ·have:=zdI hG (p:=p) hA.dm t h
  omega
theorem zyf {L:List Dmd} {D:List Dcm} (hA:AskS L D) (h0:lookE L D=0) {p:Plc} (hp:isP D p=true):(textsC L D p).length<=3204096:=by
 have hG:=mN hA h0;have h1:=fK (sortO ltT ((jW L D p).filter vV));rw[(vE ltT _).length_eq] at h1;have h2:=Yq vV (jW L D p);have h3:=zdH hG hG.ok.len p L;have h4:=zat (tH D p);have h5:=jV hG hp;have h6:=hA.l8;have h7:(jW L D p).length=(textsF (tH D p)).length+(wH D p (rdsD D 0) L).length:=Zq;have h8:textsC L D p=yL (sortO ltT ((jW L D p).filter vV)):=rfl;rw[h8];omega
theorem zpI {D:List Dcm} (h:GoodD D) {d:Dcm} (hd:d∈D):CopyD d:=by
 have ok:=uZ (h.docs d hd).1 (h.docs d hd).2;refine⟨by have:=ok.fs;omega,fun f hf=>?_,fun f hf w hw=>?_⟩
 ·have:=(ok.fld hf).ws;omega
 ·have:=(ok.fld hf).sp w hw;omega
theorem q22 (L:List Dmd) (D:List Dcm) (hA:AskS L D):Spec Tryz.prog 22 [lst 8 (L.map zU),lst 2 (D.map zJ)] (fun v=>v=.tup [lst 4 (pE (zav L D)),.int .i64 (lookE L D)]):=by
 refine Spec.of_awlP hf22 okf22 (by simp) fun S hS=>?_
 have g1:=c10 L D hA;have hfl:=zpr hA;unfold zav at hS;by_cases h0:lookE L D=0
 ·rw[if_pos h0,h0] at hS
  rw[h0] at g1;have hFP:=zdM hA h0;have hPI:=zyb hA h0;have hPL:=zyc hA h0;have hG:=mN hA h0;have h8:=hG.ok.len;have hU:curesC L D=cureL L D (flawsE L D) (plsX (flawsE L D)):=rfl;rw[hU] at hS;generalize flawsE L D=X at g1 hfl hFP hPI hPL hS;have hXl:=hfl.1;simp only[Qs,Zc,Za,zma];refine yQ g1 ?_ (ha:=by simp only[Zk,Zp,zC,V.norm,zM,zQ yK,zQ wK,C.norm]<;>rfl);simp only[show((0:Int) !=0)=false from rfl,qD,Qs,bne_iff_ne,ne_eq,Ze,Zc,Z9,Zn,Za];refine zR (fun x:Nat×Option Bool=>[(0,lst 8 (L.map zU)),(1,lst 2 (D.map zJ)),(6,lst 3 (xU X)),(8,.k (.own 8)),(33,lst 3 (xU X)),(34,.int .i64 X.length),(35,.int .i64 x.1)]) (fun x=>[(8,.arr 25 2 x.2 (pls (uP (X.take x.1))))]) (fun x=>x.1<=X.length) (fun x=>X.length-x.1) (0,some true) rfl rfl (ZC _) ?_;rintro⟨i,nl⟩ hi;simp only[] at hi;by_cases hlt:i<X.length
  ·have c1:(i:Int)<X.length:=by omega
   have c4:IntKind.i64.wrap ((i:Int)+1)=(i:Int)+1:=wrap_in (by omega) (by omega);have hat:=zdN hlt;have hsn:uP (X.take (i+1))=uP (X.take i)++X[i].pls:=by
    unfold uP;rw[ZD hlt,ZS,List.flatten_append];simp
   have hb1:=(hFP _ (Zv hlt)).1;have hb2:=hPL (X.take i) fun x hx=>Xf hx
   rw[Yl,YV (by omega)] at hb2;generalize X[i]=x at hat hsn hb1;have hap:pls (uP (X.take i))++pls x.pls=pls (uP (X.take (i+1))):=by rw[hsn];simp[pls]
   simp only[c1,hat,qD,Qs,bne_iff_ne,ne_eq,Ze,Zc,Zn,Zl,Za,gM];simp only[c4,tM,hap];exact⟨by omega,by omega,Next.intro (i+1,nlApp nl (pls x.pls)) rfl rfl (by simp only;omega) (by simp only;omega)⟩
  ·have c1: ¬(i:Int)<X.length:=by omega
   obtain rfl:i=X.length:=by omega
   rw[Yk];have hb3:=hPL X fun x hx=>hx
   simp only[c1,Qs,Za];have g75:=q75 8 (uP X) (by omega) fun p hp=>by
    obtain⟨a1,a2,a3,a4⟩:=pD.1 (hPI p hp);have:=(uZ (hG.docs _ (pC (D:=D) (d:=p.doc.toNat) (by omega))).1 (hG.docs _ (pC (D:=D) (d:=p.doc.toNat) (by omega))).2).fs;exact⟨a1,by omega,a3,by omega⟩
   have hsl:(sortO wW (uP X)).length=(uP X).length:=(vE wW _).length_eq;have g78:=c74 8 (sortO wW (uP X)) (by omega);refine aK (Q:=fun out=>out=sortO wW (uP X)) (encR:=wG) (pls (uP X)) (uP X) (g75.mono fun r o ⟨h1,h2⟩=>⟨h1,_,rfl,h2⟩) rfl (tN _) ?_;rintro out rfl;simp only[Qs,bne_iff_ne,ne_eq,Zn,Za];refine zn7 (pls (sortO wW (uP X))) g78 rfl (tN _) ?_;have hQ1:=zn6 (sortO wW (uP X));have hQ2: ∀p∈plsX X,isP D p=true:=fun p hp=>hPI p ((vE wW _).mem_iff.1 (zar.1 hp))
   have hQ3:uL (sortO wW (uP X))=plsX X:=rfl;rw[hQ3] at hQ1⊢;generalize plsX X=Q at hQ1 hQ2 hS⊢;simp only[tM,Qs,iV,iW,nT,Zn];have hTX: ∀p,isP D p=true->(textsC L D p).length<=3204096:=fun p hp=>zyf hA h0 hp
   have hTI: ∀p,isP D p=true-> ∀t∈textsC L D p,vV t=true/\t.length<4294967281:=fun p hp=>zye hA h0 hp
   have hcl: ∀k,k<=Q.length->(cureL L D X (Q.take k)).length<=k*3204096:=fun k hk=>by
    have:=zpH (B:=3204096) L D X (Q.take k) fun p hp=>hTX p (hQ2 p (Xf hp))
    rwa [Yl,YV hk] at this
   refine zR (fun x:Nat×Option Bool×List (List C)=>[(0,lst 8 (L.map zU)),(1,lst 2 (D.map zJ)),(6,lst 3 (xU X)),(11,.k (.own 11)),(47,.k (.own 8)),(48,.int .i64 Q.length),(49,.int .i64 x.1)]) (fun x=>[(8,.arr 25 2 none (pls Q)),(11,.arr 60 4 x.2.1 x.2.2)]) (fun x=>x.1<=Q.length/\C.normRows x.2.2=pE (cureL L D X (Q.take x.1))) (fun x=>Q.length-x.1) (0,some true,[]) rfl rfl ⟨ZC _,rfl⟩ ?_;rintro⟨k,nk,R⟩ ⟨hk,hR⟩;simp only[] at hk hR;by_cases hkt:k<Q.length
   ·have d1:(k:Int)<Q.length:=by omega
    have d4:IntKind.i64.wrap ((k:Int)+1)=(k:Int)+1:=wrap_in (by omega) (by omega);have hat:=zds hkt;have hp:=hQ2 _ (Zv hkt);have hsn:cureL L D X (Q.take (k+1))=cureL L D X (Q.take k)++cureT L D X Q[k] (textsC L D Q[k]):=by
     rw[ZD hkt,zpG,cureL,cureL,Ze]
    have hcl1:=hcl k hk;generalize Q[k]=p at hat hp hsn;have g15:=q15 L D p hA h0;unfold fQ at g15;rw[if_pos hp,if_pos hp] at g15;have hT1:=hTX p hp;have hT2:=hTI p hp;generalize textsC L D p=T at g15 hT1 hT2 hsn;generalize cureL L D X (Q.take k)=A at hR hsn hcl1;unfold wG at g15;simp only[d1,hat,tM,Qs,cI,cJ,cK,cL,bne_iff_ne,ne_eq,Ze,Zc,Zn,Za,zka];refine yQ g15 ?_ (ha:=by simp only[Zk,Zp,zC,V.norm,zM,zQ yK,zQ wK,C.norm,C.normRow]<;>rfl);simp only[show((0:Int) !=0)=false from rfl,zS,Qs,Ze,Zc,Z9,Za];have hkB:(k+1)*3204096<=768000*3204096:=ZZ 3204096 (by omega);rw[YL] at hkB;refine zR (fun x:Nat×Option Bool×List (List C)=>[(0,lst 8 (L.map zU)),(1,lst 2 (D.map zJ)),(6,lst 3 (xU X)),(11,.k (.own 11)),(13,.k (.c (.ro [.int .i64 p.doc,.int .i64 p.fld] 0))),(47,.k (.own 8)),(48,.int .i64 Q.length),(49,.int .i64 k),(63,lst 1 (zF T)),(64,.int .i64 T.length),(65,.int .i64 x.1)]) (fun x=>[(8,.arr 25 2 none (pls Q)),(11,.arr 60 4 x.2.1 x.2.2)]) (fun x=>x.1<=T.length/\C.normRows x.2.2=pE (A++cureT L D X p (T.take x.1))) (fun x=>T.length-x.1) (0,nk,R) rfl rfl ⟨ZC _,by rw[List.take_zero,cureT,Ze];exact hR⟩ ?_;rintro⟨j,nj,R2⟩ ⟨hj,hR2⟩;simp only[] at hj hR2;by_cases hjt:j<T.length
    ·have e1:(j:Int)<T.length:=by omega
     have e4:IntKind.i64.wrap ((j:Int)+1)=(j:Int)+1:=wrap_in (by omega) (by omega);have hat2:=uI hjt;obtain⟨hi1,hi2⟩:=hT2 _ (Zv hjt);have hsn2:cureT L D X p (T.take (j+1))=cureT L D X p (T.take j)++if (sJ X (fS L D p T[j]) X.length).length>0 then[⟨p,T[j],sJ X (fS L D p T[j]) X.length⟩] else[]:=by
      rw[ZD hjt,zpF,cureT,cureT,Ze]
     have hcl2:=zdJ L D X p (T.take j);rw[Yl,YV hj] at hcl2;generalize cureT L D X p (T.take j)=A2 at hR2 hsn2 hcl2;generalize T[j]=t at hat2 hi1 hi2 hsn2;have g20:=q20 D p t (fun d hd=>(hG.docs d hd).1) (fun d hd=>zpI hG hd) hi2 (by omega);obtain⟨f1,f2,f3⟩:=zyd hA h0 hp hi1;rw[f1] at g20;have g47:=q47 L (corD D p t) f2 f3.c;have hF1:=zaj L (corD D p t);have hF2:=zdr L (corD D p t);have hF3:=f3.ok.le;have hl8:=hA.l8;have hfe:fS L D p t=(failC L (corD D p t)).map natI:=rfl;rw[hfe] at hsn2;rw[fL] at g47;have hFl:((failC L (corD D p t)).map natI).length<=1000000:=by rw[Zg];omega
     have hFs: ∀s∈(failC L (corD D p t)).map natI,s.length<=1000000:=fun s hs=>by
      obtain⟨y,hy,rfl⟩:=ZH.1 hs;rw[wX];have:=hF2 y hy;omega
     generalize (failC L (corD D p t)).map natI=F at g47 hFl hFs hsn2;generalize corD D p t=D2 at g20 g47;unfold wG at g20;simp only[e1,hat2,zS,Qs,Zc,Za];refine yQ g20 ?_ (ha:=by simp only[Zk,Zp,zC,V.norm,zM,zQ yK,C.norm,C.normRow]<;>rfl);simp only[Qs,Ze,Zc,Z9,Za];refine yQ g47 ?_ (ha:=by simp only[Zk,Zp,zC,V.norm,zM,zQ yK,zQ wK,C.norm,C.normRow]<;>rfl);simp only[qD,Qs,bne_iff_ne,ne_eq,Ze,Zc,Zn,Zl,Za,zb2,zb3,zrH];refine zR (fun x:Nat×Option Bool=>[(0,lst 8 (L.map zU)),(1,lst 2 (D.map zJ)),(6,lst 3 (xU X)),(11,.k (.own 11)),(13,.k (.c (.ro [.int .i64 p.doc,.int .i64 p.fld] 0))),(20,lst 1 (vU F)),(21,.k (.ptr 21 0)),(47,.k (.own 8)),(48,.int .i64 Q.length),(49,.int .i64 k),(63,lst 1 (zF T)),(64,.int .i64 T.length),(65,.int .i64 j),(82,lst 3 (xU X)),(83,.int .i64 X.length),(84,.int .i64 x.1)]) (fun x=>[(8,.arr 25 2 none (pls Q)),(11,.arr 60 4 nj R2),(21,.var 60 [.c (.int .i64 p.doc),.c (.int .i64 p.fld),.c (.str t),.own 22021]),(22021,.arr 3 1 x.2 (zG (sJ X F x.1)))]) (fun x=>x.1<=X.length) (fun x=>X.length-x.1) (0,some true) rfl rfl (ZC _) ?_;rintro⟨m,nm⟩ hm;simp only[] at hm;by_cases hmt:m<X.length
     ·have m1:(m:Int)<X.length:=by omega
      have m4:IntKind.i64.wrap ((m:Int)+1)=(m:Int)+1:=wrap_in (by omega) (by omega);have hat3:=zdN hmt;have hsn3:=zx8 X F m;have hci:=zx9 X F m;have e0:X.getD m zdq=X[m]:=by simp[hmt]
      rw[e0] at hsn3;have hd8:=hfl.2 _ (Zv hmt);generalize X[m]=x at hat3 hsn3 hd8;have g79:=q79 x F (by omega) hFl hFs;generalize curedI x F=cb at g79 hsn3;unfold uN at g79;simp only[m1,hat3,qD,Qs,bne_iff_ne,ne_eq,Ze,Zc,Zn,Za];refine zI g79 ?_ (ha:=by simp only[Zk,Zp,zC,V.norm,zM,C.norm,C.normRow,fJ,yR,tN]<;>rfl);cases cb with
      |true=>
       have hap:zG (sJ X F m)++[[C.int .i64 (m:Int)]]=zG (sJ X F (m+1)):=by rw[hsn3];simp[zG]
       simp only[m4,yJ,hap,Qs,pM,gA,gB,forall_eq,bne_iff_ne,ne_eq,Ze,ZJ,Zc,Zn,Zl,Z5,Za,Zt];exact⟨by omega,by omega,Next.intro (m+1,some false) rfl rfl (by simp only;omega) (by simp only;omega)⟩
      |false=>
       simp only[m4,Qs,Za];rw[if_neg (by decide),Ze] at hsn3;exact Next.intro (m+1,nm) rfl (by simp only[hsn3];rfl) (by simp only;omega) (by simp only;omega)
     ·obtain rfl:m=X.length:=by omega
      have m1: ¬(X.length:Int)<X.length:=by omega
      simp only[m1,yJ,e4,Qs,zrW,gA,gB,forall_eq,bne_iff_ne,ne_eq,ZJ,Zc,Zn,Zl,Z5,Za,Zt,nU,gF];have hR2l:R2.length<=k*3204096+j:=by
       have:=congrArg List.length hR2;rw[zdx,zx5,Zq] at this;omega
      refine⟨fun hc=>⟨by omega,by omega,Next.intro (j+1,some false,R2++[[C.int .i64 p.doc,C.int .i64 p.fld,C.str t,C.list 1 nm (zG (sJ X F X.length))]]) rfl rfl ⟨by simp only[];omega,?_⟩ (by simp only[];omega)⟩,fun hc=>Next.intro (j+1,nj,R2) rfl rfl ⟨by simp only[];omega,?_⟩ (by simp only[];omega)⟩
      ·rw[if_pos (by omega)] at hsn2
       show C.normRows (R2++_)=_;rw[hsn2,jU,hR2,<-Z3];unfold pE;rw[ZS (l₂:=[_])];have hne:(zG (sJ X F X.length)).isEmpty=false:=by
        cases hq:sJ X F X.length with
        |nil=>rw[hq] at hc;simp at hc
        |cons=>rfl
       simp only[C.normRow,C.norm,yR,hne,List.append_cancel_left_eq];simp only[Zk,Zp,fR,zB,hne]
      ·rw[if_neg (by omega),Ze] at hsn2
       show C.normRows R2=_;rw[hsn2];exact hR2
    ·obtain rfl:j=T.length:=by omega
     have e1: ¬(T.length:Int)<T.length:=by omega
     rw[Yk,<-hsn] at hR2;simp only[e1,d4,Qs,Zn,Za];exact Next.intro (k+1,nj,R2) rfl rfl ⟨by simp only[];omega,hR2⟩ (by simp only[];omega)
   ·obtain rfl:k=Q.length:=by omega
    have d1: ¬(Q.length:Int)<Q.length:=by omega
    rw[Yk] at hR;simp only[d1,Qs,Ze,ZK,Za,Zt];rw[hR];refine hS _ ?_;have e1:=zx7 (cureL L D X Q);simp only[V.fz,V.fzL,V.nrm,V.nrmL,e1,uK e1];rfl
 ·rw[if_neg h0] at hS
  have e0:flawsE L D=[]:=by unfold flawsE;rw[if_neg h0]
  rw[e0] at g1;generalize lookE L D=E at g1 hS h0;have b:(E !=0)=true:=by simpa using h0
  simp only[Qs,Zc,Za,zma];refine yQ g1 ?_ (ha:=by simp only[Zk,Zp,zC,V.norm,zM,zQ yK,zQ wK,C.norm]<;>rfl);simp only[b,Qs,BEq.rfl,Ze,ZK,Zc,Z9,Za,Zt];exact hS _ rfl
end Go.Abs
namespace Go.Ex
open Go.Lib Go.Wd Go.Wire Go.Abs Go.Proofs
def exT:List Txt:=[[49,48,48],[49,53,48],[53,48],[54,48,48],[55,48,48],[56,48,48]]
def exP:Plc:=⟨0,0⟩
def exC:List Cur:=[⟨exP,[49,48,48],[2]⟩,⟨exP,[49,53,48],[2]⟩,⟨exP,[53,48],[2]⟩,⟨exP,[54,48,48],[3]⟩,⟨exP,[55,48,48],[3]⟩,⟨exP,[56,48,48],[3]⟩]
def exD:List Dcm:=[⟨mJ,[⟨jT,[[[49,53,48]]]⟩,⟨zao,[[zap]]⟩]⟩]
def exM:Dmd:=⟨2,mJ,jT,[],[],[],50,150⟩
theorem lY:AskS xmL xmD:=(zda (by intro m hm;simp[xmL] at hm;rcases hm with rfl|rfl|rfl|rfl<;>constructor<;>decide) (by kernel_rfl)).1
theorem zyg:AskS [exM] exD:=(zda (by intro m hm;simp at hm;subst hm;constructor<;>decide) (by kernel_rfl)).1
theorem zyh:zai xmL xmD=[0,1,3]:=by kernel_rfl
theorem zyi:fN xmL xmD=[[0,3],[1,3]]:=by kernel_rfl
theorem lZ:lookE xmL xmD=0:=by kernel_rfl
theorem zpJ:isP xmD exP=true:=by kernel_rfl
theorem zyj:corD xmD exP [49,53,48]=exD:=by kernel_rfl
theorem zyk:qI xmD exP [49,53,48]=0:=by kernel_rfl
theorem zyl:zc8 [exM] exD=1:=by kernel_rfl
theorem zym:lookE [exM] exD=0:=by kernel_rfl
theorem it1:itoa 50=[53,48]:=by show decDigits 50=_;rw[decDigits,decDigits];rfl
theorem it2:itoa 150=[49,53,48]:=by show decDigits 150=_;rw[decDigits,decDigits,decDigits];rfl
theorem it3:itoa 600=[54,48,48]:=by show decDigits 600=_;rw[decDigits,decDigits,decDigits];rfl
theorem it4:itoa 800=[56,48,48]:=by show decDigits 800=_;rw[decDigits,decDigits,decDigits];rfl
theorem zyn:wH xmD exP (rdsD xmD 0) xmL=[[53,48],[49,53,48],[54,48,48],[56,48,48]]:=by
 have l0:exP∈looksP exM (rdsD xmD 0):=by decide+kernel
 have l1:exP∈looksP ⟨2,mJ,jT,[],[],[],600,800⟩ (rdsD xmD 0):=by decide+kernel
 have l2: ¬exP∈looksP ⟨1,mJ,zao,[],[],zap,0,0⟩ (rdsD xmD 0):=by decide+kernel
 have l3: ¬exP∈looksP ⟨0,[112,97,99,107,105,110,103],[],[],[],[],0,0⟩ (rdsD xmD 0):=by decide+kernel
 unfold exM at l0;unfold xmL;rw[wH,if_pos l0,wH,if_pos l1,wH,if_neg l2,wH,if_neg l3,wH];unfold propP;rw[if_neg (by decide),if_pos (by decide),if_neg (by decide),if_pos (by decide),it1,it2,it3,it4];rfl
theorem zpK:textsC xmL xmD exP=exT:=by
 unfold textsC jW;rw[zyn]
 kernel_rfl
theorem zyo:fQ xmL xmD exP=exT:=by
 unfold fQ;rw[if_pos zpJ,zpK]
theorem zyp:plsX (flawsE xmL xmD)=[exP]:=by kernel_rfl
theorem zyq:zav xmL xmD=exC:=by
 unfold zav curesC;rw[if_pos lZ,zyp,cureL,cureL,zpK]
 kernel_rfl
end Go.Ex
namespace Go.Abs
open Go.Proofs Go.RowKit Go.Lib Go.Wd Go.Wire Go.Ex
theorem q41:Spec Tryz.prog 41 [] (fun v=>v=lst 8 (xmL.map zU)):=by
 refine Spec.of_awlP hf41 okf41 (by simp) fun S hS=>?_
 simp only[Qs,gE,kZ,reduceCtorEq,forall_eq_or_imp,forall_eq,bne_iff_ne,ne_eq,Ze,ZJ,ZK,Zc,Zl,Z5,Za,Zt,ztf];refine hS _ ?_;rfl
theorem q42:Spec Tryz.prog 42 [] (fun v=>v=lst 2 (xmD.map zJ)):=by
 refine Spec.of_awlP hf42 okf42 (by simp) fun S hS=>?_
 simp only[lW,mM,lU,lV,mK,mL,Qs,gE,kZ,zb0,reduceCtorEq,forall_eq_or_imp,forall_eq,bne_iff_ne,ne_eq,Ze,ZJ,ZK,Zc,Zl,Z5,Za,Nat.zero_ne_one,Zt,nU,zte];refine hS _ ?_;rfl
theorem q9:Spec Tryz.prog 9 [] (fun v=>v=.bool true):=by
 refine Spec.of_awlS hf9 okf9 (by simp) fun S hS=>?_
 have g11:=q11 xmL xmD lY;have g13:=q13 xmL xmD lY;have g15:=q15 xmL xmD exP lY lZ;have g22:=q22 xmL xmD lY;have hD:=lY.dc;have g20:=q20 xmD exP [49,53,48] (fun d hd=>((mN lY lZ).docs d hd).1) (fun d hd=>zpI (mN lY lZ) hd) (by decide) (by decide);have g31:=c12 [exM] exD zyg;rw[zyh,lZ] at g11;rw[zyi,lZ] at g13;rw[zyo,zpJ,if_pos rfl] at g15;rw[zyq,lZ] at g22;rw[zyj,zyk] at g20;rw[zyl,zym] at g31;unfold wG at g15 g20;simp only[Qs,yf9];refine yQ q41 ?_;simp only[Qs];refine yQ q42 ?_;simp only[Qs,Ze,Zc,Za];have hr1:List.drop 0 (List.take 1 (List.map zU xmL))=List.map zU [exM]:=rfl;have hr2:List.take 1 (List.map zU xmL)=List.map zU [exM]:=rfl;refine yQ g11 ?_ (ha:=by simp only[Zk,Zp,zC,V.norm,zM,uX,zQ yK,zQ wK,C.norm]<;>rfl);simp only[Qs,Ze,Zc,Z9,Za];refine yQ g13 ?_ (ha:=by simp only[Zk,Zp,zC,V.norm,zM,uX,zQ yK,zQ wK,C.norm]<;>rfl);simp only[Qs,Ze,Zc,Z9,Za];refine yQ g15 ?_ (ha:=by simp only[Zk,Zp,zC,V.norm,zM,uX,zQ yK,zQ wK,C.norm]<;>rfl);simp only[Qs,Ze,Zc,Z9,Za];refine yQ g22 ?_ (ha:=by simp only[Zk,Zp,zC,V.norm,zM,uX,zQ yK,zQ wK,C.norm]<;>rfl);simp only[Qs,Ze,Zc,Z9,Za];refine yQ g20 ?_ (ha:=by simp only[Zk,Zp,zC,V.norm,zM,uX,zQ yK,zQ wK,C.norm]<;>rfl);simp only[hr1,hr2,Qs,cB,iX,iY,gC,gD,jA,Ze,Zc,Z9,Za,gK,gL,Zg,YQ,Int.reduceToNat];refine⟨by decide,?_⟩;refine zI g31 ?_ (ha:=by rfl);have hc:((pE exC).length:Int)=6:=rfl;have n1:natI [0,1,3]=[0,1,3]:=rfl;have g17:=q17 [0,1,3] [0,1,3] (by decide) (by decide);have g18:=q18 [[0,3],[1,3]] [[0,3],[1,3]] (by decide) (by decide) (by decide);have g19:=q19 exT (by decide);have g2:=q17 [2] [2] (by decide) (by decide);have g3:=q17 [3] [3] (by decide) (by decide);rw[decide_eq_true rfl] at g17 g18 g2 g3;have h1:(pE exC).getD 1 []=[.int .i64 0,.int .i64 0,.str [49,53,48],zB 1 (zG [2])]:=rfl;have h5:(pE exC).getD 5 []=[.int .i64 0,.int .i64 0,.str [56,48,48],zB 1 (zG [3])]:=rfl;simp only[n1,hc,h1,h5,lW,mM,lU,lV,mK,mL,Qs,kZ,forall_eq_or_imp,forall_eq,ZJ,Z5,Za,Xa,Zt];refine zI g17 ?_ (ha:=by rfl);simp only[n1,hc,h1,h5,lW,mM,lU,lV,mK,mL,Qs,dY,lE,kZ,forall_eq_or_imp,forall_eq,bne_iff_ne,ne_eq,ZJ,Zn,Z5,Za,Zt,zsd,jB,nU];refine zI g18 ?_ (ha:=by rfl);simp only[n1,hc,h1,h5,lW,mM,lU,lV,mK,mL,Qs,dY,lE,kZ,forall_eq_or_imp,forall_eq,bne_iff_ne,ne_eq,ZJ,Zn,Z5,Za,Zt];refine zI g19 ?_ (ha:=by rfl);simp only[n1,hc,h1,h5,lW,mM,lU,lV,mK,mL,Qs,dY,lE,forall_eq,bne_iff_ne,ne_eq,BEq.rfl,ZJ,Zc,Zn,Zl,Z5,Za,Int.reduceLT,YQ,Int.reduceToNat,Zt];refine zI g2 ?_ (ha:=by rfl);simp only[n1,hc,h1,h5,lW,mM,lU,lV,mK,mL,Qs,dY,lE,forall_eq,bne_iff_ne,ne_eq,BEq.rfl,ZJ,Zc,Zn,Zl,Z5,Za,Int.reduceLT,YQ,Int.reduceToNat,Zt];refine zI g3 ?_ (ha:=by rfl);simp only[n1,hc,h1,h5,lW,mM,lU,lV,mK,mL,Qs,gE,zb0,Za];exact hS
end Go.Abs
namespace Go.Ex
open Go.Lib Go.Wd Go.Wire Go.Abs
theorem zpN {S:List Nat} {k:Nat}:((k:Nat):Int)∈natI S ↔ k∈S:=by
 unfold natI;rw[ZH];exact⟨fun⟨a,h1,h2⟩=>by rw[<-Int.ofNat_inj.1 h2];exact h1,fun h=>⟨k,h,rfl⟩⟩
end Go.Ex
namespace Go.Abs
open Go.Proofs Go.RowKit Go.Lib Go.Wd Go.Wire Go.Ex
theorem zzr {keep:Nat->Bool} {l:List Dmd} {i:Nat} (h:i<l.length):zyQ keep (l.drop i) i=if keep i=true then l[i]::zyQ keep (l.drop (i+1)) (i+1) else zyQ keep (l.drop (i+1)) (i+1):=by
 rw[ZE h,zyQ]
end Go.Abs
namespace Go.Ex
open Go.Lib Go.Wd Go.Wire Go.Abs Go.Proofs
theorem zzs {keep:Nat->Bool} {L:List Dmd} {i:Nat} {m:Dmd} (h:m∈zyQ keep L i):m∈L:=by
 obtain⟨k,h1,_,h3⟩:=zyX.1 h;rw[<-h3,Zi,Zf h1];exact Zv h1
theorem zza {keep:Nat->Bool}: ∀(L:List Dmd) (i:Nat),(zyQ keep L i).length<=L.length
 |[],_=>Zw _
 |m::L,i=>by
  have:=zza (keep:=keep) L (i+1);rw[zyQ];split
  ·rw[Zo,Zo];omega
  ·rw[Zo];omega
end Go.Ex
namespace Go.Abs
open Go.Proofs Go.RowKit Go.Lib Go.Wd Go.Wire Go.Ex
end Go.Abs
namespace Go.Ex
open Go.Lib Go.Wd Go.Wire Go.Abs
theorem zy0 {L:List Dmd} {D:List Dcm} {X:List Flw} {p:Plc} {c:Cur}: ∀{l:List Txt},c∈cureT L D X p l ↔ ∃t∈l,c=⟨p,t,sJ X (fS L D p t) X.length⟩/\0<(sJ X (fS L D p t) X.length).length
 |[]=>by simp[cureT]
 |t::l=>by
  rw[cureT,Yo,zy0 (l:=l)];constructor
  ·rintro(h|⟨u,h1,h2⟩)
   ·split at h
    ·rename_i q
     rw[ZT] at h;exact⟨t,by simp,h,q⟩
    ·cases h
   ·exact⟨u,Zy _ h1,h2⟩
  ·rintro⟨u,h1,h2,h3⟩
   rcases ZJ.1 h1 with rfl|h1
   ·exact .inl (by rw[if_pos h3];exact ZT.2 h2)
   ·exact .inr ⟨u,h1,h2,h3⟩
theorem zy1 {L:List Dmd} {D:List Dcm} {X:List Flw} {c:Cur}: ∀{Q:List Plc},c∈cureL L D X Q ↔ ∃p∈Q,c∈cureT L D X p (textsC L D p)
 |[]=>by simp[cureL]
 |p::Q=>by rw[cureL,Yo,zy1 (Q:=Q)];simp
def namedX (X:List Flw) (p:Plc):Bool:=X.any fun x=>decide (p∈x.pls)
theorem zzb {X:List Flw} {p:Plc}:p∈plsX X ↔ namedX X p=true:=by
 unfold plsX namedX uP;rw[zar,(vE wW _).mem_iff,Yt,XA];constructor
 ·rintro⟨l,hl,hp⟩
  obtain⟨x,hx,rfl⟩:=ZH.1 hl;exact⟨x,hx,decide_eq_true hp⟩
 ·rintro⟨x,hx,hp⟩
  exact⟨_,ZH.2 ⟨x,hx,rfl⟩,of_decide_eq_true hp⟩
theorem zzt {X:List Flw} {F:List (List Int)} {n k:Nat}:(k:Int)∈sJ X F n ↔ k<n/\curedI (X.getD k zdq) F=true:=by
 unfold sJ;rw[ZH];constructor
 ·rintro⟨i,hi,e⟩
  obtain rfl:i=k:=by omega
  obtain⟨h1,h2⟩:=Yh.1 hi;exact⟨Z2.1 h1,h2⟩
 ·rintro⟨h1,h2⟩
  exact⟨k,Yh.2 ⟨Z2.2 h1,h2⟩,rfl⟩
theorem zzu (c s:List Nat):meetsI (natI c) (natI s)=zyU c s:=by
 have e:(fun k=>decide (k∈natI s))∘(fun(k:Nat)=>(k:Int))=fun k=>decide (k∈s):=by
  funext k;by_cases h:k∈s
  ·exact(decide_eq_true (zpN.2 h)).trans (decide_eq_true h).symm
  ·exact(decide_eq_false fun q=>h (zpN.1 q)).trans (decide_eq_false h).symm
 unfold meetsI zyU;unfold natI at e⊢;rw[XY,e]
theorem zzv (c:List Nat) (ps:List Plc) (b:Bool) (F:List (List Nat)):curedI ⟨natI c,ps,b⟩ (F.map natI)=zyY b c F:=by
 have e:meetsI (natI c)∘natI=zyU c:=funext fun s=>zzu c s
 show(if b=true then(F.map natI).any (meetsI (natI c)) else(F.map natI).all (meetsI (natI c)))=zyY b c F;rw[XY,Y4,e];rfl
theorem zzc {L:List Dmd} {D:List Dcm} (hA:AskS L D) (h0:lookE L D=0) (w:List Nat):AskS (onlyD L w) D/\lookE (onlyD L w) D=0:=by
 have hl:=zza (keep:=fun k=>decide (k∈w)) L 0;have hm: ∀m∈onlyD L w,m∈L:=fun m h=>zzs h
 have h8:=hA.l8;refine⟨⟨ZX hl h8,fun m h=>hA.dm m (hm m h),hA.dc,hA.rd⟩,?_⟩;unfold lookE at h0⊢;split at h0
 ·rename_i hf
  rw[if_pos ?_]
  ·exact h0
  ·unfold sS at hf⊢
   rw[Yp,Zr,decide_eq_true_eq,decide_eq_true_eq,ZA] at hf⊢;rcases hf with rfl|⟨_,hf⟩
   ·exact .inl rfl
   ·exact .inr ⟨by unfold onlyD;omega,fun m h=>hf m (hm m h)⟩
 ·cases h0
theorem zzw {L:List Dmd} {D E:List Dcm} (h0:lookE L D=0) (h:(cnts E).2.2=0):lookE L E=0:=by
 unfold lookE at h0⊢;split at h0
 ·rename_i hf;rw[if_pos hf];exact h
 ·cases h0
def zy2 (L:List Dmd) (D:List Dcm) (c:List Nat) (b:Bool):Bool:=decide (stateV (viewD (onlyD L c) D)=1)||(b&&decide (stateV (viewD (onlyD L c) D)=2))
theorem zzx {L:List Dmd} {D:List Dcm} (hA:AskS L D) (h0:lookE L D=0) (c:List Nat) (ps:List Plc) (b:Bool):curedI ⟨natI c,ps,b⟩ ((failC L D).map natI)=zy2 L D c b:=
 (zzv c ps b _).trans (zzq hA.l8 c b (zah (zzc hA h0 c).1 (qG h0)))
end Go.Ex
namespace Go.Abs
open Go.Proofs Go.RowKit Go.Lib Go.Wd Go.Wire Go.Ex
theorem zzy {R:List Cur} {i:Nat} (h:i<R.length):(pE R).getD i []=[.int .i64 R[i].pl.doc,.int .i64 R[i].pl.fld,.str R[i].tx,zB 1 (zG R[i].ix)]:=by simp[pE,fR,h]
theorem q33 (X:List Flw) (p:Plc) (hX:X.length<=1000000) (hd: ∀x∈X,x.pls.length<=1000000):Spec Tryz.prog 33 [lst 3 (xU X),.agg (wG p)] (fun v=>v=.bool (namedX X p)):=by
 refine Spec.of_awlS hf33 okf33 (by simp) fun S hS=>?_
 unfold wG;simp only[Qs,Zc,Za,zze];refine zR (fun i:Nat=>[(0,lst 3 (xU X)),(3,.k (.c (.ro [.int .i64 p.doc,.int .i64 p.fld] 0))),(5,.int .i64 i)]) (fun _=>[]) (fun i=>i<=X.length/\namedX (X.drop i) p=namedX X p) (fun i=>X.length-i) 0 rfl rfl ⟨ZC _,by simp⟩ ?_;rintro i ⟨hi,hD⟩;by_cases hlt:i<X.length
 ·have c1:(i:Int)<X.length:=by omega
  have c4:IntKind.i64.wrap ((i:Int)+1)=(i:Int)+1:=wrap_in (by omega) (by omega);have hat:=zdN hlt;rw[ZE hlt] at hD;have hdl:=hd _ (Zv hlt);generalize X[i]=x at hat hD hdl;have hs:namedX (x::X.drop (i+1)) p=(decide (p∈x.pls)||namedX (X.drop (i+1)) p):=rfl;rw[hs] at hD;simp only[c1,qD,hat,Qs,Za];refine zR (fun k:Nat=>[(0,lst 3 (xU X)),(3,.k (.c (.ro [.int .i64 p.doc,.int .i64 p.fld] 0))),(5,.int .i64 i),(6,.int .i64 k)]) (fun _=>[]) (fun k=>k<=x.pls.length/\decide (p∈x.pls.drop k)=decide (p∈x.pls)) (fun k=>x.pls.length-k) 0 rfl rfl ⟨ZC _,by simp⟩ ?_;rintro k ⟨hk,hb⟩;by_cases hkt:k<x.pls.length
  ·have d1:(k:Int)<x.pls.length:=by omega
   have d4:IntKind.i64.wrap ((k:Int)+1)=(k:Int)+1:=wrap_in (by omega) (by omega);have hat2:=zds hkt;rw[ZE hkt] at hb;generalize x.pls[k]=y at hat2 hb;by_cases hp:y=p
   ·rw[hp,decide_eq_true (Yj ..)] at hb
    rw[<-hb,XC] at hD;rw[<-hD] at hS;subst hp;simp only[c1,d1,qD,tM,hat,hat2,Qs,zgC,cC,cD,cE,cF,cG,BEq.rfl,Zc,Zl,Za,YG];exact hS
   ·have hb2:(y.doc==p.doc&&y.fld==p.fld)=false:=by
     rw[Y0,ne_eq,Zr,beq_iff_eq,beq_iff_eq];intro h;cases y;cases p;simp only[] at h;exact hp (by rw[h.1,h.2])
    simp only[c1,d1,d4,qD,tM,hat,hat2,hb2,Qs,zgC,cC,cD,cE,cF,cG,Zc,Zl,Za,YG];exact Next.intro (k+1) rfl rfl ⟨by omega,by rw[<-hb];simp[Ne.symm hp]⟩ (by omega)
  ·have d1: ¬(k:Int)<x.pls.length:=by omega
   rw[ZB (by omega),decide_eq_false (by simp)] at hb;rw[<-hb,YC] at hD;simp only[c1,d1,c4,qD,tM,hat,Qs,reduceCtorEq,Zc,Zl,Za];exact Next.intro (i+1) rfl rfl ⟨by omega,hD⟩ (by omega)
 ·have c1: ¬(i:Int)<X.length:=by omega
  rw[ZB (by omega)] at hD;have hD:false=namedX X p:=hD;rw[<-hD] at hS;simp only[c1,qD,Qs,Za];exact hS
theorem q87 (L:List Dmd) (w:List Nat) (hL:L.length<=1000000) (hw:w.length<=1000000):Spec Tryz.prog 87 [lst 8 (L.map zU),lst 1 (zG (natI w))] (fun v=>v=lst 8 ((onlyD L w).map zU)):=by
 refine Spec.of_awlP hf87 okf87 (by simp) fun S hS=>?_
 unfold onlyD at hS;simp only[Qs,bne_iff_ne,ne_eq,Zc,Zn,Za,zzf];refine zR (fun x:Nat×Option Bool×List Dmd=>[(0,lst 8 (L.map zU)),(1,lst 1 (zG (natI w))),(5,.k (.own 5)),(6,.int .i64 x.1)]) (fun x=>[(5,.arr 96 8 x.2.1 (x.2.2.map zU))]) (fun x=>x.1<=L.length/\x.2.2.length<=x.1/\x.2.2++zyQ (fun k=>decide (k∈w)) (L.drop x.1) x.1=zyQ (fun k=>decide (k∈w)) L 0) (fun x=>L.length-x.1) (0,some true,[]) rfl rfl ⟨ZC _,Zw _,rfl⟩ ?_;rintro⟨i,nl,acc⟩ ⟨hi,hal,hD⟩;simp only[] at hi hal hD;by_cases hlt:i<L.length
 ·have c1:(i:Int)<L.length:=by omega
  have c4:IntKind.i64.wrap ((i:Int)+1)=(i:Int)+1:=wrap_in (by omega) (by omega);have hat:=aG hlt;have e0:L.getD i wM=L[i]:=by simp[hlt]
  rw[e0] at hat;rw[zzr hlt] at hD;have g:=q34 (natI w) i (by rw[wX];exact hw);have hmw:decide ((i:Int)∈natI w)=decide (i∈w):=by
   by_cases h:i∈w
   ·rw[decide_eq_true h,decide_eq_true (zpN.2 h)]
   ·rw[decide_eq_false h,decide_eq_false fun q=>h (zpN.1 q)]
  rw[hmw] at g;generalize L[i]=m at hat hD;generalize decide (i∈w)=b at g hD;simp only[c1,zL,Qs,Za,Zg];refine zI g ?_ (ha:=by simp only[Zk,Zp,zC,V.norm,zM,C.norm,yR]<;>rfl);cases b with
  |false=>
   rw[if_neg (by decide)] at hD;simp only[c4,Qs,Za];exact Next.intro (i+1,nl,acc) rfl rfl ⟨by simp only[];omega,by simp only[];omega,hD⟩ (by simp only[];omega)
  |true=>
   rw[if_pos (by decide)] at hD;have hap:acc.map zU++[[C.int .i64 m.op,.str m.doc,.str m.fld,.str m.oth,.str m.sec,.str m.txt,.int .i64 m.lo,.int .i64 m.hi]]=(acc++[m]).map zU:=by simp[zU]
   simp only[c1,zL,hat,c4,hap,Qs,forall_eq,bne_iff_ne,ne_eq,ZJ,Zc,Zn,Zl,Z5,Za,Zg,Zt];exact⟨by omega,by omega,Next.intro (i+1,some false,acc++[m]) rfl rfl ⟨by simp only[];omega,by simp only[Zq,Zo,ZF];omega,by rw[Z3];exact hD⟩ (by simp only[];omega)⟩
 ·have c1: ¬(i:Int)<L.length:=by omega
  rw[ZB (by omega),zyQ,Ze] at hD;rw[<-hD] at hS;simp only[c1,zL,Qs,ZK,Za,Zg,Zt];refine hS _ ?_;have e1:=zQ wK acc;simp only[V.fz,V.nrm,e1,uK e1]
theorem q35 (L:List Dmd) (D:List Dcm) (hA:AskS L D) (h0:lookE L D=0) (c:List Nat) (ps:List Plc) (b:Bool) (hc:c.length<=1000000):Spec Tryz.prog 35 [lst 8 (L.map zU),lst 2 (D.map zJ),.agg (uN ⟨natI c,ps,b⟩)] (fun v=>v=.bool (zy2 L D c b)):=by
 refine Spec.of_awlS hf35 okf35 (by simp) fun S hS=>?_
 obtain⟨a1,a2⟩:=zzc hA h0 c;have g1:=q87 L c (by have:=hA.l8;omega) hc;have g2:=c12 _ D a1;unfold zc8 at g2;rw[a2,if_pos rfl] at g2;unfold zy2 at hS;unfold uN;generalize stateV (viewD (onlyD L c) D)=s at g2 hS;generalize onlyD L c=M at g1 g2;simp only[Qs,Zc,Zl,Za,zzg];refine yQ g1 ?_ (ha:=by simp only[Zk,Zp,zC,V.norm,zM,yR,zQ wK,C.norm]<;>rfl);simp only[Qs,Za];refine zI g2 ?_ (ha:=by simp only[Zk,Zp,zC,V.norm,zM,zQ yK,zQ wK,C.norm]<;>rfl);have e0:((0:Int)==0)=true:=rfl;by_cases h1:s=1
 ·subst h1
  have e1:((1:Int)==1)=true:=rfl;simp only[e0,e1,Qs,Za];exact hS
 ·have e1:(s==1)=false:=by simpa using h1
  rw[decide_eq_false h1,YC] at hS;cases b with
  |false=>
   simp only[e0,e1,Qs,Zc,Za];exact hS
  |true=>
   rw[ZU] at hS;by_cases h2:s=2
   ·subst h2
    simp only[e0,e1,Qs,BEq.rfl,Zc,Za];exact hS
   ·have e2:(s==2)=false:=by simpa using h2
    rw[decide_eq_false h2] at hS;simp only[e0,e1,e2,Qs,Zc,Za];exact hS
end Go.Abs
namespace Go.Ex
open Go.Lib Go.Wd Go.Wire Go.Abs
theorem zzz {L:List Dmd} {D:List Dcm} (hA:AskS L D) (h0:lookE L D=0) {p:Plc} (hp:isP D p=true): ∀t∈textsF (tH D p),vV t=true:=fun t ht=>by
 have hG:=mN hA h0;obtain⟨hd,hf⟩:=zdF hp;obtain⟨h1,h2⟩:=zxn (hG.docs _ hd).1 (hG.docs _ hd).2 hf (zdE.1 ht);unfold vV;rw[h2,decide_eq_true h1];rfl
theorem zzd {L:List Dmd} {D:List Dcm} (hA:AskS L D) (h0:lookE L D=0) {p:Plc} (hp:isP D p=true) {t:Txt} (ht:t∈textsF (tH D p)):t∈textsC L D p:=by
 unfold textsC jW;exact aZ.2 ((vE ltT _).mem_iff.2 (Yh.2 ⟨List.mem_append_left _ ht,zzz hA h0 hp t ht⟩))
theorem zzA {L:List Dmd} {D:List Dcm} (hA:AskS L D) (h0:lookE L D=0) {p:Plc} (hp:isP D p=true):0<(textsC L D p).length:=by
 have hG:=mN hA h0;obtain⟨hd,hf⟩:=zdF hp;have hs:=lT (hG.docs _ hd).1 (hG.docs _ hd).2 _ hf;exact List.length_pos_of_mem (zzd hA h0 hp (zdE.2 ⟨0,hs,rfl⟩))
theorem zzB {L:List Dmd} {D:List Dcm} (hA:AskS L D) (h0:lookE L D=0):(curesC L D).length<=768000*3204096:=by
 have h1:=zpH (B:=3204096) L D (flawsE L D) (plsX (flawsE L D)) fun p hp=>zyf hA h0 (zyb hA h0 p ((vE wW _).mem_iff.1 (zar.1 hp)))
 have h2:=zn6 (sortO wW (uP (flawsE L D)));rw[(vE wW _).length_eq] at h2;have h3:=zyc hA h0 (flawsE L D) fun x h=>h
 have h4:=(zpr hA).1;have h5:(plsX (flawsE L D)).length<=768000:=by unfold plsX;omega
 exact ZX h1 (ZZ _ h5)
theorem zzC {L:List Dmd} {D:List Dcm} {p:Plc} {t:Txt} (ht:t∈textsC L D p):
  (curesC L D).any (fun c=>decide (c.pl=p)&&decide (c.tx=t))=(((flawsE L D).any fun x=>curedI x (fS L D p t))&&namedX (flawsE L D) p):=by
 rw[Yw,Zr,Yt,Yt];constructor
 ·rintro⟨c,hc,h⟩
  rw[Zr,decide_eq_true_eq,decide_eq_true_eq] at h;obtain⟨h1,h2⟩:=h;obtain⟨q,hq,hc⟩:=zy1.1 hc;obtain⟨u,_,rfl,hl⟩:=zy0.1 hc;simp only[] at h1 h2;subst h1 h2;refine⟨?_,zzb.1 hq⟩;unfold sJ at hl;rw[Zg] at hl;obtain⟨k,hk⟩:=List.exists_mem_of_length_pos hl;obtain⟨h1,h2⟩:=Yh.1 hk;have h1:=Z2.1 h1;rw[Zi,Zf h1] at h2;exact⟨_,Zv h1,h2⟩
 ·rintro⟨⟨x,hx,hc⟩,hn⟩
  refine⟨⟨p,t,sJ (flawsE L D) (fS L D p t) (flawsE L D).length⟩,zy1.2 ⟨p,zzb.2 hn,zy0.2 ⟨t,ht,rfl,?_⟩⟩,by simp⟩;obtain⟨k,hk,rfl⟩:=YN hx;refine List.length_pos_of_mem (zzt.2 ⟨hk,?_⟩);rw[Zi,Zf hk];exact hc
end Go.Ex
namespace Go.Abs
open Go.Proofs Go.RowKit Go.Lib Go.Wd Go.Wire Go.Ex
theorem zzD (L:List Dmd) (D:List Dcm) (hI: ∀m∈L,DmdI m) (p:Plc) (a:Int) (ha: -9223372036854775808<=a/\a<=9223372036854775807):Spec Tryz.prog 7 [lst 8 (L.map zU),lst 2 (D.map zJ),.agg (wG p),.int .i64 a] (fun v=>v=.bool true):=by
 refine Spec.of_awlS hf7 okf7 (by simp) fun S hS=>?_
 unfold wG;have g10:=c9 L D;simp only[Qs,Zc,Za,yf7];refine zI q9 ?_ (ha:=by rfl);by_cases hF:jR L D=true
 ·obtain⟨hA,h128⟩:=zda hI hF
  have hL:=hA.l8;rw[hF] at g10;have g26:=c20 L D hA;by_cases h0:lookE L D=0
  ·rw[h0] at g26
   simp only[Qs,Za];refine sP g10 ?_ (ha:=by simp only[Zk,Zp,zC,V.norm,zM,zQ yK,zQ wK,C.norm]<;>rfl);simp only[Qs,zgD,Za];refine sP g26 ?_ (ha:=by simp only[Zk,Zp,zC,V.norm,zM,zQ yK,zQ wK,C.norm]<;>rfl);have z0:((0:Int) !=0)=false:=rfl;by_cases hp:isP D p=true
   ·obtain⟨p1,p2,p3,p4⟩:=pD.1 hp
    have i1: ¬p.doc<0:=by omega
    have i2: ¬p.doc>=D.length:=by omega
    have i3: ¬p.fld<0:=by omega
    have i4: ¬p.fld>=(D.getD p.doc.toNat yM).flds.length:=by omega
    have hgd:(D.map zJ).getD p.doc.toNat []=[.str (D.getD p.doc.toNat yM).kind,zB 2 ((D.getD p.doc.toNat yM).flds.map zP)]:=zas (l:=D) (i:=p.doc.toNat) (by omega);have g27:=c10 L D hA;have g22:=q22 L D hA;obtain⟨hfl,hfd⟩:=zpr hA;have hsh:=zya hA h0;have hpl:=zdM hA h0;have hG:=mN hA h0;have g15:=q15 L D p hA h0;have g36:=zxZ hG hp;have tn:=zzA hA h0 hp;have tF:=fun t h=>zzd hA h0 hp (t:=t) h
    have tI:=zye hA h0 hp;have tL:=zyf hA h0 hp;have li:=fun t h=>zzC (L:=L) (D:=D) (p:=p) (t:=t) h
    unfold fQ at g15;rw[if_pos hp,if_pos hp] at g15;unfold zav at g22;rw[if_pos h0,h0] at g22;rw[h0] at g27;generalize flawsE L D=X at g27 hfl hfd hsh hpl li;have hRb:=zzB hA h0;generalize curesC L D=R at g22 li hRb;generalize textsC L D p=T at g15 tn tF tI tL li;have htl:(textsF (tH D p)).length<=4096:=by rw[zat];exact jV hG hp
    generalize textsF (tH D p)=F at g36 tF htl;have hRl:=zx5 R;unfold wG at g15;generalize D.getD p.doc.toNat yM=dd at g36 hgd p4 i4;rw[show zJ dd=[.str dd.kind,zB 2 (dd.flds.map zP)] from rfl] at g36;have n1: ¬(T.length:Int)<1:=by omega
    simp only[z0,i1,i2,i3,i4,p1,p2,hgd,zL,Qs,zbS,Zc,Zl,Za,Zg];refine yQ g27 ?_ (ha:=by simp only[Zk,Zp,zC,V.norm,zM,zQ yK,zQ wK,C.norm]<;>rfl);simp only[Qs,Ze,Zc,Z9,Za];refine yQ g22 ?_ (ha:=by simp only[Zk,Zp,zC,V.norm,zM,zQ yK,zQ wK,C.norm]<;>rfl);simp only[Qs,Ze,Zc,Z9,Za];refine yQ g15 ?_ (ha:=by simp only[Zk,Zp,zC,V.norm,zM,zQ yK,zQ wK,C.norm,C.normRow]<;>rfl);simp only[i1,i2,i3,i4,p1,p2,hgd,zL,zxY,Qs,Ze,Zc,Z9,Zl,Za,Zg];refine yQ g36 ?_ (ha:=by simp only[Zk,Zp,zC,V.norm,zM,C.norm,C.normRow,yP vA]<;>rfl);simp only[z0,n1,zS,Qs,iT,zrR,lE,zr8,zr9,zsa,or_true,Ze,Zc,Z9,Zn,Za];refine zR (fun i:Nat=>[(0,lst 8 (L.map zU)),(1,lst 2 (D.map zJ)),(3,.int .i64 a),(6,.k (.c (.ro [.int .i64 p.doc,.int .i64 p.fld] 0))),(9,.bool true),(10,lst 3 (xU X)),(12,lst 4 (pE R)),(14,lst 1 (zF T)),(16,.k (.own 97000)),(18,.int .i64 i)]) (fun _=>[(97000,.arr 9 1 none (zF F))]) (fun i=>i<=F.length) (fun i=>F.length-i) 0 rfl rfl (ZC _) ?_;intro i hi;by_cases hlt:i<F.length
    ·have d1:(i:Int)<F.length:=by omega
     have d4:IntKind.i64.wrap ((i:Int)+1)=(i:Int)+1:=wrap_in (by omega) (by omega);have hat:=uI hlt;have hm:=tF _ (Zv hlt);generalize F[i]=f at hat hm;simp only[d1,zS,Qs,iV,iW,Za];refine zR (fun s:Nat×Bool=>[(0,lst 8 (L.map zU)),(1,lst 2 (D.map zJ)),(3,.int .i64 a),(6,.k (.c (.ro [.int .i64 p.doc,.int .i64 p.fld] 0))),(9,.bool true),(10,lst 3 (xU X)),(12,lst 4 (pE R)),(14,lst 1 (zF T)),(16,.k (.own 97000)),(18,.int .i64 i),(19,.bool s.2),(20,.int .i64 s.1)]) (fun _=>[(97000,.arr 9 1 none (zF F))]) (fun s=>s.1<=T.length/\(s.2=true\/f∈T.drop s.1)) (fun s=>T.length-s.1) (0,false) rfl rfl ⟨ZC _,.inr hm⟩ ?_;rintro⟨k,b⟩ ⟨hk,hb⟩;simp only[] at hk hb;by_cases hkt:k<T.length
     ·have e1:(k:Int)<T.length:=by omega
      have e4:IntKind.i64.wrap ((k:Int)+1)=(k:Int)+1:=wrap_in (by omega) (by omega);have hat2:=uI hkt;rw[ZE hkt] at hb;generalize T[k]=t at hat2 hb;cases b with
      |true=>
       simp only[d1,e1,e4,zS,hat,hat2,Qs,Za];exact Next.intro (k+1,true) rfl rfl ⟨by simp only[];omega,.inl rfl⟩ (by simp only[];omega)
      |false=>
       simp only[d1,e1,e4,zS,hat,hat2,Qs,cI,cJ,cK,Za];refine Next.intro (k+1,t==f) rfl rfl ⟨by simp only[];omega,?_⟩ (by simp only[];omega);rcases hb with hb|hb
       ·cases hb
       ·rcases ZJ.1 hb with e|e
        ·exact .inl (by simp[e])
        ·exact .inr e
     ·have e1: ¬(k:Int)<T.length:=by omega
      rw[ZB (by omega)] at hb;obtain rfl:b=true:=by simpa using hb
      simp only[d1,e1,d4,zS,Qs,reduceCtorEq,Za];exact Next.intro (i+1) rfl rfl (by omega) (by omega)
    ·have d1: ¬(i:Int)<F.length:=by omega
     have hT:((T.length:Int)=0)=False:=eq_false (by omega);obtain⟨j,hj,htm⟩: ∃j,j<T.length/\(IntKind.i64.wrap (a.tmod T.length+T.length)).tmod T.length=(j:Int):=by
      have h1:=Int.tmod_lt_of_pos a (b:=(T.length:Int)) (by omega);have h2: -(T.length:Int)<a.tmod T.length:=by have:=Int.lt_tmod_of_pos a (b:=(T.length:Int)) (by omega);omega
      rw[wrap_in (by omega) (by omega)];have h3:=Int.tmod_lt_of_pos (a.tmod T.length+T.length) (b:=(T.length:Int)) (by omega);have h4:=Int.tmod_nonneg (T.length:Int) (a:=a.tmod T.length+T.length) (by omega);exact⟨((a.tmod T.length+T.length).tmod T.length).toNat,by omega,by omega⟩
     have d7:(j:Int)<T.length:=by omega
     have hat:=uI hj;have hm:=Zv hj;obtain⟨t1,t2⟩:=tI _ hm;obtain⟨o1,o2,o3⟩:=zyd hA h0 hp t1;have o4:=zzw h0 o3.c;have k20:=q20 D p T[j] (fun d hd=>(hG.docs d hd).1) (fun d hd=>zpI hG hd) t2 (by have:=hG.ok.len;omega);have hli:=li _ hm;rw[o1] at k20;generalize T[j]=t at hat o2 o3 o4 k20 hli;unfold wG at k20;simp only[d1,zS,hT,htm,d7,hat,Qs,zrT,iV,iW,ne_eq,Zc,Za];rw[show fS L D p t=(failC L (corD D p t)).map natI from rfl] at hli;generalize corD D p t=E at o2 o3 o4 k20 hli;refine yQ k20 ?_ (ha:=by simp only[Zk,Zp,zC,V.norm,zM,zQ yK,C.norm,C.normRow]<;>rfl);simp only[z0,Qs,Ze,Zc,Z9,Za];refine zR (fun k:Nat=>[(0,lst 8 (L.map zU)),(6,.k (.c (.ro [.int .i64 p.doc,.int .i64 p.fld] 0))),(9,.bool true),(10,lst 3 (xU X)),(12,lst 4 (pE R)),(21,.k (.c (.str t))),(22,lst 2 (E.map zJ)),(24,.bool ((X.take k).any fun x=>curedI x ((failC L E).map natI))),(25,.int .i64 k)]) (fun _=>[]) (fun k=>k<=X.length) (fun k=>X.length-k) 0 rfl rfl (ZC _) ?_;intro k hk;by_cases hkt:k<X.length
     ·have e1:(k:Int)<X.length:=by omega
      have e4:IntKind.i64.wrap ((k:Int)+1)=(k:Int)+1:=wrap_in (by omega) (by omega);have hat3:=zdN hkt;obtain⟨cn,fb,hx,h8⟩:=hsh _ (Zv hkt);have k35:=q35 L E o2 o4 cn (wO L cn (rdsD D 0)) fb (by omega);rw[<-zzx o2 o4 cn (wO L cn (rdsD D 0)) fb] at k35;have hsn:((X.take (k+1)).any fun x=>curedI x ((failC L E).map natI))=(((X.take k).any fun x=>curedI x ((failC L E).map natI))||curedI ⟨natI cn,wO L cn (rdsD D 0),fb⟩ ((failC L E).map natI)):=by
       rw[<-hx,ZD hkt,List.any_append];simp
      rw[hx] at hat3;generalize curedI ⟨natI cn,wO L cn (rdsD D 0),fb⟩ ((failC L E).map natI)=v at k35 hsn;unfold uN at k35;generalize hb:((X.take k).any fun x=>curedI x ((failC L E).map natI))=b at hsn;cases b with
      |true=>
       simp only[e1,e4,hb,qD,hat3,Qs,Za];exact Next.intro (k+1) (by rw[hsn];rfl) rfl (by omega) (by omega)
      |false=>
       simp only[e1,e4,hb,qD,hat3,Qs,Za];refine zI k35 ?_ (ha:=by simp only[Zk,Zp,zC,V.norm,zM,yR,tN,zQ yK,zQ wK,C.norm,C.normRow]<;>rfl);simp only[e4,Qs,Za];exact Next.intro (k+1) (by rw[hsn];rfl) rfl (by omega) (by omega)
     ·have e1: ¬(k:Int)<X.length:=by omega
      rw[Z7 (by omega)];generalize (X.any fun x=>curedI x ((failC L E).map natI))=sm at hli;simp only[e1,qD,Qs,Za];refine zR (fun k:Nat=>[(6,.k (.c (.ro [.int .i64 p.doc,.int .i64 p.fld] 0))),(9,.bool true),(10,lst 3 (xU X)),(12,lst 4 (pE R)),(21,.k (.c (.str t))),(24,.bool sm),(26,.bool ((R.take k).any fun c=>decide (c.pl=p)&&decide (c.tx=t))),(27,.int .i64 k)]) (fun _=>[]) (fun k=>k<=R.length) (fun k=>R.length-k) 0 rfl rfl (ZC _) ?_;intro k hk;by_cases hkt:k<R.length
      ·have e1:(k:Int)<R.length:=by omega
       have e4:IntKind.i64.wrap ((k:Int)+1)=(k:Int)+1:=wrap_in (by omega) (by omega);have hat3:=zzy hkt;have hsn:((R.take (k+1)).any fun c=>decide (c.pl=p)&&decide (c.tx=t))=(((R.take k).any fun c=>decide (c.pl=p)&&decide (c.tx=t))||(decide (R[k].pl=p)&&decide (R[k].tx=t))):=by
        rw[ZD hkt,List.any_append];simp
       generalize R[k]=c at hat3 hsn;generalize hb:((R.take k).any fun c=>decide (c.pl=p)&&decide (c.tx=t))=b at hsn;cases b with
       |true=>
        simp only[e1,e4,hb,hRl,hat3,Qs,zyZ,Za];exact Next.intro (k+1) (by rw[hsn];rfl) rfl (by omega) (by omega)
       |false=>
        by_cases hc:c.pl=p
        ·have hb2:(c.pl.doc==p.doc&&c.pl.fld==p.fld)=true:=by rw[hc];simp
         rw[decide_eq_true hc,ZU,YC,show decide (c.tx=t)=(c.tx==t) by rw[Yw];simp] at hsn;simp only[e1,e4,hb,hRl,hat3,hb2,Qs,zyZ,zgC,cC,cD,cE,cF,cG,Zc,Zn,Zl,Za,YG];exact Next.intro (k+1) (by rw[hsn];rfl) rfl (by omega) (by omega)
        ·have hb2:(c.pl.doc==p.doc&&c.pl.fld==p.fld)=false:=by
          rw[Y0,ne_eq,Zr,beq_iff_eq,beq_iff_eq];intro h;obtain⟨⟨_,_⟩,_,_⟩:=c;cases p;simp only[] at h;exact hc (by rw[h.1,h.2])
         rw[decide_eq_false hc,Z4,YC] at hsn;simp only[e1,e4,hb,hRl,hat3,hb2,Qs,zyZ,zgC,cC,cD,cE,cF,cG,Zc,Zn,Zl,Za,YG];exact Next.intro (k+1) (by rw[hsn];rfl) rfl (by omega) (by omega)
      ·have e1: ¬(k:Int)<R.length:=by omega
       rw[Z7 (by omega),hli];have k33:=q33 X p (by omega) (fun x hx=>by have:=(hpl x hx).1;omega);unfold wG at k33;generalize namedX X p=nm at k33;cases sm with
       |true=>
        simp only[e1,hRl,Qs,Zc,Za];refine zI k33 ?_ (ha:=by simp only[Zk,Zp,zC,V.norm,zM,oU,C.norm,C.normRow]<;>rfl);simp only[Qs,zrM,zrN,zrV,BEq.rfl,Za];exact hS
       |false=>
        simp only[e1,hRl,Qs,zrM,zrN,zrV,BEq.rfl,Za,Z4];exact hS
   ·have hn: ¬(0<=p.doc/\p.doc<D.length/\0<=p.fld/\p.fld<(D.getD p.doc.toNat yM).flds.length):=fun h=>hp (pD.2 h)
    by_cases i1:p.doc<0
    ·simp only[z0,i1,Qs,Zc,Zl,Za]
     exact hS
    ·by_cases i2:p.doc>=D.length
     ·simp only[z0,i1,i2,zL,Qs,zbS,Zc,Zl,Za,Zg]
      exact hS
     ·by_cases i3:p.fld<0
      ·simp only[z0,i1,i2,i3,zL,Qs,zbS,Zc,Zl,Za,Zg]
       exact hS
      ·have p1:0<=p.doc:=by omega
       have p2:p.doc<D.length:=by omega
       have i4:p.fld>=(D.getD p.doc.toNat yM).flds.length:=by omega
       have hgd:(D.map zJ).getD p.doc.toNat []=[.str (D.getD p.doc.toNat yM).kind,zB 2 ((D.getD p.doc.toNat yM).flds.map zP)]:=zas (l:=D) (i:=p.doc.toNat) (by omega);simp only[z0,i1,i2,i3,i4,p1,p2,hgd,zL,Qs,zbS,Zc,Zl,Za,Zg];exact hS
  ·generalize lookE L D=E at g26 h0
   have b:(E !=0)=true:=by simpa using h0
   simp only[Qs,Za];refine sP g10 ?_ (ha:=by simp only[Zk,Zp,zC,V.norm,zM,zQ yK,zQ wK,C.norm]<;>rfl);simp only[Qs,zgD,Za];refine sP g26 ?_ (ha:=by simp only[Zk,Zp,zC,V.norm,zM,zQ yK,zQ wK,C.norm]<;>rfl);simp only[b,Qs,Za];exact hS
 ·have hF:jR L D=false:=by simpa using hF
  rw[hF] at g10;simp only[Qs,Za];refine sP g10 ?_ (ha:=by simp only[Zk,Zp,zC,V.norm,zM,zQ yK,zQ wK,C.norm]<;>rfl);simp only[Qs,zgD,Za];exact hS
end Go.Abs
namespace Go.Abs
section
variable {P : Program}
theorem cX {n:Nat} {t:TypeId} {r:List C} {k:IntKind} (hu:P.underlying t=some (.int k)) (h:wE P n t r): ∃m:Int,r=[.int k m]/\(Lit.int k m).wf=true:=by
 cases n with
 |zero=>exact h.elim
 |succ n=>simp only[wE,hu] at h;exact h
theorem nW {n:Nat} {t:TypeId} {r:List C} (hu:P.underlying t=some .string) (h:wE P n t r): ∃s:List UInt8,r=[.str s]/\s.length<=9223372036854775807:=by
 cases n with
 |zero=>exact h.elim
 |succ n=>simp only[wE,hu] at h;exact h
theorem gN {n:Nat} {t e:TypeId} {r:List C} (hu:P.underlying t=some (.slice e)) (h:wE P n t r): ∃m rows,n=m+1/\r=[zB (P.cellsOf e) rows]/\rows.length<=9223372036854775807/\ ∀x∈rows,wE P m e x:=by
 cases n with
 |zero=>exact h.elim
 |succ n=>simp only[wE,hu] at h;obtain⟨rows,h1,h2,h3⟩:=h;exact⟨n,rows,rfl,h1,h2,h3⟩
theorem cY {n:Nat} {t:TypeId} {fs:Array Field} {r:List C} (hu:P.underlying t=some (.struct fs)) (h:wE P n t r): ∃m rs,n=m+1/\r=rs.flatten/\gG (wE P m) (fs.toList.map (·.type)) rs:=by
 cases n with
 |zero=>exact h.elim
 |succ n=>simp only[wE,hu] at h;obtain⟨rs,h1,h2⟩:=h;exact⟨n,rs,rfl,h1,h2⟩
theorem gO {α:Type} {S:List C->Prop} (enc:α->List C) (hS: ∀r,S r-> ∃a,r=enc a): ∀(rows:List (List C)),(∀r∈rows,S r)-> ∃l:List α,rows=l.map enc
 |[],_=>⟨[],rfl⟩
 |r::rows,h=>by
  obtain⟨a,ha⟩:=hS r (h r (by simp));obtain⟨l,hl⟩:=gO enc hS rows (fun x hx=>h x (by simp[hx]));exact⟨a::l,by rw[ha,hl];rfl⟩
variable {tI tB tS tT tLT tR tLR tC tLC tO : TypeId}
end
section
variable {P : Program}
end
end Go.Abs
namespace Go.Abs
open Go.RowKit Go.Proofs Go.Wd Go.Wire Go.Ex
theorem zov {α:Type} {S:List C->Prop} (enc:α->List C) (Q:α->Prop) (hS: ∀r,S r-> ∃a,r=enc a/\Q a): ∀(rows:List (List C)),(∀r∈rows,S r)-> ∃l:List α,rows=l.map enc/\ ∀a∈l,Q a
 |[],_=>⟨[],rfl,fun _ h=>by cases h⟩
 |r::rows,h=>by
  obtain⟨a,ha,hq⟩:=hS r (h r (by simp));obtain⟨l,hl,hQ⟩:=zov enc Q hS rows (fun x hx=>h x (by simp[hx]));refine⟨a::l,by rw[ha,hl];rfl,fun x hx=>?_⟩;rcases ZJ.1 hx with rfl|hx
  ·exact hq
  ·exact hQ x hx
theorem zow {m:Int} (h:(Lit.int .i64 m).wf=true): -9223372036854775808<=m/\m<=9223372036854775807:=by
 have:=(Lit.wf_int_iff _ _).1 h;simpa [IntKind.min,IntKind.max,IntKind.signed,IntKind.bits] using this
theorem zwn {n:Nat} {r:List C} (hr:wE Tryz.prog n 96 r): ∃x:Dmd,r=zU x/\DmdI x:=by
 obtain⟨m,rs,_,rfl,h⟩:=cY Tryz.underlying96 hr
 match rs,h with
 |[x0,x1,x2,x3,x4,x5,x6,x7],⟨h0,h1,h2,h3,h4,h5,h6,h7,_⟩=>
  obtain⟨a0,rfl,_⟩:=cX Tryz.underlying3 h0;obtain⟨a1,rfl,_⟩:=nW Tryz.underlying9 h1;obtain⟨a2,rfl,_⟩:=nW Tryz.underlying9 h2;obtain⟨a3,rfl,_⟩:=nW Tryz.underlying9 h3;obtain⟨a4,rfl,_⟩:=nW Tryz.underlying9 h4;obtain⟨a5,rfl,_⟩:=nW Tryz.underlying9 h5;obtain⟨a6,rfl,q6⟩:=cX Tryz.underlying3 h6;obtain⟨a7,rfl,q7⟩:=cX Tryz.underlying3 h7;have w6:=zow q6;have w7:=zow q7;exact⟨⟨a0,a1,a2,a3,a4,a5,a6,a7⟩,rfl,w6.1,w6.2,w7.1,w7.2⟩
theorem zwo {n:Nat} {r:List C} (hr:wE Tryz.prog n 22 r): ∃l:List Dmd,rB Tryz.prog 22 r=lst 8 (l.map zU)/\ ∀m∈l,DmdI m:=by
 obtain⟨m,rows,rfl,rfl,_,h⟩:=gN Tryz.underlying22 hr;obtain⟨l,rfl,hq⟩:=zov zU DmdI (fun r hr=>zwn hr) rows h;exact⟨l,by simp only[rB,Tryz.underlying22,show Tryz.prog.cellsOf 96=8 by kernel_rfl],hq⟩
theorem zwp {n:Nat} {r:List C} (hr:wE Tryz.prog n 131 r): ∃x:List Txt,r=yH x:=by
 obtain⟨m,rs,_,rfl,h⟩:=cY Tryz.underlying131 hr
 match rs,h with
 |[x0],⟨h0,_⟩=>
  obtain⟨_,rows,_,rfl,_,h⟩:=gN Tryz.underlying35 h0;obtain⟨l,rfl⟩:=gO (fun s:Txt=>[C.str s]) (fun r hr=>by obtain⟨x,rfl,_⟩:=nW Tryz.underlying9 hr;exact⟨x,rfl⟩) rows h;exact⟨l,by rw[show Tryz.prog.cellsOf 9=1 by kernel_rfl];rfl⟩
theorem zwq {n:Nat} {r:List C} (hr:wE Tryz.prog n 76 r): ∃x:Fld,r=zP x:=by
 obtain⟨m,rs,_,rfl,h⟩:=cY Tryz.underlying76 hr
 match rs,h with
 |[x0,x1],⟨h0,h1,_⟩=>
  obtain⟨a0,rfl,_⟩:=nW Tryz.underlying9 h0;obtain⟨_,rows,_,rfl,_,h⟩:=gN Tryz.underlying74 h1;obtain⟨l,rfl⟩:=gO yH (fun r hr=>zwp hr) rows h;exact⟨⟨a0,l⟩,by rw[show Tryz.prog.cellsOf 131=1 by kernel_rfl];rfl⟩
theorem zwr {n:Nat} {r:List C} (hr:wE Tryz.prog n 69 r): ∃x:Dcm,r=zJ x:=by
 obtain⟨m,rs,_,rfl,h⟩:=cY Tryz.underlying69 hr
 match rs,h with
 |[x0,x1],⟨h0,h1,_⟩=>
  obtain⟨a0,rfl,_⟩:=nW Tryz.underlying9 h0;obtain⟨_,rows,_,rfl,_,h⟩:=gN Tryz.underlying67 h1;obtain⟨l,rfl⟩:=gO zP (fun r hr=>zwq hr) rows h;exact⟨⟨a0,l⟩,by rw[show Tryz.prog.cellsOf 76=2 by kernel_rfl];rfl⟩
theorem zws {n:Nat} {r:List C} (hr:wE Tryz.prog n 23 r): ∃l:List Dcm,rB Tryz.prog 23 r=lst 2 (l.map zJ):=by
 obtain⟨m,rows,rfl,rfl,_,h⟩:=gN Tryz.underlying23 hr;obtain⟨l,rfl⟩:=gO zJ (fun r hr=>zwr hr) rows h;exact⟨l,by simp only[rB,Tryz.underlying23,show Tryz.prog.cellsOf 69=2 by kernel_rfl]⟩
end Go.Abs
