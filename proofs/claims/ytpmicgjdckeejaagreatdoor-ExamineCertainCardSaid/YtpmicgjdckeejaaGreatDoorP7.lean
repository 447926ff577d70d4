/- A part of the proof; the last text states what is proved. -/
import Derived.Test.YtpmicgjdckeejaaGreatDoorP6
import Derived.Lib.ItoaLen
import Derived.Shelf.Strconv.Itoa3
import Derived.Test.YtpmicgjdckeejaaGreatDoorProg
import Derived.Shelf.LaysM
import Derived.Shelf.RegionOpenPlain
import Derived.Lib.Walk
import Derived.Lib.ItoaWalk
import Derived.Lib.ItoaMem
import Derived.WalkKit
import Derived.RegionTactic
import Derived.BigCall
import Derived.BigGuard
import Derived.CellFam
import Derived.Deep.RegionHeld3
import Derived.Deep.RegionHeld
import Derived.Deep.LoopGhost
import Derived.Maps.AppendAt
import Derived.Maps.OwnIn
set_option linter.unusedVariables false
set_option linter.unusedSimpArgs false
set_option maxRecDepth 100000
set_option maxHeartbeats 8000000
open Array renaming ext' → XB,getElem?_append_left → YQ,getElem?_eq_some_iff → Zo,getElem?_toList → Yr,length_toList → YC,replicate → YB,replicate_succ → YH,replicate_zero → YG,size_replicate → Xg
open BitVec renaming ofInt → Z7,toNat_ofNat → Xt
open Bool renaming and_eq_true → Zp,and_false → YP,eq_false_iff → YS,eq_iff_iff → Yn,false_and → ZO,false_eq_true → Z3,false_or → YA,or_eq_true → Ye,true_and → ZJ,true_or → XA
open Eq renaming refl → ZG,trans → ZN
open Function renaming comp → YT
open Int renaming natCast_mul → Yo,reduceBNe → Y6,toNat_natCast → Yf
open List renaming all_cons → Ys,all_eq_false → Yx,all_eq_true → Zw,all_nil → Xa,any_eq_true → YO,append_assoc → Z9,append_nil → Zk,append_toArray → YM,cons_append → ZR,drop_eq_getElem_cons → ZE,drop_eq_nil_of_le → ZA,eq_nil_of_length_eq_zero → Yb,flatMap_cons → XG,foldl_append → Xp,foldl_cons → YF,getD_eq_getElem?_getD → Zi,getElem?_eq_getElem → Zh,getElem?_eq_none → Y2,getElem?_eq_some_iff → Zr,getElem?_map → Zv,getElem?_toArray → Y1,getElem_mem → Zy,getElem_of_mem → Y5,length_append → Zu,length_cons → Zn,length_filter_le → Y0,length_map → Zg,length_nil → ZF,length_set → YY,length_take → Yt,map_append → ZW,map_congr_left → Y4,map_cons → Zl,map_map → Y9,map_nil → Zq,map_take → Xm,mem_append → YI,mem_cons → ZH,mem_cons_of_mem → Zz,mem_filter → Yl,mem_map → ZS,mem_range → Yc,mem_singleton → ZX,nil_append → Ya,nodup_cons → ZV,not_mem_nil → Zx,push_toArray → YR,range_succ → XI,setIfInBounds_toArray → ZM,set_cons_succ → Z1,set_cons_zero → ZZ,size_toArray → Yv,take_length → YN,take_of_length_le → Z6,take_succ_eq_append_getElem → ZQ
open Nat renaming add_assoc → Yy,add_comm → YX,add_zero → Yk,div_le_self → Xl,eq_of_testBit_eq → Xo,le_refl → Zs,le_trans → ZY,lt_of_lt_of_le → ZL,lt_or_ge → YW,min_eq_left → Xw,mod_eq_of_lt → Xs,mod_lt → Xj,mul_assoc → XC,mul_one → YL,one_mul → Xn,one_shiftLeft → Xr,pow_le_pow_right → Yu,reduceAdd → Zd,reduceBEq → Za,reduceEqDiff → Zt,reduceLT → Z5,reduceLeDiff → Zm,reduceMul → Yg,reduceSub → Y3,succ_mul → Xi,zero_add → ZU,zero_le → ZB,zero_testBit → YV
open Option renaming isSome_none → YJ,map_eq_some_iff → Zc,map_some → Yq
namespace Go.Abs
open Go.Sort Go.Proofs Go.Shelf Go.Lib Go.RowKit Go.Wd Go.Wire Go.Ex
def rO (nv n:Nat):List Nat:=((List.range n).filter fun k=>nv.testBit k).map (fun k=>1<<<k)
theorem znG (nv n:Nat):rO nv (n+1)=rO nv n++if nv.testBit n=true then[1<<<n] else[]:=by
 unfold rO;rw[XI,List.filter_append,ZW];congr 1;by_cases h:nv.testBit n=true<;>simp[h]
theorem aJ (nv n:Nat):(rO nv n).length<=n:=by
 unfold rO;rw[Zg];exact ZY (Y0 _ _) (by simp)
theorem gP (D:Nat): ∀n p,(vY D n p).length<=n
 |0,_=>Zs _
 |n+1,p=>by
  rw[vY];split
  ·simp
  ·rw[Zn];have:=gP D n ((p-1)&&&D);omega
def qF (F:List Nat) (s j:Nat):Bool:=hitP F s&&((bitsN s).take j).all fun k=> !hitP F (andN s (1<<<k))
theorem znH (F:List Nat) (s:Nat):qF F s (bitsN s).length=wP F s:=by unfold qF wP;rw[YN]
theorem znI (F:List Nat) (s:Nat) {j:Nat} (h:j<(bitsN s).length):qF F s (j+1)=(qF F s j&& !hitP F (andN s (1<<<(bitsN s)[j]))):=by
 unfold qF;rw[ZQ h,List.all_append];simp[Bool.and_assoc]
theorem znJ (s k:Nat) (hk:k<64):(s:Int).fdiv (2 ^ min k IntKind.u64.bits)=((s/2 ^ k:Nat):Int):=by
 have e:min k IntKind.u64.bits=k:=Xw (show k<=64 by omega);rw[e,show((2:Int) ^ k)=((2 ^ k:Nat):Int) by simp];rw[Int.fdiv_eq_ediv_of_nonneg _ (Int.natCast_nonneg _)];exact(Int.natCast_ediv s (2 ^ k)).symm
theorem znK (s k:Nat) (hs:s<18446744073709551616) (hk:k<64):IntKind.u64.wrap ((Z7 IntKind.u64.bits ((s:Int).fdiv (2 ^ min k IntKind.u64.bits))&&&Z7 IntKind.u64.bits 1).toNat:Int)=if s.testBit k=true then 1 else 0:=by
 rw[znJ s k hk];have h:=kD (s:=s/2 ^ k) (t:=1) (Nat.lt_of_le_of_lt (Xl _ _) hs) (by decide);rw[show((1:Nat):Int)=1 from rfl] at h;rw[h,Nat.and_one_is_mod,Nat.testBit_eq_decide_div_mod_eq];have:s/2 ^ k % 2=0\/s/2 ^ k % 2=1:=by omega
 rcases this with h|h<;>rw[h]<;>simp
theorem aK (k:Nat) (hk:k<64):IntKind.u64.wrap (1*2 ^ min k IntKind.u64.bits)=((1<<<k:Nat):Int):=by
 have e:min k IntKind.u64.bits=k:=Xw (show k<=64 by omega);rw[e,Int.one_mul,show((2:Int) ^ k)=((2 ^ k:Nat):Int) by simp,Xr];exact oU (ZL (Nat.pow_lt_pow_right (by decide) hk) (by decide))
theorem zis {s t m:Nat} (h:s<2 ^ m):andN s t<2 ^ m:=xT.2 fun k hk=>by
 rw[rI,Zp] at hk;exact xT.1 h k hk.1
theorem zit {s t:Nat} (hs:s<2 ^ 64):IntKind.u64.wrap ((Z7 IntKind.u64.bits (s:Int)&&& ~~~Z7 IntKind.u64.bits (t:Int)).toNat:Int)=((andN s t:Nat):Int):=by
 show IntKind.u64.wrap ((Z7 64 (s:Int)&&& ~~~Z7 64 (t:Int)).toNat:Int)=_;rw[mG,mG];have e:(BitVec.ofNat 64 s&&& ~~~BitVec.ofNat 64 t).toNat=andN s t:=by
  apply Xo;intro i;rw[rI,BitVec.testBit_toNat,BitVec.getLsbD_and,BitVec.getLsbD_not,BitVec.getLsbD_ofNat,BitVec.getLsbD_ofNat];by_cases hi:i<64
  ·simp[hi]
  ·have:s.testBit i=false:=by
    cases q:s.testBit i with
    |false=>rfl
    |true=>exact absurd (xT.1 hs i q) hi
   simp[hi,this]
 rw[e];exact oU (zis hs)
theorem ziu (L:List (List Nat)):C.normRows (cfs L)=cfs L:=zP (fun x=>by simp only[C.normRow,zO,vC]) L
theorem c33 (v:Vw) (hn:v.never<256) (hd:v.doubt<256) (hs: ∀s∈v.sets,s<256) (hl:v.sets.length<=1000000):Spec Tryz.prog 33 [.agg [zC 1 (sets v.sets),.int .u64 (v.never:Int),.int .u64 (v.doubt:Int)]] (fun r=>r=lst 1 (cfs (sortO ltC ((conflP v).map bitsN)))):=by
 obtain⟨F,nv,db⟩:=v;simp only[] at hn hd hs hl;refine Spec.of_awlP hf33 okf33 (by simp) fun S hS=>?_
 simp only[Qs,bne_iff_ne,ne_eq,Zt,Za,Ψ33];rw[uu f33l70.eq_1];refine yA (fun x:Nat×Option Bool=>[(1,.k (.c (.ro [zC 1 (sets F),.int .u64 (nv:Int),.int .u64 (db:Int)] 0))),(3,.k (.own 3)),(13,.int .i64 x.1)]) (fun x=>[(3,.arr 71 1 x.2 (sets (rO nv x.1)))]) (fun x=>x.1<=64) (fun x=>64-x.1) (0,some true) rfl rfl (by decide) ?_;rintro⟨k,nl⟩ hk;simp only[] at hk;have hnl:=aJ nv k;by_cases hlt:k<64
 ·have d1:(k:Int)<64:=by omega
  have d0:(0:Int)<=k:=by omega
  have c4:IntKind.i64.wrap ((k:Int)+1)=(k:Int)+1:=wrap_in (by omega) (by omega);have hx:=znG nv k;have c5:=znK nv k (by omega) hlt;have c6:=aK k hlt;by_cases hb:nv.testBit k=true
  ·rw[if_pos hb] at c5 hx
   simp only[d1,d0,c4,c5,c6,uZ,zig,Yf,Qs,zdD,zdE,forall_eq,bne_iff_ne,ne_eq,BEq.rfl,ZH,Zd,Zt,Zm,Z5,Za,Zx,Ψ33];refine⟨by omega,by omega,Next.intro (k+1,some false) rfl (by rw[hx];rfl) (by simp only;omega) (by simp only;omega)⟩
  ·rw[if_neg hb] at c5 hx
   rw[Zk] at hx;simp only[d1,d0,c4,c5,Yf,Qs,zdE,Zd,Zm,Za,Int.reduceBEq,Ψ33];exact Next.intro (k+1,nl) rfl (by rw[hx];rfl) (by simp only;omega) (by simp only;omega)
 ·obtain rfl:k=64:=by omega
  simp only[show¬(((64:Nat):Int)<64) by omega,Qs,Zd,Za,Int.reduceLT,zgK,zgL,zgM,zgN,zgO,Ψ33];rw[uu f33l50.eq_1];have hT:(conflP ⟨F,nv,db⟩)=rO nv 64++(vY db 256 db).filter (wP F):=rfl;have hTl:(conflP ⟨F,nv,db⟩).length<=320:=by
   rw[hT,Zu];have h1:=gP db 256 db;have h2:=Y0 (wP F) (vY db 256 db);omega
  have hTb: ∀s∈conflP ⟨F,nv,db⟩,s<256:=by
   intro s hs2;rw[hT,YI] at hs2;rcases hs2 with hs2|hs2
   ·obtain⟨k,hk,rfl⟩:=ZS.1 hs2
    have hk:=(Yl.1 hk).2;have:k<8:=xT.1 (show nv<2 ^ 8 from hn) k hk;rw[Xr];exact(Nat.pow_lt_pow_right (by decide) this:2 ^ k<2 ^ 8)
   ·have h:=(Yl.1 hs2).1
    rw[zhG db hd,zhH hd] at h;have:=Nat.and_le_right (n:=s) (m:=db);omega
  generalize conflP ⟨F,nv,db⟩=T at hS hT hTl hTb;refine yA (fun x:Nat×Nat×List Nat×Option Bool=>[(1,.k (.c (.ro [zC 1 (sets F),.int .u64 (nv:Int),.int .u64 (db:Int)] 0))),(3,.k (.own 3)),(5,.k (.c (.fn 66 [.ro [zC 1 (sets F),.int .u64 (nv:Int),.int .u64 (db:Int)] 0]))),(6,.int .u64 x.1)]) (fun x=>[(3,.arr 71 1 x.2.2.2 (sets x.2.2.1))]) (fun x=>x.1<=x.2.1/\x.1<256/\T=x.2.2.1++(vY db x.2.1 x.1).filter (wP F)) (fun x=>x.1) (db,256,rO nv 64,nl) rfl rfl ⟨by simp only;omega,hd,hT⟩ ?_;rintro⟨p,n,Out,nl2⟩ ⟨hpn,hp,hO⟩;simp only[] at hpn hp hO;have hOl:Out.length<=320:=by
   have:=congrArg List.length hO;rw[Zu] at this;omega
  by_cases h0:p=0
  ·subst h0
   have e0:vY db n 0=[]:=by cases n<;>simp[vY]
   rw[e0,List.filter_nil,Zk] at hO;subst hO;simp only[show(((0:Nat):Int) !=0)=false from rfl,uZ,Qs,zle,zlf,bne_iff_ne,ne_eq,Zt,Za,Y6,Ψ33];rw[uu f33l15.eq_1];refine yA (fun x:Nat×Option Bool=>[(10,.k (.own 10)),(64,.k (.own 3)),(65,.int .i64 T.length),(66,.int .i64 x.1)]) (fun x=>[(3,.arr 71 1 nl2 (sets T)),(10,.arr 30 1 x.2 (cfs ((T.take x.1).map bitsN)))]) (fun x=>x.1<=T.length) (fun x=>T.length-x.1) (0,some true) rfl rfl (ZB _) ?_;rintro⟨i,nl3⟩ hi;simp only[] at hi;by_cases hil:i<T.length
   ·have d1:(i:Int)<T.length:=by omega
    have c4:IntKind.i64.wrap ((i:Int)+1)=(i:Int)+1:=wrap_in (by omega) (by omega);have hat:=aD hil;have htk:(T.take (i+1)).map bitsN=(T.take i).map bitsN++[bitsN T[i]]:=by rw[ZQ hil,ZW];rfl
    have hT8:=hTb _ (Zy hil);have hll:((T.take i).map bitsN).length=i:=by simp;omega
    generalize T[i]=p at hat htk hT8;generalize (T.take i).map bitsN=A at htk hll;have g2:=c35 p hT8;simp only[d1,hat,uZ,Qs,zlh,zli,zlj,zd8,zd9,Za,Ψ33];refine xI g2 ?_ (ha:=by rfl);have hq:cfs A++[[zC 1 (zM (natI (bitsN p)))]]=cfs (A++[bitsN p]):=by simp[cfs]
    have hAl:(cfs A).length=i:=by simp[cfs,hll]
    simp only[c4,hq,hAl,Qs,zlp,zlr,forall_eq,bne_iff_ne,ne_eq,ZH,Zt,Zm,Z5,Za,Zx];exact⟨by omega,by omega,Next.intro (i+1,some false) rfl (by rw[htk];rfl) (by simp only;omega) (by simp only;omega)⟩
   ·obtain rfl:i=T.length:=by omega
    have d1: ¬((T.length:Int)<T.length):=by omega
    rw[YN];simp only[d1,Qs,Za,Ψ33];have hL8: ∀x∈T.map bitsN,x.length<=1000:=by
     intro x hx;obtain⟨s,hs,rfl⟩:=ZS.1 hx;have:=pG s (hTb s hs);omega
    have hLl:(T.map bitsN).length<=320:=by simp;exact hTl
    generalize T.map bitsN=R at hS hL8 hLl;have g1:=c69 10 R (by omega) hL8;refine zin (Q:=fun out=>out=sortO ltC R) (encR:=fun x=>[zC 1 (zM (natI x))]) (cfs R) R (g1.mono fun r o ⟨h1,h2⟩=>⟨h1,_,rfl,h2⟩) rfl (ziu _) ?_;rintro out rfl;simp only[Qs,ZV,Za,Zx,Ψ33];refine hS _ ?_;have e1:=ziu (sortO ltC R);unfold cfs at e1;simp only[V.fz,V.fzL,V.nrm,V.nrmL,e1,qB e1];rfl
  ·obtain⟨m,rfl⟩: ∃m,n=m+1:=⟨n-1,by omega⟩
   rw[vY,if_neg h0] at hO;have n0:((p:Int) !=0)=true:=by rw[bne_iff_ne];omega
   have g1:=c66 p nv db (by omega) F (fun s h=>by have:=hs s h;omega) hl;have g2:=c35 p hp;have hbl:=pG p hp;simp only[n0,Qs,Za,Ψ33];refine pC g1 ?_ (ha:=by simp only[Zl,Zq,zB,V.norm,zO,C.norm,C.normRow,oV]<;>rfl);simp only[Qs,Za,Ψ33];refine xI g2 ?_ (ha:=by rfl);simp only[yL,uD,Qs,Ψ33];have hz:qF F p 0=hitP F p:=by unfold qF;simp
   rw[uu f33l37.eq_1];refine yA (fun j:Nat=>[(1,.k (.c (.ro [zC 1 (sets F),.int .u64 (nv:Int),.int .u64 (db:Int)] 0))),(3,.k (.own 3)),(5,.k (.c (.fn 66 [.ro [zC 1 (sets F),.int .u64 (nv:Int),.int .u64 (db:Int)] 0]))),(6,.int .u64 p),(7,.bool (qF F p j)),(42,lst 1 (zM (natI (bitsN p)))),(43,.int .i64 (bitsN p).length),(44,.int .i64 j)]) (fun _=>[(3,.arr 71 1 nl2 (sets Out))]) (fun j=>j<=(bitsN p).length) (fun j=>(bitsN p).length-j) 0 (by rw[hz];rfl) rfl (ZB _) ?_;rintro j hj;by_cases hjl:j<(bitsN p).length
   ·have d1:(j:Int)<(bitsN p).length:=by omega
    have c4:IntKind.i64.wrap ((j:Int)+1)=(j:Int)+1:=wrap_in (by omega) (by omega);have hat:(zM (natI (bitsN p))).getD j []=[.int .i64 ((bitsN p)[j]:Int)]:=by simp[zM,natI,hjl]
    have hls:=znI F p hjl;have hb64:(bitsN p)[j]<64:=by
     have:=Zy hjl;unfold bitsN at this;have:=Yc.1 (Yl.1 this).1;show(bitsN p)[j]<64;unfold bitsN;omega
    generalize (bitsN p)[j]=k at hat hls hb64;have c6:=aK k hb64;have k0:(0:Int)<=k:=by omega
    cases hL:qF F p j with
    |false=>
     rw[hL,ZO] at hls;simp only[d1,hat,c4,c6,k0,hL,yL,uD,Yf,Qs,iM,Za,Ψ33];exact Next.intro (j+1) (by rw[hls];rfl) rfl (by omega) (by omega)
    |true=>
     rw[hL,ZJ] at hls;have ht:andN p (1<<<k)<256:=zis (m:=8) hp;have c7:=zit (s:=p) (t:=1<<<k) (by omega);have g3:=c66 (andN p (1<<<k)) nv db (by omega) F (fun s h=>by have:=hs s h;omega) hl;generalize andN p (1<<<k)=t at hls c7 g3;simp only[d1,hat,c4,c6,c7,k0,hL,yL,uD,Yf,Qs,iM,zdD,zld,Za,Ψ33];refine pC g3 ?_ (ha:=by simp only[Zl,Zq,zB,V.norm,zO,C.norm,C.normRow,oV]<;>rfl);simp only[c4,Qs,Za];exact Next.intro (j+1) (by rw[hls];rfl) rfl (by omega) (by omega)
   ·obtain rfl:j=(bitsN p).length:=by omega
    rw[znH];have d1: ¬(((bitsN p).length:Int)<(bitsN p).length):=by omega
    have hn1:(p-1)&&&db<=p-1:=Nat.and_le_left;have w1:IntKind.u64.wrap ((p:Int)-1)=((p-1:Nat):Int):=by
     rw[show(p:Int)-1=((p-1:Nat):Int) by omega];exact oU (by omega)
    have ha:=kD (s:=p-1) (t:=db) (by omega) (by omega);generalize (p-1)&&&db=p2 at hO hn1 ha;cases hc:wP F p with
    |false=>
     rw[List.filter_cons_of_neg (by rw[hc];simp)] at hO;simp only[d1,w1,ha,Qs,zdH,Zd,Zt,Za,Ψ33];exact Next.intro (p2,m,Out,nl2) rfl rfl ⟨by simp only;omega,by simp only;omega,hO⟩ (by simp only;omega)
    |true=>
     rw[List.filter_cons_of_pos hc,<-List.singleton_append,<-Z9] at hO;simp only[d1,w1,ha,uZ,zig,Qs,zdH,forall_eq,bne_iff_ne,ne_eq,ZH,Zd,Zt,Zm,Z5,Za,Zx,Ψ33];exact⟨by omega,by omega,Next.intro (p2,m,Out++[p],some false) rfl rfl ⟨by simp only;omega,by simp only;omega,hO⟩ (by simp only;omega)⟩
end Go.Abs
set_option maxRecDepth 100000
set_option maxHeartbeats 4000000
namespace Go.Proofs
open Go.Shelf Go.RowKit Go.Lib
theorem znL (B b:Nat) (bs:List Value) (c:Int) (w:World) (h:Lib.IsBuilderF 188 5 B b bs w) (hlen:bs.length+1<=140737488355328) (hBw:B<=w.heap.size):
  Calls Tryz.prog 220 #[.pointer (some ⟨b,0,none⟩),.int .u8 c] w fun e w'=>e=.returned .nilIface/\Lib.IsBuilderF 188 5 B b (bs++[.int .u8 c]) w'/\Below B w w':=by
 obtain⟨i0,hi,hz0,hz1,hz2⟩:=info_parts Tryz.bx169.infoByte
 go_enter Tryz.func220,Tryz.ntmps220
 go_wp2_with (go_at_call 161;refine(zhw B b bs _ h).mono ?_)
 rintro e w1 ⟨rfl,h1,hb1⟩;obtain⟨hB,v,hbk,hown,hne⟩:=h1;have c0:w1.cell? ⟨b,0,none⟩=some (.pointer (some ⟨b,0,none⟩)):=by rw[Lib.cell_of_heap hbk];rfl
 have c1:w1.cell? ⟨b,1,none⟩=some v:=by rw[Lib.cell_of_heap hbk];rfl
 go_wp2_with (at_builtin;refine wpList_append_ownF _ rfl _ _ 186 rfl B 5 i0 (.int .u8 0) 1 1 Tryz.underlying186 hi hz0 hz1 hz2 rfl (by decide) _ _ _ rfl (hown.alloc _) ⟨w1.heap.size,0,none⟩ 1 1 [.int .u8 c] rfl rfl ?c1 ?c2 ?c3 ?c4 ?c5 ?_)
 case c1=>
  intro j u hj
  match j,hj with
  |0,hj=>simp at hj;subst hj;simp[Addr.add]
 case c2=>intro u hu;simp at hu;subst hu;rfl
 case c3=>unfold maxLen;omega
 case c4=>omega
 case c5=>have:=hb1.size;simp;omega
 intro v' w2 hown' hgrow _;have hlt:b<w1.heap.size:=by
  rcases YW b w1.heap.size with h'|h'
  ·exact h'
  ·simp[Array.getElem?_eq_none h'] at hbk
 have hb2:w2.heap[b]?=some (.cells #[.pointer (some ⟨b,0,none⟩),v] 188 (0,0)):=by
  rw[hgrow.block b (by simp;omega) (fun e=>hne e.symm),Lib.alloc_old w1 _ b hlt];exact hbk
 have d0:w2.cell? ⟨b,0,none⟩=some (.pointer (some ⟨b,0,none⟩)):=by rw[Lib.cell_of_heap hb2];rfl
 have d1:w2.cell? ⟨b,1,none⟩=some v:=by rw[Lib.cell_of_heap hb2];rfl
 have f1:w2.frozen? ⟨b,1,none⟩=false:=Lib.frozen_of_heap hb2 1;obtain⟨g,cap,rfl⟩: ∃g cap,v'=.slice (some ⟨g,0,none⟩) (bs.length+1) cap:=by
  rcases hown'.2 with⟨_,h0⟩|⟨g,cap,cur,fz,hv,_⟩
  ·omega
  ·exact⟨g,cap,hv⟩
 go_wp2
 go_ret
 refine⟨rfl,.inr ?_,?_⟩
 ·exact Lib.BuilderAtF.put (T:=188) (e:=5) hB hb2 (bs':=bs++[.int .u8 c]) (by simpa using hown') (by decide)
 ·exact((hb1.alloc (by have:=hb1.size;omega) _).grown hgrow (by have:=hb1.size;simp;omega) (fun k hk=>(hown.lt k hk).1)).setCell (p:=⟨b,1,none⟩) hB _
end Go.Proofs
set_option maxRecDepth 100000
set_option maxHeartbeats 8000000
namespace Go.Abs
open Go.Proofs Go.RowKit Go.Lib Go.Wd Go.Wire Go.Ex
def aL:Txt:=[110,101,101,100,32]
def wG:Txt:=[32,59]
def vP:Txt:=[102,105,101,108,100,32]
def gQ:Txt:=[32,115,97,109,101,32]
theorem znM (s:Txt) (hs:s.length<=1000000):Spec Tryz.prog 206 [.agg [.str s]] (fun v=>v=.str (aL++s++wG)):=by
 refine Spec.of_awlS hf206 okf206 (by simp) fun S hS=>?_
 simp only[Qs,lG,Zd,Zm,Za,Ψ206];exact⟨by (first|omega|(simp only[Zu,Zn,ZF] at*;omega)),by (first|omega|(simp only[Zu,Zn,ZF] at*;omega)),hS⟩
theorem znN (d f e g:Txt) (hd:d.length<=1000000) (hf:f.length<=1000000) (he:e.length<=1000000) (hg:g.length<=1000000):Spec Tryz.prog 224 [.agg [.str d,.str f,.str e,.str g]] (fun v=>v=.str (vP++(d++wF++f)++gQ++(e++wF++g)++wG)):=by
 refine Spec.of_awlS hf224 okf224 (by simp) fun S hS=>?_
 have g1:=gB d f hd hf;have g2:=gB e g he hg;have l1:(d++wF++f).length<=3000000:=by simp only[wF,Zu,Zn,ZF];omega
 have l2:(e++wF++g).length<=3000000:=by simp only[wF,Zu,Zn,ZF];omega
 generalize (d++wF++f)=x at g1 hS l1;generalize (e++wF++g)=y at g2 hS l2;simp only[Qs,Zd,Zm,Za,Ψ224];refine rG g1 ?_ (ha:=by rfl);simp only[Qs,lG,Zd,Zm,Za];refine⟨by omega,by omega,?_⟩;refine rG g2 ?_ (ha:=by rfl);simp only[Qs,lG,Zd,Zm,Za];refine⟨?_,?_,?_⟩
 ·(first|omega|(simp only[Zu,Zn,ZF] at*;omega))
 ·(first|omega|(simp only[Zu,Zn,ZF] at*;omega))
 ·simpa [vP,gQ,wG] using hS
end Go.Abs
set_option maxRecDepth 100000
namespace Go.Abs
open Go.Proofs Go.RowKit Go.Lib Go.Wd Go.Wire Go.Ex
def pI:Txt:=[115,117,109,32]
def tL:Txt:=[32,102,114,111,109,32]
def tM:Txt:=[32,116,111,32]
end Go.Abs
set_option maxRecDepth 100000
set_option maxHeartbeats 4000000
namespace Go.Ex
def qG (c:UInt8):List UInt8:=if c=34\/c=92 then[92,c] else[c]
def wX (l:List UInt8):List UInt8:=l.flatMap qG
theorem znO (l:List UInt8) (c:UInt8):wX (l++[c])=wX l++qG c:=by simp[wX]
theorem gR (l:List UInt8):(wX l).length<=2*l.length:=by
 induction l with
 |nil=>simp[wX]
 |cons c l ih=>
  have:(qG c).length<=2:=by unfold qG;split<;>simp
  simp only[wX,XG,Zu,Zn] at ih⊢;omega
end Go.Ex
namespace Go.Proofs
open Go.Shelf Go.RowKit Go.Lib Go.Ex
theorem oZ (B b:Nat) (l:List UInt8) (c:UInt8) (z:Int) (hz:z=(c.toNat:Int)) (w:World) (h:Lib.IsBuilderF 188 5 B b (Lib.byteCells l) w) (hlen:l.length+1<=140737488355328) (hBw:B<=w.heap.size):
  Calls Tryz.prog 220 #[.pointer (some ⟨b,0,none⟩),.int .u8 z] w fun e w'=>e=.returned .nilIface/\Lib.IsBuilderF 188 5 B b (Lib.byteCells (l++[c])) w'/\Below B w w':=by
 subst hz;refine(znL B b (Lib.byteCells l) c.toNat w h (by simpa [Lib.byteCells] using hlen) hBw).mono ?_;rintro e w' ⟨h1,h2,h3⟩;exact⟨h1,by simpa [Lib.byteCells] using h2,h3⟩
theorem znP {c:UInt8} (h:(c.toNat:Int)=34):c=34:=by
 have h2:c.toNat=34:=by omega
 have h3:UInt8.ofNat c.toNat=UInt8.ofNat 34:=by rw[h2]
 rw[UInt8.ofNat_toNat] at h3;exact h3
theorem znQ {c:UInt8} (h:(c.toNat:Int)=92):c=92:=by
 have h2:c.toNat=92:=by omega
 have h3:UInt8.ofNat c.toNat=UInt8.ofNat 92:=by rw[h2]
 rw[UInt8.ofNat_toNat] at h3;exact h3
theorem znR {c:UInt8} (q1: ¬(c.toNat:Int)=34) (q2: ¬(c.toNat:Int)=92):([c]:List UInt8)=qG c:=by
 unfold qG;rw[if_neg];rintro(h|h)
 ·subst h;exact q1 rfl
 ·subst h;exact q2 rfl
theorem ziv {c:UInt8} (h:c=34\/c=92):([92]++[c]:List UInt8)=qG c:=by
 unfold qG;rw[if_pos h];rfl
theorem znS (l:List UInt8) (hl:l.length<=1000000) (w:World):
  Calls Tryz.prog 219 #[.string ⟨l.toArray⟩] w fun e w'=>e=.returned (.string ⟨([34]++wX l++[34]).toArray⟩)/\Below w.heap.size w w':=by
 obtain⟨n,hN⟩: ∃n,l.length=n:=⟨_,rfl⟩;have hN':Aside (l.length=n):=hN;have hsz:(⟨l.toArray⟩:ByteArray).size=n:=by show l.toArray.size=_;simpa using hN
 have hg1:(w.alloc (.cells #[.pointer none,.slice none 0 0] 188)).heap[w.heap.size]?=some (.cells #[.pointer none,.slice none 0 0] 188 (0,0)):=Go.Abs.alloc_get w _;have hb2:Below w.heap.size w (w.alloc (.cells #[.pointer none,.slice none 0 0] 188)):=(Below.refl _ w).alloc (Zs _) _;have hI1:Lib.IsBuilderF 188 5 w.heap.size w.heap.size (Lib.byteCells []) (w.alloc (.cells #[.pointer none,.slice none 0 0] 188)):=by
  exact .inl ⟨Zs _,.slice none 0 0,hg1,World.ownsRowF_of (World.ownsRow_nil _ _ _ _),by simp[Value.ownBlock]⟩
 go_enter Tryz.func219,Tryz.ntmps219
 go_wp2_with (go_at_call 220;refine(oZ w.heap.size w.heap.size [] 34 34 rfl _ hI1 (by decide) hb2.size).mono ?_;rintro e w3 ⟨rfl,hI3,hb3⟩)
 rw[Ya] at hI3;have hb4:=hb2.trans hb3
 go_loopg [4,8] n (fun g t i wr=>Below w.heap.size w wr/\ ∃k:Nat,k<=n/\g=n-k/\i=.int .i64 k/\Lib.IsBuilderF 188 5 w.heap.size w.heap.size (Lib.byteCells ([34]++wX (l.take k))) wr)
 case atStart=>exact⟨hb4,0,ZB _,rfl,rfl,hI3⟩
 case round=>
  obtain⟨hbx,k,hk,rfl,rfl,hIx⟩:=hrel;by_cases hlt:k<n
  ·have hkn:(k:Int)<n:=by omega
   have hkl:k<l.length:=by omega
   obtain⟨c,hc⟩: ∃c,(⟨l.toArray⟩:ByteArray)[k]'(by rw[hsz];exact hlt)=c:=⟨_,rfl⟩;have hcl:l[k]=c:=hc;have hE:Aside ([34]++wX (l.take (k+1))=[34]++wX (l.take k)++qG c):=show _=_ by rw[ZQ hkl,hcl,znO,Z9]
   have hA:=gR (l.take k);rw[Yt] at hA;have hA2:([34]++wX (l.take k)).length<=2000001:=by simp only[Zu,Zn,ZF];omega
   generalize [34]++wX (l.take k)=A at hIx hE hA2;have hwr:IntKind.i64.wrap ((k:Int)+1)=((k+1:Nat):Int):=by rw[Go.Abs.wrap_in (by omega) (by omega)];omega
   clear hcl hA;by_cases q1:(c.toNat:Int)=34
   ·have o1:c=34:=znP q1
    go_wp2_with (first|(go_at_call 220;refine(oZ w.heap.size w.heap.size (A++[92]) c 34 q1.symm _ hI5 (by rw[Zu];simp only[Zn,ZF];omega) (hbx.trans hb7).size).mono ?_;rintro e w6 ⟨rfl,hI6,hb8⟩)|(go_at_call 220;refine(oZ w.heap.size w.heap.size A 92 92 rfl _ hIx (by omega) hbx.size).mono ?_;rintro e w5 ⟨rfl,hI5,hb7⟩))
    rw[Z9,ziv (.inl o1),<-hE.out] at hI6
    go_roundg (n-(k+1))
    case measure=>omega
    case rel=>exact⟨(hbx.trans hb7).trans hb8,k+1,by omega,rfl,by go_num,hI6⟩
   ·by_cases q2:(c.toNat:Int)=92
    ·have o1:c=92:=znQ q2
     go_wp2_with (first|(go_at_call 220;refine(oZ w.heap.size w.heap.size (A++[92]) c 92 q2.symm _ hI5 (by rw[Zu];simp only[Zn,ZF];omega) (hbx.trans hb7).size).mono ?_;rintro e w6 ⟨rfl,hI6,hb8⟩)|(go_at_call 220;refine(oZ w.heap.size w.heap.size A 92 92 rfl _ hIx (by omega) hbx.size).mono ?_;rintro e w5 ⟨rfl,hI5,hb7⟩))
     rw[Z9,ziv (.inr o1),<-hE.out] at hI6
     go_roundg (n-(k+1))
     case measure=>omega
     case rel=>exact⟨(hbx.trans hb7).trans hb8,k+1,by omega,rfl,by go_num,hI6⟩
    ·have e1:((c.toNat:Int)==34)=false:=by simp only[beq_eq_false_iff_ne,ne_eq];exact q1
     have e2:((c.toNat:Int)==92)=false:=by simp only[beq_eq_false_iff_ne,ne_eq];exact q2
     have hEE:=znR q1 q2;clear q1 q2
     go_wp2_with (go_at_call 220;refine(oZ w.heap.size w.heap.size A c (c.toNat:Int) rfl _ hIx (by omega) hbx.size).mono ?_;rintro e w6 ⟨rfl,hI6,hb8⟩)
     rw[hEE,<-hE.out] at hI6
     go_roundg (n-(k+1))
     case measure=>omega
     case rel=>exact⟨hbx.trans hb8,k+1,by omega,rfl,by go_num,hI6⟩
  ·obtain rfl:k=n:=by omega
   have hE:Aside (l.take k=l):=show _=_ by rw[Z6 (by omega)]
   have hA:=gR l;rw[hE.out] at hIx;have hA2:([34]++wX l).length<=2000001:=by simp only[Zu,Zn,ZF];omega
   obtain⟨A,hAe⟩: ∃A,[34]++wX l=A:=⟨_,rfl⟩;rw[hAe] at hIx hA2;clear hA
   go_wp2_with (first|(go_at_call 134;refine(zhx w.heap.size w.heap.size (A++[34]) _ hI5 (hbx.trans hb7).size).mono ?_;rintro e w6 ⟨rfl,hI6,hb8⟩)|(go_at_call 220;refine(oZ w.heap.size w.heap.size A 34 34 rfl _ hIx (by omega) hbx.size).mono ?_;rintro e w5 ⟨rfl,hI5,hb7⟩))
   go_ret
   exact⟨by rw[<-hAe];rfl,(hbx.trans hb7).trans hb8⟩
end Go.Proofs
set_option maxRecDepth 100000
set_option maxHeartbeats 4000000
namespace Go.Abs
open Go.Proofs Go.RowKit Go.Lib Go.Wd Go.Wire Go.Ex
theorem znT (s:Txt) (hl:s.length<=1000000):Spec Tryz.prog 219 [.str s] (fun r=>r=.str ([34]++wX s++[34])):=by
 refine⟨rH (by kernel_rfl),fun w Z vs hG hz ha=>?_⟩;obtain⟨l⟩:=vs
 match l,ha with
 |[],ha=>exact absurd ha.1 (by simp)
 |_::_::_,ha=>exact absurd ha.1 (by simp)
 |[v1],ha=>
  have e1:=uQ (ha.2 0 _ v1 rfl rfl).2.2;subst e1;refine(znS s hl w).mono ?_;rintro e w' ⟨rfl,hb⟩;exact⟨_,_,rfl,rfl,fun _=>rfl,oG hG (xM hb) (fun _=>rfl) (fun _=>⟨rfl,.str _⟩)⟩
theorem znU (s:Txt) (hl:s.length<=1000000):Spec Tryz.prog 217 [.str s] (fun r=>r=.tup (if s.length>400\/spanN nV s≠s.length then[.str [],.bool false] else[.str ([34]++wX s++[34]),.bool true])):=by
 refine Spec.of_awlS hf217 okf217 (by simp) fun S hS=>?_
 have g1:=cX zmk s (big hl);have g2:=znT s hl;generalize [34]++wX s++[34]=x at g2 hS;generalize spanN nV s=y at g1 hS;by_cases q1:(s.length:Int)>400
 ·rw[if_pos (.inl (by omega))] at hS
  simp only[q1,Qs,Zk,Za,Ψ217];exact hS
 ·simp only[q1,Qs,Za,Ψ217]
  refine zF g1 ?_ (ha:=by rfl);by_cases q2:(y:Int)=s.length
  ·rw[if_neg (by omega)] at hS
   simp only[q2,Qs,forall_const,Zk,Za,Ψ217];refine zF g2 ?_ (ha:=by rfl);simp only[Qs,Zk,Za];exact hS
  ·rw[if_pos (.inr (by omega))] at hS
   simp only[q2,Qs,forall_const,Zk,Za,Ψ217];exact hS
def quoB (s:Txt):Bool:=decide (¬(s.length>400\/spanN nV s≠s.length))
def quoT (s:Txt):Txt:=if quoB s then[34]++wX s++[34] else[]
def gS:Txt:=[32,105,115,32]
theorem ziw (s:Txt) (hl:s.length<=1000000):Spec Tryz.prog 217 [.str s] (fun r=>r=.tup [.str (quoT s),.bool (quoB s)]):=by
 refine(znU s hl).mono ?_;rintro r rfl;unfold quoT quoB;by_cases h:s.length>400\/spanN nV s≠s.length
 ·rw[if_pos h];simp[h]
 ·rw[if_neg h];simp[h]
theorem znV (s:Txt) (h:s.length<=1000000):(quoT s).length<=2000002:=by
 have:=gR s;unfold quoT;split
 ·simp only[Zu,Zn,ZF];omega
 ·simp
theorem znW (d f t:Txt) (hd:d.length<=1000000) (hf:f.length<=1000000) (ht:t.length<=1000000):Spec Tryz.prog 213 [.agg [.str d,.str f,.str t]] (fun v=>v=.bool (quoB t&&(nameP d&&nameP f))):=by
 refine Spec.of_awlS hf213 okf213 (by simp) fun S hS=>?_
 have g1:=ziw t ht;have g2:=gA d f hd hf;generalize (nameP d&&nameP f)=x at g2 hS;generalize quoB t=y at g1 hS;simp only[Qs,Zd,Za,Ψ213];refine zF g1 ?_ (ha:=by rfl);cases y with
 |false=>
  simp only[Qs,Za,Ψ213];exact hS
 |true=>
  simp only[Qs,Zd,Zm,Za,Ψ213];refine zF g2 ?_ (ha:=by rfl);simp only[Qs,Za];exact hS
theorem znX (d f t:Txt) (hd:d.length<=1000000) (hf:f.length<=1000000) (ht:t.length<=1000000):Spec Tryz.prog 214 [.agg [.str d,.str f,.str t]] (fun v=>v=.str (vP++(d++wF++f)++gS++quoT t++wG)):=by
 refine Spec.of_awlS hf214 okf214 (by simp) fun S hS=>?_
 have g1:=ziw t ht;have g2:=gB d f hd hf;have l1:(d++wF++f).length<=3000000:=by simp only[wF,Zu,Zn,ZF];omega
 have l2:=znV t ht;generalize (d++wF++f)=x at g2 hS l1;generalize quoT t=y at g1 hS l2;simp only[Qs,Zd,Za,Ψ214];refine zF g1 ?_ (ha:=by rfl);simp only[Qs,Zd,Zm,Za,Ψ214];refine zF g2 ?_ (ha:=by rfl);simp only[Qs,lG,Zd,Zm,Za];refine⟨?_,?_,?_⟩
 ·(first|omega|(simp only[Zu,Zn,ZF] at*;omega))
 ·(first|omega|(simp only[Zu,Zn,ZF] at*;omega))
 ·refine⟨by (first|omega|(simp only[Zu,Zn,ZF] at*;omega)),by (first|omega|(simp only[Zu,Zn,ZF] at*;omega)),?_⟩
  simpa [vP,gS,wG] using hS
end Go.Abs
set_option maxRecDepth 100000
namespace Go.Ex
open Go.Lib Go.Wd Go.Wire Go.Abs Go.Proofs
def okD (op:Int):Bool:=decide (op=0)||(decide (op=1)||(decide (op=3)||(decide (op=2)||decide (op=4))))
def gT (m:Dmd):Dmd:=
 if m.op=0 then⟨0,m.doc,[],[],[],[],0,0⟩ else if m.op=1 then⟨1,m.doc,m.fld,[],[],m.txt,0,0⟩
 else if m.op=3 then⟨3,m.doc,m.fld,m.oth,m.sec,[],0,0⟩ else if m.op=2 then⟨2,m.doc,m.fld,[],[],[],m.lo,m.hi⟩ else⟨4,m.doc,m.fld,[],[],[],m.lo,m.hi⟩
def kF (m:Dmd):Bool:=
 if m.op=0 then nameP m.doc else if m.op=1 then quoB m.txt&&(nameP m.doc&&nameP m.fld)
 else if m.op=3 then(nameP m.doc&&nameP m.fld)&&(nameP m.oth&&nameP m.sec)
 else(nameP m.doc&&nameP m.fld)&&(decide (m.lo>=0)&&(decide (m.lo<=m.hi)&&decide (m.hi<=1099511627776)))
def kG (m:Dmd):Txt:=
 if m.op=0 then aL++m.doc++wG else if m.op=1 then vP++(m.doc++wF++m.fld)++gS++quoT m.txt++wG
 else if m.op=3 then vP++(m.doc++wF++m.fld)++gQ++(m.oth++wF++m.sec)++wG
 else(if m.op=4 then pI else vP)++(m.doc++wF++m.fld)++tL++itoa m.lo++tM++itoa m.hi++wG
def uE (m:Dmd):Bool:=okD m.op&&(decide (m=gT m)&&kF m)
def uL (L:List Dmd):Bool:=decide (L=[])||(decide (L.length<=20)&&L.all uE)
structure DmdS (m:Dmd):Prop where
 d:m.doc.length<=1000000
 f:m.fld.length<=1000000
 o:m.oth.length<=1000000
 s:m.sec.length<=1000000
 t:m.txt.length<=1000000
 l1: -9223372036854775808<=m.lo
 l2:m.lo<=9223372036854775807
 h1: -9223372036854775808<=m.hi
 h2:m.hi<=9223372036854775807
theorem sW {s:Txt} (h:nameP s=true):s.length<=20:=by
 unfold nameP at h;simp only[Zp,decide_eq_true_eq] at h;exact h.2.2.1
theorem znY (t:Txt):(wX t).length<=2*t.length:=gR t
theorem aM {m:Dmd} (hm:DmdS m) (h:uE m=true):(kG m).length<=1000:=by
 unfold uE at h;simp only[Zp] at h;obtain⟨_,_,h⟩:=h;have e1:=itoa_length_le m.lo hm.l1 hm.l2;have e2:=itoa_length_le m.hi hm.h1 hm.h2;unfold kF at h;unfold kG;split at h
 ·rename_i h0
  have:=sW h;rw[if_pos h0];simp only[aL,wG,Zu,Zn,ZF];omega
 split at h
 ·rename_i h0 h1
  simp only[Zp] at h;have n1:=sW h.2.1;have n2:=sW h.2.2;have n3:(quoT m.txt).length<=802:=by
   have hq:=h.1;unfold quoT;rw[if_pos hq];unfold quoB at hq;have hq:=of_decide_eq_true hq;have:=znY m.txt;simp only[Zu,Zn,ZF];omega
  rw[if_neg h0,if_pos h1];simp only[vP,gS,wF,wG,Zu,Zn,ZF];omega
 split at h
 ·rename_i h0 h1 h2
  simp only[Zp] at h;have n1:=sW h.1.1;have n2:=sW h.1.2;have n3:=sW h.2.1;have n4:=sW h.2.2;rw[if_neg h0,if_neg h1,if_pos h2];simp only[vP,gQ,wF,wG,Zu,Zn,ZF];omega
 ·rename_i h0 h1 h2
  simp only[Zp] at h;have n1:=sW h.1.1;have n2:=sW h.1.2;rw[if_neg h0,if_neg h1,if_neg h2];have n3:(if m.op=4 then pI else vP).length<=10:=by split<;>simp[pI,vP]
  simp only[tL,tM,wF,wG,Zu,Zn,ZF];omega
end Go.Ex
set_option maxRecDepth 100000
namespace Go.Proofs
open Go.Shelf Go.RowKit
def Tryz.laysItoa_ren:Go.Shelf.Ren:=
 {
  f:=fun x=>
   match x with
   |171=>231
   |243=>232
   |246=>233
   |283=>234
   |284=>235
   |285=>236
   |286=>237
   |129=>144
   |317=>238
   |318=>239
   |319=>240
   |320=>75
   |337=>110
   |338=>111
   |n=>n,
  t:=fun x=>
   match x with
   |3=>3
   |9=>9
   |2=>2
   |4=>4
   |171=>262
   |0=>0
   |53=>154
   |37=>186
   |5=>5
   |173=>264
   |212=>267
   |51=>152
   |20=>20
   |213=>268
   |46=>71
   |232=>208
   |233=>209
   |n=>n,
  g:=fun x=>
   match x with
   |17=>5
   |18=>0
   |19=>1
   |n=>n}
theorem Tryz.laysItoa:LaysM.n171 Tryz.prog Tryz.laysItoa_ren:=
 {mixed:=by kernel_rfl,f129:=ZN Tryz.func144 (congrArg some (ZG (Body.n129 Tryz.laysItoa_ren))),
  f171:=ZN Tryz.func231 (congrArg some (ZG (Body.n171 Tryz.laysItoa_ren))),
  f243:=ZN Tryz.func232 (congrArg some (ZG (Body.n243 Tryz.laysItoa_ren))),
  f246:=ZN Tryz.func233 (congrArg some (ZG (Body.n246 Tryz.laysItoa_ren))),
  f283:=ZN Tryz.func234 (congrArg some (ZG (Body.n283 Tryz.laysItoa_ren))),
  f284:=ZN Tryz.func235 (congrArg some (ZG (Body.n284 Tryz.laysItoa_ren))),
  f285:=ZN Tryz.func236 (congrArg some (ZG (Body.n285 Tryz.laysItoa_ren))),
  f286:=ZN Tryz.func237 (congrArg some (ZG (Body.n286 Tryz.laysItoa_ren))),
  f317:=ZN Tryz.func238 (congrArg some (ZG (Body.n317 Tryz.laysItoa_ren))),
  f318:=ZN Tryz.func239 (congrArg some (ZG (Body.n318 Tryz.laysItoa_ren))),
  f319:=ZN Tryz.func240 (congrArg some (ZG (Body.n319 Tryz.laysItoa_ren))),
  f320:=ZN Tryz.func75 (congrArg some (ZG (Body.n320 Tryz.laysItoa_ren))),
  f337:=ZN Tryz.func110 (congrArg some (ZG (Body.n337 Tryz.laysItoa_ren))),
  f338:=ZN Tryz.func111 (congrArg some (ZG (Body.n338 Tryz.laysItoa_ren))),t0:=Tryz.underlying0,
  a0:=Tryz.isAgg0,z0:=Tryz.sizeOf0,v0:=Tryz.zeroValue0,t2:=Tryz.underlying2,a2:=Tryz.isAgg2,
  z2:=Tryz.sizeOf2,v2:=Tryz.zeroValue2,t3:=Tryz.underlying3,a3:=Tryz.isAgg3,z3:=Tryz.sizeOf3,
  v3:=Tryz.zeroValue3,t4:=Tryz.underlying4,a4:=Tryz.isAgg4,z4:=Tryz.sizeOf4,v4:=Tryz.zeroValue4,
  t5:=Tryz.underlying5,a5:=Tryz.isAgg5,z5:=Tryz.sizeOf5,v5:=Tryz.zeroValue5,t9:=Tryz.underlying9,
  a9:=Tryz.isAgg9,z9:=Tryz.sizeOf9,v9:=Tryz.zeroValue9,t20:=Tryz.underlying20,a20:=Tryz.isAgg20,
  z20:=Tryz.sizeOf20,v20:=Tryz.zeroValue20,t37:=Tryz.underlying186,a37:=Tryz.isAgg186,z37:=Tryz.sizeOf186,
  v37:=Tryz.zeroValue186,t46:=Tryz.underlying71,a46:=Tryz.isAgg71,z46:=Tryz.sizeOf71,
  v46:=Tryz.zeroValue71,t51:=Tryz.underlying152,a51:=Tryz.isAgg152,z51:=Tryz.sizeOf152,
  v51:=Tryz.zeroValue152,t53:=Tryz.underlying154,a53:=Tryz.isAgg154,z53:=Tryz.sizeOf154,
  v53:=Tryz.zeroValue154,t171:=Tryz.underlying262,a171:=Tryz.isAgg262,z171:=Tryz.sizeOf262,
  v171:=Tryz.zeroValue262,t173:=Tryz.underlying264,a173:=Tryz.isAgg264,z173:=Tryz.sizeOf264,
  v173:=Tryz.zeroValue264,t212:=Tryz.underlying267,a212:=Tryz.isAgg267,z212:=Tryz.sizeOf267,
  v212:=Tryz.zeroValue267,t213:=Tryz.underlying268,a213:=Tryz.isAgg268,z213:=Tryz.sizeOf268,
  t232:=Tryz.underlying208,a232:=Tryz.isAgg208,z232:=Tryz.sizeOf208,v232:=Tryz.zeroValue208,
  t233:=Tryz.underlying209,a233:=Tryz.isAgg209,z233:=Tryz.sizeOf209,v233:=Tryz.zeroValue209,
  g17:=by kernel_rfl,g18:=by kernel_rfl,
  g19:=by kernel_rfl,i0:=by kernel_rfl,
  i2:=by kernel_rfl,
  i3:=by kernel_rfl,i4:=by kernel_rfl,
  i5:=by kernel_rfl,
  i9:=by kernel_rfl,i20:=by kernel_rfl,
  i37:=by kernel_rfl,
  i46:=by kernel_rfl,
  i51:=by kernel_rfl,
  i53:=by kernel_rfl,
  i171:=
   ZG
    (some
     (some
       (Value.agg
        #[Value.int IntKind.u8 0,Value.int IntKind.u8 0,Value.int IntKind.u8 0,Value.int IntKind.u8 0,
          Value.int IntKind.u8 0,Value.int IntKind.u8 0,Value.int IntKind.u8 0,Value.int IntKind.u8 0,
          Value.int IntKind.u8 0,Value.int IntKind.u8 0,Value.int IntKind.u8 0,Value.int IntKind.u8 0,
          Value.int IntKind.u8 0,Value.int IntKind.u8 0,Value.int IntKind.u8 0,Value.int IntKind.u8 0,
          Value.int IntKind.u8 0,Value.int IntKind.u8 0,Value.int IntKind.u8 0,Value.int IntKind.u8 0,
          Value.int IntKind.u8 0,Value.int IntKind.u8 0,Value.int IntKind.u8 0,Value.int IntKind.u8 0]),
      24,24)),
  i173:=by kernel_rfl,
  i212:=
   ZG
    (some
     (some
       (Value.agg
        #[Value.int IntKind.u64 0,Value.int IntKind.u64 0,Value.int IntKind.u64 0,Value.int IntKind.u64 0,
          Value.int IntKind.u64 0,Value.int IntKind.u64 0,Value.int IntKind.u64 0,Value.int IntKind.u64 0,
          Value.int IntKind.u64 0,Value.int IntKind.u64 0,Value.int IntKind.u64 0,Value.int IntKind.u64 0,
          Value.int IntKind.u64 0,Value.int IntKind.u64 0,Value.int IntKind.u64 0,Value.int IntKind.u64 0,
          Value.int IntKind.u64 0,Value.int IntKind.u64 0,Value.int IntKind.u64 0,Value.int IntKind.u64 0]),
      20,160)),
  i232:=
   ZG
    (some
     (some
       (Value.agg
        #[Value.int IntKind.u8 0,Value.int IntKind.u8 0,Value.int IntKind.u8 0,Value.int IntKind.u8 0,
          Value.int IntKind.u8 0,Value.int IntKind.u8 0,Value.int IntKind.u8 0,Value.int IntKind.u8 0,
          Value.int IntKind.u8 0,Value.int IntKind.u8 0,Value.int IntKind.u8 0,Value.int IntKind.u8 0,
          Value.int IntKind.u8 0,Value.int IntKind.u8 0,Value.int IntKind.u8 0,Value.int IntKind.u8 0,
          Value.int IntKind.u8 0,Value.int IntKind.u8 0,Value.int IntKind.u8 0,Value.int IntKind.u8 0,
          Value.int IntKind.u8 0,Value.int IntKind.u8 0,Value.int IntKind.u8 0,Value.int IntKind.u8 0,
          Value.int IntKind.u8 0,Value.int IntKind.u8 0,Value.int IntKind.u8 0,Value.int IntKind.u8 0,
          Value.int IntKind.u8 0,Value.int IntKind.u8 0,Value.int IntKind.u8 0,Value.int IntKind.u8 0]),
      32,32)),
  i233:=
   ZG
    (some
     (some
       (Value.agg
        (let y:=
          let y:=
           let y:=
            let y:=
             [Value.int IntKind.u8 0,Value.int IntKind.u8 0,Value.int IntKind.u8 0,
              Value.int IntKind.u8 0];
            Value.int IntKind.u8 0::
             Value.int IntKind.u8 0::Value.int IntKind.u8 0::Value.int IntKind.u8 0::y;
           let y:=
            Value.int IntKind.u8 0::
             Value.int IntKind.u8 0::Value.int IntKind.u8 0::Value.int IntKind.u8 0::y;
           Value.int IntKind.u8 0::
            Value.int IntKind.u8 0::Value.int IntKind.u8 0::Value.int IntKind.u8 0::y;
          let y:=
           let y:=
            Value.int IntKind.u8 0::
             Value.int IntKind.u8 0::Value.int IntKind.u8 0::Value.int IntKind.u8 0::y;
           Value.int IntKind.u8 0::
            Value.int IntKind.u8 0::Value.int IntKind.u8 0::Value.int IntKind.u8 0::y;
          let y:=
           Value.int IntKind.u8 0::
            Value.int IntKind.u8 0::Value.int IntKind.u8 0::Value.int IntKind.u8 0::y;
          Value.int IntKind.u8 0::
           Value.int IntKind.u8 0::Value.int IntKind.u8 0::Value.int IntKind.u8 0::y;
         let y:=
          let y:=
           let y:=
            Value.int IntKind.u8 0::
             Value.int IntKind.u8 0::Value.int IntKind.u8 0::Value.int IntKind.u8 0::y;
           Value.int IntKind.u8 0::
            Value.int IntKind.u8 0::Value.int IntKind.u8 0::Value.int IntKind.u8 0::y;
          let y:=
           Value.int IntKind.u8 0::
            Value.int IntKind.u8 0::Value.int IntKind.u8 0::Value.int IntKind.u8 0::y;
          Value.int IntKind.u8 0::
           Value.int IntKind.u8 0::Value.int IntKind.u8 0::Value.int IntKind.u8 0::y;
         let y:=
          let y:=
           Value.int IntKind.u8 0::
            Value.int IntKind.u8 0::Value.int IntKind.u8 0::Value.int IntKind.u8 0::y;
          Value.int IntKind.u8 0::
           Value.int IntKind.u8 0::Value.int IntKind.u8 0::Value.int IntKind.u8 0::y;
         let y:=
          Value.int IntKind.u8 0::
           Value.int IntKind.u8 0::Value.int IntKind.u8 0::Value.int IntKind.u8 0::y;
         Value.int IntKind.u8 0::
          Value.int IntKind.u8 0::Value.int IntKind.u8 0::Value.int IntKind.u8 0::y).toArray),
      64,64)),
  m17:=by kernel_rfl,m18:=by kernel_rfl,
  m19:=by kernel_rfl}
end Go.Proofs
set_option maxRecDepth 100000
set_option maxHeartbeats 12800000
namespace Go.Proofs
open Go.Shelf Go.RowKit Go.Sort Go.Lib
theorem zix (blk off cap u:Nat) (d:Array UInt8) (w:World) (hH:Holds (fun(b:UInt8)=>Value.int .u8 (b.toNat:Int)) w blk off d) (hu:u<18446744073709551616) (hsz:d.size<=23):
  Calls Tryz.prog 236 #[.slice (some ⟨blk,off,none⟩) d.size cap,.int .u64 u] w fun e w'=>
   e=.returned (.tuple #[])/\ ∃(n:Nat) (dk:Array UInt8),dk.size=d.size/\w'=(putRow (fun(b:UInt8)=>Value.int .u8 (b.toNat:Int)) w blk off dk).drewN n:=by
 have mixed:Tryz.prog.follows Departure.mixedOrders=true:=by kernel_rfl
 go_enter Tryz.func236,Tryz.ntmps236
 go_name_bytes SM hSM
 have eSM:SM=Lib.smalls:=by rw[<-hSM];decide+kernel
 subst eSM;clear hSM
 go_wp2
 go_loopw [1,4] (fun vu vn wr=> ∃(nd v n:Nat) (dk:Array UInt8),vu=.int .u64 v/\vn=.int .i64 nd/\nd<=d.size/\v<18446744073709551616/\dk.size=d.size/\Hid (wr=(putRow (fun(b:UInt8)=>Value.int .u8 (b.toNat:Int)) w blk off dk).drewN n)) (fun _ vn _=>(RowKit.intOf vn).toNat)
 case atStart=>exact⟨d.size,u,0,d,rfl,rfl,Zs _,hu,rfl,Lib.hid (putRow_self _ _ _ _ _ hH).symm⟩
 case round=>
  obtain⟨nd,v,n,dk0,rfl,rfl,hle,hv64,hs0,AW0⟩:=hrel
  rename World=>W0
  have AH:=Lib.hid hH;clear hH;have hH0:Holds (fun(b:UInt8)=>Value.int .u8 (b.toNat:Int)) W0 blk off dk0:=by rw[AW0.out];exact holds_putRow _ w blk off d dk0 AH.out hs0
  obtain⟨G0,hG0⟩: ∃G:Nat->Int,∀t,G t=(dk0[t]!.toNat:Int):=⟨_,fun _=>rfl⟩;have hc0: ∀t,t<d.size->W0.cell? ⟨blk,off+t,none⟩=some (.int .u8 (G0 t)):=fun t ht=>by rw[hG0];exact(hH0 t (by omega)).1
  have hf0: ∀t,t<d.size->W0.frozen? ⟨blk,off+t,none⟩=false:=fun t ht=>(hH0 t (by omega)).2
  clear hG0 hH0;by_cases h8:8<=nd
  ·obtain⟨m,rfl⟩: ∃m,nd=m+8:=⟨nd-8,by omega⟩
   go_wp2
   go_name_slot 9 x0 hx0
   have hlo0:0<=x0:=by omega
   have hhi0:x0<=198:=by omega
   obtain⟨y0,hy0⟩: ∃y:Nat,x0=y:=⟨x0.toNat,by omega⟩;clear hx0;have hXa0: ∀w,(Instr.index 9 (.string Lib.smalls) (.int .u32 (x0+1))).run Tryz.prog w=.ok (.int .u8 ((sm (y0+1)).toNat:Int)) w:=idx_smalls 9 Tryz.underlying9 .u32 _ _ (by omega) (by omega);have hXb0: ∀w,(Instr.index 9 (.string Lib.smalls) (.int .u32 x0)).run Tryz.prog w=.ok (.int .u8 ((sm y0).toNat:Int)) w:=idx_smalls 9 Tryz.underlying9 .u32 _ _ (by omega) (by omega);clear hy0
   go_region_o
   go_wp2
   go_name_world W1 hW1
   have hw1:W1=(putRow (fun(b:UInt8)=>Value.int .u8 (b.toNat:Int)) w blk off ((dk0.setIfInBounds (m+6+1) (sm (y0+1))).setIfInBounds (m+6) (sm y0))).drewN (n+0+1):=by rw[<-hW1];exact(by rw[AW0.out];exact store2_world w blk off dk0 (n+0) (m+6+1) (m+6) _ _ (by omega) (by omega))
   have hs1:((dk0.setIfInBounds (m+6+1) (sm (y0+1))).setIfInBounds (m+6) (sm y0)).size=d.size:=by simp[hs0]
   generalize ((dk0.setIfInBounds (m+6+1) (sm (y0+1))).setIfInBounds (m+6) (sm y0))=dk1 at hw1 hs1;have AW1:=Lib.hid hw1;clear hW1 hw1 hc0 hf0 AW0 hXa0 hXb0 hs0;have hH1:Holds (fun(b:UInt8)=>Value.int .u8 (b.toNat:Int)) W1 blk off dk1:=by rw[AW1.out];exact holds_putRow _ w blk off d dk1 AH.out hs1
   obtain⟨G1,hG1⟩: ∃G:Nat->Int,∀t,G t=(dk1[t]!.toNat:Int):=⟨_,fun _=>rfl⟩;have hc1: ∀t,t<d.size->W1.cell? ⟨blk,off+t,none⟩=some (.int .u8 (G1 t)):=fun t ht=>by rw[hG1];exact(hH1 t (by omega)).1
   have hf1: ∀t,t<d.size->W1.frozen? ⟨blk,off+t,none⟩=false:=fun t ht=>(hH1 t (by omega)).2
   clear hG1 hH1
   go_name_slot 8 x1 hx1
   have hlo1:0<=x1:=by omega
   have hhi1:x1<=198:=by omega
   obtain⟨y1,hy1⟩: ∃y:Nat,x1=y:=⟨x1.toNat,by omega⟩;clear hx1;have hXa1: ∀w,(Instr.index 9 (.string Lib.smalls) (.int .u32 (x1+1))).run Tryz.prog w=.ok (.int .u8 ((sm (y1+1)).toNat:Int)) w:=idx_smalls 9 Tryz.underlying9 .u32 _ _ (by omega) (by omega);have hXb1: ∀w,(Instr.index 9 (.string Lib.smalls) (.int .u32 x1)).run Tryz.prog w=.ok (.int .u8 ((sm y1).toNat:Int)) w:=idx_smalls 9 Tryz.underlying9 .u32 _ _ (by omega) (by omega);clear hy1
   go_region_o
   go_wp2
   go_name_world W2 hW2
   have hw2:W2=(putRow (fun(b:UInt8)=>Value.int .u8 (b.toNat:Int)) w blk off ((dk1.setIfInBounds (m+4+1) (sm (y1+1))).setIfInBounds (m+4) (sm y1))).drewN (n+1+1):=by rw[<-hW2];exact(by rw[AW1.out];exact store2_world w blk off dk1 (n+1) (m+4+1) (m+4) _ _ (by omega) (by omega))
   have hs2:((dk1.setIfInBounds (m+4+1) (sm (y1+1))).setIfInBounds (m+4) (sm y1)).size=d.size:=by simp[hs1]
   generalize ((dk1.setIfInBounds (m+4+1) (sm (y1+1))).setIfInBounds (m+4) (sm y1))=dk2 at hw2 hs2;have AW2:=Lib.hid hw2;clear hW2 hw2 hc1 hf1 AW1 hXa1 hXb1 hs1;have hH2:Holds (fun(b:UInt8)=>Value.int .u8 (b.toNat:Int)) W2 blk off dk2:=by rw[AW2.out];exact holds_putRow _ w blk off d dk2 AH.out hs2
   obtain⟨G2,hG2⟩: ∃G:Nat->Int,∀t,G t=(dk2[t]!.toNat:Int):=⟨_,fun _=>rfl⟩;have hc2: ∀t,t<d.size->W2.cell? ⟨blk,off+t,none⟩=some (.int .u8 (G2 t)):=fun t ht=>by rw[hG2];exact(hH2 t (by omega)).1
   have hf2: ∀t,t<d.size->W2.frozen? ⟨blk,off+t,none⟩=false:=fun t ht=>(hH2 t (by omega)).2
   clear hG2 hH2
   go_name_slot 11 x2 hx2
   have hlo2:0<=x2:=by omega
   have hhi2:x2<=198:=by omega
   obtain⟨y2,hy2⟩: ∃y:Nat,x2=y:=⟨x2.toNat,by omega⟩;clear hx2;have hXa2: ∀w,(Instr.index 9 (.string Lib.smalls) (.int .u32 (x2+1))).run Tryz.prog w=.ok (.int .u8 ((sm (y2+1)).toNat:Int)) w:=idx_smalls 9 Tryz.underlying9 .u32 _ _ (by omega) (by omega);have hXb2: ∀w,(Instr.index 9 (.string Lib.smalls) (.int .u32 x2)).run Tryz.prog w=.ok (.int .u8 ((sm y2).toNat:Int)) w:=idx_smalls 9 Tryz.underlying9 .u32 _ _ (by omega) (by omega);clear hy2
   go_region_o
   go_wp2
   go_name_world W3 hW3
   have hw3:W3=(putRow (fun(b:UInt8)=>Value.int .u8 (b.toNat:Int)) w blk off ((dk2.setIfInBounds (m+2+1) (sm (y2+1))).setIfInBounds (m+2) (sm y2))).drewN (n+2+1):=by rw[<-hW3];exact(by rw[AW2.out];exact store2_world w blk off dk2 (n+2) (m+2+1) (m+2) _ _ (by omega) (by omega))
   have hs3:((dk2.setIfInBounds (m+2+1) (sm (y2+1))).setIfInBounds (m+2) (sm y2)).size=d.size:=by simp[hs2]
   generalize ((dk2.setIfInBounds (m+2+1) (sm (y2+1))).setIfInBounds (m+2) (sm y2))=dk3 at hw3 hs3;have AW3:=Lib.hid hw3;clear hW3 hw3 hc2 hf2 AW2 hXa2 hXb2 hs2;have hH3:Holds (fun(b:UInt8)=>Value.int .u8 (b.toNat:Int)) W3 blk off dk3:=by rw[AW3.out];exact holds_putRow _ w blk off d dk3 AH.out hs3
   obtain⟨G3,hG3⟩: ∃G:Nat->Int,∀t,G t=(dk3[t]!.toNat:Int):=⟨_,fun _=>rfl⟩;have hc3: ∀t,t<d.size->W3.cell? ⟨blk,off+t,none⟩=some (.int .u8 (G3 t)):=fun t ht=>by rw[hG3];exact(hH3 t (by omega)).1
   have hf3: ∀t,t<d.size->W3.frozen? ⟨blk,off+t,none⟩=false:=fun t ht=>(hH3 t (by omega)).2
   clear hG3 hH3
   go_name_slot 10 x3 hx3
   have hlo3:0<=x3:=by omega
   have hhi3:x3<=198:=by omega
   obtain⟨y3,hy3⟩: ∃y:Nat,x3=y:=⟨x3.toNat,by omega⟩;clear hx3;have hXa3: ∀w,(Instr.index 9 (.string Lib.smalls) (.int .u32 (x3+1))).run Tryz.prog w=.ok (.int .u8 ((sm (y3+1)).toNat:Int)) w:=idx_smalls 9 Tryz.underlying9 .u32 _ _ (by omega) (by omega);have hXb3: ∀w,(Instr.index 9 (.string Lib.smalls) (.int .u32 x3)).run Tryz.prog w=.ok (.int .u8 ((sm y3).toNat:Int)) w:=idx_smalls 9 Tryz.underlying9 .u32 _ _ (by omega) (by omega);clear hy3
   go_region_o
   go_wp2
   go_roundw
   case rel=>
    exact⟨m,v/100000000,n+3+1,((dk3.setIfInBounds (m+1) (sm (y3+1))).setIfInBounds (m) (sm y3)),by first|go_num|(congr 1;omega),by first|go_num|(congr 1;omega),by omega,by omega,by simp[hs3],Lib.hid (by rw[AW3.out];exact store2_world w blk off dk3 (n+3) (m+1) (m) _ _ (by omega) (by omega))⟩
   case measure=>simp[RowKit.intOf];omega
  ·have hc8:nd=0\/nd=1\/nd=2\/nd=3\/nd=4\/nd=5\/nd=6\/nd=7:=by omega
   rcases hc8 with rfl|rfl|rfl|rfl|rfl|rfl|rfl|rfl
   ·go_wp2
    go_end0
    exact⟨rfl,n,dk0,hs0,AW0.out⟩
   ·go_wp2
    go_end0
    exact⟨rfl,n,dk0.setIfInBounds 0 (UInt8.ofNat (48+v % 4294967296)),by simp[hs0],by rw[AW0.out];exact store1_world0 w blk off dk0 n _ (v % 4294967296) (by omega) (by omega)⟩
   ·go_wp2
    go_name_slot 16 x0 hx0
    have hlo0:0<=x0:=by omega
    have hhi0:x0<=198:=by omega
    obtain⟨y0,hy0⟩: ∃y:Nat,x0=y:=⟨x0.toNat,by omega⟩;clear hx0;have hXa0: ∀w,(Instr.index 9 (.string Lib.smalls) (.int .u32 (x0+1))).run Tryz.prog w=.ok (.int .u8 ((sm (y0+1)).toNat:Int)) w:=idx_smalls 9 Tryz.underlying9 .u32 _ _ (by omega) (by omega);have hXb0: ∀w,(Instr.index 9 (.string Lib.smalls) (.int .u32 x0)).run Tryz.prog w=.ok (.int .u8 ((sm y0).toNat:Int)) w:=idx_smalls 9 Tryz.underlying9 .u32 _ _ (by omega) (by omega);clear hy0
    go_region_o
    go_wp2
    go_end0
    exact⟨rfl,n+0+1,(dk0.setIfInBounds (0+1) (sm (y0+1))).setIfInBounds (0) (sm y0),by simp[hs0],by rw[AW0.out];exact store2_world w blk off dk0 (n+0) (0+1) (0) _ _ (by omega) (by omega)⟩
   ·go_wp2
    go_name_slot 16 x0 hx0
    have hlo0:0<=x0:=by omega
    have hhi0:x0<=198:=by omega
    obtain⟨y0,hy0⟩: ∃y:Nat,x0=y:=⟨x0.toNat,by omega⟩;clear hx0;have hXa0: ∀w,(Instr.index 9 (.string Lib.smalls) (.int .u32 (x0+1))).run Tryz.prog w=.ok (.int .u8 ((sm (y0+1)).toNat:Int)) w:=idx_smalls 9 Tryz.underlying9 .u32 _ _ (by omega) (by omega);have hXb0: ∀w,(Instr.index 9 (.string Lib.smalls) (.int .u32 x0)).run Tryz.prog w=.ok (.int .u8 ((sm y0).toNat:Int)) w:=idx_smalls 9 Tryz.underlying9 .u32 _ _ (by omega) (by omega);clear hy0
    go_region_o
    go_wp2
    go_end0
    exact⟨rfl,n+0+1,((dk0.setIfInBounds (1+1) (sm (y0+1))).setIfInBounds (1) (sm y0)).setIfInBounds 0 (UInt8.ofNat (48+v % 4294967296/100)),by simp[hs0],by rw[AW0.out];exact store21_world w blk off dk0 (n+0) (1+1) (1) _ _ _ (v % 4294967296/100) (by first|omega|(have e1:((v % 4294967296/10000:Nat):Int)=(v:Int) % 4294967296/10000:=(by omega);have e2:((v % 4294967296/10000/100:Nat):Int)=(v:Int) % 4294967296/10000/100:=(by rw[<-e1];omega);rw[<-e2];generalize v % 4294967296/10000/100=c9;omega)) (by omega) (by omega)⟩
   ·go_wp2
    go_name_slot 15 x0 hx0
    have hlo0:0<=x0:=by omega
    have hhi0:x0<=198:=by omega
    obtain⟨y0,hy0⟩: ∃y:Nat,x0=y:=⟨x0.toNat,by omega⟩;clear hx0;have hXa0: ∀w,(Instr.index 9 (.string Lib.smalls) (.int .u32 (x0+1))).run Tryz.prog w=.ok (.int .u8 ((sm (y0+1)).toNat:Int)) w:=idx_smalls 9 Tryz.underlying9 .u32 _ _ (by omega) (by omega);have hXb0: ∀w,(Instr.index 9 (.string Lib.smalls) (.int .u32 x0)).run Tryz.prog w=.ok (.int .u8 ((sm y0).toNat:Int)) w:=idx_smalls 9 Tryz.underlying9 .u32 _ _ (by omega) (by omega);clear hy0
    go_region_o
    go_wp2
    go_name_world W1 hW1
    have hw1:W1=(putRow (fun(b:UInt8)=>Value.int .u8 (b.toNat:Int)) w blk off ((dk0.setIfInBounds (2+1) (sm (y0+1))).setIfInBounds (2) (sm y0))).drewN (n+0+1):=by rw[<-hW1];exact(by rw[AW0.out];exact store2_world w blk off dk0 (n+0) (2+1) (2) _ _ (by omega) (by omega))
    have hs1:((dk0.setIfInBounds (2+1) (sm (y0+1))).setIfInBounds (2) (sm y0)).size=d.size:=by simp[hs0]
    generalize ((dk0.setIfInBounds (2+1) (sm (y0+1))).setIfInBounds (2) (sm y0))=dk1 at hw1 hs1;have AW1:=Lib.hid hw1;clear hW1 hw1 hc0 hf0 AW0 hXa0 hXb0 hs0;have hH1:Holds (fun(b:UInt8)=>Value.int .u8 (b.toNat:Int)) W1 blk off dk1:=by rw[AW1.out];exact holds_putRow _ w blk off d dk1 AH.out hs1
    obtain⟨G1,hG1⟩: ∃G:Nat->Int,∀t,G t=(dk1[t]!.toNat:Int):=⟨_,fun _=>rfl⟩;have hc1: ∀t,t<d.size->W1.cell? ⟨blk,off+t,none⟩=some (.int .u8 (G1 t)):=fun t ht=>by rw[hG1];exact(hH1 t (by omega)).1
    have hf1: ∀t,t<d.size->W1.frozen? ⟨blk,off+t,none⟩=false:=fun t ht=>(hH1 t (by omega)).2
    clear hG1 hH1
    go_name_slot 14 x1 hx1
    have hlo1:0<=x1:=by omega
    have hhi1:x1<=198:=by omega
    obtain⟨y1,hy1⟩: ∃y:Nat,x1=y:=⟨x1.toNat,by omega⟩;clear hx1;have hXa1: ∀w,(Instr.index 9 (.string Lib.smalls) (.int .u32 (x1+1))).run Tryz.prog w=.ok (.int .u8 ((sm (y1+1)).toNat:Int)) w:=idx_smalls 9 Tryz.underlying9 .u32 _ _ (by omega) (by omega);have hXb1: ∀w,(Instr.index 9 (.string Lib.smalls) (.int .u32 x1)).run Tryz.prog w=.ok (.int .u8 ((sm y1).toNat:Int)) w:=idx_smalls 9 Tryz.underlying9 .u32 _ _ (by omega) (by omega);clear hy1
    go_region_o
    go_wp2
    go_end0
    exact⟨rfl,n+1+1,(dk1.setIfInBounds (0+1) (sm (y1+1))).setIfInBounds (0) (sm y1),by simp[hs1],by rw[AW1.out];exact store2_world w blk off dk1 (n+1) (0+1) (0) _ _ (by omega) (by omega)⟩
   ·go_wp2
    go_name_slot 15 x0 hx0
    have hlo0:0<=x0:=by omega
    have hhi0:x0<=198:=by omega
    obtain⟨y0,hy0⟩: ∃y:Nat,x0=y:=⟨x0.toNat,by omega⟩;clear hx0;have hXa0: ∀w,(Instr.index 9 (.string Lib.smalls) (.int .u32 (x0+1))).run Tryz.prog w=.ok (.int .u8 ((sm (y0+1)).toNat:Int)) w:=idx_smalls 9 Tryz.underlying9 .u32 _ _ (by omega) (by omega);have hXb0: ∀w,(Instr.index 9 (.string Lib.smalls) (.int .u32 x0)).run Tryz.prog w=.ok (.int .u8 ((sm y0).toNat:Int)) w:=idx_smalls 9 Tryz.underlying9 .u32 _ _ (by omega) (by omega);clear hy0
    go_region_o
    go_wp2
    go_name_world W1 hW1
    have hw1:W1=(putRow (fun(b:UInt8)=>Value.int .u8 (b.toNat:Int)) w blk off ((dk0.setIfInBounds (3+1) (sm (y0+1))).setIfInBounds (3) (sm y0))).drewN (n+0+1):=by rw[<-hW1];exact(by rw[AW0.out];exact store2_world w blk off dk0 (n+0) (3+1) (3) _ _ (by omega) (by omega))
    have hs1:((dk0.setIfInBounds (3+1) (sm (y0+1))).setIfInBounds (3) (sm y0)).size=d.size:=by simp[hs0]
    generalize ((dk0.setIfInBounds (3+1) (sm (y0+1))).setIfInBounds (3) (sm y0))=dk1 at hw1 hs1;have AW1:=Lib.hid hw1;clear hW1 hw1 hc0 hf0 AW0 hXa0 hXb0 hs0;have hH1:Holds (fun(b:UInt8)=>Value.int .u8 (b.toNat:Int)) W1 blk off dk1:=by rw[AW1.out];exact holds_putRow _ w blk off d dk1 AH.out hs1
    obtain⟨G1,hG1⟩: ∃G:Nat->Int,∀t,G t=(dk1[t]!.toNat:Int):=⟨_,fun _=>rfl⟩;have hc1: ∀t,t<d.size->W1.cell? ⟨blk,off+t,none⟩=some (.int .u8 (G1 t)):=fun t ht=>by rw[hG1];exact(hH1 t (by omega)).1
    have hf1: ∀t,t<d.size->W1.frozen? ⟨blk,off+t,none⟩=false:=fun t ht=>(hH1 t (by omega)).2
    clear hG1 hH1
    go_name_slot 14 x1 hx1
    have hlo1:0<=x1:=by omega
    have hhi1:x1<=198:=by omega
    obtain⟨y1,hy1⟩: ∃y:Nat,x1=y:=⟨x1.toNat,by omega⟩;clear hx1;have hXa1: ∀w,(Instr.index 9 (.string Lib.smalls) (.int .u32 (x1+1))).run Tryz.prog w=.ok (.int .u8 ((sm (y1+1)).toNat:Int)) w:=idx_smalls 9 Tryz.underlying9 .u32 _ _ (by omega) (by omega);have hXb1: ∀w,(Instr.index 9 (.string Lib.smalls) (.int .u32 x1)).run Tryz.prog w=.ok (.int .u8 ((sm y1).toNat:Int)) w:=idx_smalls 9 Tryz.underlying9 .u32 _ _ (by omega) (by omega);clear hy1
    go_region_o
    go_wp2
    go_end0
    exact⟨rfl,n+1+1,((dk1.setIfInBounds (1+1) (sm (y1+1))).setIfInBounds (1) (sm y1)).setIfInBounds 0 (UInt8.ofNat (48+v % 4294967296/10000)),by simp[hs1],by rw[AW1.out];exact store21_world w blk off dk1 (n+1) (1+1) (1) _ _ _ (v % 4294967296/10000) (by first|omega|(have e1:((v % 4294967296/10000:Nat):Int)=(v:Int) % 4294967296/10000:=(by omega);have e2:((v % 4294967296/10000/100:Nat):Int)=(v:Int) % 4294967296/10000/100:=(by rw[<-e1];omega);rw[<-e2];generalize v % 4294967296/10000/100=c9;omega)) (by omega) (by omega)⟩
   ·go_wp2
    go_name_slot 15 x0 hx0
    have hlo0:0<=x0:=by omega
    have hhi0:x0<=198:=by omega
    obtain⟨y0,hy0⟩: ∃y:Nat,x0=y:=⟨x0.toNat,by omega⟩;clear hx0;have hXa0: ∀w,(Instr.index 9 (.string Lib.smalls) (.int .u32 (x0+1))).run Tryz.prog w=.ok (.int .u8 ((sm (y0+1)).toNat:Int)) w:=idx_smalls 9 Tryz.underlying9 .u32 _ _ (by omega) (by omega);have hXb0: ∀w,(Instr.index 9 (.string Lib.smalls) (.int .u32 x0)).run Tryz.prog w=.ok (.int .u8 ((sm y0).toNat:Int)) w:=idx_smalls 9 Tryz.underlying9 .u32 _ _ (by omega) (by omega);clear hy0
    go_region_o
    go_wp2
    go_name_world W1 hW1
    have hw1:W1=(putRow (fun(b:UInt8)=>Value.int .u8 (b.toNat:Int)) w blk off ((dk0.setIfInBounds (4+1) (sm (y0+1))).setIfInBounds (4) (sm y0))).drewN (n+0+1):=by rw[<-hW1];exact(by rw[AW0.out];exact store2_world w blk off dk0 (n+0) (4+1) (4) _ _ (by omega) (by omega))
    have hs1:((dk0.setIfInBounds (4+1) (sm (y0+1))).setIfInBounds (4) (sm y0)).size=d.size:=by simp[hs0]
    generalize ((dk0.setIfInBounds (4+1) (sm (y0+1))).setIfInBounds (4) (sm y0))=dk1 at hw1 hs1;have AW1:=Lib.hid hw1;clear hW1 hw1 hc0 hf0 AW0 hXa0 hXb0 hs0;have hH1:Holds (fun(b:UInt8)=>Value.int .u8 (b.toNat:Int)) W1 blk off dk1:=by rw[AW1.out];exact holds_putRow _ w blk off d dk1 AH.out hs1
    obtain⟨G1,hG1⟩: ∃G:Nat->Int,∀t,G t=(dk1[t]!.toNat:Int):=⟨_,fun _=>rfl⟩;have hc1: ∀t,t<d.size->W1.cell? ⟨blk,off+t,none⟩=some (.int .u8 (G1 t)):=fun t ht=>by rw[hG1];exact(hH1 t (by omega)).1
    have hf1: ∀t,t<d.size->W1.frozen? ⟨blk,off+t,none⟩=false:=fun t ht=>(hH1 t (by omega)).2
    clear hG1 hH1
    go_name_slot 14 x1 hx1
    have hlo1:0<=x1:=by omega
    have hhi1:x1<=198:=by omega
    obtain⟨y1,hy1⟩: ∃y:Nat,x1=y:=⟨x1.toNat,by omega⟩;clear hx1;have hXa1: ∀w,(Instr.index 9 (.string Lib.smalls) (.int .u32 (x1+1))).run Tryz.prog w=.ok (.int .u8 ((sm (y1+1)).toNat:Int)) w:=idx_smalls 9 Tryz.underlying9 .u32 _ _ (by omega) (by omega);have hXb1: ∀w,(Instr.index 9 (.string Lib.smalls) (.int .u32 x1)).run Tryz.prog w=.ok (.int .u8 ((sm y1).toNat:Int)) w:=idx_smalls 9 Tryz.underlying9 .u32 _ _ (by omega) (by omega);clear hy1
    go_region_o
    go_wp2
    go_name_world W2 hW2
    have hw2:W2=(putRow (fun(b:UInt8)=>Value.int .u8 (b.toNat:Int)) w blk off ((dk1.setIfInBounds (2+1) (sm (y1+1))).setIfInBounds (2) (sm y1))).drewN (n+1+1):=by rw[<-hW2];exact(by rw[AW1.out];exact store2_world w blk off dk1 (n+1) (2+1) (2) _ _ (by omega) (by omega))
    have hs2:((dk1.setIfInBounds (2+1) (sm (y1+1))).setIfInBounds (2) (sm y1)).size=d.size:=by simp[hs1]
    generalize ((dk1.setIfInBounds (2+1) (sm (y1+1))).setIfInBounds (2) (sm y1))=dk2 at hw2 hs2;have AW2:=Lib.hid hw2;clear hW2 hw2 hc1 hf1 AW1 hXa1 hXb1 hs1;have hH2:Holds (fun(b:UInt8)=>Value.int .u8 (b.toNat:Int)) W2 blk off dk2:=by rw[AW2.out];exact holds_putRow _ w blk off d dk2 AH.out hs2
    obtain⟨G2,hG2⟩: ∃G:Nat->Int,∀t,G t=(dk2[t]!.toNat:Int):=⟨_,fun _=>rfl⟩;have hc2: ∀t,t<d.size->W2.cell? ⟨blk,off+t,none⟩=some (.int .u8 (G2 t)):=fun t ht=>by rw[hG2];exact(hH2 t (by omega)).1
    have hf2: ∀t,t<d.size->W2.frozen? ⟨blk,off+t,none⟩=false:=fun t ht=>(hH2 t (by omega)).2
    clear hG2 hH2
    go_name_slot 16 x2 hx2
    have hlo2:0<=x2:=by omega
    have hhi2:x2<=198:=by omega
    obtain⟨y2,hy2⟩: ∃y:Nat,x2=y:=⟨x2.toNat,by omega⟩;clear hx2;have hXa2: ∀w,(Instr.index 9 (.string Lib.smalls) (.int .u32 (x2+1))).run Tryz.prog w=.ok (.int .u8 ((sm (y2+1)).toNat:Int)) w:=idx_smalls 9 Tryz.underlying9 .u32 _ _ (by omega) (by omega);have hXb2: ∀w,(Instr.index 9 (.string Lib.smalls) (.int .u32 x2)).run Tryz.prog w=.ok (.int .u8 ((sm y2).toNat:Int)) w:=idx_smalls 9 Tryz.underlying9 .u32 _ _ (by omega) (by omega);clear hy2
    go_region_o
    go_wp2
    go_end0
    exact⟨rfl,n+2+1,(dk2.setIfInBounds (0+1) (sm (y2+1))).setIfInBounds (0) (sm y2),by simp[hs2],by rw[AW2.out];exact store2_world w blk off dk2 (n+2) (0+1) (0) _ _ (by omega) (by omega)⟩
   ·go_wp2
    go_name_slot 15 x0 hx0
    have hlo0:0<=x0:=by omega
    have hhi0:x0<=198:=by omega
    obtain⟨y0,hy0⟩: ∃y:Nat,x0=y:=⟨x0.toNat,by omega⟩;clear hx0;have hXa0: ∀w,(Instr.index 9 (.string Lib.smalls) (.int .u32 (x0+1))).run Tryz.prog w=.ok (.int .u8 ((sm (y0+1)).toNat:Int)) w:=idx_smalls 9 Tryz.underlying9 .u32 _ _ (by omega) (by omega);have hXb0: ∀w,(Instr.index 9 (.string Lib.smalls) (.int .u32 x0)).run Tryz.prog w=.ok (.int .u8 ((sm y0).toNat:Int)) w:=idx_smalls 9 Tryz.underlying9 .u32 _ _ (by omega) (by omega);clear hy0
    go_region_o
    go_wp2
    go_name_world W1 hW1
    have hw1:W1=(putRow (fun(b:UInt8)=>Value.int .u8 (b.toNat:Int)) w blk off ((dk0.setIfInBounds (5+1) (sm (y0+1))).setIfInBounds (5) (sm y0))).drewN (n+0+1):=by rw[<-hW1];exact(by rw[AW0.out];exact store2_world w blk off dk0 (n+0) (5+1) (5) _ _ (by omega) (by omega))
    have hs1:((dk0.setIfInBounds (5+1) (sm (y0+1))).setIfInBounds (5) (sm y0)).size=d.size:=by simp[hs0]
    generalize ((dk0.setIfInBounds (5+1) (sm (y0+1))).setIfInBounds (5) (sm y0))=dk1 at hw1 hs1;have AW1:=Lib.hid hw1;clear hW1 hw1 hc0 hf0 AW0 hXa0 hXb0 hs0;have hH1:Holds (fun(b:UInt8)=>Value.int .u8 (b.toNat:Int)) W1 blk off dk1:=by rw[AW1.out];exact holds_putRow _ w blk off d dk1 AH.out hs1
    obtain⟨G1,hG1⟩: ∃G:Nat->Int,∀t,G t=(dk1[t]!.toNat:Int):=⟨_,fun _=>rfl⟩;have hc1: ∀t,t<d.size->W1.cell? ⟨blk,off+t,none⟩=some (.int .u8 (G1 t)):=fun t ht=>by rw[hG1];exact(hH1 t (by omega)).1
    have hf1: ∀t,t<d.size->W1.frozen? ⟨blk,off+t,none⟩=false:=fun t ht=>(hH1 t (by omega)).2
    clear hG1 hH1
    go_name_slot 14 x1 hx1
    have hlo1:0<=x1:=by omega
    have hhi1:x1<=198:=by omega
    obtain⟨y1,hy1⟩: ∃y:Nat,x1=y:=⟨x1.toNat,by omega⟩;clear hx1;have hXa1: ∀w,(Instr.index 9 (.string Lib.smalls) (.int .u32 (x1+1))).run Tryz.prog w=.ok (.int .u8 ((sm (y1+1)).toNat:Int)) w:=idx_smalls 9 Tryz.underlying9 .u32 _ _ (by omega) (by omega);have hXb1: ∀w,(Instr.index 9 (.string Lib.smalls) (.int .u32 x1)).run Tryz.prog w=.ok (.int .u8 ((sm y1).toNat:Int)) w:=idx_smalls 9 Tryz.underlying9 .u32 _ _ (by omega) (by omega);clear hy1
    go_region_o
    go_wp2
    go_name_world W2 hW2
    have hw2:W2=(putRow (fun(b:UInt8)=>Value.int .u8 (b.toNat:Int)) w blk off ((dk1.setIfInBounds (3+1) (sm (y1+1))).setIfInBounds (3) (sm y1))).drewN (n+1+1):=by rw[<-hW2];exact(by rw[AW1.out];exact store2_world w blk off dk1 (n+1) (3+1) (3) _ _ (by omega) (by omega))
    have hs2:((dk1.setIfInBounds (3+1) (sm (y1+1))).setIfInBounds (3) (sm y1)).size=d.size:=by simp[hs1]
    generalize ((dk1.setIfInBounds (3+1) (sm (y1+1))).setIfInBounds (3) (sm y1))=dk2 at hw2 hs2;have AW2:=Lib.hid hw2;clear hW2 hw2 hc1 hf1 AW1 hXa1 hXb1 hs1;have hH2:Holds (fun(b:UInt8)=>Value.int .u8 (b.toNat:Int)) W2 blk off dk2:=by rw[AW2.out];exact holds_putRow _ w blk off d dk2 AH.out hs2
    obtain⟨G2,hG2⟩: ∃G:Nat->Int,∀t,G t=(dk2[t]!.toNat:Int):=⟨_,fun _=>rfl⟩;have hc2: ∀t,t<d.size->W2.cell? ⟨blk,off+t,none⟩=some (.int .u8 (G2 t)):=fun t ht=>by rw[hG2];exact(hH2 t (by omega)).1
    have hf2: ∀t,t<d.size->W2.frozen? ⟨blk,off+t,none⟩=false:=fun t ht=>(hH2 t (by omega)).2
    clear hG2 hH2
    go_name_slot 16 x2 hx2
    have hlo2:0<=x2:=by omega
    have hhi2:x2<=198:=by omega
    obtain⟨y2,hy2⟩: ∃y:Nat,x2=y:=⟨x2.toNat,by omega⟩;clear hx2;have hXa2: ∀w,(Instr.index 9 (.string Lib.smalls) (.int .u32 (x2+1))).run Tryz.prog w=.ok (.int .u8 ((sm (y2+1)).toNat:Int)) w:=idx_smalls 9 Tryz.underlying9 .u32 _ _ (by omega) (by omega);have hXb2: ∀w,(Instr.index 9 (.string Lib.smalls) (.int .u32 x2)).run Tryz.prog w=.ok (.int .u8 ((sm y2).toNat:Int)) w:=idx_smalls 9 Tryz.underlying9 .u32 _ _ (by omega) (by omega);clear hy2
    go_region_o
    go_wp2
    go_end0
    exact⟨rfl,n+2+1,((dk2.setIfInBounds (1+1) (sm (y2+1))).setIfInBounds (1) (sm y2)).setIfInBounds 0 (UInt8.ofNat (48+v % 4294967296/10000/100)),by simp[hs2],by rw[AW2.out];exact store21_world w blk off dk2 (n+2) (1+1) (1) _ _ _ (v % 4294967296/10000/100) (by first|omega|(have e1:((v % 4294967296/10000:Nat):Int)=(v:Int) % 4294967296/10000:=(by omega);have e2:((v % 4294967296/10000/100:Nat):Int)=(v:Int) % 4294967296/10000/100:=(by rw[<-e1];omega);rw[<-e2];generalize v % 4294967296/10000/100=c9;omega)) (by omega) (by omega)⟩
end Go.Proofs
set_option maxRecDepth 100000
set_option maxHeartbeats 8000000
namespace Go.Proofs
open Go.Shelf Go.RowKit Go.Sort Go.Lib
def nA (w:World):Prop:= ∀i,i<20-> ∃z:Int,w.cell? ⟨5,i,none⟩=some (.int .u64 z)
theorem nA.later {w w':World} (h:nA w) (hb:Below w.heap.size w w'):nA w':=fun i hi=>by
 obtain⟨z,hz⟩:=h i hi;have hlt:5<w.heap.size:=World.block_lt_of_cell? _ _ hz;exact⟨z,(hb.cell (p:=⟨5,i,none⟩) hlt).trans hz⟩
theorem ziy (u q:Nat) (h2:u<18446744073709551616) (hq:Lib.l10 (Lib.bitLen u)=q) (h20:q<20) (z:Int) (w:World) (hcell:w.cell? ⟨5,q,none⟩=some (.int .u64 z)):
  Calls Tryz.prog 235 #[.int .u64 u] w fun e w'=>e=.returned (.int .i64 ((q+(if z<=(u:Int) then 1 else 0):Nat):Int))/\w'=w:=by
 have L:=Tryz.laysItoa;have hL:Lib.bitLen u<=64:=Lib.bitLen_le u 64 (Zs _) h2;have hto:((u:Int)).toNat=u:=by omega
 have e144: ∀args w,(callFunc 144 args).run Tryz.prog w=.ok (.enter 144 args) w:=enters_of Tryz.func144 (by kernel_rfl) rfl;have e238: ∀args w,(callFunc 238 args).run Tryz.prog w=.ok (.enter 238 args) w:=enters_of Tryz.func238 (by kernel_rfl) rfl;have e239: ∀args w,(callFunc 239 args).run Tryz.prog w=.ok (.enter 239 args) w:=enters_of Tryz.func239 (by kernel_rfl) rfl;have k144: ∀W,Calls Tryz.prog 144 #[.int .u64 u] W fun e w'=>e=.returned (.int .i64 (Lib.bitLen u))/\w'=W:=fun W=>by
  have h:=Any.bits_Len64 (P:=Tryz.prog) (ρ:=Tryz.laysItoa_ren) {L with} (u:Int) W (by omega) (by omega);rw[hto] at h;exact h
 have k238: ∀W,Calls Tryz.prog 238 #[.int .i64 (Lib.bitLen u)] W fun e w'=>e=.returned (.int .i64 q)/\w'=W:=fun W=>by
  have h:=Any.internal_strconv_log10Pow2 (P:=Tryz.prog) (ρ:=Tryz.laysItoa_ren) {L with} (Lib.bitLen u) hL W;rw[hq] at h;exact h
 have k239: ∀b W,Calls Tryz.prog 239 #[.bool b] W fun e w'=>e=.returned (.int .i64 (if b then 1 else 0))/\w'=W:=fun b W=>
  Any.internal_strconv_bool2_int (P:=Tryz.prog) (ρ:=Tryz.laysItoa_ren) {L with} b W
 clear hL hto hq;generalize Lib.bitLen u=bl at k144 k238;by_cases hz:z<=(u:Int)
 ·rw[if_pos hz]
  go_enter Tryz.func235,Tryz.ntmps235
  go_wp2_with (first|(go_at_fn 144;refine(k144 _).mono ?_;rintro e w' ⟨rfl,rfl⟩)|(go_at_fn 238;refine(k238 _).mono ?_;rintro e w' ⟨rfl,rfl⟩)|(go_at_fn 239;refine(k239 _ _).mono ?_;rintro e w' ⟨rfl,rfl⟩))
  all_goals go_ret
  all_goals exact⟨by first|rfl|(congr 2;omega),rfl⟩
 ·rw[if_neg hz]
  go_enter Tryz.func235,Tryz.ntmps235
  go_wp2_with (first|(go_at_fn 144;refine(k144 _).mono ?_;rintro e w' ⟨rfl,rfl⟩)|(go_at_fn 238;refine(k238 _).mono ?_;rintro e w' ⟨rfl,rfl⟩)|(go_at_fn 239;refine(k239 _ _).mono ?_;rintro e w' ⟨rfl,rfl⟩))
  all_goals go_ret
  all_goals exact⟨by first|rfl|(congr 2;omega),rfl⟩
theorem ziz (w:World) (k:Nat) (os:Array Obj):Below w.heap.size w (grow (w.drewN k) os):=by
 have h1:Below w.heap.size w (w.drewN k):=by
  have: ∀k,Below w.heap.size w (w.drewN k):=fun k=>⟨by simp[World.drewN],by simp[World.drewN],by simp[World.drewN],by simp[World.drewN],fun _ _=>by simp[World.drewN]⟩
  exact this k
 refine h1.trans ⟨rfl,rfl,rfl,by simp[grow],fun i hi=>?_⟩;show((w.drewN k).heap++os)[i]?=_;exact YQ (by have:=h1.size;omega)
abbrev byF:UInt8->Value:=fun b=>Value.int .u8 (b.toNat:Int)
theorem ziA (dk:Array UInt8) (i:Nat) (h:i<dk.toList.length):dk.toList[i]=dk[i]! :=by
 have h2:i<dk.size:=by simpa using h
 rw[getElem!_pos dk i h2,Array.getElem_toList]
theorem znZ (n:Int) (h0: -9223372036854775808<=n) (h1:n<=9223372036854775807) (w:World) (ht:nA w):
  Calls Tryz.prog 233 #[.int .i64 n,.int .i64 10] w fun e w'=> ∃s:List UInt8,s.length<=21/\e=.returned (.string ⟨s.toArray⟩)/\Below w.heap.size w w':=by
 have L:=Tryz.laysItoa;have e235: ∀args w,(callFunc 235 args).run Tryz.prog w=.ok (.enter 235 args) w:=enters_of Tryz.func235 (by kernel_rfl) rfl;have e236: ∀args w,(callFunc 236 args).run Tryz.prog w=.ok (.enter 236 args) w:=enters_of Tryz.func236 (by kernel_rfl) rfl;by_cases hs:0<=n/\n<100
 ·obtain⟨i,rfl⟩: ∃i:Nat,n=i:=⟨n.toNat,by omega⟩
  refine(Any.internal_strconv_FormatInt_10_small (P:=Tryz.prog) (ρ:=Tryz.laysItoa_ren) {L with} i (by omega) w).mono ?_;rintro e w' ⟨rfl,rfl⟩;have hl:=itoa_length_le (i:Int) (by omega) (by omega);rw[Lib.itoa_nonneg] at hl;exact⟨Lib.decDigits i,by omega,rfl,Below.refl _ _⟩
 ·have hal:Tryz.prog.arrayLen 262=24:=by simp[Program.arrayLen,Tryz.underlying262]
  have hbA:=(Below.refl w.heap.size w).alloc (Zs _) (.cells Lib.zeros24 262);by_cases hneg:n<0
  ·obtain⟨u,rfl⟩: ∃u:Nat,n= -(u:Int):=⟨n.natAbs,by omega⟩
   have hu1:1<=u:=by omega
   have hu64:u<18446744073709551616:=by omega
   obtain⟨q,hq⟩: ∃q,Lib.l10 (Lib.bitLen u)=q:=⟨_,rfl⟩;have h19:q<=19:=by have:=(Lib.numDigits_eq u hu1 hu64).2;omega
   obtain⟨z,hz⟩:=(ht.later hbA) q (by omega);have knd:=ziy u q hu64 hq (by omega) z _ hz;obtain⟨nd,hnd⟩: ∃nd,q+(if z<=(u:Int) then 1 else 0)=nd:=⟨_,rfl⟩;have hnd20:nd<=20:=by rw[<-hnd];split<;>omega
   rw[hnd] at knd;clear hnd hz hq;have hwr:IntKind.u64.wrap (-IntKind.u64.wrap (-(u:Int)))=(u:Int):=by rw[IntKind.wrap_u64,IntKind.wrap_u64];omega
   have hsl1: ∀W,(Instr.sliceAt 262 (.pointer (some ⟨w.heap.size,0,none⟩)) (some (.int .i64 1)) (some (.int .i64 (1+(nd:Int)))) none).run Tryz.prog W=.ok (.slice (some ⟨w.heap.size,1,none⟩) nd 23) W:=fun W=>by
    rw[run_sliceAt_array_lh W 262 ⟨w.heap.size,0,none⟩ (by simp[Program.arrayLen,Program.elem,Tryz.underlying262]) .i64 .i64 1 (1+(nd:Int)) (by omega) (by omega) (by rw[hal];omega)]
    go_simp
    omega
   have hsl2: ∀W,(Instr.sliceAt 262 (.pointer (some ⟨w.heap.size,0,none⟩)) none (some (.int .i64 (1+(nd:Int)))) none).run Tryz.prog W=.ok (.slice (some ⟨w.heap.size,0,none⟩) (1+nd) 24) W:=fun W=>by
    rw[run_sliceAt_array_h W 262 ⟨w.heap.size,0,none⟩ (by simp[Program.arrayLen,Program.elem,Tryz.underlying262]) .i64 (1+(nd:Int)) (by omega) (by rw[hal];omega)]
    go_simp
    omega
   have hH0:=Lib.holds_zero w 262 nd (by omega);have hfmt:=zix w.heap.size 1 23 u (YB nd 0) (w.alloc (.cells Lib.zeros24 262)) hH0 hu64 (by rw[Xg];omega);rw[Xg] at hfmt;have HH0:=Lib.hid hH0;have HB:=Lib.hid hbA;have HT:=Lib.hid ht;clear hH0 hal hbA ht
   go_enter Tryz.func233,Tryz.ntmps233
   go_wp2_with (first|(go_at_fn 235;refine knd.mono ?_;rintro e w' ⟨rfl,rfl⟩))
   go_at_fn 236
   refine hfmt.mono ?_;rintro e w' ⟨rfl,k,dk,hdk,rfl⟩;have hc0:((putRow byF (w.alloc (.cells Lib.zeros24 262)) w.heap.size 1 dk).drewN k).cell? ⟨w.heap.size,0,none⟩=some (.int .u8 0):=by
    rw[World.cell?_drewN,cell?_putRow_other _ _ _ _ _ _ (Or.inr (Or.inl (Nat.zero_lt_one))),World.cell?_alloc_new];exact Lib.zeros24_at 0 (by omega)
   have hf0:((putRow byF (w.alloc (.cells Lib.zeros24 262)) w.heap.size 1 dk).drewN k).frozen? ⟨w.heap.size,0,none⟩=false:=by
    rw[World.frozen?_drewN,frozen?_putRow];exact World.frozen?_alloc_new _ _ _ _
   have hcv:(convert 186 9 (.slice (some ⟨w.heap.size,0,none⟩) (1+nd) 24)).run Tryz.prog (((putRow byF (w.alloc (.cells Lib.zeros24 262)) w.heap.size 1 dk).drewN k).setCell ⟨w.heap.size,0,none⟩ (.int .u8 45))=.ok (.string ⟨(45::dk.toList).toArray⟩) (((putRow byF (w.alloc (.cells Lib.zeros24 262)) w.heap.size 1 dk).drewN k).setCell ⟨w.heap.size,0,none⟩ (.int .u8 45)):=by
    have h:=run_convert_bytes_back (P:=Tryz.prog) (((putRow byF (w.alloc (.cells Lib.zeros24 262)) w.heap.size 1 dk).drewN k).setCell ⟨w.heap.size,0,none⟩ (.int .u8 45)) 186 9 5 ⟨w.heap.size,0,none⟩ 24 (45::dk.toList) Tryz.underlying186 Tryz.underlying5 Tryz.underlying9 (fun j hj=>by
     rw[Lib.add_plain]
     cases j with
     |zero=>exact World.cell?_setCell_same _ _ _ hc0
     |succ i=>
      have hi:i<dk.toList.length:=by simpa using hj
      rw[World.cell?_setCell_other _ _ _ _ (by simp),List.getElem_cons_succ,ziA dk i hi,World.cell?_drewN,show 0+(i+1)=1+i by omega]
      exact cell?_putRow byF _ w.heap.size 1 _ dk HH0.out (by rw[hdk,Xg]) i (by simpa using hi))
    rw[Zn,YC,hdk,YX] at h;exact h
   go_wp2
   go_ret
   obtain⟨os,eo⟩:=Lib.fin_neg w (.cells Lib.zeros24 262) dk k (.int .u8 45);exact⟨45::dk.toList,by rw[Zn,YC,hdk];omega,rfl,by rw[eo];exact ziz w k os⟩
  ·obtain⟨u,rfl⟩: ∃u:Nat,n=u:=⟨n.toNat,by omega⟩
   have hu1:1<=u:=by omega
   have hu64:u<18446744073709551616:=by omega
   obtain⟨q,hq⟩: ∃q,Lib.l10 (Lib.bitLen u)=q:=⟨_,rfl⟩;have h19:q<=19:=by have:=(Lib.numDigits_eq u hu1 hu64).2;omega
   obtain⟨z,hz⟩:=(ht.later hbA) q (by omega);have knd:=ziy u q hu64 hq (by omega) z _ hz;obtain⟨nd,hnd⟩: ∃nd,q+(if z<=(u:Int) then 1 else 0)=nd:=⟨_,rfl⟩;have hnd20:nd<=20:=by rw[<-hnd];split<;>omega
   rw[hnd] at knd;clear hnd hz hq;have hsl1: ∀W,(Instr.sliceAt 262 (.pointer (some ⟨w.heap.size,0,none⟩)) (some (.int .i64 1)) (some (.int .i64 (1+(nd:Int)))) none).run Tryz.prog W=.ok (.slice (some ⟨w.heap.size,1,none⟩) nd 23) W:=fun W=>by
    rw[run_sliceAt_array_lh W 262 ⟨w.heap.size,0,none⟩ (by simp[Program.arrayLen,Program.elem,Tryz.underlying262]) .i64 .i64 1 (1+(nd:Int)) (by omega) (by omega) (by rw[hal];omega)]
    go_simp
    omega
   have hH0:=Lib.holds_zero w 262 nd (by omega);have hfmt:=zix w.heap.size 1 23 u (YB nd 0) (w.alloc (.cells Lib.zeros24 262)) hH0 hu64 (by rw[Xg];omega);rw[Xg] at hfmt;have HH0:=Lib.hid hH0;have HB:=Lib.hid hbA;have HT:=Lib.hid ht;clear hH0 hal hbA ht
   go_enter Tryz.func233,Tryz.ntmps233
   go_wp2_with (first|(go_at_fn 235;refine knd.mono ?_;rintro e w' ⟨rfl,rfl⟩))
   go_at_fn 236
   refine hfmt.mono ?_;rintro e w' ⟨rfl,k,dk,hdk,rfl⟩;have hcv:(convert 186 9 (.slice (some ⟨w.heap.size,1,none⟩) nd 23)).run Tryz.prog ((putRow byF (w.alloc (.cells Lib.zeros24 262)) w.heap.size 1 dk).drewN k)=.ok (.string ⟨dk.toList.toArray⟩) ((putRow byF (w.alloc (.cells Lib.zeros24 262)) w.heap.size 1 dk).drewN k):=by
    have h:=run_convert_bytes_back (P:=Tryz.prog) ((putRow byF (w.alloc (.cells Lib.zeros24 262)) w.heap.size 1 dk).drewN k) 186 9 5 ⟨w.heap.size,1,none⟩ 23 dk.toList Tryz.underlying186 Tryz.underlying5 Tryz.underlying9 (fun j hj=>by
     rw[ziA dk j hj,Lib.add_plain,World.cell?_drewN]
     exact cell?_putRow byF _ w.heap.size 1 _ dk HH0.out (by rw[hdk,Xg]) j (by simpa using hj))
    rw[YC,hdk] at h;exact h
   go_wp2
   go_ret
   obtain⟨os,eo⟩:=Lib.fin_pos w (.cells Lib.zeros24 262) dk k;exact⟨dk.toList,by rw[YC,hdk];omega,rfl,by rw[eo];exact ziz w k os⟩
theorem ziB (n:Int) (h0: -9223372036854775808<=n) (h1:n<=9223372036854775807) (w:World) (ht:nA w):
  Calls Tryz.prog 231 #[.int .i64 n] w fun e w'=> ∃s:List UInt8,s.length<=21/\e=.returned (.string ⟨s.toArray⟩)/\Below w.heap.size w w':=by
 have e232: ∀args w,(callFunc 232 args).run Tryz.prog w=.ok (.enter 232 args) w:=enters_of Tryz.func232 (by kernel_rfl) rfl;have e233: ∀args w,(callFunc 233 args).run Tryz.prog w=.ok (.enter 233 args) w:=enters_of Tryz.func233 (by kernel_rfl) rfl;have k232: ∀W,nA W->Calls Tryz.prog 232 #[.int .i64 n] W fun e w'=> ∃s:List UInt8,s.length<=21/\e=.returned (.string ⟨s.toArray⟩)/\Below W.heap.size W w':=fun W hT=>by
  have HT:=Lib.hid (znZ n h0 h1 W hT);clear hT ht
  go_enter Tryz.func232,Tryz.ntmps232
  go_wp2_with (go_at_fn 233;refine HT.out.mono ?_;rintro e w' ⟨s,hs,rfl,hb⟩)
  go_ret
  exact⟨s,hs,rfl,hb⟩
 have HT:=Lib.hid (k232 w ht);clear k232 ht
 go_enter Tryz.func231,Tryz.ntmps231
 go_wp2_with (go_at_fn 232;refine HT.out.mono ?_;rintro e w' ⟨s,hs,rfl,hb⟩)
 go_ret
 exact⟨s,hs,rfl,hb⟩
end Go.Proofs
set_option maxRecDepth 100000
set_option maxHeartbeats 8000000
namespace Go.Proofs
open Go.RowKit Go.Abs Go.Wd Go.Wire Go.Ex
theorem ziC {w:World} (hG:yI (base w)):nA w:=fun i hi=>by
 obtain⟨_,b,hb,hp⟩:=hG.2 5 _ rfl;have hb':w.heap[5]?=some b:=hb;cases b with
 |cells cs t f=>
  obtain⟨z,hz⟩:=hp i hi;exact⟨z,by simp only[World.cell?,hb'];exact hz⟩
 |_=>exact hp.elim
abbrev wR (w:World) (Bx:Nat) (d f:Txt) (lo hi:Int) (sum:Bool) (W:World):Prop:=
 W.cell? ⟨Bx,0,none⟩=some (tV d)/\W.cell? ⟨Bx,1,none⟩=some (tV f)/\W.cell? ⟨Bx,2,none⟩=some (.int .i64 lo)/\W.cell? ⟨Bx,3,none⟩=some (.int .i64 hi)/\W.cell? ⟨Bx,4,none⟩=some (.bool sum)/\Below w.heap.size w W
theorem wR.later {w W W':World} {Bx:Nat} {d f:Txt} {lo hi:Int} {sum:Bool} (h:wR w Bx d f lo hi sum W) (hb:Below W.heap.size W W'):wR w Bx d f lo hi sum W':=by
 obtain⟨h0,h1,h2,h3,h4,h8⟩:=h;have hlt:Bx<W.heap.size:=World.block_lt_of_cell? _ _ h0;have k: ∀j,W'.cell? ⟨Bx,j,none⟩=W.cell? ⟨Bx,j,none⟩:=fun j=>hb.cell (p:=⟨Bx,j,none⟩) hlt
 exact⟨(k 0).trans h0,(k 1).trans h1,(k 2).trans h2,(k 3).trans h3,(k 4).trans h4,h8.trans (hb.mono h8.size)⟩
theorem ziD {w W:World} {Bx:Nat} {d f:Txt} {lo hi:Int} {sum:Bool} (h:W.heap[Bx]?=some (.cells #[tV d,tV f,.int .i64 lo,.int .i64 hi,.bool sum] 171 (0,0))) (hb:Below w.heap.size w W):wR w Bx d f lo hi sum W:=by
 refine⟨?_,?_,?_,?_,?_,hb⟩<;>simp[World.cell?,h]
theorem ziE (d f:Txt) (lo hi:Int) (sum:Bool) (hd:d.length<=1000000) (hf:f.length<=1000000) (h1: -9223372036854775808<=lo) (h2:lo<=9223372036854775807) (h3: -9223372036854775808<=hi) (h4:hi<=9223372036854775807) (w:World) (hG:yI (base w)):
  Calls Tryz.prog 229 #[.agg #[tV d,tV f,.int .i64 lo,.int .i64 hi,.bool sum]] w fun e w'=> ∃s:Txt,s.length<=d.length+f.length+100/\e=.returned (.string ⟨s.toArray⟩)/\Below w.heap.size w w':=by
 have hg: ∀{W},Below w.heap.size w W->yI (base W):=fun hb=>hG.later (xM hb)
 have k202: ∀W,Below w.heap.size w W->Calls Tryz.prog 202 #[.agg #[tV d,tV f]] W fun e W'=>e=.returned (.string ⟨(d++wF++f).toArray⟩)/\Below W.heap.size W W':=fun W hb=>(gB d f hd hf).strC (hg hb) (Z:=zW W) (fun _ h=>h) (vN (r:=[.str d,.str f]) (by simp[C.sc]) (xS _ _))
 have kI1: ∀W,Below w.heap.size w W->Calls Tryz.prog 231 #[.int .i64 lo] W fun e W'=> ∃s:List UInt8,s.length<=21/\e=.returned (.string ⟨s.toArray⟩)/\Below W.heap.size W W':=fun W hb=>ziB lo h1 h2 W (ziC (hg hb))
 have kI2: ∀W,Below w.heap.size w W->Calls Tryz.prog 231 #[.int .i64 hi] W fun e W'=> ∃s:List UInt8,s.length<=21/\e=.returned (.string ⟨s.toArray⟩)/\Below W.heap.size W W':=fun W hb=>ziB hi h3 h4 W (ziC (hg hb))
 obtain⟨x,hx⟩: ∃x,d++wF++f=x:=⟨_,rfl⟩;have hxl:Aside (x.length<=d.length+f.length+3):=show x.length<=d.length+f.length+3 from by
  have e:wF.length=3:=by decide
  rw[<-hx,Zu,Zu,e];omega
 have hx2:x.length<=2000003:=by have:=hxl.out;omega
 rw[hx] at k202;clear hx hg hG h1 h2 h3 h4;have hdA:Aside (d.length<=1000000/\f.length<=1000000):=⟨hd,hf⟩;clear hd hf;have mixed:Tryz.prog.follows Departure.mixedOrders=true:=by kernel_rfl
 cases sum with
 |false=>
  go_enter Tryz.func229,Tryz.ntmps229
  go_wp2
  have hS1:wR w w.heap.size d f lo hi false (w.alloc (.cells #[tV d,tV f,.int .i64 lo,.int .i64 hi,.bool false] 171)).drew:=by
   exact ziD (World.alloc_heap_new w _) (((Below.refl _ w).alloc (Zs _) _).trans ((wW _).mono (by simp)))
  go_region_held (fun W=>wR w w.heap.size d f lo hi false W) (first|exact hS1|exact wR.later hq3 hbO|exact wR.later hq2 hbN|exact wR.later hS1 hbM) (first|(go_at_call 202;refine(k202 _ (by simp[*])).mono ?_;rintro ex w2 ⟨rfl,hbM⟩;have hq2:=wR.later hS1 hbM)|(go_at_call 231;first|(refine(kI1 _ (by simp[*])).mono ?_;rintro ex w3 ⟨s1,hs1,rfl,hbN⟩;have hq3:=wR.later hq2 hbN)|(refine(kI2 _ (by simp[*])).mono ?_;rintro ex w4 ⟨s2,hs2,rfl,hbO⟩)))
  all_goals go_wp2
  all_goals go_ret
  all_goals refine⟨vP++x++tL++s1++tM++s2++wG,?_,?_,(wR.later hq3 hbO).2.2.2.2.2⟩
  all_goals first
   |rfl
   |(congr 1;done)
   |(have:=hxl.out;simp only[vP,tL,tM,wG,Zu,Zn,ZF];omega)
   |(congr 2;apply ByteArray.ext;simp[vP,tL,tM,wG];done)
   |(simp[vP,tL,tM,wG];done)
   |(congr 1;congr 1;apply ByteArray.ext;simp[vP,tL,tM,wG])
 |true=>
  go_enter Tryz.func229,Tryz.ntmps229
  go_wp2
  have hS1:wR w w.heap.size d f lo hi true (w.alloc (.cells #[tV d,tV f,.int .i64 lo,.int .i64 hi,.bool true] 171)).drew:=by
   exact ziD (World.alloc_heap_new w _) (((Below.refl _ w).alloc (Zs _) _).trans ((wW _).mono (by simp)))
  go_region_held (fun W=>wR w w.heap.size d f lo hi true W) (first|exact hS1|exact wR.later hq3 hbO|exact wR.later hq2 hbN|exact wR.later hS1 hbM) (first|(go_at_call 202;refine(k202 _ (by simp[*])).mono ?_;rintro ex w2 ⟨rfl,hbM⟩;have hq2:=wR.later hS1 hbM)|(go_at_call 231;first|(refine(kI1 _ (by simp[*])).mono ?_;rintro ex w3 ⟨s1,hs1,rfl,hbN⟩;have hq3:=wR.later hq2 hbN)|(refine(kI2 _ (by simp[*])).mono ?_;rintro ex w4 ⟨s2,hs2,rfl,hbO⟩)))
  all_goals go_wp2
  all_goals go_ret
  all_goals refine⟨pI++x++tL++s1++tM++s2++wG,?_,?_,(wR.later hq3 hbO).2.2.2.2.2⟩
  all_goals first
   |rfl
   |(congr 1;done)
   |(have:=hxl.out;simp only[pI,tL,tM,wG,Zu,Zn,ZF];omega)
   |(congr 2;apply ByteArray.ext;simp[pI,tL,tM,wG];done)
   |(simp[pI,tL,tM,wG];done)
   |(congr 1;congr 1;apply ByteArray.ext;simp[pI,tL,tM,wG])
def dmV (m:Dmd):Array Value:=((zQ m).map wE).toArray
structure ClsAt (w:World) (m:Dmd) (T:TypeId) (us:Array Value) (fd fn fw:FuncId):Prop where
 ed: ∀args W,(callFunc fd args).run Tryz.prog W=.ok (.enter fd args) W
 en: ∀args W,(callFunc fn args).run Tryz.prog W=.ok (.enter fn args) W
 ew: ∀args W,(callFunc fw args).run Tryz.prog W=.ok (.enter fw args) W
 md: ∀W,(method 369 T (.agg us) "allonge/require.demand").run Tryz.prog W=.ok (fd,.agg us) W
 mn: ∀W,(method 369 T (.agg us) "allonge/require.named").run Tryz.prog W=.ok (fn,.agg us) W
 mw: ∀W,(method 369 T (.agg us) "allonge/require.words").run Tryz.prog W=.ok (fw,.agg us) W
 kd: ∀W,Below w.heap.size w W->Calls Tryz.prog fd #[.agg us] W fun e W'=>e=.returned (.agg (dmV (gT m)))/\Below W.heap.size W W'
 kn: ∀W,Below w.heap.size w W->Calls Tryz.prog fn #[.agg us] W fun e W'=>e=.returned (.bool (kF m))/\Below W.heap.size W W'
 kw: ∀W,Below w.heap.size w W->Calls Tryz.prog fw #[.agg us] W fun e W'=> ∃s:Txt,(uE m=true->s.length<=1000)/\e=.returned (.string ⟨s.toArray⟩)/\Below W.heap.size W W'
theorem ziF {m:Dmd} (h:uE m=true) (ho:m.op=2\/m.op=4):m.doc.length<=20/\m.fld.length<=20:=by
 unfold uE at h;simp only[Zp] at h;have h2:=h.2.2;unfold kF at h2;rw[if_neg (by omega),if_neg (by omega),if_neg (by omega)] at h2;simp only[Zp] at h2;exact⟨sW h2.1.1,sW h2.1.2⟩
theorem zn0 (m:Dmd) (hm:DmdS m) (ho:okD m.op=true) (w:World) (hG:yI (base w)): ∃T us fd fn fw,clV m.op m.doc m.fld m.oth m.sec m.txt m.lo m.hi=.iface T (.agg us)/\ClsAt w m T us fd fn fw:=by
 have hg: ∀{W},Below w.heap.size w W->yI (base W):=fun hb=>hG.later (xM hb)
 obtain⟨op,d,f,o,s,t,lo,hi⟩:=m;have hms:=hm;obtain⟨hd,hf,hoo,hss,ht,l1,l2,h1,h2⟩:=hm;simp only[] at hd hf hoo hss ht l1 l2 h1 h2 ho⊢;by_cases q0:op=0
 ·subst q0
  refine⟨165,#[tV d],203,205,206,rfl,enters_of Tryz.func203 (by kernel_rfl) rfl,enters_of Tryz.func205 (by kernel_rfl) rfl,enters_of Tryz.func206 (by kernel_rfl) rfl,Tryz.m165demand _,Tryz.m165named _,Tryz.m165words _,fun W hb=>?_,fun W hb=>?_,fun W hb=>?_⟩
  ·exact(zmg d).aggC (by simp[zQ,C.sc]) (hg hb) (Z:=zW W) (fun _ h=>h) (vN (r:=[.str d]) (by simp[C.sc]) (xS _ _))
  ·exact(zmf d hd).boolC (hg hb) (Z:=zW W) (fun _ h=>h) (vN (r:=[.str d]) (by simp[C.sc]) (xS _ _))
  ·refine Calls.mono ((znM d hd).strC (hg hb) (Z:=zW W) (fun _ h=>h) (vN (r:=[.str d]) (by simp[C.sc]) (xS _ _))) ?_
   rintro e W' ⟨he,hb2⟩;exact⟨kG _,fun h=>aM hms h,he,hb2⟩
 by_cases q1:op=1
 ·subst q1
  refine⟨167,#[tV d,tV f,tV t],211,213,214,rfl,enters_of Tryz.func211 (by kernel_rfl) rfl,enters_of Tryz.func213 (by kernel_rfl) rfl,enters_of Tryz.func214 (by kernel_rfl) rfl,Tryz.m167demand _,Tryz.m167named _,Tryz.m167words _,fun W hb=>?_,fun W hb=>?_,fun W hb=>?_⟩
  ·exact(zmh d f t).aggC (by simp[zQ,C.sc]) (hg hb) (Z:=zW W) (fun _ h=>h) (vN (r:=[.str d,.str f,.str t]) (by simp[C.sc]) (xS _ _))
  ·exact(znW d f t hd hf ht).boolC (hg hb) (Z:=zW W) (fun _ h=>h) (vN (r:=[.str d,.str f,.str t]) (by simp[C.sc]) (xS _ _))
  ·refine Calls.mono ((znX d f t hd hf ht).strC (hg hb) (Z:=zW W) (fun _ h=>h) (vN (r:=[.str d,.str f,.str t]) (by simp[C.sc]) (xS _ _))) ?_
   rintro e W' ⟨he,hb2⟩;exact⟨kG _,fun h=>aM hms h,he,hb2⟩
 by_cases q3:op=3
 ·subst q3
  refine⟨169,#[tV d,tV f,tV o,tV s],221,223,224,rfl,enters_of Tryz.func221 (by kernel_rfl) rfl,enters_of Tryz.func223 (by kernel_rfl) rfl,enters_of Tryz.func224 (by kernel_rfl) rfl,Tryz.m169demand _,Tryz.m169named _,Tryz.m169words _,fun W hb=>?_,fun W hb=>?_,fun W hb=>?_⟩
  ·exact(zmi d f o s).aggC (by simp[zQ,C.sc]) (hg hb) (Z:=zW W) (fun _ h=>h) (vN (r:=[.str d,.str f,.str o,.str s]) (by simp[C.sc]) (xS _ _))
  ·exact(zmj d f o s hd hf hoo hss).boolC (hg hb) (Z:=zW W) (fun _ h=>h) (vN (r:=[.str d,.str f,.str o,.str s]) (by simp[C.sc]) (xS _ _))
  ·refine Calls.mono ((znN d f o s hd hf hoo hss).strC (hg hb) (Z:=zW W) (fun _ h=>h) (vN (r:=[.str d,.str f,.str o,.str s]) (by simp[C.sc]) (xS _ _))) ?_
   rintro e W' ⟨he,hb2⟩;exact⟨kG _,fun h=>aM hms h,he,hb2⟩
 have ar: ∀(W:World) (b:Bool),wH W (zW W) [.agg [.str d,.str f,.int .i64 lo,.int .i64 hi,.bool b]] (#[.agg #[tV d,tV f,.int .i64 lo,.int .i64 hi,.bool b]]:Array Value).toList:=fun W b=>vN (r:=[.str d,.str f,.int .i64 lo,.int .i64 hi,.bool b]) (by simp[C.sc]) (xS _ _)
 by_cases q2:op=2
 ·subst q2
  refine⟨171,#[tV d,tV f,.int .i64 lo,.int .i64 hi,.bool false],226,228,229,rfl,enters_of Tryz.func226 (by kernel_rfl) rfl,enters_of Tryz.func228 (by kernel_rfl) rfl,enters_of Tryz.func229 (by kernel_rfl) rfl,Tryz.m171demand _,Tryz.m171named _,Tryz.m171words _,fun W hb=>?_,fun W hb=>?_,fun W hb=>?_⟩
  ·exact(zht d f lo hi false).aggC (by simp[zQ,C.sc]) (hg hb) (Z:=zW W) (fun _ h=>h) (ar W false)
  ·exact(zhu d f lo hi false hd hf).boolC (hg hb) (Z:=zW W) (fun _ h=>h) (ar W false)
  ·refine(ziE d f lo hi false hd hf l1 l2 h1 h2 W (hg hb)).mono ?_
   rintro e W' ⟨s1,hs1,he,hb2⟩;refine⟨s1,fun h=>?_,he,hb2⟩;have:=ziF h (by simp);simp only[] at this;omega
 by_cases q4:op=4
 ·subst q4
  refine⟨171,#[tV d,tV f,.int .i64 lo,.int .i64 hi,.bool true],226,228,229,rfl,enters_of Tryz.func226 (by kernel_rfl) rfl,enters_of Tryz.func228 (by kernel_rfl) rfl,enters_of Tryz.func229 (by kernel_rfl) rfl,Tryz.m171demand _,Tryz.m171named _,Tryz.m171words _,fun W hb=>?_,fun W hb=>?_,fun W hb=>?_⟩
  ·exact(zht d f lo hi true).aggC (by simp[zQ,C.sc]) (hg hb) (Z:=zW W) (fun _ h=>h) (ar W true)
  ·exact(zhu d f lo hi true hd hf).boolC (hg hb) (Z:=zW W) (fun _ h=>h) (ar W true)
  ·refine(ziE d f lo hi true hd hf l1 l2 h1 h2 W (hg hb)).mono ?_
   rintro e W' ⟨s1,hs1,he,hb2⟩;refine⟨s1,fun h=>?_,he,hb2⟩;have:=ziF h (by simp);simp only[] at this;omega
 ·exfalso
  simp[okD,q0,q1,q2,q3,q4] at ho
def kH (w:World) (L:List Dmd) (p:Option Addr) (b o:Nat):Prop:=(0<L.length->p=some ⟨b,o,none⟩/\b<w.heap.size)/\ ∀k,k<L.length-> ∀j u,(dmV (L.getD k yZ))[j]?=some u->w.cell? ⟨b,o+k*8+j,none⟩=some u
theorem kH.at {w:World} {L:List Dmd} {p:Option Addr} {b o:Nat} (h:kH w L p b o) {k:Nat} (hk:k<L.length) {W:World} (hb:Below w.heap.size w W) (m:Dmd) (e:L.getD k yZ=m):
  W.cell? ⟨b,o+k*8,none⟩=some (.int .i64 m.op)/\W.cell? ⟨b,o+k*8+1,none⟩=some (.string ⟨m.doc.toArray⟩)/\W.cell? ⟨b,o+k*8+2,none⟩=some (.string ⟨m.fld.toArray⟩)/\W.cell? ⟨b,o+k*8+3,none⟩=some (.string ⟨m.oth.toArray⟩)/\
  W.cell? ⟨b,o+k*8+4,none⟩=some (.string ⟨m.sec.toArray⟩)/\W.cell? ⟨b,o+k*8+5,none⟩=some (.string ⟨m.txt.toArray⟩)/\W.cell? ⟨b,o+k*8+6,none⟩=some (.int .i64 m.lo)/\W.cell? ⟨b,o+k*8+7,none⟩=some (.int .i64 m.hi):=by
 subst e;have hlt:=(h.1 (by omega)).2;have key: ∀j u,(dmV (L.getD k yZ))[j]?=some u->W.cell? ⟨b,o+k*8+j,none⟩=some u:=fun j u hu=>(hb.cell (p:=⟨b,o+k*8+j,none⟩) hlt).trans (h.2 k hk j u hu)
 exact⟨key 0 _ rfl,key 1 _ rfl,key 2 _ rfl,key 3 _ rfl,key 4 _ rfl,key 5 _ rfl,key 6 _ rfl,key 7 _ rfl⟩
theorem zn1 (a b:Txt):((⟨a.toArray⟩:ByteArray).toList==(⟨b.toArray⟩:ByteArray).toList)=decide (a=b):=by
 rw[ByteArray.toList_eq,ByteArray.toList_eq,Yn,beq_iff_eq,decide_eq_true_eq]
theorem zn2 (m m2:Dmd) (w:World):Sem.run Tryz.prog (binOp .neq 46 (.agg (dmV m)) (.agg (dmV m2))) w=.ok (.bool (!decide (m=m2))) w:=by
 rw[run_neq_struct,run_equalIn_agg (P:=Tryz.prog) w 9999 46 _ _ (by kernel_rfl) (by kernel_rfl)];obtain⟨op,d,f,ot,s,t,lo,hi⟩:=m;obtain⟨op2,d2,f2,ot2,s2,t2,lo2,hi2⟩:=m2;simp only[Dmd.mk.injEq];simp[go_sem,dmV,zQ,wE,zn1];by_cases h1:op=op2<;>simp[h1]
 by_cases h2:d=d2<;>simp[h2]
 by_cases h3:f=f2<;>simp[h3]
 by_cases h4:ot=ot2<;>simp[h4]
 by_cases h5:s=s2<;>simp[h5]
 by_cases h6:t=t2<;>simp[h6]
 by_cases h7:lo=lo2<;>simp[h7]
 by_cases h8:hi=hi2<;>simp[h8]
theorem zn3 (o:BinOp) (a b:Operand) (m m2:Dmd) (w:World):Sem.run Tryz.prog (eqGuard o 46 a b (.agg (dmV m)) (.agg (dmV m2))) w=.ok () w:=run_eqGuard_agg _ _ _ _ _ _ _ (by kernel_rfl)
theorem aO {L:List Dmd} {m:Dmd} (hm:m∈L) (h: ¬L.length<=20\/uE m=false):uL L=false:=by
  unfold uL;rw[Bool.or_eq_false_iff];refine⟨decide_eq_false (by rintro rfl;cases hm),?_⟩;rw[Bool.and_eq_false_iff];rcases h with h|h
  ·exact .inl (decide_eq_false h)
  ·right
   rw[Yx];exact⟨m,hm,by rw[h];simp⟩
abbrev xZ (w:World) (Bx:Nat) (op:Int) (d f ot s t:Txt) (lo hi:Int) (W:World):Prop:=
 W.cell? ⟨Bx,0,none⟩=some (.int .i64 op)/\W.cell? ⟨Bx,1,none⟩=some (.string ⟨d.toArray⟩)/\W.cell? ⟨Bx,2,none⟩=some (.string ⟨f.toArray⟩)/\W.cell? ⟨Bx,3,none⟩=some (.string ⟨ot.toArray⟩)/\
 W.cell? ⟨Bx,4,none⟩=some (.string ⟨s.toArray⟩)/\W.cell? ⟨Bx,5,none⟩=some (.string ⟨t.toArray⟩)/\W.cell? ⟨Bx,6,none⟩=some (.int .i64 lo)/\W.cell? ⟨Bx,7,none⟩=some (.int .i64 hi)/\Below w.heap.size w W
theorem aP {w W:World} {Bx:Nat} {op:Int} {d f ot s t:Txt} {lo hi:Int} (h:W.heap[Bx]?=some (.cells #[.int .i64 op,.string ⟨d.toArray⟩,.string ⟨f.toArray⟩,.string ⟨ot.toArray⟩,.string ⟨s.toArray⟩,.string ⟨t.toArray⟩,.int .i64 lo,.int .i64 hi] 46 (0,0))) (hb:Below w.heap.size w W):xZ w Bx op d f ot s t lo hi W:=by
 refine⟨?_,?_,?_,?_,?_,?_,?_,?_,hb⟩<;>simp[World.cell?,h]
theorem xZ.later {w W W':World} {Bx:Nat} {op:Int} {d f ot s t:Txt} {lo hi:Int} (h:xZ w Bx op d f ot s t lo hi W) (hb:Below W.heap.size W W'):xZ w Bx op d f ot s t lo hi W':=by
 obtain⟨h0,h1,h2,h3,h4,h5,h6,h7,h8⟩:=h;have hlt:Bx<W.heap.size:=World.block_lt_of_cell? _ _ h0;have k: ∀j,W'.cell? ⟨Bx,j,none⟩=W.cell? ⟨Bx,j,none⟩:=fun j=>hb.cell (p:=⟨Bx,j,none⟩) hlt
 exact⟨(k 0).trans h0,(k 1).trans h1,(k 2).trans h2,(k 3).trans h3,(k 4).trans h4,(k 5).trans h5,(k 6).trans h6,(k 7).trans h7,h8.trans (hb.mono h8.size)⟩
theorem aQ {W W':World} {base e k:Nat} {v:Value} {xs:List Value} (h:W.ownsRow base e 1 v k xs) {B:World} (_:Below B.heap.size B W) (hb:Below W.heap.size W W'):W'.ownsRow base e 1 v k xs:=
 h.kept (nY hb) (by cases v.ownBlock<;>simp)
theorem ziG: ∀(l:List Txt),(∀s∈l,s.length<=1000)->yY l<=l.length*1000
 |[],_=>by simp[yY]
 |m::l,h=>by
  have:=ziG l fun x hx=>h x (Zz _ hx)
  have h2:=h m (by simp);simp only[yY,Zn];omega
theorem zn4 (base:Nat) (v:Value) (l:List Txt) (W:World) (h:W.ownsRow base 9 1 v l.length (l.map tV)) (hn:l.length<=1000) (hs:yY l<=1000000):
  Calls Tryz.prog 101 #[v,.string ⟨#[32]⟩] W fun e w'=>e=.returned (.string ⟨(joinS [32] l).toArray⟩)/\Below W.heap.size W w':=by
 rcases h with⟨_,⟨hv,h0⟩|⟨g,cap,cur,hv,hg,hh,h5,h6,h7,h8⟩⟩
 ·obtain rfl:=Yb h0
  subst hv;exact bN 0 none _ W
 ·subst hv
  have hc: ∀j,j<l.length->W.cell? ⟨g,j,none⟩=some (.string ⟨(l.getD j []).toArray⟩):=by
   intro j hj;have h9:=congrArg (fun x:List Value=>x[j]?) h8;simp only[YL,List.getElem?_take_of_lt hj,Zv,Zh hj,Yq] at h9;rw[Yr] at h9;simp only[World.cell?,hh];simp only[YJ,Z3,if_false];rw[h9,Zi,Zh hj];rfl
  rcases YW l.length 2 with h2|h2
  ·rcases YW l.length 1 with h1|h1
   ·obtain rfl:=Yb (by omega:l.length=0)
    exact bN cap _ _ W
   ·obtain⟨t,rfl⟩:=List.length_eq_one_iff.1 (by omega:l.length=1)
    exact zhB cap g 0 _ _ W (hc 0 (by simp)) h5
  ·exact zhA l [32] cap g 0 W (Zo.1 hh).1 (fun k hk=>by rw[ZU];exact hc k hk) h2 hn h5 (by decide) (by decide) hs
theorem zn5 (L:List Dmd) (hL:L.length<=8) (hm: ∀m∈L,DmdS m) (w:World) (hG:yI (base w)) (p:Option Addr) (cap b o:Nat) (hD:kH w L p b o):
  Calls Tryz.prog 63 #[.slice p L.length cap] w fun e w'=> ∃X:Txt,e=.returned (.tuple #[.string ⟨X.toArray⟩,.bool (uL L)])/\Below w.heap.size w w':=by
 obtain⟨n,hN⟩: ∃n,L.length=n:=⟨_,rfl⟩;have hN':Aside (L.length=n):=hN;rw[hN] at hL⊢;have hp:0<n->p=some ⟨b,o,none⟩:=fun h=>(hD.1 (by omega)).1
 have HD:Aside (kH w L p b o):=hD;clear hN hD;obtain⟨i0,hif,hz0,hz1,hz2⟩:=info_parts (show(Tryz.prog.info? 9).map (fun i=>(i.zero,i.size,i.bytes))=some (some (.string ⟨#[]⟩),1,16) by kernel_rfl);have mixed:Tryz.prog.follows Departure.mixedOrders=true:=by kernel_rfl
 go_enter Tryz.func63,Tryz.ntmps63
 go_wp2
 go_loopg [4,12] n (fun g v i wr=> ∃k:Nat,k<=n/\n-k=g/\i=.int .i64 k/\(k=0\/n<=20)/\(L.take k).all uE=true/\(∃Ws:List Txt,Ws.length=k/\(∀s∈Ws,s.length<=1000)/\wr.ownsRow w.heap.size 9 1 v k (Ws.map tV))/\Below w.heap.size w wr)
 case atStart=>exact⟨0,ZB _,rfl,rfl,.inl rfl,rfl,⟨[],rfl,by simp,World.ownsRow_nil _ _ _ _⟩,Below.refl _ _⟩
 case round=>
  obtain⟨k,hkn,rfl,rfl,hk0,hall,⟨Ws,hWl0,hWb0,hown⟩,hb⟩:=hrel;have hWl:Aside (Ws.length=k):=hWl0;have hWb:Aside (∀s∈Ws,s.length<=1000):=hWb0;clear hWl0 hWb0;by_cases hlt:k<n
  ·have hkl:(k:Int)<n:=by omega
   obtain⟨m,hmk⟩: ∃m,L.getD k yZ=m:=⟨_,rfl⟩;have hmem:m∈L:=by
    rw[<-hmk,Zi,Zh (by rw[hN'.out];exact hlt)];exact Zy _
   obtain⟨c0,c1,c2,c3,c4,c5,c6,c7⟩:=HD.out.at (by rw[hN'.out];exact hlt) hb m hmk;have hs:=hm m hmem;obtain rfl:=hp (by omega);obtain⟨op,d,f,ot,s,t,lo,hi⟩:=m;simp only[] at c0 c1 c2 c3 c4 c5 c6 c7;have hB2: ∀o1,Below w.heap.size w (wr.alloc o1):=fun o1=>hb.alloc hb.size _
   have k79:=zhl op d f ot s t lo hi;simp only[tV] at k79;rw[show okO op=okD op from rfl] at k79;cases hok:okD op with
   |false=>
    have hpr:Aside (uL L=false):=aO hmem (.inr (by unfold uE;simp only[];rw[hok];rfl));rw[hok] at k79
    go_wp2_with (go_at_call 79;refine(k79 _).mono ?_;rintro ex w1 ⟨rfl,hb1⟩)
    go_ret2
    rw[hpr.out];exact⟨[],rfl,(hB2 _).trans (hb1.mono (hB2 _).size)⟩
   |true=>
    rw[hok] at k79;by_cases h20:n<=20
    ·have h20': ¬(n:Int)>20:=by omega
     obtain⟨T,us,fd,fn,fw,hcl,hC⟩:=zn0 ⟨op,d,f,ot,s,t,lo,hi⟩ hs hok w hG;simp only[tV] at hcl;rw[hcl] at k79;clear hcl;have ed:=hC.ed;have en:=hC.en;have md:=hC.md;have mn:=hC.mn;have kd:=hC.kd;have kn:=hC.kn;obtain⟨dm,hdm⟩: ∃dm,gT ⟨op,d,f,ot,s,t,lo,hi⟩=dm:=⟨_,rfl⟩;rw[hdm] at kd;have HDM:Aside (gT ⟨op,d,f,ot,s,t,lo,hi⟩=dm):=hdm;clear hdm;have hne:=zn2 ⟨op,d,f,ot,s,t,lo,hi⟩ dm;have hgd:=fun o a b=>zn3 o a b ⟨op,d,f,ot,s,t,lo,hi⟩ dm
     obtain⟨op2,d2,f2,ot2,s2,t2,lo2,hi2⟩:=dm;have ev: ∀op d f ot s t lo hi,dmV ⟨op,d,f,ot,s,t,lo,hi⟩= #[.int .i64 op,.string ⟨d.toArray⟩,.string ⟨f.toArray⟩,.string ⟨ot.toArray⟩,.string ⟨s.toArray⟩,.string ⟨t.toArray⟩,.int .i64 lo,.int .i64 hi]:=fun _ _ _ _ _ _ _ _=>rfl
     rw[ev] at kd;rw[ev,ev] at hne;rw[ev,ev] at hgd;clear ev;have hQ1: ∀o1 w1,(Below (wr.alloc o1).heap.size (wr.alloc o1) w1)->w1.heap[wr.heap.size]?=some o1/\Below w.heap.size w w1:=fun o1 w1 hb1=>⟨(hb1.block _ (by simp)).trans (World.alloc_heap_new _ _),(hB2 _).trans (hb1.mono (hB2 _).size)⟩
     have hQ1b: ∀o1 w1,(Below (wr.alloc o1).heap.size (wr.alloc o1) w1)->Below wr.heap.size wr w1:=fun o1 w1 hb1=>((Below.refl _ wr).alloc (Zs _) o1).trans (hb1.mono (by simp))
     by_cases heq:(⟨op,d,f,ot,s,t,lo,hi⟩:Dmd)=⟨op2,d2,f2,ot2,s2,t2,lo2,hi2⟩
     ·have hdec:decide ((⟨op,d,f,ot,s,t,lo,hi⟩:Dmd)=⟨op2,d2,f2,ot2,s2,t2,lo2,hi2⟩)=true:=decide_eq_true heq
      rw[hdec,Bool.not_true] at hne;have HEQ:Aside ((⟨op,d,f,ot,s,t,lo,hi⟩:Dmd)=⟨op2,d2,f2,ot2,s2,t2,lo2,hi2⟩):=heq;clear hdec heq;cases hnm:kF ⟨op,d,f,ot,s,t,lo,hi⟩ with
      |false=>
       have hpr:Aside (uL L=false):=aO hmem (.inr (by unfold uE;rw[hnm,YP,YP]));rw[hnm] at kn
       go_wp2_with (go_at_call 79;refine(k79 _).mono ?_;rintro ex w1 ⟨rfl,hb1⟩)
       obtain⟨hq1,hb2⟩:=hQ1 _ _ hb1;have hfin:Aside (∀w',Below w1.drew.heap.size w1.drew w'->Below w.heap.size w w'):=fun w' h=>hb2.trans (((wW w1).trans h).mono hb2.size)
       have hS1:xZ w wr.heap.size op d f ot s t lo hi w1.drew:=(aP hq1 hb2).later (wW w1)
       go_region_held3 (fun W=>xZ w wr.heap.size op d f ot s t lo hi W) (first|exact hS1|exact xZ.later (by assumption) hbN|exact xZ.later (by assumption) hbM) (first|(go_at_fn fd;refine(kd _ (by simp[*])).mono ?_;rintro ex w2 ⟨rfl,hbM⟩)|(go_at_fn fn;refine(kn _ (by simp[*])).mono ?_;rintro ex w3 ⟨rfl,hbN⟩))
       go_wp2
       go_ret2
       rw[hpr.out];exact⟨[],rfl,hfin.out _ (hbM.trans (hbN.mono hbM.size))⟩
      |true=>
       have hfine:uE ⟨op,d,f,ot,s,t,lo,hi⟩=true:=by
        unfold uE;rw[HDM.out,hnm,hok,ZJ,Bool.and_true];exact decide_eq_true HEQ.out
       have htk:L.take (k+1)=L.take k++[⟨op,d,f,ot,s,t,lo,hi⟩]:=by
        have hkL:k<L.length:=by rw[hN'.out];exact hlt
        rw[ZQ hkL];rw[Zi,Zh hkL] at hmk;rw[<-hmk];rfl
       have HFN:Aside (uE ⟨op,d,f,ot,s,t,lo,hi⟩=true):=hfine;have HA:Aside ((L.take (k+1)).all uE=true):=show _=_ by rw[htk,List.all_append,hall];simp[hfine]
       clear htk hfine;rw[hnm] at kn;have kw:=hC.kw;have ew:=hC.ew;have mw:=hC.mw
       go_wp2_with (go_at_call 79;refine(k79 _).mono ?_;rintro ex w1 ⟨rfl,hb1⟩)
       obtain⟨hq1,hb2⟩:=hQ1 _ _ hb1;have hfin:Aside (∀w',Below w1.drew.heap.size w1.drew w'->Below w.heap.size w w'):=fun w' h=>hb2.trans (((wW w1).trans h).mono hb2.size)
       have hS1:xZ w wr.heap.size op d f ot s t lo hi w1.drew:=(aP hq1 hb2).later (wW w1)
       go_region_held3 (fun W=>xZ w wr.heap.size op d f ot s t lo hi W) (first|exact hS1|exact xZ.later (by assumption) hbN|exact xZ.later (by assumption) hbM) (first|(go_at_fn fd;refine(kd _ (by simp[*])).mono ?_;rintro ex w2 ⟨rfl,hbM⟩)|(go_at_fn fn;refine(kn _ (by simp[*])).mono ?_;rintro ex w3 ⟨rfl,hbN⟩))
       have hB3:=hfin.out _ (hbM.trans (hbN.mono hbM.size));have hown3:=(aQ (aQ hown hb (hQ1b _ _ hb1)) hb2 ((wW w1).trans (hbM.trans (hbN.mono hbM.size))))
       go_wp2_with (first|(go_at_fn fw;refine(kw _ hB3).mono ?_;rintro ex w4 ⟨sw,hsw0,rfl,hb4⟩;have hsw:Aside (sw.length<=1000):=hsw0 HFN.out;clear hsw0;have hown4:=aQ hown3 hB3 hb4)|(at_builtin;refine wpList_append_own_at _ rfl _ _ 51 rfl w.heap.size 9 i0 (.string ⟨#[]⟩) 1 16 Tryz.underlying51 hif hz0 hz1 hz2 rfl (by decide) _ _ _ rfl (hown4.alloc _) ⟨w4.heap.size,0,none⟩ 1 1 [tV sw] rfl rfl (cell_one_new _ _ _) (by intro u hu;rw[ZX.1 hu];rfl) (by unfold maxLen;omega) (by omega) (ZY (hB3.trans (hb4.mono hB3.size)).size (by simp)) ?_;intro v6 w6 hr6 hg6 hnil6 hat6;clear hnil6))
       have hB4:=hB3.trans (hb4.mono hB3.size);have hB5:=hB4.alloc hB4.size (.cells #[tV sw] 9);have hB6:Below w.heap.size w w6:=hB5.grown hg6 hB5.size (fun j hj=>(hown4.lt j hj).1)
       go_roundg (n-(k+1))
       case measure=>omega
       case rel=>exact⟨k+1,by omega,rfl,by go_num,.inr h20,HA.out,⟨Ws++[sw],by rw[Zu,hWl.out];rfl,fun s hs=>(YI.1 hs).elim (hWb.out s) (fun q=>by rw[ZX.1 q];exact hsw.out),by rw[ZW];exact hr6⟩,hB6⟩
     ·have hdec:decide ((⟨op,d,f,ot,s,t,lo,hi⟩:Dmd)=⟨op2,d2,f2,ot2,s2,t2,lo2,hi2⟩)=false:=decide_eq_false heq
      have hpr:Aside (uL L=false):=aO hmem (.inr (by unfold uE;rw[HDM.out,hdec,ZO,YP]));rw[hdec,Bool.not_false] at hne;clear hdec heq
      go_wp2_with (go_at_call 79;refine(k79 _).mono ?_;rintro ex w1 ⟨rfl,hb1⟩)
      obtain⟨hq1,hb2⟩:=hQ1 _ _ hb1;have hfin:Aside (∀w',Below w1.drew.heap.size w1.drew w'->Below w.heap.size w w'):=fun w' h=>hb2.trans (((wW w1).trans h).mono hb2.size)
      have hS1:xZ w wr.heap.size op d f ot s t lo hi w1.drew:=(aP hq1 hb2).later (wW w1);refine wp_region_held (S:=fun W=>xZ w wr.heap.size op d f ot s t lo hi W) mixed ?_;show wpAnyH _ _ _ _ _ 9 _ _ _;refine wpAnyH_take (S:=fun W=>xZ w wr.heap.size op d f ot s t lo hi W) (i:=0) (v:=.agg #[.int .i64 op,.string ⟨d.toArray⟩,.string ⟨f.toArray⟩,.string ⟨ot.toArray⟩,.string ⟨s.toArray⟩,.string ⟨t.toArray⟩,.int .i64 lo,.int .i64 hi]) rfl (by kernel_rfl) (by kernel_rfl) (by kernel_rfl) (fun c a w h=>h) (.inl ⟨rfl,fun W hS=>?_⟩) hS1 ?_
      ·obtain⟨z0,z1,z2,z3,z4,z5,z6,z7,_⟩:=hS
       go_simp
      simp only[Act.put,ZM,ZZ,Z1];refine wpAnyH_take (S:=fun W=>xZ w wr.heap.size op d f ot s t lo hi W) (i:=1) (v:=.iface T (.agg us)) rfl (by kernel_rfl) (by kernel_rfl) (by kernel_rfl) (fun c a w h=>h) (.inl ⟨rfl,fun W hS=>?_⟩) hS1 ?_
      ·obtain⟨z0,z1,z2,z3,z4,z5,z6,z7,_⟩:=hS
       go_simp
      simp only[Act.put,ZM,ZZ,Z1];refine wpAnyH_all (rs:=[2]) (by kernel_rfl) (by simp) fun i hiq=>?_
      obtain rfl:=ZX.1 hiq;refine Or.inl (?_:Oper.wp Tryz.prog _ _ _ _ _)
      go_wp2_with (go_at_fn fd;refine(kd _ hS1.2.2.2.2.2.2.2.2).mono ?_;rintro ex w2 ⟨rfl,hbM⟩)
      have hS2:xZ w wr.heap.size op d f ot s t lo hi w2:=hS1.later hbM;refine⟨hS2,?_⟩;refine wpAnyH_take (S:=fun W=>xZ w wr.heap.size op d f ot s t lo hi W) (i:=3) (v:=.bool true) rfl (by kernel_rfl) (by kernel_rfl) (by kernel_rfl) (fun c a w h=>h) (.inl ⟨rfl,fun W hS=>?_⟩) hS2 ?_
      ·obtain⟨z0,z1,z2,z3,z4,z5,z6,z7,_⟩:=hS
       go_simp
      simp only[Act.put,ZM,ZZ,Z1];refine wpAnyH_take (S:=fun W=>xZ w wr.heap.size op d f ot s t lo hi W) (i:=4) (v:=.bool true) rfl (by kernel_rfl) (by kernel_rfl) (by kernel_rfl) (fun c a w h=>h) (.inl ⟨rfl,fun W hS=>?_⟩) hS2 ?_
      ·obtain⟨z0,z1,z2,z3,z4,z5,z6,z7,_⟩:=hS
       go_simp
      simp only[Act.put,ZM,ZZ,Z1];refine wpAnyH_take (S:=fun W=>xZ w wr.heap.size op d f ot s t lo hi W) (i:=5) (v:=undef) rfl (by kernel_rfl) (by kernel_rfl) (by kernel_rfl) (fun c a w h=>h) (.inr ⟨rfl,rfl⟩) hS2 ?_;simp only[Act.put,ZM,ZZ,Z1];refine wpAnyH_take (S:=fun W=>xZ w wr.heap.size op d f ot s t lo hi W) (i:=6) (v:=undef) rfl (by kernel_rfl) (by kernel_rfl) (by kernel_rfl) (fun c a w h=>h) (.inr ⟨rfl,rfl⟩) hS2 ?_;simp only[Act.put,ZM,ZZ,Z1];refine wpAnyH_take (S:=fun W=>xZ w wr.heap.size op d f ot s t lo hi W) (i:=7) (v:=undef) rfl (by kernel_rfl) (by kernel_rfl) (by kernel_rfl) (fun c a w h=>h) (.inr ⟨rfl,rfl⟩) hS2 ?_;simp only[Act.put,ZM,ZZ,Z1];refine wpAnyH_take (S:=fun W=>xZ w wr.heap.size op d f ot s t lo hi W) (i:=8) (v:=.bool true) rfl (by kernel_rfl) (by kernel_rfl) (by kernel_rfl) (fun c a w h=>h) (.inl ⟨rfl,fun W hS=>?_⟩) hS2 ?_
      ·obtain⟨z0,z1,z2,z3,z4,z5,z6,z7,_⟩:=hS
       go_simp
      simp only[Act.put,ZM,ZZ,Z1];refine wpAnyH_done (S:=fun W=>xZ w wr.heap.size op d f ot s t lo hi W) (by kernel_rfl) ?_ _
      go_wp2
      go_ret2
      rw[hpr.out];exact⟨[],rfl,hfin.out _ hbM⟩
    ·exact absurd (show n<=20 by omega) h20
  ·obtain rfl:k=n:=by omega
   have hkl: ¬(k:Int)<k:=by omega
   have htk:L.take k=L:=Z6 (by rw[hN'.out];exact Zs _);rw[htk] at hall;have hfl:uL L=true:=by
    unfold uL;rw[Ye,Zp,decide_eq_true_eq,decide_eq_true_eq];rcases hk0 with h|h
    ·exact .inl (Yb (by rw[hN'.out];exact h))
    ·exact .inr ⟨by rw[hN'.out];exact h,hall⟩
   have hsum:yY Ws<=Ws.length*1000:=ziG Ws hWb.out;have hk20:k<=8:=hL;have hWk:=hWl.out;have hJ:Aside (Calls Tryz.prog 101 #[u4,.string ⟨#[32]⟩] wr fun e w'=>e=.returned (.string ⟨(joinS [32] Ws).toArray⟩)/\Below wr.heap.size wr w'):=by
    show Calls _ _ _ _ _;refine zn4 w.heap.size u4 Ws wr (by rw[hWk];exact hown) (by omega) (by omega)
   have hXl:=gC [32] Ws;simp only[Zn,ZF] at hXl;obtain⟨X,hX⟩: ∃X,joinS [32] Ws=X:=⟨_,rfl⟩;rw[hX] at hJ hXl;have hle:X.length<=20000:=by omega
   have hsz:(⟨X.toArray⟩:ByteArray).size=X.length:=by show X.toArray.size=_;simp
   have HFL:Aside (uL L=true):=hfl;clear hown hall htk hfl hsum hX hm hk0 hkn hk20 hp HD hN' hif hz0 hz1 hz2 hG hXl hWk hWl hWb;have hle': ¬(X.length:Int)>20000:=by omega
   go_wp2_with (go_at_call 101;refine Calls.mono hJ.out ?_;rintro e w' ⟨rfl,hb2⟩)
   go_ret2
   rw[HFL.out];exact⟨X,rfl,hb.trans (hb2.mono hb.size)⟩
end Go.Proofs
set_option maxRecDepth 100000
set_option maxHeartbeats 8000000
namespace Go.Proofs
open Go.RowKit Go.Shelf Go.Abs Go.Wd Go.Wire Go.Ex
attribute [local go_sem] Oper.semAt_some
abbrev U8:Type:={x:Nat//x<256}
def aT (x:U8):Array Value:= #[.int .u64 (x.1:Int)]
structure FailAt (L:List Dmd) (D:List Dcm) (b1 b2 b3 b4:Nat) (vl vd vc:Value) (W:World):Prop where
 c1:W.cell? ⟨b1,0,none⟩=some (.int .i64 (xY D:Nat))
 c2:W.cell? ⟨b2,0,none⟩=some vl
 c3:W.cell? ⟨b3,0,none⟩=some vd
 c4:W.cell? ⟨b4,0,none⟩=some vc
 pl:PRep W (zW W) (zC 8 (L.map zQ)) vl
 pd:PRep W (zW W) (zC 2 (D.map zV)) vd
 pc:PRep W (zW W) (zC 1 (zM (cnts D).1)) vc
 gl:yI (base W)
theorem FailAt.later {L:List Dmd} {D:List Dcm} {b1 b2 b3 b4:Nat} {vl vd vc:Value} {W W':World} (h:FailAt L D b1 b2 b3 b4 vl vd vc W) (hb:Below W.heap.size W W'):FailAt L D b1 b2 b3 b4 vl vd vc W':=by
 have k: ∀(b:Nat) v,W.cell? ⟨b,0,none⟩=some v->W'.cell? ⟨b,0,none⟩=some v:=fun b v h0=>(hb.cell (p:=⟨b,0,none⟩) (World.block_lt_of_cell? _ _ h0)).trans h0
 exact⟨k _ _ h.c1,k _ _ h.c2,k _ _ h.c3,k _ _ h.c4,vW h.pl hb,vW h.pd hb,vW h.pc hb,h.gl.later (xM hb)⟩
theorem zn6 {l:List Nat} {j:Nat} (h:j<l.length):wL (l.take (j+1))=wL (l.take j)|||(1<<<l[j]):=by
 unfold wL;rw[ZQ h,Xp];rfl
theorem ziH {s t:Nat} (hs:s<256) (ht:t<256):IntKind.u64.wrap ((Z7 IntKind.u64.bits (s:Int)|||Z7 IntKind.u64.bits (t:Int)).toNat:Int)=((s|||t:Nat):Int):=by
 show IntKind.u64.wrap ((Z7 64 (s:Int)|||Z7 64 (t:Int)).toNat:Int)=_;rw[mG,mG,BitVec.toNat_or,Xt,Xt,Xs (by omega),Xs (by omega)];exact oU (ZL (Nat.or_lt_two_pow (n:=8) hs ht) (by decide))
theorem orK (s x:Nat) (hs:s<2 ^ 8) (hx:x<8):Value.int IntKind.u64 (bits BinOp.or IntKind.u64 (s:Int) (IntKind.u64.wrap (2 ^ x)))=Value.int IntKind.u64 ((s|||1<<<x:Nat):Int):=by
 have h1:=aK x (by omega);have e:min x IntKind.u64.bits=x:=Xw (show x<=64 by omega);rw[e,Int.one_mul] at h1;rw[h1];have h2:1<<<x<256:=by rw[Xr];exact(Nat.pow_lt_pow_right (by decide) hx:2 ^ x<2 ^ 8)
 rw[<-ziH hs h2];rfl
abbrev SF (L:List Dmd) (D:List Dcm) (b1 b2 b3 b4:Nat) (vl vd vc:Value) (w wr:World) (Kp:World->World->Prop) (W:World):Prop:=
 W.cell? ⟨b2,0,none⟩=some vl/\W.cell? ⟨b3,0,none⟩=some vd/\W.cell? ⟨b4,0,none⟩=some vc/\FailAt L D b1 b2 b3 b4 vl vd vc W/\Kp w W/\Below wr.heap.size wr W
theorem zn7 (n:Nat) (hn:3<=n) (L:List Dmd) (D:List Dcm) (hL:L.length<=8) (hD:sP D) (hok:CntOk D) (hp: ∀i,i<xY D->vE (rdsD D i)) (b1 b2 b3 b4:Nat) (vl vd vc:Value) (w:World)
  (Kp:World->World->Prop) (hKr:Kp w w) (hKt: ∀A B C,Kp A B->Kp B C->Kp A C) (hKb: ∀A B,Kp w A->Below A.heap.size A B->Kp w B) (hW: ∀W,Kp w W->FailAt L D b1 b2 b3 b4 vl vd vc W):
  bG Fence.wide n Tryz.prog 102 #[.pointer (some ⟨b1,0,none⟩),.pointer (some ⟨b2,0,none⟩),.pointer (some ⟨b3,0,none⟩),.pointer (some ⟨b4,0,none⟩)] aT Kp (fun xs=>xs.map (fun x=>x.1)=yN L D) (xY D) w:=by
 intro l J W hKW hJ hY h0;have h1n:1<=n:=by omega
 have mixed:Tryz.prog.follows Departure.mixedOrders=true:=by kernel_rfl
 have hle:=hok.le;have hlen:(yN L D).length=xY D:=by simp[yN]
 obtain⟨N,hN⟩: ∃N,xY D=N:=⟨_,rfl⟩;have hF0:=hW W hKW;have c1:=hF0.c1;rw[hN] at c1 hle hlen hp hY;have k38: ∀(k:Nat) W',k<N->FailAt L D b1 b2 b3 b4 vl vd vc W'->Calls Tryz.prog 38 #[vd,vc,.int .i64 k] W' fun e W''=> ∃v,e=.returned v/\Below W'.heap.size W' W''/\PRep W'' (zW W'') (zC 3 (vF (rdsD D k))) v:=fun k W' hk h=>
  (c38 D hD hok k (by omega)).listC h.gl (Z:=zW W') (fun _ h=>h) (vH h.pd (vH h.pc (vH (.int .i64 (k:Int)) (xS _ _))))
 have k15: ∀(k:Nat) W' v,k<N->FailAt L D b1 b2 b3 b4 vl vd vc W'->PRep W' (zW W') (zC 3 (vF (rdsD D k))) v->Calls Tryz.prog 15 #[vl,v] W' fun e W''=> ∃p b o cap,e=.returned (.slice p (sR L (rdsD D k)).length cap)/\Below W'.heap.size W' W''/\mH W'' p b o (natI (sR L (rdsD D k))):=fun k W' v hk h hv=>by
  refine((c15 L (rdsD D k) (by omega) (hp k hk)).listC h.gl (Z:=zW W') (fun _ h=>h) (vH h.pl (vH hv (xS _ _)))).mono ?_;rintro e W'' ⟨v2,rfl,hb,hp2⟩;obtain⟨p,b,o,cap,rfl,hi⟩:=aH hp2;rw[uD] at*
  exact⟨p,b,o,cap,rfl,hb,hi⟩
 refine callsIn_of_wp Tryz.func102 rfl trivial ?_ rfl;simp only[Tryz.ntmps102,Yv,Zn,ZF,Zd,Y3,YH,YG,YR,YM,Ya,ZR]
 gi_wp2
 gi_loopw [11] (fun q wr=> ∃(k:Nat) (pre:List U8),k<=N/\q=.int .i64 k/\pre.map (fun x=>x.1)=(yN L D).take k/\pre.length=k/\J pre wr/\Kp w wr)
  (fun q wr=>match q with| .int _ z=>N-z.toNat|_=>0)
 case atStart=>exact⟨0,[],ZB _,rfl,rfl,rfl,h0,hKW⟩
 case round=>
  obtain⟨k,pre,hk,rfl,hpre,hpl,hJw,hKp⟩:=hrel;by_cases hlt:k<N
  ·have hlti:(k:Int)<N:=by omega
   have hF:=hW wr hKp;have hS0:SF L D b1 b2 b3 b4 vl vd vc w wr Kp wr.drew:=⟨hF.c2,hF.c3,hF.c4,hF.later (wW wr),hKb _ _ hKp (wW wr),wW wr⟩;have hSl: ∀A B,SF L D b1 b2 b3 b4 vl vd vc w wr Kp A->Below A.heap.size A B->SF L D b1 b2 b3 b4 vl vd vc w wr Kp B:=fun A B hA hb=>⟨(hA.2.2.2.1.later hb).c2,(hA.2.2.2.1.later hb).c3,(hA.2.2.2.1.later hb).c4,hA.2.2.2.1.later hb,hKb _ _ hA.2.2.2.2.1 hb,hA.2.2.2.2.2.trans (hb.mono hA.2.2.2.2.2.size)⟩
   clear hF;have A0:Aside _:=hF0;have A1:Aside _:=hY;have A2:Aside _:=hJ;have A3:Aside _:=hJw;clear hF0 hY hJ hJw h0 hW
   gi_wp2
   refine wpIn_wide.2 ?_
   go_region_held3 (fun W=>SF L D b1 b2 b3 b4 vl vd vc w wr Kp W) (first|exact hS0|exact hSl _ _ (by assumption) hb3|exact hSl _ _ (by assumption) hb2) (first|(go_at_call 15;refine(k15 k _ v18 hlt (by simp[*]) hp2).mono ?_;rintro e w3 ⟨p,b,o,cap,rfl,hb3,hi3⟩)|(go_at_call 38;refine(k38 k _ hlt (by simp[*])).mono ?_;rintro e w2 ⟨v18,rfl,hb2,hp2⟩))
   have hS3:SF L D b1 b2 b3 b4 vl vd vc w wr Kp w3:=by assumption
   have hx8: ∀x∈sR L (rdsD D k),x<8:=fun x hx=>ZL (gF.1 hx).1 hL
   have hm8:(sR L (rdsD D k)).length<=8:=ZY (Y0 _ _) (by simpa using hL);have HX:Aside ((yN L D).take (k+1)=(yN L D).take k++[wL (sR L (rdsD D k))]):=show _=_ by
    rw[ZQ (by rw[hlen];exact hlt)];simp[yN]
   obtain⟨hi4,hi5⟩:=hi3;rw[uD] at hi4 hi5;have B3:Aside _:=hS3.2.2.2.2.1;have B4:Aside _:=hS3.2.2.2.2.2;obtain⟨F,hFe⟩: ∃F,sR L (rdsD D k)=F:=⟨_,rfl⟩;rw[hFe] at hx8 hm8 HX hi4 hi5;rw[hFe];have HI:Aside (∀j,j<F.length->w3.cell? ⟨b,o+j,none⟩=some (.int .i64 ((natI F).getD j 0))):=hi5;obtain⟨m,hm⟩: ∃m,F.length=m:=⟨_,rfl⟩;have HM:Aside (F.length=m):=hm;rw[hm] at hm8 hi4⊢;clear hi5 hS3 hp2 hFe hm k15 k38 hS0 hSl
   gi_wp2
   gi_loopw [7,21] (fun s q w5=> ∃j:Nat,j<=m/\q=.int .i64 j/\s=.int .u64 (wL (F.take j):Nat)/\w5=w3)
    (fun s q w5=>match q with| .int _ z=>m-z.toNat|_=>0)
   case atStart=>exact⟨0,ZB _,rfl,rfl,rfl⟩
   case round=>
    obtain⟨j,hj,rfl,rfl,rfl⟩:=hrel;by_cases hjm:j<m
    ·have hjF:j<F.length:=by rw[HM.out];exact hjm
     have hcj:=HI.out j hjF;have hgd:(natI F).getD j 0=(F[j]:Int):=by simp[natI,List.getD,hjF]
     rw[hgd] at hcj;obtain rfl:=hi4 (by omega);have hjmi:(j:Int)<m:=by omega
     have HT:Aside (wL (F.take (j+1))=wL (F.take j)|||(1<<<F[j])):=zn6 hjF;have hxj:=hx8 _ (Zy hjF);have hs8:wL (F.take j)<2 ^ 8:=gH fun q hq=>hx8 q (List.mem_of_mem_take hq)
     obtain⟨x,hx⟩: ∃x,F[j]=x:=⟨_,rfl⟩;obtain⟨s,hs⟩: ∃s,wL (F.take j)=s:=⟨_,rfl⟩;rw[hx] at hcj HT hxj;rw[hs] at HT hs8⊢;clear hx hs hgd hjF hx8
     gi_wp2
     refine⟨⟨j+1,hjm,by rw[Int.natCast_add];rfl,?_,trivial⟩,by simp only[];omega⟩;rw[HT.out,orK s x hs8 hxj]
    ·obtain rfl:j=m:=by omega
     have htk:F.take j=F:=Z6 (by rw[HM.out];exact Zs _);rw[htk];have hjj: ¬(j:Int)<j:=by omega
     have hF8:wL F<256:=gH (m:=8) fun q hq=>hx8 q hq
     obtain⟨fn,tmps,assign,body,hy,hR⟩:=A1.out pre ⟨wL F,hF8⟩ wr (A2.out _ _ _ A3.out B4.out) (by rw[hpl];exact hlt);simp only[aT] at hy;clear hx8
     gi_wp2
     refine hR.mono ?_;rintro e W3 ⟨rfl,hJ3,hk3⟩
     gi_wp2
     refine⟨⟨k+1,pre++[⟨wL F,hF8⟩],hlt,by rw[Int.natCast_add];rfl,by rw[HX.out,ZW,hpre];rfl,by rw[Zu,hpl];rfl,hJ3,hKt _ _ _ B3.out hk3⟩,by simp only[];omega⟩
  ·obtain rfl:k=N:=by omega
   have hkk: ¬(k:Int)<k:=by omega
   have hall:pre.map (fun x=>x.1)=yN L D:=by rw[hpre,Z6 (by omega)]
   clear k38 k15 hW hY hJ
   gi_wp2
   go_end0
   exact⟨⟨_,rfl⟩,pre,hall,hJw⟩
end Go.Proofs
set_option maxRecDepth 100000
set_option maxHeartbeats 8000000
namespace Go.Ex
theorem ziI (x:Nat): ∀(F acc:List Nat),xC (F++[x]) acc=if x∈xC F acc then xC F acc else xC F acc++[x]
 |[],acc=>rfl
 |f::F,acc=>by rw[ZR,xC,xC,ziI x F]
theorem aU (F acc:List Nat):(xC F acc).length<=F.length+acc.length:=by
 induction F generalizing acc with
 |nil=>simp[xC]
 |cons f F ih=>
  rw[xC];refine ZY (ih _) ?_;split<;>simp<;>omega
end Go.Ex
namespace Go.Proofs
open Go.RowKit Go.Shelf Go.Abs Go.Wd Go.Wire Go.Ex Go.Maps Go.ChangeMaps
def wS (W:World) (mb:Nat) (S:List Nat) (m:Nat):Prop:= ∃D:DataW Unit,W.ownsMap Tryz.prog 71 (plainElem Tryz.prog 4) mb m D/\IsMap D/\ ∀x:Nat,x<256->D.atKey (.int .u64 (x:Int)) (.lit (.bool false))=.lit (.bool (decide (x∈S)))
theorem ziJ:Keyed Tryz.prog 71:=int_keyed Tryz.underlying71
theorem wfU (x:Nat) (h:x<256):(Lit.int .u64 (x:Int)).wf=true:=by
 have:IntKind.u64.wrap (x:Int)=x:=oU (by omega);have e1:IntKind.u64.min=0:=by decide
 have e2:IntKind.u64.max=18446744073709551615:=by decide
 simp[Lit.wf,this];rw[e1,e2];omega
theorem ziK (x:Nat) (h:x<256):keyOf Tryz.prog 71 (.int .u64 (x:Int))=some (.int .u64 (x:Int)):=keyOf_int_mk Tryz.underlying71 (wfU x h)
theorem wS.made (w:World):wS (w.alloc (.map #[] 0)) w.heap.size [] 0:=⟨.map [],World.ownsMap_made _ _ _ _,⟨[],rfl⟩,fun x _=>by simp;rfl⟩
theorem wS.kept {W W':World} {mb m:Nat} {S:List Nat} {row:Option Nat} (h:wS W mb S m) (hg:W.grownBy W' row) (hne:some mb≠row):wS W' mb S m:=by
 obtain⟨D,h1,h2,h3⟩:=h;exact⟨D,h1.kept hg hne,h2,h3⟩
theorem wS.setCell {W:World} {mb m:Nat} {S:List Nat} (h:wS W mb S m) {a:Addr} (ha:mb≠a.block) (u:Value):wS (W.setCell a u) mb S m:=by
 obtain⟨D,h1,h2,h3⟩:=h;exact⟨D,h1.setCell ha u,h2,h3⟩
theorem wS.lt {W:World} {mb m:Nat} {S:List Nat} (h:wS W mb S m):mb<W.heap.size:=by
 obtain⟨D,h1,_⟩:=h;exact h1.lt
theorem wS.look {W:World} {mb m:Nat} {S:List Nat} (h:wS W mb S m) {x:Nat} (hx:x<256):(Instr.lookup 115 (.map (some mb)) (.int .u64 (x:Int)) false).run Tryz.prog W=.ok (.bool (decide (x∈S))) W:=by
 obtain⟨D,h1,h2,h3⟩:=h;have hz:(zeroValue 4).run Tryz.prog W=.ok (.bool false) W:=by kernel_rfl
 obtain⟨v,ps,hr,hv⟩:=h1.lookup ziJ Tryz.underlying115 hz (plainElem_bool Tryz.underlying4 false) (ziK x hx);rw[h3 x hx] at hv;unfold plainElem at hv;rw[Tryz.underlying4] at hv;cases v<;>simp at hv
 rw[hr,hv.1]
theorem wS.put {W:World} {mb m:Nat} {S:List Nat} (h:wS W mb S m) (hm:m<maxLen) {x:Nat} (hx:x<256): ∃W',(Instr.mapUpdate 115 (.map (some mb)) (.int .u64 (x:Int)) (.bool true)).run Tryz.prog W=.ok () W'/\wS W' mb (S++[x]) (m+1)/\W.grownBy W' (some mb):=by
 obtain⟨D,h1,h2,h3⟩:=h;obtain⟨W',hr,ho,hg⟩:=h1.update ziJ Tryz.underlying115 hm (ziK x hx) (plainElem_bool Tryz.underlying4 true);refine⟨W',hr,⟨_,ho,h2.put _ _,fun y hy=>?_⟩,hg⟩;by_cases e:y=x
 ·subst e
  rw[atKey_put_same h2 (show WideAt.IsKeyLit (.int .u64 (y:Int)) from trivial)];simp
 ·rw[atKey_put_other (fun q=>e (by injection q with _ q;omega)),h3 y hy]
  simp[e]
structure LkI (n0:Nat) (w W0:World) (N bv bs bm mb:Nat) (pre:List U8) (W:World):Prop where
 v: ∃vs:Value,W.heap[bv]?=some (.cells #[vs,.int .u64 ((pre.map fun x=>x.1).foldl (· &&& ·) n0:Nat),.int .u64 0] 73 (0,0))/\W.ownsRow N 71 1 vs (xC (pre.map fun x=>x.1) []).length ((xC (pre.map fun x=>x.1) []).map fun(s:Nat)=>Value.int .u64 (s:Int))
 s:W.heap[bs]?=some (.cells #[.int .u64 ((pre.map fun x=>x.1).foldl (· ||| ·) 0:Nat)] 71 (0,0))
 m:W.heap[bm]?=some (.cells #[.map (some mb)] 115 (0,0))
 mp:wS W mb (xC (pre.map fun x=>x.1) []) pre.length
 kp:KpR N bv bs mb W0 W
 bl:Below w.heap.size w W
theorem ziL {W:World} {base e k:Nat} {v:Value} {xs:List Value} (h:W.ownsRow base e 1 v k xs) {g:Nat} (hg:v.ownBlock=some g): ∃cur,W.heap[g]?=some (.cells cur e (0,0))/\base<=g:=by
 rcases h with⟨_,⟨hv,_⟩|⟨g2,cap,cur,hv,hb,hh,_⟩⟩
 ·subst hv;simp[Value.ownBlock] at hg
 ·subst hv
  simp[Value.ownBlock] at hg;subst hg;exact⟨cur,hh,hb⟩
theorem LkI.own {n0:Nat} {w W0:World} {N bv bs bm mb:Nat} (hv:bv<N) (hs:bs<N) (hm:bm<N) (hmb:mb<N) (hw:w.heap.size<=N) (hW:N<=W0.heap.size):OwnFrom N (LkI n0 w W0 N bv bs bm mb):=by
 rintro pre A B row ⟨⟨vs,k1,k2⟩,k3,k4,k5,k6,k7⟩ hg hr;have hsz:N<=A.heap.size:=ZY hW k6.1;have hb: ∀j,j<N->B.heap[j]?=A.heap[j]?:=fun j hj=>hg.block j (by omega) (fun e=>by have:=(hr j e.symm).1;omega)
 refine⟨⟨vs,(hb _ hv).trans k1,k2.kept hg ?_⟩,(hb _ hs).trans k3,(hb _ hm).trans k4,k5.kept hg (fun e=>by have:=(hr mb e.symm).1;omega),k6.trans (KpR.grown hsz hg fun r e=>(hr r e).1),k7.grown hg (ZY hw hsz) fun r e=>by have:=(hr r e).1;omega⟩;cases q:vs.ownBlock with
 |none=>exact .inl rfl
 |some g=>
  right;intro e;obtain⟨cur,hc,_⟩:=ziL k2 q;obtain⟨_,o,ho,hno⟩:=hr g e.symm;rw[hc] at ho;cases ho;cases hno
theorem ziM {n0:Nat} {w W0:World} {N bv bs bm mb:Nat} {pre:List U8} {W W3:World} {vs:Value} {x:U8} (h:LkI n0 w W0 N bv bs bm mb pre W) (nv:bv<N) (ns:bs<N) (nm:mb<N) (nb:bm<N) (d1:bv≠bs) (d2:bv≠mb) (d3:bs≠mb) (d4:bm≠bv) (d5:bm≠bs) (gv:w.heap.size<=bv) (gs:w.heap.size<=bs) (hN:N<=W.heap.size)
  (hv:W3.heap[bv]?=some (.cells #[vs,.int .u64 ((pre.map fun x=>x.1).foldl (· &&& ·) n0:Nat),.int .u64 0] 73 (0,0))) (hs:W3.heap[bs]?=W.heap[bs]?) (hm:W3.heap[bm]?=W.heap[bm]?)
  (hr:W3.ownsRow N 71 1 vs (xC ((pre++[x]).map fun x=>x.1) []).length ((xC ((pre++[x]).map fun x=>x.1) []).map fun(s:Nat)=>Value.int .u64 (s:Int))) (hp:wS W3 mb (xC ((pre++[x]).map fun x=>x.1) []) (pre.length+1))
  (kp:KpR N bv bs mb W W3) (bl:Below w.heap.size w W3) (kf:KeepsFrom N W W3) (a b:Nat) (ha:a=((pre++[x]).map fun x=>x.1).foldl (· &&& ·) n0) (hb:b=((pre++[x]).map fun x=>x.1).foldl (· ||| ·) 0):
  KeepsFrom N W ((W3.setCell ⟨bv,1,none⟩ (.int .u64 (a:Int))).setCell ⟨bs,0,none⟩ (.int .u64 (b:Int)))/\KpR N bv bs mb W ((W3.setCell ⟨bv,1,none⟩ (.int .u64 (a:Int))).setCell ⟨bs,0,none⟩ (.int .u64 (b:Int)))/\LkI n0 w W0 N bv bs bm mb (pre++[x]) ((W3.setCell ⟨bv,1,none⟩ (.int .u64 (a:Int))).setCell ⟨bs,0,none⟩ (.int .u64 (b:Int))):=by
 subst ha hb;have e1:=vO W3 bv 1 _ 73 (0,0) (.int .u64 (((pre++[x]).map fun x=>x.1).foldl (· &&& ·) n0:Nat)) hv;obtain⟨X,hX⟩: ∃X,W3.setCell ⟨bv,1,none⟩ (.int .u64 (((pre++[x]).map fun x=>x.1).foldl (· &&& ·) n0:Nat))=X:=⟨_,rfl⟩;have oX: ∀j,j≠bv->X.heap[j]?=W3.heap[j]?:=fun j hj=>by rw[<-hX];exact uB _ _ _ _ hj
 have szX:X.heap.size=W3.heap.size:=by rw[<-hX];simp
 have rX:X.ownsRow N 71 1 vs (xC ((pre++[x]).map fun x=>x.1) []).length ((xC ((pre++[x]).map fun x=>x.1) []).map fun(s:Nat)=>Value.int .u64 (s:Int)):=by rw[<-hX];exact ownsRow_setCell_below hr nv _
 have pX:wS X mb (xC ((pre++[x]).map fun x=>x.1) []) (pre.length+1):=by rw[<-hX];exact hp.setCell (fun e=>d2 e.symm) _
 have bX:Below w.heap.size w X:=by rw[<-hX];exact bl.setCell (p:=⟨bv,1,none⟩) gv _
 rw[hX] at e1⊢;have hsX:X.heap[bs]?=some (.cells #[.int .u64 ((pre.map fun x=>x.1).foldl (· ||| ·) 0:Nat)] 71 (0,0)):=(oX bs (Ne.symm d1)).trans (hs.trans h.s);have e2:=vO X bs 0 _ 71 (0,0) (.int .u64 (((pre++[x]).map fun x=>x.1).foldl (· ||| ·) 0:Nat)) hsX;have oY: ∀j,j≠bs->(X.setCell ⟨bs,0,none⟩ (.int .u64 (((pre++[x]).map fun x=>x.1).foldl (· ||| ·) 0:Nat))).heap[j]?=X.heap[j]?:=fun j hj=>uB _ _ _ _ hj
 have rY:=ownsRow_setCell_below rX (a:=⟨bs,0,none⟩) ns (.int .u64 (((pre++[x]).map fun x=>x.1).foldl (· ||| ·) 0:Nat));have pY:=pX.setCell (a:=⟨bs,0,none⟩) (fun e=>d3 e.symm) (.int .u64 (((pre++[x]).map fun x=>x.1).foldl (· ||| ·) 0:Nat));have bY:=bX.setCell (p:=⟨bs,0,none⟩) gs (.int .u64 (((pre++[x]).map fun x=>x.1).foldl (· ||| ·) 0:Nat));have szY:(X.setCell ⟨bs,0,none⟩ (.int .u64 (((pre++[x]).map fun x=>x.1).foldl (· ||| ·) 0:Nat))).heap.size=W3.heap.size:=by simp[szX]
 generalize X.setCell ⟨bs,0,none⟩ (.int .u64 (((pre++[x]).map fun x=>x.1).foldl (· ||| ·) 0:Nat))=Y at e2 oY rY pY bY szY⊢;have oW: ∀j,j≠bv->j≠bs->Y.heap[j]?=W3.heap[j]?:=fun j h1 h2=>(oY j h2).trans (oX j h1)
 have kY:KpR N bv bs mb W Y:=⟨by have:=kp.1;omega,fun j hj h1 h2 h3=>(oW j h1 h2).trans (kp.2 j hj h1 h2 h3)⟩;refine⟨⟨by have:=kf.size;omega,fun j o hj ho hc=>(oW j (by omega) (by omega)).trans (kf.same j o hj ho hc)⟩,kY,⟨⟨vs,(oY bv d1).trans e1,rY⟩,e2,((oW bm d4 d5).trans hm).trans h.m,by rw[Zu];exact pY,h.kp.trans kY,bY⟩⟩
end Go.Proofs
set_option maxRecDepth 100000
set_option maxHeartbeats 8000000
namespace Go.Abs
open Go.Proofs Go.RowKit Go.Lib Go.Wd Go.Wire Go.Ex
theorem Spec.list2C {P:Program} {f:FuncId} {xs:List V} {c:C} {k k':IntKind} {n m:Int} (h:Spec P f xs (fun r'=>r'=.tup [.k (.c c),.int k n,.int k' m])) {W:World} (hG:yI (base W)) {Z:Bk->Prop} (hz: ∀b,Z b->b.2<W.heap.size) {vs:Array Value} (ha:wH W Z xs vs.toList):
  Calls P f vs W fun e W'=> ∃v,e=.returned (.tuple #[v,.int k n,.int k' m])/\Below W.heap.size W W'/\PRep W' (zW W') c v:=by
 refine(h.2 W Z vs hG hz ha).mono ?_;rintro e w' ⟨v,r',rfl,rfl,_,hrep⟩;obtain⟨κ,hi⟩:=hrep 0;have h0:=hi.tmps 0;obtain⟨us,hu,hl,hv⟩:=h0;have hu':v=.tuple us:=hu;subst hu';obtain⟨l⟩:=us
 match l,hl,hv with
 |[x,y,z],_,hv=>
  have h1:=vB hv.2.1.2;have h2:=vB hv.2.2.1.2;subst h1 h2;exact⟨x,rfl,iU hi.kept,(show PRep w' _ c x from hv.1.2).mono (fun _ _=>rfl) fun b hb=>hb.2.1⟩
theorem ziN (L:List Dmd):Plain 8 (L.map zQ):=by
 refine⟨by decide,fun r hr=>?_,fun r hr c hc=>?_⟩
 ·obtain⟨m,_,rfl⟩:=ZS.1 hr;rfl
 ·obtain⟨m,_,rfl⟩:=ZS.1 hr
  exact zh4 m c hc
end Go.Abs
namespace Go.Proofs
open Go.RowKit Go.Shelf Go.Abs Go.Wd Go.Wire Go.Ex Go.Maps Go.ChangeMaps
theorem ziO {w:World} {Z:Bk->Prop} {L:List Dmd} {v:Value} (h:PRep w Z (zC 8 (L.map zQ)) v): ∃p b o cap,v=.slice p L.length cap/\kH w L p b o:=by
 obtain⟨p,cap,rfl,hq,_⟩:=(ziN L).slice h;rw[Zg] at hq;by_cases h0:L.length=0
 ·refine⟨p,0,0,cap,by rw[Zg],fun hk=>absurd h0 (by omega),fun k hk=>absurd hk (by omega)⟩
 ·obtain⟨b,o,rfl,hc⟩:=hq (by omega)
  have hcell: ∀k,k<L.length-> ∀j u,(dmV (L.getD k yZ))[j]?=some u->w.cell? ⟨b,o+k*8+j,none⟩=some u:=by
   intro k hk j u hu;have hr:(L.map zQ)[k]?=some (zQ L[k]):=by simp[hk]
   have hg:L.getD k yZ=L[k]:=by rw[Zi,Zh hk];rfl
   rw[hg] at hu;unfold dmV at hu;rw[Y1,Zv] at hu;obtain⟨c,hc1,rfl⟩:=Zc.1 hu;have:=((ziN L).at hr hc1).1;have:=hc _ _ this
   rwa [<-Yy] at this
  refine⟨_,b,o,cap,by rw[Zg],fun _=>⟨rfl,?_⟩,hcell⟩;exact World.block_lt_of_cell? _ _ (hcell 0 (by omega) 0 _ rfl)
theorem zn8 (L:List Dmd) (hL:L.length<=8) (hm: ∀m∈L,DmdS m) (w:World) (hG:yI (base w)) (v:Value) {Z:Bk->Prop} (h:PRep w Z (zC 8 (L.map zQ)) v):
  Calls Tryz.prog 63 #[v] w fun e w'=> ∃X:Txt,e=.returned (.tuple #[.string ⟨X.toArray⟩,.bool (uL L)])/\Below w.heap.size w w':=by
 obtain⟨p,b,o,cap,rfl,hD⟩:=ziO h;exact zn5 L hL hm w hG p cap b o hD
theorem zn9 (vl vd vc:Value) (n:Int) (w:World) (h1:vl.oneCell'=true) (h2:vd.oneCell'=true) (h3:vc.oneCell'=true):Calls Tryz.prog 64 #[vl,vd,vc,.int .i64 n] w fun e w'=>e=.returned (.func (.func 102) #[] #[.pointer (some ⟨w.heap.size+1+1+1,0,none⟩),.pointer (some ⟨w.heap.size,0,none⟩),.pointer (some ⟨w.heap.size+1,0,none⟩),.pointer (some ⟨w.heap.size+1+1,0,none⟩)])/\
   w'=(((w.alloc (.cells #[vl] 22)).alloc (.cells #[vd] 23)).alloc (.cells #[vc] 30)).alloc (.cells #[.int .i64 n] 3):=by
 go_enter Tryz.func64,Tryz.ntmps64
 go_wp2
 go_ret
 exact⟨rfl,rfl⟩
theorem zoa {s t:Nat} (hs:s<256) (ht:t<256):bits BinOp.and IntKind.u64 (s:Int) (t:Int)=((s&&&t:Nat):Int):=kD (s:=s) (t:=t) (by omega) (by omega)
theorem zob {s t:Nat} (hs:s<256) (ht:t<256):bits BinOp.or IntKind.u64 (s:Int) (t:Int)=((s|||t:Nat):Int):=ziH hs ht
theorem zoc {s t:Nat} (hs:s<256):bits BinOp.andNot IntKind.u64 (s:Int) (t:Int)=((andN s t:Nat):Int):=zit (s:=s) (t:=t) (by omega)
end Go.Proofs
namespace Go.Ex
open Go.Lib Go.Wd Go.Wire Go.Abs
def lookE (L:List Dmd) (D:List Dcm):Int:=if uL L=true then(cnts D).2.2 else 2
end Go.Ex
namespace Go.Proofs
open Go.RowKit Go.Shelf Go.Abs Go.Wd Go.Wire Go.Ex Go.Maps Go.ChangeMaps
attribute [local go_sem] Oper.semAt_some
theorem aV {W:World} {b t:Nat} {x y z:Value} (h:W.heap[b]?=some (.cells #[x,y,z] t (0,0))) (a c d:Value):(((W.setCell ⟨b,0,none⟩ a).setCell ⟨b,1,none⟩ c).setCell ⟨b,2,none⟩ d).heap[b]?=some (.cells #[a,c,d] t (0,0)):=
 vO _ b 2 _ t (0,0) d (vO _ b 1 _ t (0,0) c (vO W b 0 _ t (0,0) a h))
theorem zod {n:Nat} (hn:n<=8):IntKind.u64.wrap (IntKind.u64.wrap (2 ^ n)-1)=((2 ^ n-1:Nat):Int):=by
 have key: ∀n:Fin 9,IntKind.u64.wrap (IntKind.u64.wrap (2 ^ n.1)-1)=((2 ^ n.1-1:Nat):Int):=by decide
 exact key ⟨n,by omega⟩
theorem ziP {W:World} {j:Nat} {o:Obj} (h:W.heap[j]?=some o):j<W.heap.size:=(Zo.1 h).1
theorem zoe (w:World) (o0 o1 o2 o3 o4 o5 o6 o7:Obj):((((((((w.alloc o0).alloc o1).alloc o2).alloc o3).alloc o4).alloc o5).alloc o6).alloc o7).heap.size=w.heap.size+8/\Below w.heap.size w ((((((((w.alloc o0).alloc o1).alloc o2).alloc o3).alloc o4).alloc o5).alloc o6).alloc o7)/\
  ((((((((w.alloc o0).alloc o1).alloc o2).alloc o3).alloc o4).alloc o5).alloc o6).alloc o7).heap[w.heap.size]?=some o0/\((((((((w.alloc o0).alloc o1).alloc o2).alloc o3).alloc o4).alloc o5).alloc o6).alloc o7).heap[w.heap.size+1]?=some o1/\((((((((w.alloc o0).alloc o1).alloc o2).alloc o3).alloc o4).alloc o5).alloc o6).alloc o7).heap[w.heap.size+1+1]?=some o2/\((((((((w.alloc o0).alloc o1).alloc o2).alloc o3).alloc o4).alloc o5).alloc o6).alloc o7).heap[w.heap.size+1+1+1]?=some o3/\
  ((((((((w.alloc o0).alloc o1).alloc o2).alloc o3).alloc o4).alloc o5).alloc o6).alloc o7).heap[w.heap.size+1+1+1+1]?=some o4/\((((((((w.alloc o0).alloc o1).alloc o2).alloc o3).alloc o4).alloc o5).alloc o6).alloc o7).heap[w.heap.size+1+1+1+1+1]?=some o5/\((((((((w.alloc o0).alloc o1).alloc o2).alloc o3).alloc o4).alloc o5).alloc o6).alloc o7).heap[w.heap.size+1+1+1+1+1+1]?=some o6/\((((((((w.alloc o0).alloc o1).alloc o2).alloc o3).alloc o4).alloc o5).alloc o6).alloc o7).heap[w.heap.size+1+1+1+1+1+1+1]?=some o7:=by
 have h:((((((((w.alloc o0).alloc o1).alloc o2).alloc o3).alloc o4).alloc o5).alloc o6).alloc o7).heap=(((((((w.heap.push o0).push o1).push o2).push o3).push o4).push o5).push o6).push o7:=rfl;have hs:(((((((w.heap.push o0).push o1).push o2).push o3).push o4).push o5).push o6).push o7=w.heap++ #[o0,o1,o2,o3,o4,o5,o6,o7]:=by
  apply XB;simp only[Array.toList_push,Array.toList_append,Z9,ZR,Ya]
 rw[h,hs];refine⟨by simp,⟨rfl,rfl,rfl,by rw[h,hs,Array.size_append];exact Nat.le_add_right _ _,fun k hk=>by rw[h,hs,YQ hk]⟩,?_,?_,?_,?_,?_,?_,?_,?_⟩
 all_goals (rw[Array.getElem?_append_right (by omega)];simp[Yy])
theorem zof {w W:World} (h:yI (base w)) (h1:w.heap.size<=W.heap.size) (h2: ∀j,j<w.heap.size->W.heap[j]?=w.heap[j]?):yI (base W):=by
 refine⟨fun g l hg=>?_,fun g p hg=>?_⟩
 ·obtain⟨h3,h4⟩:=h.1 g l hg
  refine⟨ZL h3 h1,fun j hj=>?_⟩;show W.cell? _=_;rw[World.cell?_of_block (w:=w) (a:=⟨g,j,none⟩) (h2 g h3)];exact h4 j hj
 ·obtain⟨h3,b,h4,h5⟩:=h.2 g p hg
  exact⟨ZL h3 h1,b,(h2 g h3).trans h4,h5⟩
theorem zog (L:List Dmd) (D:List Dcm) (hL:L.length<=8) (hm: ∀m∈L,DmdS m) (hD:sP D) (hp:(cnts D).2.2=0-> ∀i,i<xY D->vE (rdsD D i)) (w:World) (hG:yI (base w)) (vl vd:Value) (hl:PRep w (zW w) (zC 8 (L.map zQ)) vl) (hd:PRep w (zW w) (zC 2 (D.map zV)) vd):
  Calls Tryz.prog 32 #[vl,vd] w fun e w'=>(lookE L D≠0/\e=.returned (.tuple #[.agg #[.slice none 0 0,.int .u64 0,.int .u64 0],.int .i64 (lookE L D)])/\Below w.heap.size w w')\/
   (lookE L D=0/\ ∃vs,e=.returned (.tuple #[.agg #[vs,.int .u64 ((viewD L D).never:Nat),.int .u64 ((viewD L D).doubt:Nat)],.int .i64 0])/\Below w.heap.size w w'/\w'.ownsRow w.heap.size 71 1 vs (viewD L D).sets.length ((viewD L D).sets.map fun(s:Nat)=>Value.int .u64 (s:Int))):=by
 refine(callsIn_wide (n:=8)).1 ?_;have hn1:1<=8:=by decide
 have ol:=hl.oneCell;have od:=hd.oneCell;obtain⟨p,_,_,cap,rfl,_⟩:=ziO hl;obtain⟨n,hN⟩: ∃n,L.length=n:=⟨_,rfl⟩;have hN':Aside (L.length=n):=hN;rw[hN] at hL hl ol⊢;have k63: ∀W,Below w.heap.size w W->Calls Tryz.prog 63 #[.slice p n cap] W fun e W'=> ∃X:Txt,e=.returned (.tuple #[.string ⟨X.toArray⟩,.bool (uL L)])/\Below W.heap.size W W':=fun W hb=>zn8 L (by rw[hN];omega) hm W (hG.later (xM hb)) _ (vW hl hb)
 have k37: ∀W,Below w.heap.size w W->Calls Tryz.prog 37 #[vd] W fun e W'=> ∃v,e=.returned (.tuple #[v,.int .i64 (cnts D).2.1,.int .i64 (cnts D).2.2])/\Below W.heap.size W W'/\PRep W' (zW W') (zC 1 (zM (cnts D).1)) v:=fun W hb=>(c37 D hD).list2C (hG.later (xM hb)) (Z:=zW W) (fun _ h=>h) (vH (vW hd hb) (xS _ _))
 have hB0: ∀a,Below w.heap.size w (w.alloc a):=fun a=>(Below.refl _ w).alloc (Zs _) _
 have hE:lookE L D=if uL L=true then(cnts D).2.2 else 2:=rfl
 obtain⟨x2,hX⟩: ∃X,uL L=X:=⟨_,rfl⟩;clear hN;have A1:Aside _:=hl;have A2:Aside _:=hd;have A3:Aside _:=hp;have A4:Aside (yI (base w)):=hG;clear hl hd hp hG hm;rw[hX] at k63 hE;cases x2 with
 |false=>
  rw[if_neg (by simp)] at hE;rw[hE];refine callsIn_of_wp_marks Tryz.func32 rfl trivial ?_;simp only[Tryz.ntmps32,Yv,Zn,ZF,Zd,Y3,YH,YG,YR,YM,Ya,ZR]
  gi_wp2_with (refine⟨trivial,?_⟩;gi_at_call 63;refine(callsIn_wide.2 (k63 _ (hB0 _))).mono ?_;rintro e w1 ⟨x1,rfl,hb1⟩;have q4:=(hb1.block w.heap.size (by simp only[World.size_alloc];omega)).trans (World.alloc_heap_new w _);obtain⟨c40,c41,c42⟩:=uC q4;have e7: ∀j,w1.frozen? ⟨w.heap.size,j,none⟩=false:=(fun j=>by simp[World.frozen?,q4]);have e8:=e7 0;have e9:=e7 1;have e10:=e7 2;have hB1:=(hB0 (.cells #[.slice none 0 0,.int .u64 0,.int .u64 0] 73)).trans (hb1.mono (hB0 _).size))
  refine⟨_,oR rfl _ _ rfl (aV q4 _ _ _) Tryz.underlying73 (by kernel_rfl),.inl ⟨by decide,rfl,((hB1.setCell (p:=⟨w.heap.size,0,none⟩) (Zs _) _).setCell (p:=⟨w.heap.size,1,none⟩) (Zs _) _).setCell (p:=⟨w.heap.size,2,none⟩) (Zs _) _⟩⟩
 |true=>
  rw[if_pos rfl] at hE;by_cases h0:(cnts D).2.2=0
  ·rw[h0] at hE k37
   rw[hE];have hok:=rM h0;have hmm:=@run_makeMap Tryz.prog;have hnn:=hok.n;obtain⟨n0,hn0,hn0e⟩: ∃n0:Nat,IntKind.u64.wrap (IntKind.u64.wrap (2 ^ n)-1)=(n0:Int)/\Aside (n0=2 ^ n-1):=⟨2 ^ n-1,zod hL,rfl⟩;obtain⟨M,hM⟩: ∃M,xY D=M:=⟨_,rfl⟩;have hM':Aside (xY D=M):=hM;rw[hM] at hnn;rw[hnn] at k37;have k64:=fun vc W h=>zn9 (.slice p n cap) vd vc (M:Int) W ol od h
   clear hnn hM;refine callsIn_of_wp_marks Tryz.func32 rfl trivial ?_;simp only[Tryz.ntmps32,Yv,Zn,ZF,Zd,Y3,YH,YG,YR,YM,Ya,ZR]
   gi_wp2_with (first|(refine⟨trivial,?_⟩;gi_at_call 64;refine(callsIn_wide.2 (k64 vc _ hpc.oneCell)).mono ?_;rintro e w3 ⟨rfl,hw3⟩)|(refine⟨trivial,?_⟩;gi_at_call 63;refine(callsIn_wide.2 (k63 _ (hB0 _))).mono ?_;rintro e w1 ⟨x1,rfl,hb1⟩;have hB1:=(hB0 (.cells #[.slice none 0 0,.int .u64 0,.int .u64 0] 73)).trans (hb1.mono (hB0 _).size);have q4:=(hb1.block w.heap.size (by simp only[World.size_alloc];omega)).trans (World.alloc_heap_new w _))|(refine⟨trivial,?_⟩;gi_at_call 37;refine(callsIn_wide.2 (k37 _ hB1)).mono ?_;rintro e w2 ⟨vc,rfl,hb2,hpc⟩;have q5:=(hb2.block w.heap.size (xV q4)).trans q4;obtain⟨c40,c41,c42⟩:=uC q5;have e7: ∀j,w2.frozen? ⟨w.heap.size,j,none⟩=false:=(fun j=>by simp[World.frozen?,q5]);have e8:=e7 0;have e9:=e7 1;have e10:=e7 2;have hB2:=hB1.trans (hb2.mono hB1.size)))
   have hal:=zoe w2 (.cells #[.slice none 0 0,.int .u64 (n0:Int),.int .u64 0] 73) (.map #[] 0) (.cells #[.map (some (w2.heap.size+1))] 115) (.cells #[.int .u64 0] 71) (.cells #[.slice p n cap] 22) (.cells #[vd] 23) (.cells #[vc] 30) (.cells #[.int .i64 (M:Int)] 3);rw[<-hw3] at hal⊢;obtain⟨hsz,hb23,a0,a1,a2,a3,a4,a5,a6,a7⟩:=hal;have hmp:wS w3 (w2.heap.size+1) [] 0:=by
    rw[hw3];have hmd:=wS.made (w2.alloc (.cells #[.slice none 0 0,.int .u64 (n0:Int),.int .u64 0] 73));rw[World.size_alloc] at hmd;exact(((((hmd.kept (World.grownBy_alloc _ _ none) (by simp)).kept (World.grownBy_alloc _ _ none) (by simp)).kept (World.grownBy_alloc _ _ none) (by simp)).kept (World.grownBy_alloc _ _ none) (by simp)).kept (World.grownBy_alloc _ _ none) (by simp)).kept (World.grownBy_alloc _ _ none) (by simp)
   have hww:=hB2.size;have hB3:Below w.heap.size w w3:=hB2.trans (hb23.mono hB2.size);clear hw3;have hpl:PRep w2 (zW w2) (zC 8 (L.map zQ)) (.slice p n cap):=vW A1.out hB2;have hpd:PRep w2 (zW w2) (zC 2 (D.map zV)) vd:=vW A2.out hB2;have hFA: ∀W,KpR w3.heap.size w2.heap.size (w2.heap.size+1+1+1) (w2.heap.size+1) w3 W->FailAt L D (w2.heap.size+1+1+1+1+1+1+1) (w2.heap.size+1+1+1+1) (w2.heap.size+1+1+1+1+1) (w2.heap.size+1+1+1+1+1+1) (.slice p n cap) vd vc W:=by
    intro W hK;have hlow: ∀j,j<w2.heap.size->W.heap[j]?=w2.heap[j]?:=fun j hj=>(hK.2 j (by omega) (by omega) (by omega) (by omega)).trans (hb23.block j hj)
    have hwz:w2.heap.size<=W.heap.size:=by have:=hK.1;omega
    have rep: ∀c v,PRep w2 (zW w2) c v->PRep W (zW W) c v:=fun c v h=>h.mono (fun b hb=>hlow b.2 hb) fun b hb=>ZL hb hwz
    have box: ∀j v t,w2.heap.size+1+1+1<j->w3.heap[j]?=some (.cells #[v] t (0,0))->W.cell? ⟨j,0,none⟩=some v:=fun j v t h1 h2=>sS ((hK.2 j (Zo.1 h2).1 (by omega) (by omega) (by omega)).trans h2)
    refine⟨?_,box _ _ _ (by omega) a4,box _ _ _ (by omega) a5,box _ _ _ (by omega) a6,rep _ _ hpl,rep _ _ hpd,rep _ _ hpc,zof (A4.out.later (xM hB2)) hwz hlow⟩;rw[hM'.out];exact box _ _ _ (by omega) a7
   obtain⟨Q0,hQ0⟩: ∃Q0:Prop,Q0:=⟨True,trivial⟩;refine zhj (α:=U8) rfl (by decide) (gf:=102) (lb:= #[.pointer (some ⟨w2.heap.size+1+1+1+1+1+1+1,0,none⟩),.pointer (some ⟨w2.heap.size+1+1+1+1,0,none⟩),.pointer (some ⟨w2.heap.size+1+1+1+1+1,0,none⟩),.pointer (some ⟨w2.heap.size+1+1+1+1+1+1,0,none⟩)]) rfl trivial (enters_of Tryz.func102 (by kernel_rfl) rfl)
    (zn7 7 (by decide) L D (by rw[hN'.out];exact hL) hD hok (A3.out h0) _ _ _ _ (.slice p n cap) vd vc w3 (KpR w3.heap.size w2.heap.size (w2.heap.size+1+1+1) (w2.heap.size+1)) ⟨Zs _,fun _ _ _ _ _=>rfl⟩ (fun _ _ _=>KpR.trans) (fun A B hA hb=>hA.trans (KpR.grown hA.1 (nY hb) (fun r e=>by cases e))) hFA)
    (fun _ _ _=>KpR.trans) (fun A B row hs hg hr=>KpR.grown hs hg hr) (fun _=>rfl) (LkI n0 w w3 w3.heap.size w2.heap.size (w2.heap.size+1+1+1) (w2.heap.size+1+1) (w2.heap.size+1)) (LkI.own (by omega) (by omega) (by omega) (by omega) hB3.size (Zs _)) ?h0
    (fun x a' W'=>a'={tmps:= #[.slice p n cap,vd,undef,undef,.pointer (some ⟨w.heap.size,0,none⟩),.int .i64 0,.string ⟨x1.toArray⟩,.bool true,vc,.int .i64 (M:Int),.int .i64 0,.pointer (some ⟨w2.heap.size,0,none⟩),.pointer (some ⟨w2.heap.size+1+1,0,none⟩),.pointer (some ⟨w2.heap.size+1+1+1,0,none⟩),.int .u64 (x.1:Int),.tuple #[.string ⟨x1.toArray⟩,.bool true],.slice p n cap,.tuple #[.string ⟨x1.toArray⟩,.bool true],.string ⟨x1.toArray⟩,.bool true,.bool true,.bool false,undef,.tuple #[vc,.int .i64 (M:Int),.int .i64 0],vd,.tuple #[vc,.int .i64 (M:Int),.int .i64 0],vc,.int .i64 (M:Int),.int .i64 0,.int .i64 0,.bool false,undef,undef,.slice p n cap,.int .i64 (n:Int),.int .u64 (IntKind.u64.wrap (2 ^ n)),.int .u64 (n0:Int),.agg #[.slice none 0 0,.int .u64 (n0:Int),.int .u64 0],.map (some (w2.heap.size+1)),.slice p n cap,vd,vc,.int .i64 (M:Int),.func (.func 102) #[] #[.pointer (some ⟨w2.heap.size+1+1+1+1+1+1+1,0,none⟩),.pointer (some ⟨w2.heap.size+1+1+1+1,0,none⟩),.pointer (some ⟨w2.heap.size+1+1+1+1+1,0,none⟩),.pointer (some ⟨w2.heap.size+1+1+1+1+1+1,0,none⟩)],.int .u64 (x.1:Int),undef,undef,undef,undef,undef,undef,undef,undef,undef,undef,undef,undef,undef,undef,undef,undef,undef,undef,undef,undef,undef,undef,undef,undef,undef,undef,undef,undef,undef,undef,undef],defers:=[]}) (fun x a' W' l ob ob' h _ _ _=>h) ?assign ?body ?done
   case h0=>
    exact⟨⟨.slice none 0 0,a0,World.ownsRow_nil _ _ _ _⟩,a3,a2,hmp,⟨Zs _,fun _ _ _ _ _=>rfl⟩,hB3⟩
   case assign=>
    intro l pre x W' K hI hsz' hK;simp only[aT]
    gi_wp2
    exact hK _ _ rfl hI (KeepsFrom.refl _ _) ⟨Zs _,fun _ _ _ _ _=>rfl⟩ hsz'
   case body=>
    rintro l pre x a' W rfl hI hlen hsz2;have I0:Aside (LkI n0 w w3 w3.heap.size w2.heap.size (w2.heap.size+1+1+1) (w2.heap.size+1+1) (w2.heap.size+1) pre W):=hI;obtain⟨⟨vs,hv,hr⟩,hs,hbm,hmS,hkp,hbl⟩:=hI;obtain⟨F,hF⟩: ∃F,pre.map (fun x:U8=>x.1)=F:=⟨_,rfl⟩;have hF8: ∀f∈F,f<2 ^ 8:=by
     intro f hf;rw[<-hF] at hf;obtain⟨y,_,rfl⟩:=ZS.1 hf;exact y.2
    have hx8:=x.2;have hFx:Aside ((pre++[x]).map (fun x:U8=>x.1)=F++[x.1]):=show _=_ by rw[ZW,hF];rfl
    rw[hF] at hv hr hs hmS;have hA8:F.foldl (· &&& ·) n0<2 ^ 8:=xT.2 fun k hk=>by
     rw[gE,Zp] at hk;exact xT.1 (ZL (show n0<2 ^ n by rw[hn0e.out];have:=Nat.two_pow_pos n;omega) (Yu (by decide) hL)) k hk.1
    have hO8:F.foldl (· ||| ·) 0<2 ^ 8:=xT.2 fun k hk=>by
     rw[lY,YV,YA,YO] at hk;obtain⟨f,hf,hk⟩:=hk;exact xT.1 (hF8 f hf) k hk
    have hAe:Aside (F.foldl (· &&& ·) n0&&&x.1=((pre++[x]).map fun x:U8=>x.1).foldl (· &&& ·) n0):=show _=_ by rw[hFx.out,Xp];rfl
    have hOe:Aside (F.foldl (· ||| ·) 0|||x.1=((pre++[x]).map fun x:U8=>x.1).foldl (· ||| ·) 0):=show _=_ by rw[hFx.out,Xp];rfl
    have hon:=ziI x.1 F [];rw[<-hFx.out] at hon;have hol:=aU F [];have hpl2:F.length=pre.length:=by rw[<-hF,Zg]
    obtain⟨AA,hAA⟩: ∃A,F.foldl (· &&& ·) n0=A:=⟨_,rfl⟩;obtain⟨OO,hOO⟩: ∃O,F.foldl (· ||| ·) 0=O:=⟨_,rfl⟩;obtain⟨SS,hSS⟩: ∃S,xC F []=S:=⟨_,rfl⟩;rw[hAA] at hv hA8 hAe;rw[hOO] at hs hO8 hOe;rw[hSS] at hr hmS hon hol;have hlk:=hmS.look hx8;have hand:bits BinOp.and IntKind.u64 (AA:Int) (x.1:Int)=((AA&&&x.1:Nat):Int):=zoa hA8 hx8;have hor:bits BinOp.or IntKind.u64 (OO:Int) (x.1:Int)=((OO|||x.1:Nat):Int):=zob hO8 hx8;obtain⟨e0,e1,e2⟩:=uC hv;have e3:=sS hs;have e4:=sS hbm;have f0:W.frozen? ⟨w2.heap.size,0,none⟩=false:=by simp[World.frozen?,hv]
    have f1:W.frozen? ⟨w2.heap.size,1,none⟩=false:=by simp[World.frozen?,hv]
    have f3:W.frozen? ⟨w2.heap.size+1+1+1,0,none⟩=false:=by simp[World.frozen?,hs]
    by_cases hmem:x.1∈SS
    ·rw[decide_eq_true hmem] at hlk
     rw[if_pos hmem] at hon;have hin:Aside (KeepsFrom w3.heap.size W ((W.setCell ⟨w2.heap.size,1,none⟩ (.int .u64 ((AA&&&x.1:Nat):Int))).setCell ⟨w2.heap.size+1+1+1,0,none⟩ (.int .u64 ((OO|||x.1:Nat):Int)))/\KpR w3.heap.size w2.heap.size (w2.heap.size+1+1+1) (w2.heap.size+1) W ((W.setCell ⟨w2.heap.size,1,none⟩ (.int .u64 ((AA&&&x.1:Nat):Int))).setCell ⟨w2.heap.size+1+1+1,0,none⟩ (.int .u64 ((OO|||x.1:Nat):Int)))/\LkI n0 w w3 w3.heap.size w2.heap.size (w2.heap.size+1+1+1) (w2.heap.size+1+1) (w2.heap.size+1) (pre++[x]) ((W.setCell ⟨w2.heap.size,1,none⟩ (.int .u64 ((AA&&&x.1:Nat):Int))).setCell ⟨w2.heap.size+1+1+1,0,none⟩ (.int .u64 ((OO|||x.1:Nat):Int)))):=by
      refine ziM (vs:=vs) I0.out (by omega) (by omega) (by omega) (by omega) (by omega) (by omega) (by omega) (by omega) (by omega) (by omega) (by omega) (by omega) ?_ rfl rfl ?_ ?_ ⟨Zs _,fun _ _ _ _ _=>rfl⟩ hbl (KeepsFrom.refl _ _) _ _ hAe.out hOe.out
      ·rw[hF,hAA];exact hv
      ·rw[hon];exact hr
      ·rw[hon]
       obtain⟨D1,m1,m2,m3⟩:=hmS;exact⟨D1,m1.mono (Nat.le_succ _),m2,m3⟩
     clear hv hr hs hbm hmS hkp hF hF8 hAA hOO hSS hon hol hpl2 a0 a1 a2 a3 a4 a5 a6 a7 hFA q4 q5 hmp k63 k37 k64 hmm hpl hpd hpc
     gi_wp2
     exact hin.out
    ·rw[decide_eq_false hmem] at hlk
     rw[if_neg hmem] at hon;have hlenM:pre.length<M:=by rw[<-hM'.out];exact hlen
     have hM4:M<=4096:=by rw[<-hM'.out];exact hok.le
     obtain⟨W1,hput,hm1,hg1⟩:=hmS.put (by unfold maxLen;omega) hx8;have hmbW:=hmS.lt;have hown: ∀g,vs.ownBlock=some g->w3.heap.size<=g/\ ∃cur,W.heap[g]?=some (.cells cur 71 (0,0)):=fun g hg=>by
      obtain⟨cur,hc,hb⟩:=ziL hr hg;exact⟨hb,cur,hc⟩
     have hr1:=hr.kept hg1 (by
      cases q:vs.ownBlock with
      |none=>exact .inl rfl
      |some g=>exact .inr fun e=>by cases e;have:=(hown _ q).1;omega)
     have old1: ∀j,j<W.heap.size->j≠w2.heap.size+1->W1.heap[j]?=W.heap[j]?:=fun j h1 h2=>hg1.block j h1 (fun e=>h2 (by cases e;rfl))
     have hsz1:=hg1.size;have hv1:=(old1 _ (xV hv) (by omega)).trans hv;have hs1:=(old1 _ (xV hs) (by omega)).trans hs;obtain⟨e0',e1',e2'⟩:=uC hv1;have e3':=sS hs1;have f0':W1.frozen? ⟨w2.heap.size,0,none⟩=false:=by simp[World.frozen?,hv1]
     have f1':W1.frozen? ⟨w2.heap.size,1,none⟩=false:=by simp[World.frozen?,hv1]
     have f3':W1.frozen? ⟨w2.heap.size+1+1+1,0,none⟩=false:=by simp[World.frozen?,hs1]
     have hrow2: ∀(W2:World),(W1.alloc (.cells #[.int .u64 (x.1:Int)] 71)).grownBy W2 vs.ownBlock->(∀j,j<W.heap.size->j≠w2.heap.size+1->vs.ownBlock≠some j->W2.heap[j]?=W.heap[j]?)/\W.heap.size<=W2.heap.size:=fun W2 hg2=>by
      have hsz2:=hg2.size;rw[World.size_alloc] at hsz2;refine⟨fun j h1 h2 h3=>?_,by omega⟩;rw[hg2.block j (by rw[World.size_alloc];omega) (fun e=>h3 e.symm)];rw[Below.heap_alloc _ _ _ (by omega)];exact old1 j h1 h2
     have hNW:w3.heap.size<=W.heap.size:=hsz2;have hfin:Aside (∀(W2:World) (v':Value),W2.ownsRow w3.heap.size 71 1 v' (SS.length+1) ((SS.map fun(s:Nat)=>Value.int .u64 (s:Int))++[.int .u64 (x.1:Int)])->(W1.alloc (.cells #[.int .u64 (x.1:Int)] 71)).grownBy W2 vs.ownBlock->(∀X,X=((W2.setCell ⟨w2.heap.size,0,none⟩ v').setCell ⟨w2.heap.size,1,none⟩ (.int .u64 ((AA&&&x.1:Nat):Int))).setCell ⟨w2.heap.size+1+1+1,0,none⟩ (.int .u64 ((OO|||x.1:Nat):Int))->KeepsFrom w3.heap.size W X/\KpR w3.heap.size w2.heap.size (w2.heap.size+1+1+1) (w2.heap.size+1) W X/\LkI n0 w w3 w3.heap.size w2.heap.size (w2.heap.size+1+1+1) (w2.heap.size+1+1) (w2.heap.size+1) (pre++[x]) X)):=by
      rintro W2 v' ho' hg2 X rfl;obtain⟨hold,hsz⟩:=hrow2 W2 hg2;have nlow: ∀j,j<w3.heap.size->vs.ownBlock≠some j:=fun j hj e=>by have:=(hown j e).1;omega
      have hv2:=(hold _ (xV hv) (by omega) (nlow _ (by omega))).trans hv;have oX: ∀j,j≠w2.heap.size->(W2.setCell ⟨w2.heap.size,0,none⟩ v').heap[j]?=W2.heap[j]?:=fun j hj=>uB _ _ _ _ hj
      have szX:(W2.setCell ⟨w2.heap.size,0,none⟩ v').heap.size=W2.heap.size:=by simp
      have keep: ∀j,j<W.heap.size->j≠w2.heap.size->j≠w2.heap.size+1->vs.ownBlock≠some j->(W2.setCell ⟨w2.heap.size,0,none⟩ v').heap[j]?=W.heap[j]?:=fun j h1 h2 h3 h4=>(oX j h2).trans (hold j h1 h3 h4)
      have hbl2:Below w.heap.size w W2:=((hbl.grown hg1 (by omega) (fun k e=>by cases e;omega)).alloc (by omega) _).grown hg2 (by rw[World.size_alloc];omega) (fun k e=>by have:=(hown k e).1;omega);refine ziM (vs:=v') I0.out (by omega) (by omega) (by omega) (by omega) (by omega) (by omega) (by omega) (by omega) (by omega) (by omega) (by omega) (by omega) ?_ (keep _ (xV hs) (by omega) (by omega) (nlow _ (by omega))) (keep _ (xV hbm) (by omega) (by omega) (nlow _ (by omega))) ?_ ?_ ⟨by omega,fun j h1 h2 h3 h4=>keep j (by omega) h2 h4 (nlow j h1)⟩ (hbl2.setCell (p:=⟨w2.heap.size,0,none⟩) (by omega) _) ⟨by omega,fun j o h1 h2 h3=>(keep j (ziP h2) (by omega) (by omega) (fun e=>by obtain⟨_,cur,hc⟩:=hown j e;rw[hc] at h2;cases h2;cases h3)).trans h2⟩ _ _ hAe.out hOe.out
      ·rw[hF,hAA];exact vO W2 _ 0 _ 73 (0,0) v' hv2
      ·rw[hon,Zu,ZW]
       exact ownsRow_setCell_below ho' (by show w2.heap.size<_;omega) _
      ·rw[hon]
       exact((hm1.kept (World.grownBy_alloc _ _ none) (by simp)).kept hg2 (fun e=>nlow _ (by omega) e.symm)).setCell (by show w2.heap.size+1≠w2.heap.size;omega) _
     have hfac:Aside (∀(W2:World),(W1.alloc (.cells #[.int .u64 (x.1:Int)] 71)).grownBy W2 vs.ownBlock->W2.heap[w2.heap.size]?=some (.cells #[vs,.int .u64 (AA:Int),.int .u64 0] 73 (0,0))/\W2.heap[w2.heap.size+1+1+1]?=some (.cells #[.int .u64 (OO:Int)] 71 (0,0))):=by
      intro W2 hg2;obtain⟨hold,hsz⟩:=hrow2 W2 hg2;have nlow: ∀j,j<w3.heap.size->vs.ownBlock≠some j:=fun j hj e=>by have:=(hown j e).1;omega
      exact⟨(hold _ (xV hv) (by omega) (nlow _ (by omega))).trans hv,(hold _ (xV hs) (by omega) (nlow _ (by omega))).trans hs⟩
     obtain⟨i0,hif,hz0,hz1,hz2⟩:=info_parts (show(Tryz.prog.info? 71).map (fun i=>(i.zero,i.size,i.bytes))=some (some (.int .u64 0),1,8) by kernel_rfl);have hSl:SS.length<=4096:=by rw[hpl2] at hol;simp at hol;omega
     have hW1s:w3.heap.size<=W1.heap.size:=by omega
     clear hv hr hs hbm hmS hkp hF hF8 hAA hOO hSS hon hol hpl2 a0 a1 a2 a3 a4 a5 a6 a7 hFA q4 q5 hmp k63 k37 k64 hmm hpl hpd hpc hrow2 hown old1 hv1 hs1 hm1 hg1 hmem
     gi_wp2_with (gi_at_builtin;refine wpListIn_append_own _ rfl _ _ 70 rfl w3.heap.size 71 i0 (.int .u64 0) 1 8 Tryz.underlying70 hif hz0 hz1 hz2 rfl (by decide) _ _ _ rfl (hr1.alloc _) ⟨W1.heap.size,0,none⟩ 1 1 [.int .u64 (x.1:Int)] rfl rfl (cell_one_new _ _ _) (by simp[Value.oneCell']) (by unfold maxLen;omega) (by omega) (by simp;omega) ?_;intro v' W2 hown' hgrow _;obtain⟨g',cap',rfl⟩:=ownsRow_succ hown';obtain⟨t1,t2⟩:=hfac.out W2 hgrow;obtain⟨u0,u1,u2⟩:=uC t1;have u3:=sS t2;have v0:W2.frozen? ⟨w2.heap.size,0,none⟩=false:=(by simp[World.frozen?,t1]);have v1:W2.frozen? ⟨w2.heap.size,1,none⟩=false:=(by simp[World.frozen?,t1]);have v3:W2.frozen? ⟨w2.heap.size+1+1+1,0,none⟩=false:=(by simp[World.frozen?,t2]))
     exact hfin.out _ _ hown' hgrow _ rfl
   case done=>
    rintro D2 xs W3 hD2 hxs hI hK;obtain⟨⟨vs,hv,hr⟩,hs,hbm,hmS,hkp,hbl⟩:=hI;obtain⟨sa,sk,sc,rfl⟩: ∃a k c,vs=.slice a k c:=by
     rcases hr with⟨_,⟨hv,_⟩|⟨g2,cap,cur,hv,_⟩⟩
     ·exact⟨_,_,_,hv⟩
     ·exact⟨_,_,_,hv⟩
    have hxs':xs.map (fun x:U8=>x.1)=yN L D:=hxs;rw[hxs'] at hv hr hs;have hnv:(yN L D).foldl (· &&& ·) n0=(viewD L D).never:=by rw[hn0e.out,<-hN'.out];rfl
    rw[hnv] at hv;have hdb:andN ((yN L D).foldl (· ||| ·) 0) (viewD L D).never=(viewD L D).doubt:=rfl;have hst:xC (yN L D) []=(viewD L D).sets:=rfl;rw[hst] at hr;have hd8:(viewD L D).doubt<256:=ZL (lZ (mD L D)) (by rw[hN'.out];exact(Yu (by decide) hL:2 ^ n<=2 ^ 8));have hO8:(yN L D).foldl (· ||| ·) 0<2 ^ 8:=xT.2 fun k hk=>by
     rw[lY,YV,YA,YO] at hk;obtain⟨f,hf,hk⟩:=hk;have h1:=mD L D f hf;rw[hN'.out] at h1;exact xT.1 (ZL h1 (Yu (by decide) hL)) k hk
    have hbn:=pG _ hd8;have hin:bits BinOp.andNot IntKind.u64 ((((yN L D).foldl (· ||| ·) 0:Nat)):Int) ((viewD L D).never:Int)=((viewD L D).doubt:Int):=by rw[zoc hO8,hdb]
    have q6:W3.heap[w.heap.size]?=some (.cells #[.slice none 0 0,.int .u64 0,.int .u64 0] 73 (0,0)):=(hkp.2 _ (by have:=xV q5;omega) (by have:=xV q5;omega) (by have:=xV q5;omega) (by have:=xV q5;omega)).trans ((hb23.block _ (xV q5)).trans q5);have hq5:=xV q5;have c65: ∀W,Below w.heap.size w W->Calls Tryz.prog 65 #[.int .u64 ((viewD L D).doubt:Int)] W fun e W'=>e=.returned (.int .i64 ((bitsN (viewD L D).doubt).length:Int))/\Below W.heap.size W W':=fun W hb=>(Go.Abs.c65 (viewD L D).doubt hd8).intC (A4.out.later (xM hb)) (Z:=zW W) (fun _ h=>h) (vH (.int .u64 _) (xS _ _))
    obtain⟨OO,hOO⟩: ∃O,(yN L D).foldl (· ||| ·) 0=O:=⟨_,rfl⟩;rw[hOO] at hs hin;obtain⟨S,hS⟩: ∃S,(viewD L D).sets=S:=⟨_,rfl⟩;obtain⟨NV,hNV⟩: ∃NV,(viewD L D).never=NV:=⟨_,rfl⟩;obtain⟨DB,hDB⟩: ∃DB,(viewD L D).doubt=DB:=⟨_,rfl⟩;have HQ:Aside ((viewD L D).sets=S/\(viewD L D).never=NV/\(viewD L D).doubt=DB):=⟨hS,hNV,hDB⟩;rw[hS] at hr;rw[hNV] at hv hin;rw[hDB] at hin c65 hbn;obtain⟨bl,hbl2⟩: ∃bl,(bitsN DB).length=bl:=⟨_,rfl⟩;rw[hbl2] at c65 hbn;have hb10: ¬(bl:Int)>10:=by omega
    obtain⟨e0,e1,e2⟩:=uC hv;have e3:=sS hs;have f2:W3.frozen? ⟨w2.heap.size,2,none⟩=false:=by simp[World.frozen?,hv]
    have hbs:Below w.heap.size w (W3.setCell ⟨w2.heap.size,2,none⟩ (.int .u64 (DB:Int))):=hbl.setCell (p:=⟨w2.heap.size,2,none⟩) (by omega) _;have hvX:=vO W3 w2.heap.size 2 _ 73 (0,0) (.int .u64 (DB:Int)) hv;have oX: ∀j,j≠w2.heap.size->(W3.setCell ⟨w2.heap.size,2,none⟩ (.int .u64 (DB:Int))).heap[j]?=W3.heap[j]?:=fun j hj=>uB _ _ _ _ hj
    have rX:=ownsRow_setCell_below hr (a:=⟨w2.heap.size,2,none⟩) (by show w2.heap.size<_;omega) (.int .u64 (DB:Int));have qX:=(oX w.heap.size (by omega)).trans q6;have kX:=(oX D2 (by omega)).trans hK;have hfacs:Aside (∀W4,Below (W3.setCell ⟨w2.heap.size,2,none⟩ (.int .u64 (DB:Int))).heap.size (W3.setCell ⟨w2.heap.size,2,none⟩ (.int .u64 (DB:Int))) W4->W4.heap[w2.heap.size]?=some (.cells #[.slice sa sk sc,.int .u64 (NV:Int),.int .u64 (DB:Int)] 73 (0,0))/\W4.heap[w.heap.size]?=some (.cells #[.slice none 0 0,.int .u64 0,.int .u64 0] 73 (0,0))/\W4.heap[D2]?=some (.deferred (some []))/\W4.ownsRow w3.heap.size 71 1 (.slice sa sk sc) S.length (S.map fun(s:Nat)=>Value.int .u64 (s:Int))/\Below w.heap.size w W4):=
     fun W4 h4=>⟨(h4.block _ (xV hvX)).trans hvX,(h4.block _ (xV qX)).trans qX,(h4.block _ (ziP kX)).trans kX,rX.kept (nY h4) (by cases (Value.slice sa sk sc).ownBlock<;>simp),hbs.trans (h4.mono hbs.size)⟩
    refine(‹∀(a:Act) (w:World),Code.wpIn Fence.wide 8 Tryz.prog _ _ a w->_›) _ _ ?_;clear hv hr hs hbm hmS hkp a0 a1 a2 a3 a4 a5 a6 a7 hFA q4 q5 hmp k63 k37 k64 hmm hpl hpd hpc hbl oX rX qX kX hvX hnv hdb hst hd8 hO8 hxs hxs' hK
    gi_wp2_with (refine⟨trivial,?_⟩;gi_at_call 65;refine(callsIn_wide.2 (c65 _ hbs)).mono ?_;rintro e W4 ⟨rfl,hb4⟩;obtain⟨t1,t2,t3,t4,t5⟩:=hfacs.out W4 hb4;obtain⟨u0,u1,u2⟩:=uC t1;obtain⟨u3,u4,u5⟩:=uC t2;have v0:W4.frozen? ⟨w.heap.size,0,none⟩=false:=(by simp[World.frozen?,t2]);have v1:W4.frozen? ⟨w.heap.size,1,none⟩=false:=(by simp[World.frozen?,t2]);have v2:W4.frozen? ⟨w.heap.size,2,none⟩=false:=(by simp[World.frozen?,t2]))
    have hY:=aV t2 (.slice sa sk sc) (.int .u64 (NV:Int)) (.int .u64 (DB:Int));have oY: ∀j,j≠w.heap.size->(((W4.setCell ⟨w.heap.size,0,none⟩ (.slice sa sk sc)).setCell ⟨w.heap.size,1,none⟩ (.int .u64 (NV:Int))).setCell ⟨w.heap.size,2,none⟩ (.int .u64 (DB:Int))).heap[j]?=W4.heap[j]?:=fun j hj=>((uB _ _ _ _ hj).trans (uB _ _ _ _ hj)).trans (uB _ _ _ _ hj)
    have hBY:Below w.heap.size w (((W4.setCell ⟨w.heap.size,0,none⟩ (.slice sa sk sc)).setCell ⟨w.heap.size,1,none⟩ (.int .u64 (NV:Int))).setCell ⟨w.heap.size,2,none⟩ (.int .u64 (DB:Int))):=((t5.setCell (p:=⟨w.heap.size,0,none⟩) (Zs _) _).setCell (p:=⟨w.heap.size,1,none⟩) (Zs _) _).setCell (p:=⟨w.heap.size,2,none⟩) (Zs _) _;have hrY:=ownsRow_setCell_below (ownsRow_setCell_below (ownsRow_setCell_below t4 (a:=⟨w.heap.size,0,none⟩) (by show w.heap.size<_;omega) (.slice sa sk sc)) (a:=⟨w.heap.size,1,none⟩) (by show w.heap.size<_;omega) (.int .u64 (NV:Int))) (a:=⟨w.heap.size,2,none⟩) (by show w.heap.size<_;omega) (.int .u64 (DB:Int));have hKY:=(oY D2 (by omega)).trans t3;generalize (((W4.setCell ⟨w.heap.size,0,none⟩ (.slice sa sk sc)).setCell ⟨w.heap.size,1,none⟩ (.int .u64 (NV:Int))).setCell ⟨w.heap.size,2,none⟩ (.int .u64 (DB:Int)))=Y at hY oY hBY hrY hKY⊢;refine⟨by simp,.inl ⟨_,_,rfl,run_takeDeferred hKY,?_⟩⟩;obtain⟨e5,e6,e7⟩:=HQ.out;rw[e5,e6,e7];refine⟨_,oR rfl _ _ rfl ((World.putObj_heap_other (by omega)).trans hY) Tryz.underlying73 (by kernel_rfl),.inr ⟨trivial,_,rfl,hBY.grown (grownBy_putObj' _ D2 _) hBY.size (fun k e=>by cases e;omega),(ownsRow_putObj hrY _ hKY rfl).mono (by omega)⟩⟩
  ·obtain⟨er,her⟩: ∃er,(cnts D).2.2=er:=⟨_,rfl⟩
   rw[her] at hE k37 h0;rw[hE];have h0':(er==0)=false:=by simp[h0]
   have h0n:Aside (er≠0):=h0;clear h0 her;refine callsIn_of_wp_marks Tryz.func32 rfl trivial ?_;simp only[Tryz.ntmps32,Yv,Zn,ZF,Zd,Y3,YH,YG,YR,YM,Ya,ZR]
   gi_wp2_with (first|(refine⟨trivial,?_⟩;gi_at_call 63;refine(callsIn_wide.2 (k63 _ (hB0 _))).mono ?_;rintro e w1 ⟨x1,rfl,hb1⟩;have hB1:=(hB0 (.cells #[.slice none 0 0,.int .u64 0,.int .u64 0] 73)).trans (hb1.mono (hB0 _).size);have q4:=(hb1.block w.heap.size (by simp only[World.size_alloc];omega)).trans (World.alloc_heap_new w _))|(refine⟨trivial,?_⟩;gi_at_call 37;refine(callsIn_wide.2 (k37 _ hB1)).mono ?_;rintro e w2 ⟨vc,rfl,hb2,hpc⟩;have q5:=(hb2.block w.heap.size (xV q4)).trans q4;obtain⟨c40,c41,c42⟩:=uC q5;have e7: ∀j,w2.frozen? ⟨w.heap.size,j,none⟩=false:=(fun j=>by simp[World.frozen?,q5]);have e8:=e7 0;have e9:=e7 1;have e10:=e7 2;have hB2:=hB1.trans (hb2.mono hB1.size)))
   refine⟨_,oR rfl _ _ rfl (aV q5 _ _ _) Tryz.underlying73 (by kernel_rfl),.inl ⟨h0n.out,rfl,((hB2.setCell (p:=⟨w.heap.size,0,none⟩) (Zs _) _).setCell (p:=⟨w.heap.size,1,none⟩) (Zs _) _).setCell (p:=⟨w.heap.size,2,none⟩) (Zs _) _⟩⟩
end Go.Proofs
set_option maxRecDepth 100000
set_option maxHeartbeats 4000000
namespace Go.Ex
open Go.Lib Go.Wd Go.Wire Go.Abs
def nB (L:List Dmd) (D:List Dcm):Vw:=if lookE L D=0 then viewD L D else⟨[],0,0⟩
end Go.Ex
namespace Go.Abs
open Go.Proofs Go.RowKit Go.Lib Go.Wd Go.Wire Go.Ex
theorem zoh {W:World} {B:Nat} {l:List Nat} {v:Value} (h:W.ownsRow B 71 1 v l.length (l.map fun(s:Nat)=>Value.int .u64 (s:Int))):PRep W (fun b=>B<=b.2/\b.2<W.heap.size/\sA W b.2) (zC 1 (sets l)) v:=by
 rcases h with⟨_,⟨hv,h0⟩|⟨g,cap,cur,hv,hg,hh,h5,h6,h7,h8⟩⟩
 ·obtain rfl:=Yb h0
  subst hv;exact .nil 0 none (by simp)
 ·subst hv
  by_cases h0:l=[]
  ·subst h0
   exact .list g 0 cap 0 none [] (fun _ _=>undef) (by simp) h5 h6 (fun h=>absurd rfl h) (by simp) (by simp) (by simp)
  ·have e:zC 1 (sets l)=.list 1 none (sets l):=by
    unfold zC;rw[if_neg];cases l with|nil=>exact absurd rfl h0|cons a L=>simp[sets]
   have hat: ∀(i j:Nat) r c,(sets l)[i]?=some r->r[j]?=some c->j=0/\ ∃s:Nat,l[i]?=some s/\c=.int .u64 (s:Int):=fun i j r c hr hc=>by
    rw[sets,Zv] at hr;cases hs:l[i]? with
    |none=>rw[hs] at hr;cases hr
    |some s=>
     rw[hs] at hr;cases hr;cases j with
     |zero=>cases hc;exact⟨rfl,s,rfl,rfl⟩
     |succ j=>simp at hc
   have hcell: ∀j s,l[j]?=some s->W.cell? ⟨g,j,none⟩=some (.int .u64 ((s:Nat):Int)):=by
    intro j s hs;have hj:=(Zr.1 hs).1;have h9:=congrArg (fun x:List Value=>x[j]?) h8;simp only[YL,List.getElem?_take_of_lt hj,Zv,hs,Yq] at h9;rw[Yr] at h9;simp only[World.cell?,hh];simp only[YJ,Z3,if_false];exact h9
   rw[e];have key:PRep W (fun b=>B<=b.2/\b.2<W.heap.size/\sA W b.2) (.list 1 none (sets l)) (.slice (some ⟨g,0,none⟩) (sets l).length cap):=by
    refine .list g 0 cap 1 none (sets l) (fun i _=> .int .u64 ((l.getD i 0:Nat):Int)) (by simp) (by rw[uZ];exact h5) h6 (fun _=>⟨hg,(Zo.1 hh).1,fun c e f h=>by rw[hh] at h;cases h;rfl⟩) (fun r hr=>by obtain⟨s,_,rfl⟩:=ZS.1 hr;rfl) (fun i j r c hr hcj=>?_) fun i j r c hr hcj=>?_
    ·obtain⟨rfl,s,hs,rfl⟩:=hat i j r c hr hcj
     rw[YL,Yk,ZU,hcell i s hs];simp[List.getD,hs]
    ·obtain⟨rfl,s,hs,rfl⟩:=hat i j r c hr hcj
     have:l.getD i 0=s:=by simp[List.getD,hs]
     rw[this];exact .int _ _
   rw[uZ] at key;exact key
theorem c32 (L:List Dmd) (D:List Dcm) (hL:L.length<=8) (hm: ∀m∈L,DmdS m) (hD:sP D) (hp:(cnts D).2.2=0-> ∀i,i<xY D->vE (rdsD D i)):
  Spec Tryz.prog 32 [lst 8 (L.map zQ),lst 2 (D.map zV)] (fun r=>r=.tup [.agg [zC 1 (sets (nB L D).sets),.int .u64 ((nB L D).never:Int),.int .u64 ((nB L D).doubt:Int)],.int .i64 (lookE L D)]):=by
 refine⟨rH (by kernel_rfl),fun w Z vs hG hz ha=>?_⟩;obtain⟨vl⟩:=vs
 match vl,ha with
 |[],ha=>exact absurd ha.1 (by simp)
 |[_],ha=>exact absurd ha.1 (by simp)
 |_::_::_::_,ha=>exact absurd ha.1 (by simp)
 |[v,v2],ha=>
  have h1:PRep w Z (zC 8 (L.map zQ)) v:=(ha.2 0 _ v rfl rfl).2.2;have h2:PRep w Z (zC 2 (D.map zV)) v2:=(ha.2 1 _ v2 rfl rfl).2.2;refine(zog L D hL hm hD hp w hG v v2 (nZ hz h1) (nZ hz h2)).mono ?_;rintro e w' (⟨h0,rfl,hb⟩|⟨h0,vs,rfl,hb,hr⟩)
  ·refine⟨_,_,rfl,rfl,fun _=>rfl,oG hG (xM hb) (fun _=>rfl) fun Z=>⟨_,rfl,rfl,⟨_,rfl,?_⟩,⟨rfl,.int _ _⟩,trivial⟩⟩
   unfold nB;rw[if_neg h0];refine⟨rfl,fun j c v hc hv=>?_⟩
   match j with
   |0=>cases hc;cases hv;exact .nil 0 none (by simp)
   |1=>cases hc;cases hv;exact .int _ _
   |2=>cases hc;cases hv;exact .int _ _
   |j+3=>simp at hc
  ·refine⟨_,_,rfl,rfl,fun _=>rfl,zh1 hG (xM hb) (fun _=>rfl) ⟨_,rfl,rfl,⟨_,rfl,?_⟩,⟨rfl,by rw[h0];exact .int _ _⟩,trivial⟩ (fun _=>rfl)⟩
   unfold nB;rw[if_pos h0];refine⟨rfl,fun j c v hc hv=>?_⟩
   match j with
   |0=>cases hc;cases hv;exact zoh hr
   |1=>cases hc;cases hv;exact .int _ _
   |2=>cases hc;cases hv;exact .int _ _
   |j+3=>simp at hc
end Go.Abs
set_option maxRecDepth 100000
set_option maxHeartbeats 8000000
namespace Go.Ex
open Go.Lib Go.Wd Go.Wire Go.Abs
structure AskS (L:List Dmd) (D:List Dcm):Prop where
 l8:L.length<=8
 dm: ∀m∈L,DmdS m
 dc:sP D
 rd:(cnts D).2.2=0-> ∀i,i<xY D->vE (rdsD D i)
theorem ziQ {D:List Dcm} (hD:sP D) (h:(cnts D).2.2=0):0<xY D:=by
 have hok:=rM h;rw[hok.p];have key: ∀(l:List Dcm) (n:Nat),0<n->(∀d∈l,0<(cntD d).1.toNat)->0<l.foldl (fun a d=>a*(cntD d).1.toNat) n:=by
  intro l
  induction l with
  |nil=>intro n h _;exact h
  |cons d l ih=>intro n hn hd;exact ih _ (Nat.mul_pos hn (hd d (by simp))) fun x hx=>hd x (Zz _ hx)
 exact key D 1 (by decide) fun d hd=>by
  have:=zh7 (hD.2 d hd) (hok.e d hd);omega
def zpf (L:List Dmd) (D:List Dcm):List Flw:=if lookE L D=0 then gI L D else[]
def kI (L:List Dmd) (D:List Dcm):Int:=if lookE L D=0 then zhT (viewD L D) else 0
end Go.Ex
namespace Go.Abs
open Go.Proofs Go.RowKit Go.Lib Go.Wd Go.Wire Go.Ex
theorem xO (m:Dmd):C.normRow (zQ m)=zQ m:=by simp only[zQ,C.normRow,C.norm]
theorem c20 (L:List Dmd) (D:List Dcm) (h:AskS L D):Spec Tryz.prog 20 [lst 8 (L.map zQ),lst 2 (D.map zV)] (fun r=>r=.int .i64 (lookE L D)):=by
 refine Spec.of_awlS hf20 okf20 (by simp) fun S hS=>?_
 have g:=c32 L D h.l8 h.dm h.dc h.rd;simp only[Qs,Zd,Za,Ψ20];refine xI g ?_ (ha:=by simp only[Zl,Zq,zB,V.norm,zO,zP yU,zP xO,C.norm]<;>rfl);simp only[Qs,Zk,Zd,Yg,Za,zgA,Ψ20];exact hS
theorem c12 (L:List Dmd) (D:List Dcm) (h:AskS L D):Spec Tryz.prog 12 [lst 8 (L.map zQ),lst 2 (D.map zV)] (fun r=>r=.tup [.int .i64 (kI L D),.int .i64 (lookE L D)]):=by
 refine Spec.of_awlS hf12 okf12 (by simp) fun S hS=>?_
 have g:=c32 L D h.l8 h.dm h.dc h.rd;unfold nB at g;unfold kI at hS;have hle:=h.l8;by_cases h0:lookE L D=0
 ·rw[if_pos h0,h0] at hS
  rw[if_pos h0,h0] at g;have hcn:(cnts D).2.2=0:=by
   unfold lookE at h0;split at h0
   ·exact h0
   ·cases h0
  have hok:=rM hcn;have hsl:(viewD L D).sets.length<=4096:=by
   have:=aU (yN L D) [];have h2:(yN L D).length=xY D:=by simp[yN]
   have h3:=hok.le;show(xC (yN L D) []).length<=4096;simp at this;omega
  have g2:=c36 (viewD L D).sets 0 (by omega);generalize viewD L D=v at g g2 hS hsl;obtain⟨S1,nv,db⟩:=v;simp only[] at g g2 hsl;simp only[Qs,Zd,Za,Ψ12];refine xI g ?_ (ha:=by simp only[Zl,Zq,zB,V.norm,zO,zP yU,zP xO,C.norm]<;>rfl);simp only[show((0:Int) !=0)=false from rfl,Qs,Zk,Zd,Yg,Zm,Za,zgA,Ψ12];refine zF g2 ?_ (ha:=by simp only[Zl,Zq,zB,V.norm,zO,C.norm,oV]<;>rfl);unfold zhT at hS;simp only[] at hS;by_cases hm:0∈S1
  ·rw[if_pos hm] at hS
   rw[decide_eq_true hm];by_cases h1:S1.length=1
   ·rw[if_pos h1] at hS
    have e1:((S1.length:Int)==1)=true:=by rw[h1];rfl
    simp only[e1,uZ,Qs,Zk,Zd,Zm,Za,Ψ12];exact hS
   ·rw[if_neg h1] at hS
    have e1:((S1.length:Int)==1)=false:=by rw[beq_eq_false_iff_ne];omega
    simp only[e1,uZ,Qs,Zk,Zd,Zm,Za,Ψ12];exact hS
  ·rw[if_neg hm] at hS
   rw[decide_eq_false hm];simp only[Qs,Zk,Za,Ψ12];exact hS
 ·rw[if_neg h0] at hS
  rw[if_neg h0] at g;generalize lookE L D=er at hS g h0;have e1:(er !=0)=true:=by rw[bne_iff_ne];exact h0
  simp only[Qs,Zd,Za,Ψ12];refine xI g ?_ (ha:=by simp only[Zl,Zq,zB,V.norm,zO,zP yU,zP xO,C.norm]<;>rfl);simp only[e1,Qs,Zk,Zd,Yg,Za,zgA,Ψ12];exact hS
def pJ (x:Flw):List C:=[zC 1 (zM x.dem),zC 2 (pls x.pls),.bool x.sure]
def xF (l:List Flw):List (List C):=l.map pJ
theorem uM (l:List Flw):(xF l).length=l.length:=by simp[xF]
theorem zoi (x:Flw):C.normRow (pJ x)=pJ x:=by simp only[pJ,C.normRow,zO,vC,rL,C.norm]
theorem ziR (l:List Flw):C.normRows (xF l)=xF l:=zP zoi l
def rP (L:List Dmd) (p:List Pln) (k:Nat):List C:=[.list 1 (some false) (zM [(k:Int)]),zC 2 (pls (xU L [k] p)),.bool false]
theorem zoj (L:List Dmd) (p:List Pln) (k:Nat):C.normRow (rP L p k)=pJ ⟨[(k:Int)],xU L [k] p,false⟩:=by
 simp only[rP,pJ,C.normRow,zO,vU,vC,rL,C.norm];rfl
theorem zok (a b:List (List C)):C.normRows (a++b)=C.normRows a++C.normRows b:=by
 induction a with
 |nil=>rfl
 |cons r a ih=>rw[ZR,iR,iR,ih];rfl
theorem ziS (L:List Dmd) (p:List Pln): ∀l:List Nat,C.normRows (l.map (rP L p))=xF (l.map fun k:Nat=>⟨[(k:Int)],xU L [k] p,false⟩)
 |[]=>rfl
 |k::l=>by
  rw[Zl,iR,zoj,ziS L p l];rfl
theorem c10 (L:List Dmd) (D:List Dcm) (h:AskS L D):Spec Tryz.prog 10 [lst 8 (L.map zQ),lst 2 (D.map zV)] (fun r=>r=.tup [lst 3 (xF (zpf L D)),.int .i64 (lookE L D)]):=by
 refine Spec.of_awlP hf10 okf10 (by simp) fun S hS=>?_
 have g:=c32 L D h.l8 h.dm h.dc h.rd;unfold nB at g;unfold zpf at hS;have hle:=h.l8;by_cases h0:lookE L D=0
 ·rw[if_pos h0,h0] at hS
  rw[if_pos h0,h0] at g;have hcn:(cnts D).2.2=0:=by
   unfold lookE at h0;split at h0
   ·exact h0
   ·cases h0
  have hok:=rM hcn;have hpos:=ziQ h.dc hcn;have g14:=c14 D h.dc 0;have e14:zpd D 0=0:=by
   unfold zpd;rw[if_neg (by simp[hcn]),if_neg (by rw[hok.n];omega)]
  have e14':zo9 D 0=rdsD D 0:=by unfold zo9;rw[if_pos e14];rfl
  rw[e14,e14'] at g14;have hpl:=h.rd hcn 0 hpos;have hfl:gI L D=kB L (viewD L D) (rdsD D 0):=rfl;rw[hfl] at hS;have hF:=mD L D;have h256:2 ^ L.length<=256:=(Yu (by decide) hle:2 ^ L.length<=2 ^ 8);have hnv:(viewD L D).never<256:=ZL zmB h256;have hdb:(viewD L D).doubt<256:=ZL (lZ hF) h256;have hsl:(viewD L D).sets.length<=4096:=by
   have:=aU (yN L D) [];have h2:(yN L D).length=xY D:=by simp[yN]
   have h3:=hok.le;show(xC (yN L D) []).length<=4096;simp at this;omega
  have hss: ∀s∈(viewD L D).sets,s<256:=fun s hs=>by
   rcases(gD _ _ s).1 hs with h|h
   ·exact ZL (hF s h) h256
   ·cases h
  have g33:=c33 (viewD L D) hnv hdb hss (by omega);have hF0:yN L D≠[]:=by
   intro e;have:=congrArg List.length e;simp[yN] at this;omega
  have hcl: ∀c∈sortO ltC ((conflP (viewD L D)).map bitsN),c.length<=8/\ ∀k∈c,k<L.length:=by
   intro c hc;obtain⟨s,hs,rfl⟩:=ZS.1 ((qD ltC _).mem_iff.1 hc);have hs2:=((bT hle hF0 hF s).1 hs).1;exact⟨pG s (by omega),fun k hk=>xT.1 hs2 k ((uW (by omega)).1 hk)⟩
  have hcn:(sortO ltC ((conflP (viewD L D)).map bitsN)).length<=320:=by
   rw[(qD ltC _).length_eq,Zg];have hT:conflP (viewD L D)=rO (viewD L D).never 64++(vY (viewD L D).doubt 256 (viewD L D).doubt).filter (wP (viewD L D).sets):=rfl;rw[hT,Zu];have h1:=gP (viewD L D).doubt 256 (viewD L D).doubt;have h2:=Y0 (wP (viewD L D).sets) (vY (viewD L D).doubt 256 (viewD L D).doubt);have h3:=aJ (viewD L D).never 64;omega
  have hdk: ∀k∈bitsN (viewD L D).doubt,k<L.length:=fun k hk=>xT.1 (lZ hF) k ((uW (Nat.lt_trans hdb (by decide))).1 hk)
  have hbl:=pG _ hdb;have g35:=c35 (viewD L D).doubt hdb;have hfe:kB L (viewD L D) (rdsD D 0)=((sortO ltC ((conflP (viewD L D)).map bitsN)).map fun c=>⟨c.map fun(k:Nat)=>(k:Int),xU L c (rdsD D 0),true⟩)++(bitsN (viewD L D).doubt).map fun k=>⟨[(k:Int)],xU L [k] (rdsD D 0),false⟩:=rfl
  rw[hfe] at hS;generalize sortO ltC ((conflP (viewD L D)).map bitsN)=CS at hS g33 hcl hcn;generalize rdsD D 0=p at hS g14 hpl;generalize bitsN (viewD L D).doubt=DS at hS hdk hbl g35;generalize viewD L D=v at g g33 g35;obtain⟨S1,nv,db⟩:=v;simp only[] at g g33 g35;simp only[Qs,Zd,Za,Ψ10];refine xI g ?_ (ha:=by simp only[Zl,Zq,zB,V.norm,zO,zP yU,zP xO,C.norm]<;>rfl);simp only[show((0:Int) !=0)=false from rfl,Qs,bne_iff_ne,ne_eq,Zk,Zd,Yg,Zt,Za,zgA,Ψ10];refine xI g14 ?_ (ha:=by simp only[Zl,Zq,zB,V.norm,zO,zP yU,zP xO,C.norm]<;>rfl);simp only[Qs,iO,bne_iff_ne,ne_eq,Zk,Zd,Yg,Zt,Za,Ψ10];refine xI g33 ?_ (ha:=by simp only[Zl,Zq,zB,V.norm,zO,C.normRow,oV,C.norm]<;>rfl);have hcfl:(cfs CS).length=CS.length:=by simp[cfs]
  simp only[hcfl,Qs,Ψ10];rw[uu f10l30.eq_1];refine yA (fun x:Nat×Option Bool=>[(0,lst 8 (L.map zQ)),(6,.k (.c (.ro [zC 1 (sets S1),.int .u64 (nv:Int),.int .u64 (db:Int)] 0))),(8,lst 3 (vF p)),(10,.k (.own 10)),(31,lst 1 (cfs CS)),(32,.int .i64 CS.length),(33,.int .i64 x.1)])
   (fun x=>[(10,.arr 33 3 x.2 (xF ((CS.take x.1).map fun c=>⟨natI c,xU L c p,true⟩)))]) (fun x=>x.1<=CS.length) (fun x=>CS.length-x.1) (0,some true) rfl rfl (ZB _) ?_
  rintro⟨i,nl⟩ hi;simp only[] at hi;by_cases hlt:i<CS.length
  ·have d1:(i:Int)<CS.length:=by omega
   have c4:IntKind.i64.wrap ((i:Int)+1)=(i:Int)+1:=wrap_in (by omega) (by omega);have hat:(cfs CS).getD i []=[zC 1 (zM (natI CS[i]))]:=by simp[cfs,hlt]
   have htk:((CS.take (i+1)).map fun c=>(⟨natI c,xU L c p,true⟩:Flw))=((CS.take i).map fun c=>⟨natI c,xU L c p,true⟩)++[⟨natI CS[i],xU L CS[i] p,true⟩]:=by rw[ZQ hlt,ZW];rfl
   have hll:((CS.take i).map fun c=>(⟨natI c,xU L c p,true⟩:Flw)).length=i:=by simp;omega
   obtain⟨hc8,hck⟩:=hcl _ (Zy hlt);generalize CS[i]=c at hat htk hc8 hck;generalize ((CS.take i).map fun c=>(⟨natI c,xU L c p,true⟩:Flw))=A at htk hll;have g34:=c34 L c p (by omega) hc8 hck hpl;simp only[d1,hat,hcfl,Qs,Za,Ψ10];refine xI g34 ?_ (ha:=by simp only[Zl,Zq,zB,V.norm,zO,zP xO,oT,vC,C.norm]<;>rfl);have hq:xF A++[[zC 1 (zM (natI c)),zC 2 (pls (xU L c p)),.bool true]]=xF (A++[⟨natI c,xU L c p,true⟩]):=by simp[xF,pJ]
   simp only[c4,hq,uM,hll,Qs,forall_eq,bne_iff_ne,ne_eq,Zk,ZH,Zd,Zt,Zm,Z5,Za,Zx];exact⟨by omega,by omega,Next.intro (i+1,some false) rfl (by rw[htk];rfl) (by simp only;omega) (by simp only;omega)⟩
  ·obtain rfl:i=CS.length:=by omega
   have d1: ¬((CS.length:Int)<CS.length):=by omega
   rw[YN];simp only[d1,Qs,Zd,Za,Ψ10];refine xI g35 ?_ (ha:=by rfl);have hDl:(zM (natI DS)).length=DS.length:=by rw[yL,uD]
   simp only[hDl,Qs,Ψ10];rw[uu f10l15.eq_1];have hFL:(xF (List.map (fun c=>(⟨natI c,xU L c p,true⟩:Flw)) CS)).length<=320:=by rw[uM,Zg];exact hcn
   have hSS:((CS.map fun c=>(⟨natI c,xU L c p,true⟩:Flw)))=CS.map fun c=>⟨c.map fun(k:Nat)=>(k:Int),xU L c p,true⟩:=rfl
   rw[<-hSS] at hS;generalize (List.map (fun c=>(⟨natI c,xU L c p,true⟩:Flw)) CS)=FL at hS hFL;refine yA (fun x:Nat×Option Bool=>[(0,lst 8 (L.map zQ)),(8,lst 3 (vF p)),(10,.k (.own 10)),(49,lst 1 (zM (natI DS))),(50,.int .i64 DS.length),(51,.int .i64 x.1)])
    (fun x=>[(10,.arr 33 3 x.2 (xF FL++(DS.take x.1).map (rP L p)))]) (fun x=>x.1<=DS.length) (fun x=>DS.length-x.1) (0,nl) rfl (by simp;rfl) (ZB _) ?_
   rintro⟨i,nl2⟩ hi2;simp only[] at hi2;by_cases hil:i<DS.length
   ·have d2:(i:Int)<DS.length:=by omega
    have c4:IntKind.i64.wrap ((i:Int)+1)=(i:Int)+1:=wrap_in (by omega) (by omega);have hat:(zM (natI DS)).getD i []=[.int .i64 (DS[i]:Int)]:=by simp[zM,natI,hil]
    have htk:(DS.take (i+1)).map (rP L p)=(DS.take i).map (rP L p)++[rP L p DS[i]]:=by rw[ZQ hil,ZW];rfl
    have hll:((DS.take i).map (rP L p)).length=i:=by simp;omega
    have hkL:=hdk _ (Zy hil);generalize DS[i]=k at hat htk hkL;generalize (DS.take i).map (rP L p)=R at htk hll;have g34:=c34 L [k] p (by omega) (by simp) (fun j hj=>by simp at hj;omega) hpl;simp only[d2,hat,hDl,Qs,forall_eq,bne_iff_ne,ne_eq,ZH,Zt,Z5,Za,Zx,Ψ10];refine zk1 56 rfl g34 (by simp[zB,vK,lookO,V.isPure,lst]) (by simp only[Zl,Zq,zB,vK,lookO,V.norm,zO,vU,zP xO,oT,C.norm]<;>rfl) (by rfl) (by simp[qZ,lookO]) rfl ?_;have hq:xF FL++R++[[.list 1 (some false) [[.int .i64 (k:Int)]],zC 2 (pls (xU L [k] p)),.bool false]]=xF FL++(R++[rP L p k]):=by rw[Z9];rfl
    have hlR:(xF FL++R).length<=328:=by rw[Zu];omega
    simp only[uS,tG,lookO,c4,hq,Qs,forall_eq,bne_iff_ne,ne_eq,ZH,Zd,Zt,Zm,Z5,Za,Zx];exact⟨by omega,by omega,Next.intro (i+1,some false) rfl (by rw[htk];rfl) (by simp only;omega) (by simp only;omega)⟩
   ·obtain rfl:i=DS.length:=by omega
    have d2: ¬((DS.length:Int)<DS.length):=by omega
    rw[YN];simp only[d2,Qs,Zk,ZV,Za,Zx,Ψ10];refine hS _ ?_;simp only[V.fz,V.fzL,V.nrm,V.nrmL,zok,ziR,ziS];have e:xF FL++xF (DS.map fun k:Nat=>⟨[(k:Int)],xU L [k] p,false⟩)=xF (FL++DS.map fun k:Nat=>⟨[(k:Int)],xU L [k] p,false⟩):=by simp[xF]
    rw[e,qB (ziR _)];rfl
 ·rw[if_neg h0] at hS
  rw[if_neg h0] at g;generalize lookE L D=er at hS g h0;have e1:(er !=0)=true:=by rw[bne_iff_ne];exact h0
  simp only[Qs,Zd,Za,Ψ10];refine xI g ?_ (ha:=by simp only[Zl,Zq,zB,V.norm,zO,zP yU,zP xO,C.norm]<;>rfl);simp only[e1,Qs,iO,bne_iff_ne,ne_eq,BEq.rfl,Zk,ZV,Zd,Yg,Zt,Za,Zx,zgA,Ψ10];exact hS _ rfl
end Go.Abs
set_option maxRecDepth 100000
set_option maxHeartbeats 8000000
namespace Go.Ex
open Go.Lib Go.Wd Go.Wire
def pK (w:List Txt):Bool:=decide (w.length<=6)&&w.all fun s=>decide (s.length<=100)
def pL (f:Fld):Bool:=(decide (f.words.length<=10)&&decide (f.name.length<=100))&&f.words.all pK
def tN (d:Dcm):Bool:=(decide (d.flds.length<=14)&&decide (d.kind.length<=100))&&d.flds.all pL
def rQ (m:Dmd):Bool:=(((decide (m.txt.length<=500)&&decide (m.doc.length<=60))&&decide (m.fld.length<=60))&&decide (m.oth.length<=60))&&decide (m.sec.length<=60)
end Go.Ex
namespace Go.Abs
open Go.Proofs Go.RowKit Go.Lib Go.Wd Go.Wire Go.Ex
theorem c18 (l:List Dcm) (hl:sP l):Spec Tryz.prog 18 [lst 2 (l.map zV)] (fun v=>v=.tup [.int .i64 (cnts l).2.1,.int .i64 (cnts l).2.2]):=by
 refine Spec.of_awlP hf18 okf18 (by simp) fun S hS=>?_
 have hlen:=hl.1;unfold cnts at hS;by_cases h8:l.length>8
 ·rw[if_pos h8] at hS
  have c1:(l.length:Int)>8:=by omega
  simp only[zI,c1,Qs,Zk,Za,Zg,Ψ18];exact hS _ rfl
 ·rw[if_neg h8] at hS
  have c1: ¬(l.length:Int)>8:=by omega
  simp only[zI,c1,Qs,Za,Zg,Ψ18];rw[uu f18l40.eq_1];refine yA (fun i:Nat=>[(0,lst 2 (l.map zV)),(4,.int .i64 i)]) (fun _=>[]) (fun i=>i<=l.length/\xL (fun i=>docE (l.getD i ⟨[],[]⟩)) (l.length-i) i=xL (fun i=>docE (l.getD i ⟨[],[]⟩)) l.length 0) (fun i=>l.length-i) 0 rfl rfl ⟨ZB _,rfl⟩ ?_;rintro i ⟨hi,hD⟩;by_cases hlt:i<l.length
  ·have d1:(i:Int)<l.length:=by omega
   have c4:IntKind.i64.wrap ((i:Int)+1)=(i:Int)+1:=wrap_in (by omega) (by omega);have hgd:l.getD i ⟨[],[]⟩=l[i]:=by rw[Zi,Zh hlt];rfl
   rw[nW hlt,hgd] at hD;have g1:=c41 _ (hl.2 _ (Zy hlt));have hat:=nX hlt;generalize l[i]=d at hD g1 hat;rw[show zV d=[.str d.kind,zC 2 (d.flds.map zR)] from rfl] at g1;simp only[d1,hat,zI,Qs,Za,Zg,Ψ18];refine zF g1 ?_ (ha:=by simp only[Zl,Zq,zB,V.norm,C.norm,C.normRow,yG wO]<;>rfl);by_cases h0:docE d=0
   ·have w0:(docE d !=0)=false:=by simp[h0]
    rw[if_pos h0] at hD;simp only[w0,c4,Qs,Za,Ψ18];exact Next.intro (i+1) rfl rfl ⟨by omega,hD⟩ (by omega)
   ·have w0:(docE d !=0)=true:=by simp[h0]
    rw[if_neg h0] at hD;rw[<-hD,if_neg h0] at hS;simp only[w0,Qs,Zk,Za,Ψ18];exact hS _ rfl
  ·have d1: ¬(i:Int)<l.length:=by omega
   rw[show l.length-i=0 by omega] at hD;have hz:xL (fun i=>docE (l.getD i ⟨[],[]⟩)) l.length 0=0:=hD.symm;rw[if_pos hz] at hS;simp only[d1,zI,Qs,Za,Zg,Ψ18];rw[uu f18l19.eq_1];refine yA (fun x:Nat×List Int×Nat=>[(0,lst 2 (l.map zV)),(6,.int .i64 (x.2.2:Nat)),(7,.int .i64 x.1)]) (fun _=>[]) (fun x=>x.1<=l.length/\x.2.2<=4096/\wK (l.drop x.1) x.2.1 x.2.2=wK l [] 1) (fun x=>l.length-x.1) (0,[],1) rfl rfl ⟨ZB _,by simp only;decide,rfl⟩ ?_;rintro⟨i,L,n⟩ ⟨hi,hn,hD⟩;simp only[] at hi hn hD;by_cases hlt:i<l.length
   ·have d1:(i:Int)<l.length:=by omega
    have c4:IntKind.i64.wrap ((i:Int)+1)=(i:Int)+1:=wrap_in (by omega) (by omega);have g1:=c42 _ (hl.2 _ (Zy hlt));have hat:=nX hlt;rw[ZE hlt,wK] at hD;have hr:=iX (d:=l[i]);generalize l[i]=d at hD g1 hat hr;rw[show zV d=[.str d.kind,zC 2 (d.flds.map zR)] from rfl] at g1;generalize cntD d=c at hD g1 hr;obtain⟨cn,ce⟩:=c;simp only[] at hD g1 hr;have hmul:0<=(n:Int)*cn/\(n:Int)*cn<=4096*4096:=⟨Int.mul_nonneg (by omega) hr.1,Int.mul_le_mul (by omega) hr.2 hr.1 (by omega)⟩;have c5:IntKind.i64.wrap ((n:Int)*cn)=(n:Int)*cn:=wrap_in (by omega) (by omega);simp only[d1,hat,zI,Qs,Za,Zg,Ψ18];refine zF g1 ?_ (ha:=by simp only[Zl,Zq,zB,V.norm,C.norm,C.normRow,yG wO]<;>rfl);by_cases he:ce=0
    ·have e1:(ce !=0)=false:=by simp[he]
     by_cases hb:(n:Int)*cn>4096
     ·rw[if_pos (.inr hb)] at hD
      rw[<-hD] at hS;simp only[e1,c5,hb,Qs,Zk,Za,Ψ18];exact hS _ rfl
     ·rw[if_neg (by intro q;rcases q with q|q;exact q he;exact hb q)] at hD
      obtain⟨c',rfl⟩: ∃c':Nat,cn=c':=⟨cn.toNat,by omega⟩;rw[Yf] at hD;have hnn:(n:Int)*(c':Int)=((n*c':Nat):Int):=(Yo n c').symm;simp only[e1,c4,c5,hb,Qs,Za,Ψ18];exact Next.intro (i+1,L++[(c':Int)],n*c') (by simp only[hnn];rfl) rfl ⟨by simp only;omega,by simp only;omega,hD⟩ (by simp only;omega)
    ·have e1:(ce !=0)=true:=by simp[he]
     rw[if_pos (.inl he)] at hD;rw[<-hD] at hS;simp only[e1,Qs,Zk,Za,Ψ18];exact hS _ rfl
   ·have d1: ¬(i:Int)<l.length:=by omega
    rw[ZA (by omega),wK] at hD;rw[<-hD] at hS;simp only[d1,zI,Qs,Zk,Za,Zg,Ψ18];exact hS _ rfl
theorem c31 (L:List Dmd) (hL:L.length<=8):Spec Tryz.prog 31 [lst 8 (L.map zQ)] (fun v=>v=.bool (L.all rQ)):=by
 refine Spec.of_awlS hf31 okf31 (by simp) fun S hS=>?_
 simp only[zI,Qs,Ψ31];rw[uu f31l15.eq_1];refine yA (fun i:Nat=>[(0,lst 8 (L.map zQ)),(3,.int .i64 i)]) (fun _=>[]) (fun i=>i<=L.length/\(L.drop i).all rQ=L.all rQ) (fun i=>L.length-i) 0 rfl rfl ⟨ZB _,rfl⟩ ?_;rintro i ⟨hi,hD⟩;by_cases hlt:i<L.length
 ·have d1:(i:Int)<L.length:=by omega
  have d2:(i:Int)<40:=by omega
  have c4:IntKind.i64.wrap ((i:Int)+1)=(i:Int)+1:=wrap_in (by omega) (by omega);have hat:=gL hlt;have hgd:L.getD i yZ=L[i]:=by rw[Zi,Zh hlt];rfl
  rw[ZE hlt,Ys] at hD;rw[hgd] at hat;generalize L[i]=m at hat hD;have hbad:rQ m=false->S (.bool false):=fun h=>by
   rw[h,ZO] at hD;rw[<-hD] at hS;exact hS
  have hF:rQ m=true ↔ m.txt.length<=500/\m.doc.length<=60/\m.fld.length<=60/\m.oth.length<=60/\m.sec.length<=60:=by
   unfold rQ;simp only[Zp,decide_eq_true_eq];omega
  have hno: ¬(m.txt.length<=500/\m.doc.length<=60/\m.fld.length<=60/\m.oth.length<=60/\m.sec.length<=60)->S (.bool false):=fun h=>hbad (YS.2 fun q=>h (hF.1 q))
  simp only[d1,d2,c4,hat,zI,Qs,Zd,Zm,Za,Zg,Ψ31];refine⟨fun q=>hno (by omega),fun q1=>⟨fun q=>hno (by omega),fun q2=>⟨fun q=>hno (by omega),fun q3=>⟨fun q=>hno (by omega),fun q4=>⟨fun q=>hno (by omega),fun q5=>?_⟩⟩⟩⟩⟩;rw[hF.2 (by omega),ZJ] at hD;exact Next.intro (i+1) rfl rfl ⟨by omega,hD⟩ (by omega)
 ·have d1: ¬(i:Int)<L.length:=by omega
  have d2:(L.length:Int)<=30:=by omega
  rw[ZA (by omega),Xa] at hD;rw[<-hD] at hS;simp only[d1,d2,zI,Qs,Za,Zg,Ψ31];exact hS
theorem c30 (d:Dcm):Spec Tryz.prog 30 [.agg (zV d)] (fun v=>v=.bool (tN d)):=by
 refine Spec.of_awlS hf30 okf30 (by simp) fun S hS=>?_
 unfold zV;unfold tN at hS;by_cases h14:d.flds.length<=14
 ·by_cases h100:d.kind.length<=100
  ·rw[decide_eq_true h14,decide_eq_true h100,ZJ,ZJ] at hS
   have c1: ¬(d.flds.length:Int)>14:=by omega
   have c2: ¬(d.kind.length:Int)>100:=by omega
   simp only[c1,c2,zI,Qs,Zd,Zm,Za,Zg,Ψ30];rw[uu f30l51.eq_1];refine yA (fun i:Nat=>[(1,.k (.c (.ro [.str d.kind,zC 2 (d.flds.map zR)] 0))),(3,.int .i64 i)]) (fun _=>[]) (fun i=>i<=d.flds.length/\(d.flds.drop i).all pL=d.flds.all pL) (fun i=>d.flds.length-i) 0 rfl rfl ⟨ZB _,rfl⟩ ?_;rintro i ⟨hi,hD⟩;by_cases hlt:i<d.flds.length
   ·have d1:(i:Int)<d.flds.length:=by omega
    have c4:IntKind.i64.wrap ((i:Int)+1)=(i:Int)+1:=wrap_in (by omega) (by omega);have hat:=oL hlt;rw[ZE hlt,Ys] at hD;generalize d.flds[i]=f at hat hD;have hbad:pL f=false->S (.bool false):=fun h=>by
     rw[h,ZO] at hD;rw[<-hD] at hS;exact hS
    have hF:pL f=((decide (f.words.length<=10)&&decide (f.name.length<=100))&&f.words.all pK):=rfl;by_cases h10:f.words.length<=10
    ·by_cases hnm:f.name.length<=100
     ·rw[decide_eq_true h10,decide_eq_true hnm,ZJ,ZJ] at hF
      have e1: ¬(f.words.length:Int)>10:=by omega
      have e2: ¬(f.name.length:Int)>100:=by omega
      simp only[d1,e1,e2,hat,zI,Qs,Zd,Zm,Za,Zg,Ψ30];rw[uu f30l35.eq_1];refine yA (fun k:Nat=>[(1,.k (.c (.ro [.str d.kind,zC 2 (d.flds.map zR)] 0))),(3,.int .i64 i),(4,.int .i64 k)]) (fun _=>[]) (fun k=>k<=f.words.length/\(f.words.drop k).all pK=f.words.all pK) (fun k=>f.words.length-k) 0 rfl rfl ⟨ZB _,rfl⟩ ?_;rintro k ⟨hk,hD2⟩;by_cases hlk:k<f.words.length
      ·have d2:(k:Int)<f.words.length:=by omega
       have c5:IntKind.i64.wrap ((k:Int)+1)=(k:Int)+1:=wrap_in (by omega) (by omega);have haw:=lX hlk;rw[ZE hlk,Ys] at hD2;generalize f.words[k]=w at haw hD2;have hbad2:pK w=false->S (.bool false):=fun h=>hbad (by rw[hF,<-hD2,h,ZO])
       have hW:pK w=(decide (w.length<=6)&&w.all fun s=>decide (s.length<=100)):=rfl;by_cases h6:w.length<=6
       ·rw[decide_eq_true h6,ZJ] at hW
        have e3: ¬(w.length:Int)>6:=by omega
        simp only[d1,d2,e3,hat,haw,zI,yB,Qs,Zd,Za,Zg,Ψ30];rw[uu f30l17.eq_1];refine yA (fun j:Nat=>[(1,.k (.c (.ro [.str d.kind,zC 2 (d.flds.map zR)] 0))),(3,.int .i64 i),(4,.int .i64 k),(5,lst 1 (zJ w)),(6,.int .i64 j)]) (fun _=>[]) (fun j=>j<=w.length/\(w.drop j).all (fun s=>decide (s.length<=100))=w.all fun s=>decide (s.length<=100)) (fun j=>w.length-j) 0 rfl rfl ⟨ZB _,rfl⟩ ?_;rintro j ⟨hj,hD3⟩;by_cases hlj:j<w.length
        ·have d3:(j:Int)<w.length:=by omega
         have c6:IntKind.i64.wrap ((j:Int)+1)=(j:Int)+1:=wrap_in (by omega) (by omega);have has:=uI hlj;rw[ZE hlj,Ys] at hD3;generalize w[j]=s at has hD3;by_cases hs:s.length<=100
         ·rw[decide_eq_true hs,ZJ] at hD3
          have e4: ¬(s.length:Int)>100:=by omega
          simp only[d3,e4,c6,has,yB,Qs,Za,Ψ30];exact Next.intro (j+1) rfl rfl ⟨by omega,hD3⟩ (by omega)
         ·rw[decide_eq_false hs,ZO] at hD3
          have e4:(s.length:Int)>100:=by omega
          simp only[d3,e4,has,yB,Qs,Za,Ψ30];exact hbad2 (by rw[hW,<-hD3])
        ·have d3: ¬(j:Int)<w.length:=by omega
         rw[ZA (by omega),Xa] at hD3;rw[hW,<-hD3,ZJ] at hD2;simp only[d3,c5,yB,Qs,reduceCtorEq,Zt,Za,Ψ30];exact Next.intro (k+1) rfl rfl ⟨by omega,hD2⟩ (by omega)
       ·rw[decide_eq_false h6,ZO] at hW
        have e3:(w.length:Int)>6:=by omega
        simp only[d1,d2,e3,hat,haw,zI,yB,Qs,Zd,Za,Zg,Ψ30];exact hbad2 hW
      ·have d2: ¬(k:Int)<f.words.length:=by omega
       rw[ZA (by omega),Xa] at hD2;rw[hF,<-hD2,ZJ] at hD;simp only[d1,d2,c4,hat,zI,Qs,reduceCtorEq,Zd,Za,Zg,Ψ30];exact Next.intro (i+1) rfl rfl ⟨by omega,hD⟩ (by omega)
     ·rw[decide_eq_false hnm,YP,ZO] at hF
      have e1: ¬(f.words.length:Int)>10:=by omega
      have e2:(f.name.length:Int)>100:=by omega
      simp only[d1,e1,e2,hat,zI,Qs,Zd,Zm,Za,Zg,Ψ30];exact hbad hF
    ·rw[decide_eq_false h10,ZO,ZO] at hF
     have e1:(f.words.length:Int)>10:=by omega
     simp only[d1,e1,hat,zI,Qs,Zd,Za,Zg,Ψ30];exact hbad hF
   ·have d1: ¬(i:Int)<d.flds.length:=by omega
    rw[ZA (by omega),Xa] at hD;rw[<-hD] at hS;simp only[d1,zI,Qs,Zd,Za,Zg,Ψ30];exact hS
  ·rw[decide_eq_false h100,YP,ZO] at hS
   have c1: ¬(d.flds.length:Int)>14:=by omega
   have c2:(d.kind.length:Int)>100:=by omega
   simp only[c1,c2,zI,Qs,Zd,Zm,Za,Zg,Ψ30];exact hS
 ·rw[decide_eq_false h14,ZO,ZO] at hS
  have c1:(d.flds.length:Int)>14:=by omega
  simp only[c1,zI,Qs,Zd,Za,Zg,Ψ30];exact hS
end Go.Abs
set_option maxRecDepth 100000
set_option maxHeartbeats 8000000
namespace Go.Ex
open Go.Lib Go.Wd Go.Wire Go.Abs
def mI (L:List Dmd) (D:List Dcm):Bool:=(D.take 12).all tN&&(decide (L.length<=8)&&(decide (D.length<=12)&&(L.all rQ&&(decide ((cnts D).2.2≠0)||decide ((cnts D).2.1<=128)))))
theorem ziT {d:Dcm} (h:tN d=true):DcmS d:=by
 unfold tN at h;simp only[Zp,decide_eq_true_eq,Zw] at h;obtain⟨⟨h1,h2⟩,h3⟩:=h;refine⟨by omega,by omega,fun f hf=>?_⟩;have:=h3 f hf;unfold pL at this;simp only[Zp,decide_eq_true_eq,Zw] at this;obtain⟨⟨h4,h5⟩,h6⟩:=this;refine⟨by omega,by omega,fun w hw=>?_⟩;have:=h6 w hw;unfold pK at this;simp only[Zp,decide_eq_true_eq,Zw] at this;exact⟨by omega,fun s hs=>by have:=this.2 s hs;omega⟩
theorem aW {D:List Dcm} (h1:(D.take 12).all tN=true) (h2:D.length<=12):sP D:=by
 rw[Z6 (by omega)] at h1;exact⟨by omega,fun d hd=>ziT (Zw.1 h1 d hd)⟩
end Go.Ex
namespace Go.Abs
open Go.Proofs Go.RowKit Go.Lib Go.Wd Go.Wire Go.Ex
theorem c9 (L:List Dmd) (D:List Dcm):Spec Tryz.prog 9 [lst 8 (L.map zQ),lst 2 (D.map zV)] (fun v=>v=.bool (mI L D)):=by
 refine Spec.of_awlS hf9 okf9 (by simp) fun S hS=>?_
 unfold mI at hS;simp only[zI,Qs,Zd,Ψ9];rw[uu f9l23.eq_1];refine yA (fun i:Nat=>[(0,lst 8 (L.map zQ)),(1,lst 2 (D.map zV)),(5,.int .i64 i)]) (fun _=>[]) (fun i=>i<=D.length/\i<=12/\((D.take 12).drop i).all tN=(D.take 12).all tN) (fun i=>D.length-i) 0 rfl rfl ⟨ZB _,by decide,rfl⟩ ?_;rintro i ⟨hi,hi12,hD⟩;have fin: ¬(i<D.length/\i<12)->(D.take 12).all tN=true:=fun h=>by
  rw[<-hD,ZA (by rw[Yt];omega)];rfl
 by_cases hlt:i<D.length
 ·by_cases h12:i<12
  ·have d1:(i:Int)<D.length:=by omega
   have d2:(i:Int)<12:=by omega
   have c4:IntKind.i64.wrap ((i:Int)+1)=(i:Int)+1:=wrap_in (by omega) (by omega);have hat:=nX hlt;have hlt2:i<(D.take 12).length:=by rw[Yt];omega
   have hg:(D.take 12)[i]=D[i]:=List.getElem_take;rw[ZE hlt2,Ys,hg] at hD;have g1:=c30 D[i];generalize D[i]=d at hat hD g1;rw[show zV d=[.str d.kind,zC 2 (d.flds.map zR)] from rfl] at g1;simp only[d1,d2,hat,zI,Qs,Za,Zg,Ψ9];refine zF g1 ?_ (ha:=by simp only[Zl,Zq,zB,V.norm,C.norm,C.normRow,yG wO]<;>rfl);cases hf:tN d with
   |true=>
    rw[hf,ZJ] at hD;simp only[c4,Qs,Za,Ψ9];exact Next.intro (i+1) rfl rfl ⟨by omega,by omega,hD⟩ (by omega)
   |false=>
    rw[hf,ZO] at hD;rw[<-hD,ZO] at hS;simp only[Qs,Ψ9];exact hS
  ·have d1:(i:Int)<D.length:=by omega
   have d2: ¬(i:Int)<12:=by omega
   have hall:=fin (by omega);simp only[d1,d2,zI,Qs,Za,Zg,Ψ9];rw[hall,ZJ] at hS;refine⟨fun q=>?_,fun q1=>⟨fun q=>?_,fun q2=>?_⟩⟩
   ·rw[decide_eq_false (by omega: ¬L.length<=8),ZO] at hS
    exact hS
   ·rw[decide_eq_true (by omega:L.length<=8),ZJ,decide_eq_false (by omega: ¬D.length<=12),ZO] at hS
    exact hS
   ·have q12:D.length<=12:=by omega
    rw[decide_eq_true (by omega:L.length<=8),ZJ,decide_eq_true q12,ZJ] at hS;have g31:=c31 L (by omega);have g18:=c18 D (aW hall q12);refine zF g31 ?_ (ha:=by simp only[Zl,Zq,zB,V.norm,zO,zP xO,C.norm]<;>rfl);cases hm:L.all rQ with
    |false=>
     rw[hm,ZO] at hS;simp only[Qs,Za,Ψ9];exact hS
    |true=>
     rw[hm,ZJ] at hS;simp only[Qs,Za,Ψ9];refine zF g18 ?_ (ha:=by simp only[Zl,Zq,zB,V.norm,zO,zP yU,C.norm]<;>rfl);by_cases he:(cnts D).2.2=0
     ·have e1:((cnts D).2.2 !=0)=false:=by simp[he]
      rw[decide_eq_false (fun q=>q he),YA] at hS;simp only[e1,Qs,Za,Ψ9];exact hS
     ·have e1:((cnts D).2.2 !=0)=true:=by simp[he]
      rw[decide_eq_true he,XA] at hS;simp only[e1,Qs,Za,Ψ9];exact hS
 ·have d1: ¬(i:Int)<D.length:=by omega
  have hall:=fin (by omega);simp only[d1,zI,Qs,Za,Zg,Ψ9];rw[hall,ZJ] at hS;refine⟨fun q=>?_,fun q1=>⟨fun q=>?_,fun q2=>?_⟩⟩
  ·rw[decide_eq_false (by omega: ¬L.length<=8),ZO] at hS
   exact hS
  ·rw[decide_eq_true (by omega:L.length<=8),ZJ,decide_eq_false (by omega: ¬D.length<=12),ZO] at hS
   exact hS
  ·have q12:D.length<=12:=by omega
   rw[decide_eq_true (by omega:L.length<=8),ZJ,decide_eq_true q12,ZJ] at hS;have g31:=c31 L (by omega);have g18:=c18 D (aW hall q12);refine zF g31 ?_ (ha:=by simp only[Zl,Zq,zB,V.norm,zO,zP xO,C.norm]<;>rfl);cases hm:L.all rQ with
   |false=>
    rw[hm,ZO] at hS;simp only[Qs,Za,Ψ9];exact hS
   |true=>
    rw[hm,ZJ] at hS;simp only[Qs,Za,Ψ9];refine zF g18 ?_ (ha:=by simp only[Zl,Zq,zB,V.norm,zO,zP yU,C.norm]<;>rfl);by_cases he:(cnts D).2.2=0
    ·have e1:((cnts D).2.2 !=0)=false:=by simp[he]
     rw[decide_eq_false (fun q=>q he),YA] at hS;simp only[e1,Qs,Za,Ψ9];exact hS
    ·have e1:((cnts D).2.2 !=0)=true:=by simp[he]
     rw[decide_eq_true he,XA] at hS;simp only[e1,Qs,Za,Ψ9];exact hS
end Go.Abs
set_option maxRecDepth 100000
set_option maxHeartbeats 8000000
namespace Go.Ex
open Go.Lib Go.Wd Go.Wire Go.Abs
theorem zol {L:List Dmd} {D:List Dcm} (h:AskS L D) (i:Int):vE (zo9 D i):=by
 unfold zo9;split
 ·rename_i h0
  unfold zpd at h0;split at h0
  ·rename_i h1;exact absurd h0 h1
  ·rename_i h1
   split at h0
   ·cases h0
   ·have h1:(cnts D).2.2=0:=by simpa using h1
    have:=(rM h1).n;exact h.rd h1 _ (by omega)
 ·exact⟨by simp,by simp⟩
end Go.Ex
namespace Go.Abs
open Go.Proofs Go.RowKit Go.Lib Go.Wd Go.Wire Go.Ex
end Go.Abs
set_option maxRecDepth 100000
set_option maxHeartbeats 4000000
namespace Go.Ex
open Go.Lib Go.Wd Go.Wire Go.Abs Go.Proofs
structure DmdI (m:Dmd):Prop where
 l1: -9223372036854775808<=m.lo
 l2:m.lo<=9223372036854775807
 h1: -9223372036854775808<=m.hi
 h2:m.hi<=9223372036854775807
theorem ziU {B:Nat}: ∀l:List Txt,(∀s∈l,s.length<=B)->yY l<=l.length*B
 |[],_=>by simp[yY]
 |s::l,h=>by
  have h1:=h s (by simp);have h2:=ziU l fun x hx=>h x (Zz _ hx)
  rw[yY,Zn,Xi];omega
theorem zon {f:Fld} (hf:pL f=true) (hp: ∀w∈f.words,1<=w.length) (i:Nat):(vX f i).length<=2000:=by
 unfold pL at hf;simp only[Zp,decide_eq_true_eq,Zw] at hf;obtain⟨⟨h4,_⟩,h6⟩:=hf;have hm:=zhC (W:=f.words) (i:=i) (B:=100) fun w hw=>⟨hp w hw,fun s hs=>by
  have:=h6 w hw
  unfold pK at this
  simp only[Zp,decide_eq_true_eq,Zw] at this
  exact this.2 s hs⟩
 have hl:=bO f.words i;unfold vX;rw[<-bP];have h1:=gC [32] (pick f.words i).1;have h2:=ziU _ hm;rw[hl] at h1 h2;simp only[Zn,ZF] at h1;omega
theorem ziV: ∀(l:List Fld) (i:Nat),(wQ l i).1.length=l.length/\ ∀s∈(wQ l i).1,∃f∈l,∃j,s=vX f j
 |[],i=>by simp[wQ]
 |f::l,i=>by
  have ih:=ziV l i;rw[wQ];refine⟨by simp[ih.1],fun s hs=>?_⟩;rcases ZH.1 hs with rfl|hs
  ·exact⟨f,by simp,_,rfl⟩
  ·obtain⟨g,hg,j,e⟩:=ih.2 s hs
   exact⟨g,Zz _ hg,j,e⟩
theorem zoo {d:Dcm} (h:tN d=true) (h0:docE d=0) (q:Nat):PlnS (rdD d q):=by
 have hR:=oM (ziT h) h0;unfold tN at h;simp only[Zp,decide_eq_true_eq,Zw] at h;obtain⟨⟨h1,h2⟩,h3⟩:=h;obtain⟨t1,t2⟩:=ziV d.flds q;refine⟨by show d.kind.length<=_;omega,by show(d.flds.map Fld.name).length<=_;rw[Zg];omega,by show(wQ d.flds q).1.length<=_;omega,fun s hs=>?_⟩;obtain⟨f,hf,j,rfl⟩:=t2 s hs;obtain⟨i,hi,rfl⟩:=Y5 hf;have hF:=(bE hi (hR.s.fl _ hf) (hR.fe i hi)).1;have:=zon (h3 _ hf) (fun w hw=>(hF.sp w hw).1) j;omega
theorem ziW: ∀(D:List Dcm) (cs:List Nat) (i:Nat),(xN D cs i).1.length<=D.length/\ ∀p∈(xN D cs i).1,∃d∈D,∃q,p=rdD d q
 |[],cs,i=>by cases cs<;>simp[xN]
 |d::D,[],i=>by simp[xN]
 |d::D,c::cs,i=>by
  have ih:=ziW D cs i;rw[xN];refine⟨by simp[ih.1],fun s hs=>?_⟩;rcases ZH.1 hs with rfl|hs
  ·exact⟨d,by simp,_,rfl⟩
  ·obtain⟨g,hg,j,e⟩:=ih.2 s hs
   exact⟨g,Zz _ hg,j,e⟩
theorem gU {L:List Dmd} {D:List Dcm} (hL: ∀m∈L,DmdI m) (h:mI L D=true):AskS L D/\((cnts D).2.2=0->xY D<=128):=by
 unfold mI at h;simp only[Zp,decide_eq_true_eq,Ye] at h;obtain⟨h1,h2,h3,h4,h5⟩:=h;have hD:=aW h1 h3;rw[Z6 (by omega),Zw] at h1;rw[Zw] at h4;refine⟨⟨h2,fun m hm=>?_,hD,fun h0 i _=>?_⟩,fun h0=>?_⟩
 ·have:=h4 m hm
  unfold rQ at this;simp only[Zp,decide_eq_true_eq] at this;obtain⟨⟨⟨⟨a1,a2⟩,a3⟩,a4⟩,a5⟩:=this;have hI:=hL m hm;exact⟨by omega,by omega,by omega,by omega,by omega,hI.l1,hI.l2,hI.h1,hI.h2⟩
 ·have hok:=rM h0
  obtain⟨r1,r2⟩:=ziW D (vZ D) i;refine⟨by show(xN D (vZ D) i).1.length<=_;omega,fun p hp=>?_⟩;obtain⟨d,hd,q,rfl⟩:=r2 p hp;exact zoo (h1 d hd) (kC (hok.e d hd)) q
 ·have hok:=rM h0
  rcases h5 with h5|h5
  ·exact absurd h0 h5
  ·have:=hok.n
   omega
end Go.Ex
set_option maxRecDepth 100000
set_option maxHeartbeats 4000000
namespace Go.Ex
open Go.Lib Go.Wd Go.Wire Go.Abs
theorem kJ {L:List Dmd} {D:List Dcm} (h:lookE L D=0):(cnts D).2.2=0:=by
 unfold lookE at h;split at h
 ·exact h
 ·cases h
theorem zoq {D:List Dcm} (h:(cnts D).2.2=0) {i:Nat} (hi:i<xY D):zpd D (i:Int)=0/\zo9 D (i:Int)=rdsD D i:=by
 have hok:=rM h;have hn:=hok.n;have e:zpd D (i:Int)=0:=by
  unfold zpd;rw[if_neg (by simp[h]),if_neg (by omega)]
 refine⟨e,?_⟩;unfold zo9;rw[if_pos e,Yf]
theorem aY {L:List Dmd} {D:List Dcm} (hA:AskS L D) (h:(cnts D).2.2=0):yN L D≠[]:=by
 have:=ziQ hA.dc h;intro e;have:=congrArg List.length e;simp[yN] at this;omega
def zph (f:Fld) (t:Txt):Prop:= ∃i,i<yQ f/\t=vX f i
def zpe:List Fld->List Txt->Prop
 |[],[]=>True
 |f::l,t::ts=>zph f t/\zpe l ts
 |_,_=>False
def zo3 (l:List Fld):List Nat:=l.map yQ
theorem zpE: ∀(l:List Fld) (i:Nat),(wQ l i).2=(zo7 (zo3 l) i).2/\(wQ l i).1=List.zipWith vX l (zo7 (zo3 l) i).1
 |[],i=>⟨rfl,rfl⟩
 |f::l,i=>by
  obtain⟨h1,h2⟩:=zpE l i;show(wQ l i).2/yQ f=(zo7 (zo3 l) i).2/yQ f/\vX f ((wQ l i).2 % yQ f)::(wQ l i).1=List.zipWith vX (f::l) ((zo7 (zo3 l) i).2 % yQ f::(zo7 (zo3 l) i).1);rw[h1,h2];exact⟨rfl,rfl⟩
theorem zpY: ∀{l:List Fld} {ds:List Nat},InR (zo3 l) ds->zpe l (List.zipWith vX l ds)
 |[],[],_=>trivial
 |_::_,d::_,h=>⟨⟨d,h.1,rfl⟩,zpY h.2⟩
 |[],_::_,h=>h.elim
 |_::_,[],h=>h.elim
theorem zpZ: ∀{l:List Fld} {ts:List Txt},zpe l ts-> ∃ds,InR (zo3 l) ds/\ts=List.zipWith vX l ds
 |[],[],_=>⟨[],trivial,rfl⟩
 |f::l,t::ts,h=>by
  obtain⟨⟨i,hi,rfl⟩,h2⟩:=h;obtain⟨ds,h3,rfl⟩:=zpZ h2;exact⟨i::ds,⟨hi,h3⟩,rfl⟩
 |[],_::_,h=>h.elim
 |_::_,[],h=>h.elim
theorem zpn {l:List Fld} (hp: ∀f∈l,0<yQ f): ∀s∈zo3 l,0<s:=fun s hs=>by
 obtain⟨f,hf,rfl⟩:=ZS.1 hs;exact hp f hf
theorem zqG {l:List Fld} (hp: ∀f∈l,0<yQ f) (i:Nat):zpe l (wQ l i).1:=by
 rw[(zpE l i).2];exact zpY (zpX i (zpn hp))
theorem zqH {l:List Fld} (hp: ∀f∈l,0<yQ f) {ts:List Txt} (h:zpe l ts): ∃i,i<zo6 (zo3 l)/\(wQ l i).1=ts:=by
 obtain⟨ds,h1,rfl⟩:=zpZ h;obtain⟨i,hi,hd⟩:=zpC (zpn hp) h1;exact⟨i,hi,by rw[(zpE l i).2,hd]⟩
structure posP (d:Dcm) (p:Pln):Prop where
 kd:p.kind=d.kind
 ns:p.names=d.flds.map Fld.name
 ts:zpe d.flds p.texts
def zpb:List Dcm->List Pln->Prop
 |[],[]=>True
 |d::l,p::ps=>posP d p/\zpb l ps
 |_,_=>False
theorem zp0: ∀{l:List Fld} {n:Nat},(vD l n).2=0->(vD l n).1=((n*zo6 (zo3 l):Nat):Int)
 |[],n,_=>by simp[vD,zo3,zo6]
 |f::l,n,h=>by
  rw[vD] at h⊢;split at h
  ·cases h
  ·rename_i hq
   rw[if_neg hq,zp0 h];show((n*yQ f*zo6 (zo3 l):Nat):Int)=((n*(yQ f*zo6 (zo3 l)):Nat):Int);rw[XC]
theorem zp1: ∀{l:List Fld} {n:Nat},(∀f∈l,0<yQ f)->n*zo6 (zo3 l)<=4096->vD l n=(((n*zo6 (zo3 l):Nat):Int),0)
 |[],n,_,_=>by simp[vD,zo3,zo6]
 |f::l,n,hp,h=>by
  have hp': ∀x∈l,0<yQ x:=fun x hx=>hp x (Zz _ hx)
  have h1:=zpg (zpn hp');have e:n*zo6 (zo3 (f::l))=n*yQ f*zo6 (zo3 l):=by
   show n*(yQ f*zo6 (zo3 l))=_;rw[XC]
  rw[e] at h⊢;have:n*yQ f<=n*yQ f*zo6 (zo3 l):=Nat.le_mul_of_pos_right _ h1;rw[vD,if_neg (by omega)];exact zp1 hp' h
def prD (d:Dcm):Nat:=zo6 (zo3 d.flds)
def prL (D:List Dcm):Nat:=zo6 (D.map prD)
theorem zpo {d:Dcm} (hd:DcmS d) (h:docE d=0): ∀f∈d.flds,0<yQ f:=fun _ hf=>zhi ((oM hd h).fld hf)
theorem zp2 {d:Dcm} (h:(cntD d).2=0):(cntD d).1=(prD d:Nat):=by
 have h0:=kC h;unfold cntD at h⊢;rw[if_pos h0] at h⊢;rw[zp0 h,Xn];rfl
theorem zqI {d:Dcm} (hd:DcmS d) (h:docE d=0) (hp:prD d<=4096):cntD d=(((prD d:Nat):Int),0):=by
 unfold cntD;rw[if_pos h,zp1 (zpo hd h) (by rw[Xn];exact hp),Xn];rfl
theorem zpF {d:Dcm} (hd:DcmS d) (h:docE d=0):0<prD d:=zpg (zpn (zpo hd h))
structure GoodD (D:List Dcm):Prop where
 s:sP D
 c:(cnts D).2.2=0
theorem GoodD.ok {D:List Dcm} (h:GoodD D):CntOk D:=rM h.c
theorem GoodD.doc {D:List Dcm} (h:GoodD D) {d:Dcm} (hd:d∈D):docE d=0:=kC (h.ok.e d hd)
theorem zp3 {D:List Dcm} (h:CntOk D):vZ D=D.map prD:=by
 unfold vZ;rw[h.l,Y9];exact Y4 fun d hd=>by rw[YT,zp2 (h.e d hd),Yf]
theorem zp4: ∀(D:List Dcm) (a:Nat),(∀d∈D,(cntD d).2=0)->D.foldl (fun a d=>a*(cntD d).1.toNat) a=a*prL D
 |[],a,_=>(YL a).symm
 |d::D,a,h=>by
  rw[YF,zp4 D _ fun x hx=>h x (Zz _ hx),zp2 (h d (by simp)),Yf];show a*prD d*prL D=a*(prD d*prL D);rw[XC]
theorem zpG {D:List Dcm} (h:CntOk D):xY D=prL D:=by rw[h.p,zp4 D 1 h.e,Xn]
theorem zpp {f:Nat->Int}: ∀{n i:Nat},(∀k,k<n->f (i+k)=0)->xL f n i=0
 |0,_,_=>rfl
 |n+1,i,h=>by
  rw[xL,if_pos (show f i=0 from h 0 (by omega))];exact zpp fun k hk=>by have:=h (k+1) (by omega);rwa [show i+(k+1)=i+1+k by omega] at this
theorem zp5: ∀{D:List Dcm} {acc:List Int} {n:Nat},0<n->(∀d∈D,DcmS d/\docE d=0)->n*prL D<=4096->(wK D acc n).2.2=0
 |[],_,_,_,_,_=>rfl
 |d::D,acc,n,hn,hd,h=>by
  obtain⟨h1,h2⟩:=hd d (by simp);have hd': ∀x∈D,DcmS x/\docE x=0:=fun x hx=>hd x (Zz _ hx)
  have hq:0<prL D:=zpg fun s hs=>by obtain⟨x,hx,rfl⟩:=ZS.1 hs;exact zpF (hd' x hx).1 (hd' x hx).2
  have e:n*prL (d::D)=n*prD d*prL D:=by
   show n*(prD d*prL D)=_;rw[XC]
  rw[e] at h;have a1:n*prD d<=n*prD d*prL D:=Nat.le_mul_of_pos_right _ hq;have a2:prD d<=n*prD d:=Nat.le_mul_of_pos_left _ hn;have hc:=zqI h1 h2 (by omega);have a3:((n*prD d:Nat):Int)=(n:Int)*(prD d:Nat):=Yo _ _;rw[wK,hc,if_neg (by simp only[];omega)];simp only[Yf];exact zp5 (Nat.mul_pos hn (zpF h1 h2)) hd' h
theorem zqJ {D:List Dcm} (h8:D.length<=8) (hd: ∀d∈D,DcmS d/\docE d=0) (hp:prL D<=4096):GoodD D:=by
 refine⟨⟨by omega,fun d h=>(hd d h).1⟩,?_⟩;unfold cnts;rw[if_neg (by omega),if_pos]
 ·exact zp5 Nat.one_pos hd (by rw[Xn];exact hp)
 ·refine zpp fun k hk=>?_
  rw[ZU,Zi,Zh hk];exact(hd _ (Zy hk)).2
theorem GoodD.pr {D:List Dcm} (h:GoodD D):prL D<=4096:=by rw[<-zpG h.ok];exact h.ok.le
theorem zpH: ∀(D:List Dcm) (cs:List Nat) (i:Nat),cs.length=D.length->(xN D cs i).2=(zo7 cs i).2/\(xN D cs i).1=List.zipWith rdD D (zo7 cs i).1
 |[],[],i,_=>⟨rfl,rfl⟩
 |d::D,c::cs,i,h=>by
  obtain⟨h1,h2⟩:=zpH D cs i (by simpa using h);show(xN D cs i).2/c=(zo7 cs i).2/c/\rdD d ((xN D cs i).2 % c)::(xN D cs i).1=List.zipWith rdD (d::D) ((zo7 cs i).2 % c::(zo7 cs i).1);rw[h1,h2];exact⟨rfl,rfl⟩
 |[],_::_,_,h=>by simp at h
 |_::_,[],_,h=>by simp at h
theorem zp6: ∀{D:List Dcm} (ds:List Nat),(∀d∈D,DcmS d/\docE d=0)->ds.length=D.length->zpb D (List.zipWith rdD D ds)
 |[],[],_,_=>trivial
 |d::D,i::ds,hd,h=>⟨⟨rfl,rfl,zqG (zpo (hd d (by simp)).1 (hd d (by simp)).2) i⟩,zp6 ds (fun x hx=>hd x (Zz _ hx)) (by simpa using h)⟩
 |[],_::_,_,h=>by simp at h
 |_::_,[],_,h=>by simp at h
theorem zp7: ∀{D:List Dcm} {P:List Pln},(∀d∈D,DcmS d/\docE d=0)->zpb D P-> ∃ds,InR (D.map prD) ds/\P=List.zipWith rdD D ds
 |[],[],_,_=>⟨[],trivial,rfl⟩
 |d::D,p::P,hd,h=>by
  obtain⟨⟨k1,k2,k3⟩,h2⟩:=h;obtain⟨ds,h3,rfl⟩:=zp7 (fun x hx=>hd x (Zz _ hx)) h2;obtain⟨i,hi,e⟩:=zqH (zpo (hd d (by simp)).1 (hd d (by simp)).2) k3;refine⟨i::ds,⟨hi,h3⟩,?_⟩;show p::_=rdD d i::_;obtain⟨pk,pn,pt⟩:=p;simp only at k1 k2 e;subst k1 k2 e;rfl
 |[],_::_,_,h=>h.elim
 |_::_,[],_,h=>h.elim
theorem GoodD.docs {D:List Dcm} (h:GoodD D): ∀d∈D,DcmS d/\docE d=0:=fun d hd=>⟨h.s.2 d hd,h.doc hd⟩
theorem zp8 {D:List Dcm} (h:GoodD D) (i:Nat):zpb D (rdsD D i):=by
 unfold rdsD;rw[zp3 h.ok,(zpH D (D.map prD) i (by simp)).2];exact zp6 _ h.docs (by rw[zpW];simp)
theorem zqK {D:List Dcm} (h:GoodD D) {P:List Pln} (hP:zpb D P): ∃i,i<xY D/\rdsD D i=P:=by
 obtain⟨ds,h1,rfl⟩:=zp7 h.docs hP;obtain⟨i,hi,e⟩:=zpC (fun s hs=>by obtain⟨x,hx,rfl⟩:=ZS.1 hs;exact zpF (h.docs x hx).1 (h.docs x hx).2) h1;refine⟨i,by rw[zpG h.ok];exact hi,?_⟩;unfold rdsD;rw[zp3 h.ok,(zpH D (D.map prD) i (by simp)).2,e]
def zo4 (ws:List Txt):List (List Txt):=ws.map fun s=>[s]
def zo8 (d:Dcm) (k:Nat) (ws:List Txt):Dcm:=⟨d.kind,d.flds.set k ⟨(d.flds.getD k yT).name,zo4 ws⟩⟩
def splitW (t:Txt):List Txt:=if t=[] then[] else cutC 32 t
def setE (d:Dcm) (k:Int) (t:Txt):Int:=
 if docE d≠0 then docE d else if 0<=k/\k<d.flds.length then(if (splitW t).length>8\/(splitW t).all vM=false then 2 else 0) else 4
def zpj (d:Dcm) (k:Int) (t:Txt):Dcm:=if setE d k t=0 then zo8 d k.toNat (splitW t) else zpa
theorem zp9: ∀(ws:List Txt) (i:Nat),pick (zo4 ws) i=(ws,i)
 |[],_=>rfl
 |w::ws,i=>by
  show(([w]:List Txt).getD ((pick (zo4 ws) i).2 % ([w]:List Txt).length) []::(pick (zo4 ws) i).1,(pick (zo4 ws) i).2/([w]:List Txt).length)=_;rw[zp9 ws i];simp[Nat.mod_one]
theorem zpI (n:Txt): ∀ws:List Txt,yQ ⟨n,zo4 ws⟩=1
 |[]=>rfl
 |w::ws=>by
  show yQ ⟨n,[w]::zo4 ws⟩=1;rw[zqE,zpI n ws];rfl
theorem zqa (n:Txt) (ws:List Txt) (i:Nat):vX ⟨n,zo4 ws⟩ i=oI 32 ws:=by
 unfold vX;rw[zp9]
theorem zqL {n:Txt} {ws:List Txt} {t:Txt}:zph ⟨n,zo4 ws⟩ t ↔ t=oI 32 ws:=by
 unfold zph;rw[zpI];constructor
 ·rintro⟨i,_,rfl⟩;exact zqa n ws i
 ·rintro rfl;exact⟨0,Nat.one_pos,(zqa n ws 0).symm⟩
theorem zqb: ∀(t:Txt),oI 32 (cutC 32 t)=t
 |[]=>rfl
 |c::t=>by
  have ih:=zqb t;have hne:=zqD 32 t;rw[cutC];split
  ·rename_i h
   cases hc:cutC 32 t with
   |nil=>exact absurd hc hne
   |cons w r=>rw[hc] at ih;rw[oI,ih,h];rfl
  ·cases hc:cutC 32 t with
   |nil=>exact absurd hc hne
   |cons w r=>
    rw[hc] at ih;show oI 32 ((c::w)::r)=c::t;rw[<-ih];cases r with
    |nil=>rfl
    |cons v r=>rfl
theorem zqM (t:Txt):oI 32 (splitW t)=t:=by
 unfold splitW;split
 ·rename_i h;rw[h];rfl
 ·exact zqb t
theorem zqc {w:Txt} (h:vM w=true):(32:UInt8) ∉ w/\w≠[]:=by
 unfold vM at h;simp only[Zp,decide_eq_true_eq,Zw] at h;exact⟨fun hm=>by have:=h.2.2 _ hm;unfold vL at this;revert this;decide,h.1⟩
theorem zqN {ws:List Txt} (h: ∀w∈ws,vM w=true):splitW (oI 32 ws)=ws:=by
 unfold splitW;cases ws with
 |nil=>rw[if_pos (show oI 32 []=[] from rfl)]
 |cons w ws=>
  have hne:oI 32 (w::ws)≠[]:=by
   have hw:=(zqc (h w (by simp))).2;cases ws with
   |nil=>exact hw
   |cons v ws=>intro e;simp[oI] at e
  rw[if_neg hne];exact zpT (by simp) fun x hx=>(zqc (h x hx)).1
theorem zqd: ∀(W:List (List Txt)) (i:Nat),(∀w∈W,1<=w.length)-> ∀s∈(pick W i).1,∃w∈W,s∈w
 |[],_,_,s,hs=>by simp[pick] at hs
 |w::W,i,h,s,hs=>by
  rw[pick,ZH] at hs;rcases hs with rfl|hs
  ·have hw:=h w (by simp)
   have hm:(pick W i).2 % w.length<w.length:=Xj _ (by omega);rw[Zi,Zh hm];exact⟨w,by simp,Zy hm⟩
  ·obtain⟨x,hx,hs⟩:=zqd W i (fun y hy=>h y (Zz _ hy)) s hs
   exact⟨x,Zz _ hx,hs⟩
theorem zqO {d:Dcm} (hd:DcmS d) (h:docE d=0) {f:Fld} (hf:f∈d.flds) {t:Txt} (ht:zph f t):(splitW t).length<=8/\(splitW t).all vM=true:=by
 have hR:=oM hd h;obtain⟨k,hk,rfl⟩:=Y5 hf;obtain⟨f1,f2,f3,f4⟩:=bE hk (hR.s.fl _ hf) (hR.fe k hk);obtain⟨i,_,rfl⟩:=ht;have hv: ∀s∈(pick d.flds[k].words i).1,vM s=true:=fun s hs=>by
  obtain⟨w,hw,hs⟩:=zqd _ i (fun w hw=>(f1.sp w hw).1) s hs;exact Zw.1 (bC (f4 w hw)).2.2.1 s hs
 unfold vX;rw[zqN hv,bO];exact⟨f1.ws,Zw.2 hv⟩
theorem zqP {l:List Fld} {i:Nat} (hi:i<l.length) (h1:nameP l[i].name=true) (h2:((l.map Fld.name).take i).any (fun n=>decide (n=l[i].name))=false) (h3:l[i].words.length<=8) (h4: ∀w∈l[i].words,wI w=0):wN l i=0:=by
 have hgd:l.getD i yT=l[i]:=by rw[Zi,Zh hi];rfl
 unfold wN;simp only[hgd];rw[if_pos h1,if_neg,if_neg (by omega)]
 ·refine zpp fun k hk=>?_
  rw[ZU,Zi,Zh hk];exact h4 _ (Zy hk)
 ·rw[<-Xm,List.any_map] at h2
  rw[Bool.not_eq_true];exact h2
theorem zqQ {s:Txt} (h:vM s=true):wI [s]=0:=by
 unfold wI;rw[if_neg (by simp),if_neg (by simp),if_pos (by simp[h]),if_neg (by simp[rZ])]
theorem zqe (d:Dcm) (k:Nat) (ws:List Txt):(zo8 d k ws).flds.map Fld.name=d.flds.map Fld.name:=by
 show(d.flds.set k _).map Fld.name=_;rw[List.map_set];apply List.ext_getElem?;intro j;rw[List.getElem?_set];split
 ·rename_i e
  subst e;split
  ·rename_i hk
   simp only[Zg] at hk;rw[Zv,Zh hk,Zi,Zh hk];rfl
  ·rename_i hk
   simp only[Zg] at hk;rw[Zv,Y2 (by omega)];rfl
 ·rfl
theorem zqR {d:Dcm} (hd:DcmS d) (h:docE d=0) {k:Nat} (hk:k<d.flds.length) {ws:List Txt} (h8:ws.length<=8) (hv: ∀w∈ws,vM w=true):DcmS (zo8 d k ws)/\docE (zo8 d k ws)=0:=by
 have hR:=oM hd h;have hlen:(zo8 d k ws).flds.length=d.flds.length:=YY;have hgk:d.flds.getD k yT=d.flds[k]:=by rw[Zi,Zh hk];rfl
 have hat: ∀i (hi:i<d.flds.length) (hi2:i<(zo8 d k ws).flds.length),(zo8 d k ws).flds[i]=if i=k then⟨d.flds[i].name,zo4 ws⟩ else d.flds[i]:=fun i hi hi2=>by
  refine(List.getElem_of_eq (show(zo8 d k ws).flds=d.flds.set k ⟨(d.flds.getD k yT).name,zo4 ws⟩ from rfl) hi2).trans ?_;rw[List.getElem_set];by_cases e:k=i
  ·subst e;rw[if_pos rfl,if_pos rfl,hgk]
  ·rw[if_neg e,if_neg (Ne.symm e)]
 have hw: ∀w∈zo4 ws,∃s,vM s=true/\w=[s]:=fun w hw=>by
  obtain⟨s,hs,rfl⟩:=ZS.1 hw;exact⟨s,hv s hs,rfl⟩
 constructor
 ·refine⟨hd.kd,by rw[hlen];exact hd.fs,fun f hf=>?_⟩
  obtain⟨i,hi,rfl⟩:=Y5 hf;rw[hlen] at hi;rw[hat i hi];have hF:=hd.fl _ (Zy hi);split
  ·refine⟨hF.nm,by show(zo4 ws).length<=_;unfold zo4;rw[Zg];omega,fun w h2=>?_⟩
   obtain⟨s,hs,rfl⟩:=hw w h2;have:=zm0 hs;exact⟨by simp,fun x hx=>by rw[ZX.1 hx];omega⟩
  ·exact hF
 ·unfold docE
  rw[show(zo8 d k ws).kind=d.kind from rfl,if_pos hR.kd,hlen,if_neg (by have:=hR.fs;omega)];refine zpp fun i hi=>?_
  rw[ZU];have hi2:i<(zo8 d k ws).flds.length:=by rw[hlen];exact hi
  obtain⟨f1,f2,f3,f4⟩:=bE hi (hd.fl _ (Zy hi)) (hR.fe i hi);have e:=hat i hi hi2;have hnm:(zo8 d k ws).flds[i].name=d.flds[i].name:=by rw[e];split<;>rfl
  refine zqP hi2 (by rw[hnm];exact f2) ?_ ?_ ?_
  ·rw[zqe,hnm,<-Xm,List.any_map]
   exact f3
  ·rw[e]
   split
   ·show(zo4 ws).length<=8;unfold zo4;rw[Zg];exact h8
   ·exact f1.ws
  ·rw[e]
   split
   ·intro w h2
    obtain⟨s,hs,rfl⟩:=hw w h2;exact zqQ hs
   ·exact f4
theorem zqf: ∀{l:List Fld} {ts:List Txt} (k:Nat) {g:Fld} {t:Txt},zpe l ts->zph g t->zpe (l.set k g) (ts.set k t)
 |[],[],_,_,_,_,_=>trivial
 |_::_,_::_,0,_,_,h,hg=>⟨hg,h.2⟩
 |_::_,_::_,k+1,_,_,h,hg=>⟨h.1,zqf k h.2 hg⟩
 |[],_::_,_,_,_,h,_=>h.elim
 |_::_,[],_,_,_,h,_=>h.elim
theorem zqg: ∀{l:List Fld} {ts:List Txt} (k:Nat),zpe l ts->k<l.length->zph (l.getD k yT) (ts.getD k [])
 |_::_,_::_,0,h,_=>h.1
 |_::_,_::_,k+1,h,hk=>zqg (l:=_) k h.2 (by simpa using hk)
 |[],_,_,_,hk=>by simp at hk
 |_::_,[],_,h,_=>h.elim
theorem zqh: ∀{l:List Fld} {ts:List Txt},zpe l ts->ts.length=l.length
 |[],[],_=>rfl
 |_::_,_::_,h=>by rw[Zn,zqh h.2,Zn]
 |[],_::_,h=>h.elim
 |_::_,[],h=>h.elim
def zpJ (p:Pln) (k:Nat) (t:Txt):Pln:=⟨p.kind,p.names,p.texts.set k t⟩
theorem zqS {d:Dcm} {k:Nat} {p:Pln} (h:posP d p) (ws:List Txt):posP (zo8 d k ws) (zpJ p k (oI 32 ws)):=
 ⟨h.1,by rw[zqe];exact h.2,zqf k h.3 (zqL.2 rfl)⟩
theorem zqi: ∀{D:List Dcm} {P:List Pln} (k:Nat) {d:Dcm} {p:Pln},zpb D P->posP d p->zpb (D.set k d) (P.set k p)
 |[],[],_,_,_,_,_=>trivial
 |_::_,_::_,0,_,_,h,hg=>⟨hg,h.2⟩
 |_::_,_::_,k+1,_,_,h,hg=>⟨h.1,zqi k h.2 hg⟩
 |[],_::_,_,_,_,h,_=>h.elim
 |_::_,[],_,_,_,h,_=>h.elim
theorem zpK: ∀{D:List Dcm} {P:List Pln} (k:Nat),zpb D P->k<D.length->posP (D.getD k zpa) (P.getD k ⟨[],[],[]⟩)
 |_::_,_::_,0,h,_=>h.1
 |_::_,_::_,k+1,h,hk=>zpK (D:=_) k h.2 (by simpa using hk)
 |[],_,_,_,hk=>by simp at hk
 |_::_,[],_,h,_=>h.elim
theorem zpL: ∀{D:List Dcm} {P:List Pln},zpb D P->P.length=D.length
 |[],[],_=>rfl
 |_::_,_::_,h=>by rw[Zn,zpL h.2,Zn]
 |[],_::_,h=>h.elim
 |_::_,[],h=>h.elim
end Go.Ex
