/- A part of the proof; the last text states what is proved. -/
import Derived.Test.YtpmicgjdckeejaaGreatDoorP3
import Derived.WalkKit
import Derived.RangeFuncWrites
import Derived.RangeFuncNested
import Derived.Below
import Derived.RangeFuncBox
import Derived.RangeFuncLeaves
import Derived.Shelf.Abstract
import Derived.OwnWalkIn
import Derived.TacticsInMore
import Derived.LoopNIn
import Derived.LoopIn
import Derived.Test.YtpmicgjdckeejaaGreatDoorProg
import Derived.BigCall
import Derived.Deep.LoopGhost
import Derived.Shelf.Strings.BuilderK
import Derived.Shelf.Strings.Builder2
import Derived.Shelf.Strings.Split
import Derived.Shelf.Strings.Builder1
import Derived.Deep.QuietTactic
import Derived.BigQuiet
import Derived.Maps.AppendAt
import Derived.Deep.AppendSrc
import Derived.RangeFuncRecord
import Derived.RangeFuncBound
import Derived.RangeFuncCalls
import Derived.Laws.MakeOwn
import Derived.Deep.RegionHeld3
import Derived.OrdersHeld
import Derived.OrdersIn
import Derived.TacticsIn
import Derived.Laws.Rows
set_option linter.unusedVariables false
set_option linter.unusedSimpArgs false
set_option maxRecDepth 100000
set_option maxHeartbeats 8000000
open Array renaming eq_empty_of_size_eq_zero → YT,getElem?_append_left → Y2,getElem?_eq_getElem → Yg,getElem?_eq_some_iff → Zs,getElem?_modify → Xv,getElem?_push → YP,getElem?_setIfInBounds → Ys,getElem?_toList → YE,replicate → YS,replicate_succ → YV,replicate_zero → YU
open Bool renaming and_assoc → X4,and_eq_true → Zp,and_false → Yo,and_true → Y9,eq_false_iff → Yj,eq_iff_iff → Ye,false_and → ZF,false_eq_true → Ya,false_or → Yd,not_eq_true' → YL,not_false → Yu,not_true → YH,or_eq_true → Yi,or_false → YQ,or_true → Xd,true_and → ZC,true_or → YI
open Eq renaming refl → ZR,trans → Z1
open Iff renaming rfl → X7
open Int renaming natCast_ediv → X2,natCast_mul → Yq,ofNat_tdiv → XS,ofNat_tmod → XJ,reduceBNe → Yw,reduceLE → Yy,reduceLT → Xy,reduceNeg → Yp,toNat_natCast → Ym,toNat_zero → Wb
open List renaming all_cons → Yz,all_eq_false → YK,all_eq_true → Zt,all_nil → Xu,any_eq_true → Yx,append_assoc → Z3,append_nil → Zi,append_toArray → Y1,cons_append → ZT,drop_eq_getElem_cons → Zx,drop_eq_nil_of_le → ZE,eq_nil_of_length_eq_zero → Yn,exists_mem_of_ne_nil → Xp,filter_append → Y6,filter_cons → Xn,filter_nil → XK,flatten_cons → YR,foldl_append → XI,foldl_cons → YZ,getD_eq_getElem?_getD → Zm,getElem?_append_left → ZG,getElem?_drop → YG,getElem?_eq_getElem → Zk,getElem?_eq_none → XL,getElem?_eq_some_iff → Zw,getElem?_map → ZD,getElem?_take → ZZ,getElem?_toArray → Xh,getElem_mem → Zv,getElem_of_mem → XP,length_append → Zr,length_cons → Zu,length_filter_le → Yr,length_map → Ze,length_nil → ZK,length_pos_iff → Yl,length_take → Yk,map_append → ZV,map_cons → Zj,map_nil → Zo,map_take → X6,mem_append → Yt,mem_cons → ZB,mem_cons_of_mem → ZH,mem_cons_self → Yv,mem_filter → Z8,mem_map → ZL,mem_of_getElem? → ZM,mem_range → Yb,mem_singleton → Z9,nil_append → Z7,nodup_cons → ZJ,not_mem_nil → Zq,pairwise_cons → Xc,push_toArray → Y7,range' → YX,range_succ → YY,setIfInBounds_toArray → ZP,set_cons_succ → Z6,set_cons_zero → Z5,size_toArray → YJ,take_length → Yh,take_of_length_le → ZU,take_succ_eq_append_getElem → Zz
open List.Pairwise renaming nil → Xx
open List.Perm renaming refl → XF
open Nat renaming add_assoc → YM,add_comm → Y4,add_zero → YC,div_le_self → Xk,eq_of_mul_eq_mul_right → X8,eq_of_testBit_eq → XE,le_of_not_lt → XC,le_refl → ZA,le_trans → ZX,lt_of_lt_of_le → ZO,lt_or_ge → Y3,min_eq_left → Y8,mod_lt → XH,mul_comm → Wi,mul_le_mul → XG,mul_le_mul_right → ZY,mul_one → Y5,one_shiftLeft → X0,pow_le_pow_right → ZW,pow_succ → Wh,reduceAdd → Zb,reduceBEq → Za,reduceEqDiff → Zn,reduceLT → ZN,reduceLeDiff → Zd,reduceMul → Yf,reduceSub → Xr,sub_zero → XZ,succ_mul → Xw,testBit_and → XM,testBit_lt_two_pow → Wg,testBit_or → XR,zero_add → Z4,zero_le → Zy,zero_testBit → YW
open Option renaming getD_some → Xs,map_eq_some_iff → Zf,map_some → YF
open Option.some renaming inj → YA
namespace Go.Proofs
open Go.Shelf Go.RowKit Go.Lib Go.Wd Go.Wire Go.Ex
def uS (r:Nat):Bool:=decide (r<33)||decide (r>126)
theorem zoo (r:Nat) (W:World):FnGives Tryz.prog 98 #[] #[encR r] (.bool (uS r)) W:=by
 show Calls Tryz.prog 98 #[.int .i32 (r:Int)] W _;by_cases h1:r<33
 ·have c1:(r:Int)<33:=by omega
  have e:uS r=true:=by simp[uS,h1]
  rw[e]
  go_enter Tryz.func98,Tryz.ntmps98
  go_wp2
  go_ret
  exact⟨rfl,0,rfl⟩
 ·have c1: ¬(r:Int)<33:=by omega
  by_cases h2:r>126
  ·have c2:(r:Int)>126:=by omega
   have e:uS r=true:=by simp[uS,h1,h2]
   rw[e]
   go_enter Tryz.func98,Tryz.ntmps98
   go_wp2
   go_ret
   exact⟨rfl,0,rfl⟩
  ·have c2: ¬(r:Int)>126:=by omega
   have e:uS r=false:=by simp[uS,h1,h2]
   rw[e]
   go_enter Tryz.func98,Tryz.ntmps98
   go_wp2
   go_ret
   exact⟨rfl,0,rfl⟩
theorem zop (s:ByteArray) (i:Nat) (h:(s.get! i).toNat<128):Utf8.decode s i=((s.get! i).toNat,1):=by
 unfold Utf8.decode;simp only[YC];rw[if_pos h]
theorem zoq (s:ByteArray) (i:Nat) (h: ¬(s.get! i).toNat<128):128<=(Utf8.decode s i).1:=by
 unfold Utf8.decode Utf8.runeError;simp only[YC,Zp,decide_eq_true_eq]
 repeat' split
 all_goals simp only
 all_goals omega
theorem zor (s:Txt) (i:Nat) (h:i<s.length):(⟨s.toArray⟩:ByteArray).get! i=s[i]:=by
 show(s.toArray)[i]! =s[i];simp[h]
theorem zi4 (s:Txt): ∀(f pos:Nat),s.length-pos<=f->(Lib.idxFuncFrom uS true ⟨s.toArray⟩ f pos<0 ↔ (s.drop pos).all uF=true)
 |0,pos,h=>by
  rw[ZE (by omega)];simp[Lib.idxFuncFrom]
 |f+1,pos,h=>by
  unfold Lib.idxFuncFrom;have hs:(⟨s.toArray⟩:ByteArray).size=s.length:=rfl;rw[hs];by_cases hp:pos<s.length
  ·rw[if_pos hp,Zx hp,Yz,Zp]
   have hg:=zor s pos hp;by_cases h8:(s[pos]).toNat<128
   ·rw[zop _ _ (by rw[hg];exact h8),hg]
    by_cases hb:uS (s[pos]).toNat=true
    ·rw[if_pos hb]
     have: ¬uF s[pos]=true:=fun q=>by
      unfold uF at q;unfold uS at hb;rw[decide_eq_true_eq] at q;rw[Yi,decide_eq_true_eq,decide_eq_true_eq] at hb;omega
     exact⟨fun q=>absurd q (by omega),fun q=>absurd q.1 this⟩
    ·rw[if_neg hb]
     have:uF s[pos]=true:=by
      unfold uF;unfold uS at hb;rw[Yi,decide_eq_true_eq,decide_eq_true_eq] at hb;rw[decide_eq_true_eq];omega
     rw[zi4 s f (pos+1) (by omega)];exact⟨fun q=>⟨this,q⟩,fun q=>q.2⟩
   ·have hd:=zoq ⟨s.toArray⟩ pos (by rw[hg];exact h8)
    have hb:uS (Utf8.decode ⟨s.toArray⟩ pos).1=true:=by
     unfold uS;rw[Yi,decide_eq_true_eq,decide_eq_true_eq];omega
    rw[if_pos hb];have: ¬uF s[pos]=true:=fun q=>by
     unfold uF at q;rw[decide_eq_true_eq] at q;omega
    exact⟨fun q=>absurd q (by omega),fun q=>absurd q.1 this⟩
  ·rw[if_neg hp,ZE (by omega)]
   simp
end Go.Proofs
namespace Go.Abs
open Go.Proofs Go.RowKit Go.Lib Go.Wd Go.Wire Go.Ex
def sigI (s:Txt):Int:=Lib.idxFunc uS true ⟨s.toArray⟩
theorem zos (s:Txt):sigI s<0 ↔ s.all uF=true:=zi4 s s.length 0 (by omega)
theorem c97 (s:Txt):Spec Tryz.prog 97 [.str s,.k (.c (.fn 98 []))] (fun v=>v=.int .i64 (sigI s)):=by
 refine⟨rN (by kernel_rfl),fun w Z vs hG hz ha=>?_⟩;obtain⟨vl⟩:=vs
 match vl,ha with
 |[],ha=>exact absurd ha.1 (by simp)
 |[_],ha=>exact absurd ha.1 (by simp)
 |_::_::_::_,ha=>exact absurd ha.1 (by simp)
 |[v,v2],ha=>
  have e1:=tM (ha.2 0 _ v rfl rfl).2.2;subst e1;have h2:PRep w Z (.fn 98 []) v2:=(ha.2 1 _ v2 rfl rfl).2.2;obtain⟨lb,rfl,hlb⟩: ∃lb:Array Value,v2=.func (.func 98) #[] lb/\lb.size=0:=by
   cases h2 with
   |fn _ _ vs _ hs _ _=>exact⟨vs,rfl,hs⟩
  obtain rfl:lb= #[]:=YT hlb;refine(Any.strings_IndexFunc Tryz.laysIdxF 98 #[] (enters_of Tryz.func98 (by kernel_rfl) rfl) uS ⟨s.toArray⟩ w (fun W x _=>zoo x W)).mono ?_;rintro e w' ⟨rfl,hb⟩;exact⟨_,_,rfl,rfl,fun _=>rfl,oO hG (wB hb) (fun _=>rfl) (fun _=>⟨rfl,.int _ _⟩)⟩
theorem c59 (s:Txt):Spec Tryz.prog 59 [.str s] (fun v=>v=.bool (uG s)):=by
 refine Spec.of_awlS hf59 okf59 (by simp) fun S hS=>?_
 have g:=c97 s;have hn:=zos s;generalize sigI s=k at g hn;unfold uG at hS;simp only[Qs,Za,Ψ59];refine⟨fun q=>?_,fun q=>⟨fun h20=>?_,fun h20=>?_⟩⟩
 ·rw[decide_eq_false (fun z=>z q)] at hS;exact hS
 ·refine zD g ?_ (ha:=by rfl)
  rw[decide_eq_true q,decide_eq_true (by omega),ZC,ZC] at hS;simp only[Qs,Za];exact wQ hS (by rw[decide_eq_true_eq,hn])
 ·rw[decide_eq_true q,decide_eq_false (by omega)] at hS;exact hS
theorem zot (s:Txt) (hl:s.length<=9223372036854775807):Spec Tryz.prog 129 [.str s] (fun v=>v=.bool (!uG s)):=by
 refine Spec.of_awlS hf129 okf129 (by simp) fun S hS=>?_
 simp only[Qs,Za,Ψ129];refine zD (c59 s) ?_ (ha:=by rfl);simp only[Qs];exact hS
def fstN {α:Type} (p:α->Bool):List α->Nat->Int
 |[],_=> -1
 |x::l,i=>if p x=true then(i:Int) else fstN p l (i+1)
theorem oQ {α:Type} {p:α->Bool} {l:List α} {i:Nat} (h:i<l.length):fstN p (l.drop i) i=if p l[i]=true then(i:Int) else fstN p (l.drop (i+1)) (i+1):=by
 rw[Zx h,fstN]
theorem oR {α:Type} {p:α->Bool}: ∀(l:List α) (i:Nat),fstN p l i>=0 ↔ l.any p=true
 |[],i=>by simp[fstN]
 |x::l,i=>by
  rw[fstN,List.any_cons];by_cases h:p x=true
  ·rw[if_pos h,h];simp
  ·rw[if_neg h,oR l (i+1)];simp[h]
theorem c96 {g:Nat} {p:Txt->Bool} (l:List Txt) (hg: ∀s∈l,Spec Tryz.prog g [.str s] (fun v=>v=.bool (p s))) (hl:l.length<=9223372036854775807):Spec Tryz.prog 96 [lst 1 (zK l),.k (.c (.fn g []))] (fun v=>v=.int .i64 (fstN p l 0)):=by
 refine Spec.of_awlS hf96 okf96 (by simp) fun S hS=>?_
 simp only[zQ,Qs,Zb,Za,Ψ96];rw[uu f96l17.eq_1];refine zO (fun i:Nat=>[(0,lst 1 (zK l)),(1,.k (.c (.fn g []))),(7,.int .i64 l.length),(8,.int .i64 i)]) (fun _=>[]) (fun i=>i<=l.length/\fstN p (l.drop i) i=fstN p l 0) (fun i=>l.length-i) 0 rfl rfl ⟨Zy _,by simp⟩ ?_;rintro i ⟨hi,hD⟩;by_cases hlt:i<l.length
 ·have c1:(i:Int)<l.length:=by omega
  have c4:IntKind.i64.wrap ((i:Int)+1)=(i:Int)+1:=wrap_in (by omega) (by omega);have gi:=hg l[i] (Zv hlt);rw[oQ hlt] at hD;simp only[c1,zQ,vU hlt,Qs,oI,Za,Ψ96];refine rM gi ?_ (ha:=by rfl);cases hp:p l[i] with
  |true=>
   rw[if_pos hp] at hD;rw[<-hD] at hS;simp only[Qs,Za,Ψ96];exact hS
  |false=>
   rw[if_neg (by rw[hp];simp)] at hD;simp only[c4,Qs,Za,Ψ96];exact Next.intro (i+1) rfl rfl ⟨by omega,hD⟩ (by omega)
 ·have c1: ¬(i:Int)<l.length:=by omega
  rw[ZE (by omega)] at hD;rw[<-hD] at hS;simp only[c1,Qs,Yp,Za,Ψ96];exact hS
theorem c57 {g:Nat} {p:Txt->Bool} (l:List Txt) (hg: ∀s∈l,Spec Tryz.prog g [.str s] (fun v=>v=.bool (p s))) (hl:l.length<=9223372036854775807):Spec Tryz.prog 57 [lst 1 (zK l),.k (.c (.fn g []))] (fun v=>v=.bool (l.any p)):=by
 refine Spec.of_awlS hf57 okf57 (by simp) fun S hS=>?_
 have g1:=c96 l hg hl;have hp:=oR (p:=p) l 0;generalize fstN p l 0=x at g1 hp;simp only[Qs,Zb,Za,Ψ57];refine zD g1 ?_ (ha:=by simp only[Zj,Zo,zC,V.norm,zI,C.norm,yM]<;>rfl);simp only[Qs];refine wQ hS ?_;rw[decide_eq_true_eq];exact hp
theorem c40 (l:List Txt) (s:Txt) (hl:l.length<=9223372036854775807):Spec Tryz.prog 40 [lst 1 (zK l),.str s] (fun v=>v=.int .i64 (fstN (fun x=>decide (s=x)) l 0)):=by
 refine Spec.of_awlS hf40 okf40 (by simp) fun S hS=>?_
 simp only[zQ,Qs,Zb,Za,Ψ40];rw[uu f40l17.eq_1];refine zO (fun i:Nat=>[(0,lst 1 (zK l)),(1,.str s),(7,.int .i64 l.length),(8,.int .i64 i)]) (fun _=>[]) (fun i=>i<=l.length/\fstN (fun x=>decide (s=x)) (l.drop i) i=fstN (fun x=>decide (s=x)) l 0) (fun i=>l.length-i) 0 rfl rfl ⟨Zy _,by simp⟩ ?_;rintro i ⟨hi,hD⟩;by_cases hlt:i<l.length
 ·have c1:(i:Int)<l.length:=by omega
  have c4:IntKind.i64.wrap ((i:Int)+1)=(i:Int)+1:=wrap_in (by omega) (by omega);rw[oQ hlt] at hD;by_cases he:s=l[i]
  ·have e1:(s==l[i])=true:=by simpa using he
   rw[if_pos (decide_eq_true he)] at hD;rw[<-hD] at hS;simp only[c1,e1,zQ,vU hlt,Qs,Za,Ψ40];exact hS
  ·have e1:(s==l[i])=false:=by simpa using he
   rw[if_neg (by rw[decide_eq_false he];simp)] at hD;simp only[c1,c4,e1,zQ,vU hlt,Qs,Za,Ψ40];exact Next.intro (i+1) rfl rfl ⟨by omega,hD⟩ (by omega)
 ·have c1: ¬(i:Int)<l.length:=by omega
  rw[ZE (by omega)] at hD;rw[<-hD] at hS;simp only[c1,Qs,Yp,Za,Ψ40];exact hS
theorem zou (l:List Txt) (s:Txt) (hl:l.length<=9223372036854775807):Spec Tryz.prog 130 [lst 1 (zK l),.str s] (fun v=>v=.bool (decide (s∈l))):=by
 refine Spec.of_awlS hf130 okf130 (by simp) fun S hS=>?_
 have g1:=c40 l s hl;have hp:=oR (p:=fun x=>decide (s=x)) l 0;generalize fstN (fun x=>decide (s=x)) l 0=x at g1 hp;simp only[Qs,Zb,Za,Ψ130];refine zD g1 ?_ (ha:=by simp only[Zj,Zo,zC,V.norm,zI,C.norm,yM]<;>rfl);simp only[Qs];refine wQ hS ?_;rw[decide_eq_true_eq,decide_eq_true_eq,hp,Yx];simp
theorem zov (l:List Txt) (i:Nat):(zK l).take i=zK (l.take i):=by simp[zK,X6]
theorem zaW (l:List Txt) (i:Nat):qT l (i+1)=(qT l i||decide (l.getD i []∈l.take i)):=rfl
theorem zi5 (l:List Txt): ∀{i j:Nat},i<=j->qT l i=true->qT l j=true:=fun{i j} h=>by
 induction h with
 |refl=>exact id
 |step _ ih=>intro q;rw[zaW,ih q];rfl
theorem c95 (l:List Txt) (hw: ∀s∈l,s.length<=9223372036854775807) (hl:l.length<=9223372036854775807):Spec Tryz.prog 95 [.agg [zF 1 (zK l)]] (fun v=>v=.int .i64 (vD l)):=by
 refine Spec.of_awlS hf95 okf95 (by simp) fun S hS=>?_
 unfold vD at hS;by_cases h4:l.length>4
 ·rw[if_pos h4] at hS
  have c1:(l.length:Int)>4:=by omega
  simp only[zQ,c1,Qs,Za,Ψ95];exact hS
 rw[if_neg h4] at hS;have c1: ¬(l.length:Int)>4:=by omega
 by_cases h0:l=[]
 ·rw[if_pos h0] at hS
  have c2:((l.length:Int)==0)=true:=by simp[h0]
  simp only[zQ,c1,c2,Qs,Za,Ψ95];exact hS
 rw[if_neg h0] at hS;have c2:((l.length:Int)==0)=false:=by
  have:=Yl.2 h0;exact beq_false_of_ne (by omega)
 have g1:=c57 (g:=129) (p:=fun s=> !uG s) l (fun s hs=>zot s (hw s hs)) hl;by_cases hv:l.all uG=true
 ·have ha:(l.any fun s=> !uG s)=false:=by
   rw[List.any_eq_false];intro x hx;have:=Zt.1 hv x hx;simp[this]
  rw[if_pos hv] at hS;rw[ha] at g1;simp only[zQ,c1,c2,Qs,Za,Ψ95];refine zD g1 ?_ (ha:=by simp only[Zj,Zo,zC,V.norm,zI,C.norm,yM]<;>rfl);simp only[zQ,Qs,Za,Ψ95];rw[uu f95l17.eq_1];refine zO (fun i:Nat=>[(3,lst 1 (zK l)),(19,.int .i64 l.length),(20,.int .i64 i)]) (fun _=>[]) (fun i=>i<=l.length/\qT l i=false) (fun i=>l.length-i) 0 rfl rfl ⟨Zy _,rfl⟩ ?_;rintro i ⟨hi,hD⟩;by_cases hlt:i<l.length
  ·have d1:(i:Int)<l.length:=by omega
   have c4:IntKind.i64.wrap ((i:Int)+1)=(i:Int)+1:=wrap_in (by omega) (by omega);have gc:=zou (l.take i) l[i] (by rw[Yk];omega);have hgd:l.getD i []=l[i]:=by rw[Zm,Zk hlt];rfl
   have hsu:=zaW l i;rw[hD,hgd,Yd] at hsu;simp only[d1,c4,zQ,vU hlt,zov,Qs,znO,eL,nQ,lR,lS,iB,Za,lV,lW,Yy,Ψ95];refine⟨by omega,?_⟩;refine xI gc ?_ (ha:=by simp only[Zj,Zo,zC,V.norm,C.norm,yM]<;>rfl);by_cases hm:l[i]∈l.take i
   ·rw[decide_eq_true hm] at hsu
    rw[if_pos (zi5 l (by omega:i+1<=l.length) hsu)] at hS;simp only[decide_eq_true hm,Qs,Ψ95];exact hS
   ·rw[decide_eq_false hm] at hsu
    simp only[decide_eq_false hm,c4,Qs,Za,Ψ95];exact Next.intro (i+1) rfl rfl ⟨by omega,hsu⟩ (by omega)
  ·have d1: ¬(i:Int)<l.length:=by omega
   obtain rfl:i=l.length:=by omega
   rw[if_neg (by rw[hD];simp)] at hS;simp only[d1,Qs,Za,Ψ95];exact hS
 ·have ha:(l.any fun s=> !uG s)=true:=by
   rw[Yx];obtain⟨x,hx,hq⟩:=YK.1 (Yj.2 hv);exact⟨x,hx,by simpa using hq⟩
  rw[if_neg hv] at hS;rw[ha] at g1;simp only[zQ,c1,c2,Qs,Za,Ψ95];refine zD g1 ?_ (ha:=by simp only[Zj,Zo,zC,V.norm,zI,C.norm,yM]<;>rfl);simp only[Qs,Ψ95];exact hS
def wH (w:List Txt):List C:=[zF 1 (zK w)]
def zW (f:Fld):List C:=[.str f.name,zF 1 (f.words.map wH)]
def zV (d:Dcm):List C:=[.str d.kind,zF 2 (d.flds.map zW)]
@[simp] theorem qF (w:List Txt):C.normRow (wH w)=wH w:=by simp only[wH,C.normRow,zI,yM]
@[simp] theorem wS (f:Fld):C.normRow (zW f)=zW f:=by
  simp only[zW,C.normRow,zS qF];rfl
@[simp] theorem yN (d:Dcm):C.normRow (zV d)=zV d:=by
  simp only[zV,C.normRow,zS wS];rfl
theorem lY {l:List (List Txt)} {i:Nat} (h:i<l.length):(l.map wH).getD i []=[zF 1 (zK l[i])]:=by simp[wH,h]
theorem oS {l:List Fld} {i:Nat} (h:i<l.length):(l.map zW).getD i []=[.str l[i].name,zF 1 (l[i].words.map wH)]:=by simp[zW,h]
structure FldS (f:Fld):Prop where
 nm:f.name.length<=9223372036854775807
 ws:f.words.length<=9223372036854775807
 sp: ∀w∈f.words,w.length<=9223372036854775807/\ ∀s∈w,s.length<=9223372036854775807
structure DcmS (d:Dcm):Prop where
 kd:d.kind.length<=9223372036854775807
 fs:d.flds.length<=9223372036854775807
 fl: ∀f∈d.flds,FldS f
theorem c94 (f g:Fld):Spec Tryz.prog 94 [.agg (zW g),.k (.c (.ro (zW f) 0))] (fun v=>v=.bool (decide (g.name=f.name))):=by
 refine Spec.of_awlS hf94 okf94 (by simp) fun S hS=>?_
 unfold zW;simp only[Qs,Zb,Zd,Za,Ψ94];refine wQ hS ?_;simp
theorem zow (f:Fld) (l:List Fld) (hl:l.length<=9223372036854775807):Spec Tryz.prog 128 [lst 2 (l.map zW),.k (.c (.fn 94 [.ro (zW f) 0]))] (fun v=>v=.int .i64 (fstN (fun g=>decide (g.name=f.name)) l 0)):=by
 refine Spec.of_awlS hf128 okf128 (by simp) fun S hS=>?_
 simp only[zB,Qs,Zb,Za,Ze,Ψ128];rw[uu f128l17.eq_1];refine zO (fun i:Nat=>[(0,lst 2 (l.map zW)),(1,.k (.c (.fn 94 [.ro (zW f) 0]))),(7,.int .i64 l.length),(8,.int .i64 i)]) (fun _=>[]) (fun i=>i<=l.length/\fstN (fun g=>decide (g.name=f.name)) (l.drop i) i=fstN (fun g=>decide (g.name=f.name)) l 0) (fun i=>l.length-i) 0 rfl rfl ⟨Zy _,by simp⟩ ?_;rintro i ⟨hi,hD⟩;by_cases hlt:i<l.length
 ·have c1:(i:Int)<l.length:=by omega
  have c4:IntKind.i64.wrap ((i:Int)+1)=(i:Int)+1:=wrap_in (by omega) (by omega);have gi:=c94 f l[i];rw[oQ hlt] at hD;simp only[c1,zB,oS hlt,Qs,oI,Za,Ze,Ψ128];refine rM gi ?_ (ha:=by simp only[Zj,Zo,ZT,Z7,zC,V.norm,C.norm,wS,zW,C.normRow,zS qF]<;>rfl);by_cases he:l[i].name=f.name
  ·rw[if_pos (decide_eq_true he)] at hD
   rw[<-hD] at hS;simp only[decide_eq_true he,Qs,Za,Ψ128];exact hS
  ·rw[if_neg (by rw[decide_eq_false he];simp)] at hD
   simp only[decide_eq_false he,c4,Qs,Za,Ψ128];exact Next.intro (i+1) rfl rfl ⟨by omega,hD⟩ (by omega)
 ·have c1: ¬(i:Int)<l.length:=by omega
  rw[ZE (by omega)] at hD;rw[<-hD] at hS;simp only[c1,Qs,Yp,Za,Ψ128];exact hS
theorem c93 (f:Fld) (l:List Fld) (hl:l.length<=9223372036854775807):Spec Tryz.prog 93 [lst 2 (l.map zW),.k (.c (.fn 94 [.ro (zW f) 0]))] (fun v=>v=.bool (l.any fun g=>decide (g.name=f.name))):=by
 refine Spec.of_awlS hf93 okf93 (by simp) fun S hS=>?_
 have g1:=zow f l hl;have hp:=oR (p:=fun g:Fld=>decide (g.name=f.name)) l 0;generalize fstN (fun g:Fld=>decide (g.name=f.name)) l 0=x at g1 hp;simp only[Qs,Zb,Za,Ψ93];refine zD g1 ?_ (ha:=by simp only[Zj,Zo,zC,V.norm,C.norm,zS wS,C.normRow,wS]<;>rfl);simp only[Qs];exact wQ hS (by rw[decide_eq_true_eq];exact hp)
theorem lZ {f:Nat->Int} {n i:Nat} (h:i<n):wE f (n-i) i=if f i=0 then wE f (n-(i+1)) (i+1) else f i:=by
 obtain⟨k,hk⟩: ∃k,n-i=k+1:=⟨n-i-1,by omega⟩;rw[hk,show n-(i+1)=k by omega,wE]
theorem zaX (l:List Fld) (i:Nat):(l.map zW).take i=(l.take i).map zW:=by simp[X6]
theorem c55 (d:Dcm) (hd:DcmS d):Spec Tryz.prog 55 [.agg (zV d)] (fun v=>v=.int .i64 (xC d)):=by
 refine Spec.of_awlS hf55 okf55 (by simp) fun S hS=>?_
 have g1:=c92 d.kind hd.kd;have hfs:=hd.fs;unfold xC at hS;unfold zV;cases hk:nameP d.kind with
 |false=>
  rw[hk] at g1;rw[if_neg (by rw[hk];simp)] at hS;simp only[Qs,Zb,Zd,Za,Ψ55];refine zD g1 ?_ (ha:=by rfl);simp only[Qs,Ψ55];exact hS
 |true=>
  rw[hk] at g1;rw[if_pos hk] at hS;by_cases h12:d.flds.length>12
  ·rw[if_pos h12] at hS
   have c1:(d.flds.length:Int)>12:=by omega
   simp only[Qs,Zb,Zd,Za,Ψ55];refine zD g1 ?_ (ha:=by rfl);simp only[zB,c1,Qs,Zb,Za,Ze,Ψ55];exact hS
  ·rw[if_neg h12] at hS
   have c1: ¬(d.flds.length:Int)>12:=by omega
   simp only[Qs,Zb,Zd,Za,Ψ55];refine zD g1 ?_ (ha:=by rfl);simp only[zB,c1,Qs,Zb,Za,Ze,Ψ55];rw[uu f55l49.eq_1];refine zO (fun i:Nat=>[(1,.k (.c (.ro [.str d.kind,zF 2 (d.flds.map zW)] 0))),(17,lst 2 (d.flds.map zW)),(18,.int .i64 d.flds.length),(19,.int .i64 i)]) (fun _=>[]) (fun i=>i<=d.flds.length/\wE (vH d.flds) (d.flds.length-i) i=wE (vH d.flds) d.flds.length 0) (fun i=>d.flds.length-i) 0 rfl rfl ⟨Zy _,rfl⟩ ?_;rintro i ⟨hi,hD⟩;by_cases hlt:i<d.flds.length
   ·have d1:(i:Int)<d.flds.length:=by omega
    have c4:IntKind.i64.wrap ((i:Int)+1)=(i:Int)+1:=wrap_in (by omega) (by omega);rw[lZ hlt] at hD;have hat:=oS hlt;have hgd:d.flds.getD i xF=d.flds[i]:=by rw[Zm,Zk hlt];rfl
    have hf:=hd.fl _ (Zv hlt);have hE:vH d.flds i=(if nameP d.flds[i].name=true then(if (d.flds.take i).any (fun g=>decide (g.name=d.flds[i].name))=true then 5 else if d.flds[i].words.length>8 then 6 else wE (fun k=>vD (d.flds[i].words.getD k [])) d.flds[i].words.length 0) else 2):=by
     unfold vH;simp only[hgd]
    generalize d.flds[i]=f at hat hf hE;have g2:=c92 f.name hf.nm;have g3:=c93 f (d.flds.take i) (by rw[Yk];omega);have hbad: ∀e:Int,vH d.flds i=e->e≠0->S (.int .i64 e):=fun e h1 h2=>by
     rw[h1,if_neg h2] at hD;rw[<-hD] at hS;exact hS
    cases hn:nameP f.name with
    |false=>
     rw[hn] at g2;rw[if_neg (by rw[hn];simp)] at hE;simp only[d1,hat,zB,Qs,Zi,Zb,Zd,Za,Ze,Ψ55];refine zD g2 ?_ (ha:=by rfl);simp only[Qs,Ψ55];exact hbad 2 hE (by decide)
    |true=>
     rw[hn] at g2;rw[if_pos hn] at hE;rw[show zW f=[.str f.name,zF 1 (f.words.map wH)] from rfl] at g3;cases ht:(d.flds.take i).any (fun g=>decide (g.name=f.name)) with
     |true=>
      rw[ht] at g3;rw[if_pos ht] at hE;simp only[d1,hat,zB,Qs,Zi,Zb,Zd,Za,Ze,Ψ55];refine zD g2 ?_ (ha:=by rfl);simp only[zaX,zB,Qs,nP,jT,eL,nQ,lR,lS,iB,Zb,Za,lV,lW,Ze,Yy,nU,nV,nW,nX,nY,nZ,mA,Ψ55];refine⟨by omega,?_⟩;refine zD g3 ?_ (ha:=by simp only[Zj,Zo,zC,V.norm,C.norm,C.normRow,zS wS,zS qF,yK wS]<;>rfl);simp only[Qs,Ψ55];exact hbad 5 hE (by decide)
     |false=>
      rw[ht] at g3;rw[if_neg (by rw[ht];simp)] at hE;by_cases h8:f.words.length>8
      ·rw[if_pos h8] at hE
       have d2:(f.words.length:Int)>8:=by omega
       simp only[d1,hat,zB,Qs,Zi,Zb,Zd,Za,Ze,Ψ55];refine zD g2 ?_ (ha:=by rfl);simp only[zaX,zB,Qs,nP,jT,eL,nQ,lR,lS,iB,Zb,Za,lV,lW,Ze,Yy,nU,nV,nW,nX,nY,nZ,mA,Ψ55];refine⟨by omega,?_⟩;refine zD g3 ?_ (ha:=by simp only[Zj,Zo,zC,V.norm,C.norm,C.normRow,zS wS,zS qF,yK wS]<;>rfl);simp only[zB,d2,Qs,Zb,Za,Ze,Ψ55];exact hbad 6 hE (by decide)
      ·rw[if_neg h8] at hE
       have d2: ¬(f.words.length:Int)>8:=by omega
       simp only[d1,hat,zB,Qs,Zi,Zb,Zd,Za,Ze,Ψ55];refine zD g2 ?_ (ha:=by rfl);simp only[zaX,zB,Qs,nP,jT,eL,nQ,lR,lS,iB,Zb,Za,lV,lW,Ze,Yy,nU,nV,nW,nX,nY,nZ,mA,Ψ55];refine⟨by omega,?_⟩;refine zD g3 ?_ (ha:=by simp only[Zj,Zo,zC,V.norm,C.norm,C.normRow,zS wS,zS qF,yK wS]<;>rfl);simp only[zB,d2,Qs,Zb,Za,Ze,Ψ55];rw[uu f55l20.eq_1];refine zO (fun k:Nat=>[(1,.k (.c (.ro [.str d.kind,zF 2 (d.flds.map zW)] 0))),(17,lst 2 (d.flds.map zW)),(18,.int .i64 d.flds.length),(19,.int .i64 i),(42,lst 1 (f.words.map wH)),(43,.int .i64 f.words.length),(44,.int .i64 k)]) (fun _=>[]) (fun k=>k<=f.words.length/\wE (fun k=>vD (f.words.getD k [])) (f.words.length-k) k=vH d.flds i) (fun k=>f.words.length-k) 0 rfl rfl ⟨Zy _,hE.symm⟩ ?_;rintro k ⟨hk2,hD3⟩;by_cases hlk:k<f.words.length
       ·have d3:(k:Int)<f.words.length:=by omega
        have c5:IntKind.i64.wrap ((k:Int)+1)=(k:Int)+1:=wrap_in (by omega) (by omega);have haw:=lY hlk;have hwg:f.words.getD k []=f.words[k]:=by rw[Zm,Zk hlk];rfl
        have hws:=hf.sp _ (Zv hlk);rw[lZ hlk,hwg] at hD3;generalize f.words[k]=w at haw hws hD3;have g4:=c95 w hws.2 hws.1;simp only[d3,haw,zB,Qs,Zi,Za,Ze,Ψ55];refine zD g4 ?_ (ha:=by simp only[Zj,Zo,zC,V.norm,C.norm,C.normRow,zI,yM]<;>rfl);by_cases hw0:vD w=0
        ·have w0:(vD w !=0)=false:=by simp[hw0]
         rw[if_pos hw0] at hD3;simp only[w0,c5,Qs,Za,Ψ55];exact Next.intro (k+1) rfl rfl ⟨by omega,hD3⟩ (by omega)
        ·have w0:(vD w !=0)=true:=by simp[hw0]
         rw[if_neg hw0] at hD3;simp only[w0,Qs,Za,Ψ55];exact hbad (vD w) hD3.symm hw0
       ·have d3: ¬(k:Int)<f.words.length:=by omega
        rw[show f.words.length-k=0 by omega] at hD3;have hz:vH d.flds i=0:=hD3.symm;rw[if_pos hz] at hD;simp only[d3,c4,Qs,reduceCtorEq,Zn,Za,Ψ55];exact Next.intro (i+1) rfl rfl ⟨by omega,hD⟩ (by omega)
   ·have d1: ¬(i:Int)<d.flds.length:=by omega
    rw[show d.flds.length-i=0 by omega] at hD;have hD2:0=wE (vH d.flds) d.flds.length 0:=hD;rw[<-hD2] at hS;simp only[d1,Qs,Za,Ψ55];exact hS
end Go.Abs
namespace Go.Ex
open Go.Lib Go.Wd Go.Wire
theorem zox {c:UInt8} (h:letB c=true):tW c=true:=by unfold tW;rw[h];rfl
theorem zoy (s:Txt):nameP s=(decide (s≠[])&&(decide (s.length<=20)&&(letB (s.getD 0 0)&&(s.drop 1).all tW))):=by
 unfold nameP;cases s with
 |nil=>rfl
 |cons c t=>
  have e:decide (spanN tW (c::t)=(c::t).length)=(c::t).all tW:=by rw[Ye,decide_eq_true_eq,lX]
  rw[e];simp only[List.getD_cons_zero,List.drop_one,List.tail_cons,Yz];cases h:letB c with
  |false=>simp
  |true=>rw[zox h];simp
theorem zoz (c:UInt8):uF c=true ↔ 33<=c.toNat/\c.toNat<=126:=by unfold uF;rw[decide_eq_true_eq]
end Go.Ex
namespace Go.Abs
open Go.Proofs Go.RowKit Go.Lib Go.Wd Go.Wire Go.Ex
theorem zi6 (c:UInt8):Spec Tryz.prog 113 [.int .u8 (c.toNat:Int)] (fun v=>v=.bool (letB c)):=by
 refine Spec.of_awlS hf113 okf113 (by simp) fun S hS=>?_
 unfold letB at hS;generalize c.toNat=a at hS;simp only[Qs,Za,Ψ113]
 repeat' (apply And.intro<;>intro _)
 all_goals (refine wQ hS ?_;simp only[Yi,decide_eq_true_eq,Ya,true_iff,false_iff];omega)
theorem zi7 (c:UInt8):Spec Tryz.prog 114 [.int .u8 (c.toNat:Int)] (fun v=>v=.bool (digB c)):=by
 refine Spec.of_awlS hf114 okf114 (by simp) fun S hS=>?_
 unfold digB at hS;generalize c.toNat=a at hS;simp only[Qs,Za,Ψ114]
 repeat' (apply And.intro<;>intro _)
 all_goals (refine wQ hS ?_;simp only[Yi,decide_eq_true_eq,Ya,true_iff,false_iff];omega)
theorem iI {s:Txt} {i:Nat} (h:i<s.length):s.getD i 0=s[i]:=by rw[Zm,Zk h];rfl
theorem c80 (s:Txt) (hl:s.length<=9223372036854775807):Spec Tryz.prog 80 [.str s] (fun v=>v=.bool (nameP s)):=by
 refine Spec.of_awlS hf80 okf80 (by simp) fun S hS=>?_
 rw[zoy] at hS;by_cases h0:s=[]
 ·subst h0
  simp only[ZK,Int.natCast_zero,Qs,Za,Xy,Ψ80];exact hS
 have hp:0<s.length:=Yl.2 h0;rw[decide_eq_true h0,ZC] at hS;have c1: ¬(s.length:Int)<1:=by omega
 by_cases h20:s.length<=20
 ·rw[decide_eq_true h20,ZC] at hS
  have c2: ¬(s.length:Int)>20:=by omega
  have c3:(0:Int)<s.length:=by omega
  have g0:=zi6 (s.getD 0 0);simp only[c1,c2,c3,Wb,Qs,Za,Yy,Ψ80];refine zD g0 ?_ (ha:=by rfl);cases hb:letB (s.getD 0 0) with
  |false=>
   rw[hb] at hS;simp only[Qs,Za,Ψ80];exact hS
  |true=>
   rw[hb,ZC] at hS;simp only[Qs,Za,Ψ80];rw[uu f80l15.eq_1];refine zO (fun i:Nat=>[(0,.str s),(3,.int .i64 i)]) (fun _=>[]) (fun i=>1<=i/\i<=s.length/\(s.drop i).all tW=(s.drop 1).all tW) (fun i=>s.length-i) 1 rfl rfl ⟨ZA _,hp,rfl⟩ ?_;rintro i ⟨hi1,hi,hD⟩;by_cases hlt:i<s.length
   ·have d1:(i:Int)<s.length:=by omega
    have c4:IntKind.i64.wrap ((i:Int)+1)=(i:Int)+1:=wrap_in (by omega) (by omega);have hgt:=iI hlt;have g1:=zi6 s[i];have g2:=zi7 s[i];rw[Zx hlt,Yz] at hD;have hI:tW s[i]=(letB s[i]||(digB s[i]||decide (s[i].toNat=95))):=rfl;have hu:((s[i].toNat:Int) !=95)= !decide (s[i].toNat=95):=by
     rw[Ye,bne_iff_ne,YL,decide_eq_false_iff_not];omega
    rw[hI] at hD;generalize s[i]=c at hgt g1 g2 hD hu;simp only[d1,hgt,Qs,Za,Ψ80];refine zD g1 ?_ (ha:=by rfl);cases x1:letB c with
    |true=>
     rw[x1,YI,ZC] at hD;simp only[c4,Qs,Za,Ψ80];exact Next.intro (i+1) rfl rfl ⟨by omega,by omega,hD⟩ (by omega)
    |false=>
     rw[x1,Yd] at hD;simp only[d1,hgt,Qs,Za];refine zD g2 ?_ (ha:=by rfl);cases x2:digB c with
     |true=>
      rw[x2,YI,ZC] at hD;simp only[c4,Qs,Za,Ψ80];exact Next.intro (i+1) rfl rfl ⟨by omega,by omega,hD⟩ (by omega)
     |false=>
      rw[x2,Yd] at hD;cases x3:decide (c.toNat=95) with
      |true=>
       rw[x3,ZC] at hD;rw[x3] at hu;simp only[d1,hgt,hu,c4,YH,Qs,Za,Ψ80];exact Next.intro (i+1) rfl rfl ⟨by omega,by omega,hD⟩ (by omega)
      |false=>
       rw[x3,ZF] at hD;rw[x3] at hu;rw[<-hD] at hS;simp only[d1,hgt,hu,Yu,Qs,Za,Ψ80];exact hS
   ·have d1: ¬(i:Int)<s.length:=by omega
    rw[ZE (by omega)] at hD;rw[<-hD] at hS;simp only[d1,Qs,Za,Ψ80];exact hS
 ·rw[decide_eq_false h20,ZF] at hS
  have c2:(s.length:Int)>20:=by omega
  simp only[c1,c2,Qs,Za,Ψ80];exact hS
theorem zoA (s:Txt) (hl:s.length<=9223372036854775807):Spec Tryz.prog 115 [.str s] (fun v=>v=.bool (uG s)):=by
 refine Spec.of_awlS hf115 okf115 (by simp) fun S hS=>?_
 unfold uG at hS;simp only[Qs,Ψ115];rw[uu f115l15.eq_1];refine zO (fun i:Nat=>[(0,.str s),(3,.int .i64 i)]) (fun _=>[]) (fun i=>i<=s.length/\(s.drop i).all uF=s.all uF) (fun i=>s.length-i) 0 rfl rfl ⟨Zy _,rfl⟩ ?_;rintro i ⟨hi,hD⟩;by_cases hlt:i<s.length
 ·have d1:(i:Int)<s.length:=by omega
  have c4:IntKind.i64.wrap ((i:Int)+1)=(i:Int)+1:=wrap_in (by omega) (by omega);have hgt:=iI hlt;rw[Zx hlt,Yz] at hD;have hI:=zoz s[i];generalize s[i]=c at hgt hD hI;by_cases h1:(c.toNat:Int)<33
  ·have hf:uF c=false:=by rw[Yj];intro h;have:=hI.1 h;omega
   rw[hf,ZF] at hD;rw[<-hD,Yo,Yo] at hS;simp only[d1,h1,hgt,Qs,Za,Ψ115];exact hS
  ·by_cases h2:(c.toNat:Int)>126
   ·have hf:uF c=false:=by rw[Yj];intro h;have:=hI.1 h;omega
    rw[hf,ZF] at hD;rw[<-hD,Yo,Yo] at hS;simp only[d1,h1,h2,hgt,Qs,Za,Ψ115];exact hS
   ·have hf:uF c=true:=hI.2 (by omega)
    rw[hf,ZC] at hD;simp only[d1,h1,h2,c4,hgt,Qs,Za,Ψ115];exact Next.intro (i+1) rfl rfl ⟨by omega,hD⟩ (by omega)
 ·have d1: ¬(i:Int)<s.length:=by omega
  rw[ZE (by omega)] at hD;rw[<-hD,Xu,Y9] at hS;by_cases h0:s=[]
  ·have c1: ¬(s.length:Int)>=1:=by rw[h0];decide
   rw[decide_eq_false (fun q=>q h0)] at hS;simp only[d1,c1,Qs,Za,Ψ115];exact hS
  ·have hp:0<s.length:=Yl.2 h0
   rw[decide_eq_true h0,ZC] at hS;have c1:(s.length:Int)>=1:=by omega
   by_cases h20:s.length<=20
   ·have c2:(s.length:Int)<=20:=by omega
    rw[decide_eq_true h20] at hS;simp only[d1,c1,c2,Qs,Za,Ψ115];exact hS
   ·have c2: ¬(s.length:Int)<=20:=by omega
    rw[decide_eq_false h20] at hS;simp only[d1,c1,c2,Qs,Za,Ψ115];exact hS
def tX (l:List (List Txt)):Nat:=(l.map List.length).foldl (· * ·) 1
theorem dC {l:List (List Txt)} {i:Nat} (h:i<l.length):tX (l.take (i+1))=tX (l.take i)*l[i].length:=by
 unfold tX;rw[List.take_add_one,Zk h,Option.toList_some,ZV,XI];rfl
theorem dD {l:List (List Txt)} (h8:l.length<=8) (h4: ∀w∈l,w.length<=4): ∀i,i<=l.length->tX (l.take i)<=4 ^ i
 |0,_=>by simp[tX]
 |i+1,h=>by
  rw[dC (by omega),Wh];exact XG (dD h8 h4 i (by omega)) (h4 _ (Zv _))
structure FldR (f:Fld):Prop where
 s:FldS f
 ws:f.words.length<=8
 sp: ∀w∈f.words,1<=w.length/\w.length<=4
theorem zaY {l:List Txt} (h:vD l=0):1<=l.length/\l.length<=4/\l.all uG=true/\qT l l.length=false:=by
 unfold vD at h;split at h
 ·cases h
 split at h
 ·cases h
 rename_i h4 h0;split at h
 ·split at h
  ·cases h
  ·rename_i hv ht
   exact⟨Yl.2 h0,by omega,hv,by simpa using ht⟩
 ·cases h
theorem zaZ {f:Nat->Int}: ∀{n i:Nat},wE f n i=0-> ∀k,k<n->f (i+k)=0
 |0,_,_,k,hk=>absurd hk (Nat.not_lt_zero _)
 |n+1,i,h,k,hk=>by
  rw[wE] at h;split at h
  ·rename_i h0
   cases k with
   |zero=>exact h0
   |succ k=>rw[show i+(k+1)=i+1+k by omega];exact zaZ h k (by omega)
  ·rename_i h0;exact absurd h h0
structure DcmR (d:Dcm):Prop where
 s:DcmS d
 kd:nameP d.kind=true
 fs:d.flds.length<=12
 fe: ∀i,i<d.flds.length->vH d.flds i=0
theorem qV {d:Dcm} (hs:DcmS d) (h:xC d=0):DcmR d:=by
 unfold xC at h;split at h
 ·rename_i hk
  split at h
  ·cases h
  ·rename_i h12
   exact⟨hs,hk,by omega,fun i hi=>by have:=zaZ h i hi;rwa [Z4] at this⟩
 ·cases h
theorem za0 {l:List Fld} {i:Nat} (hi:i<l.length) (hs:FldS l[i]) (h:vH l i=0):FldR l[i]/\nameP l[i].name=true/\(l.take i).any (fun g=>decide (g.name=l[i].name))=false/\ ∀w∈l[i].words,vD w=0:=by
 have hgd:l.getD i xF=l[i]:=by rw[Zm,Zk hi];rfl
 unfold vH at h;simp only[hgd] at h;split at h
 ·rename_i hn
  split at h
  ·cases h
  rename_i ht;split at h
  ·cases h
  rename_i h8;have hw: ∀w∈l[i].words,vD w=0:=fun w hw=>by
   obtain⟨k,hk,rfl⟩:=XP hw;have:=zaZ h k hk;simp only[Z4] at this
   rwa [Zm,Zk hk] at this
  exact⟨⟨hs,by omega,fun w hm=>⟨(zaY (hw w hm)).1,(zaY (hw w hm)).2.1⟩⟩,hn,by simpa using ht,hw⟩
 ·cases h
theorem DcmR.fld {d:Dcm} (h:DcmR d) {f:Fld} (hf:f∈d.flds):FldR f:=by
 obtain⟨i,hi,rfl⟩:=XP hf;exact(za0 hi (h.s.fl _ hf) (h.fe i hi)).1
theorem iJ {f:Fld} (hf:FldR f):yL f<=65536:=by
 have:=dD hf.ws (fun w hw=>(hf.sp w hw).2) f.words.length (ZA _);rw[Yh] at this;have h2:4 ^ f.words.length<=4 ^ 8:=ZW (by decide) hf.ws;unfold yL;exact ZX this (ZX h2 (by decide))
theorem za1 {f:Fld} (hf:FldR f):1<=yL f:=by
 have: ∀i,i<=f.words.length->1<=tX (f.words.take i):=fun i=>by
  induction i with
  |zero=>intro _;simp[tX]
  |succ i ih=>
   intro h;rw[dC (by omega)];exact Nat.mul_pos (ih (by omega)) (hf.sp _ (Zv _)).1
 have:=this f.words.length (ZA _)
 rwa [Yh] at this
theorem c61 (f:Fld) (hf:FldR f):Spec Tryz.prog 61 [.agg (zW f)] (fun v=>v=.int .i64 (yL f:Nat)):=by
 refine Spec.of_awlS hf61 okf61 (by simp) fun S hS=>?_
 have h8:=hf.ws;unfold zW;simp only[zB,Qs,Zb,Za,Ze,Ψ61];rw[uu f61l13.eq_1];refine zO (fun i:Nat=>[(3,.int .i64 (tX (f.words.take i):Nat)),(7,lst 1 (f.words.map wH)),(8,.int .i64 f.words.length),(9,.int .i64 i)]) (fun _=>[]) (fun i=>i<=f.words.length) (fun i=>f.words.length-i) 0 rfl rfl (Zy _) ?_;intro i hi;by_cases hlt:i<f.words.length
 ·have c1:(i:Int)<f.words.length:=by omega
  have c4:IntKind.i64.wrap ((i:Int)+1)=(i:Int)+1:=wrap_in (by omega) (by omega);have hp:=dD hf.ws (fun w hw=>(hf.sp w hw).2) (i+1) (by omega);have hq:4 ^ (i+1)<=4 ^ 8:=ZW (by decide) (by omega);have hpt:=dC hlt;have hws:=lY hlt;generalize f.words[i]=w at hpt hws;have c5:IntKind.i64.wrap (((tX (f.words.take i):Nat):Int)*(w.length:Int))=((tX (f.words.take (i+1)):Nat):Int):=by
   have h4:(4:Nat) ^ 8=65536:=by decide
   rw[hpt,wrap_in]
   ·exact(Yq _ _).symm
   ·rw[<-Yq];omega
   ·rw[<-Yq,<-hpt];omega
  simp only[c1,c4,c5,hws,zB,zQ,Qs,Zi,Za,Ze,Ψ61];exact Next.intro (i+1) rfl rfl (by omega) (by omega)
 ·have c1: ¬(i:Int)<f.words.length:=by omega
  rw[ZU (by omega)];simp only[c1,Qs,Za,Ψ61];exact hS
theorem c77 (d:Dcm) (hd:DcmS d):Spec Tryz.prog 77 [.agg (zV d)] (fun v=>v=.tup [.int .i64 (cntD d).1,.int .i64 (cntD d).2]):=by
 refine Spec.of_awlP hf77 okf77 (by simp) fun S hS=>?_
 have g1:=c55 d hd;have hn:[C.str d.kind,zF 2 (d.flds.map zW)]=zV d:=rfl;unfold cntD at hS;by_cases h0:xC d=0
 ·rw[if_pos h0] at hS
  have hR:=qV hd h0;have hfs:=hR.fs;have w0:(xC d !=0)=false:=by simp[h0]
  rw[<-hn] at g1⊢;simp only[Qs,Zb,Za,Ψ77];refine zD g1 ?_ (ha:=by simp only[Zj,Zo,zC,V.norm,C.norm,C.normRow,zS wS]<;>rfl);simp only[w0,zB,Qs,Zb,Za,Ze,Ψ77];rw[uu f77l19.eq_1];refine zO (fun x:Nat×Nat=>[(5,.int .i64 (x.2:Nat)),(14,lst 2 (d.flds.map zW)),(15,.int .i64 d.flds.length),(16,.int .i64 x.1)]) (fun _=>[]) (fun x=>x.1<=d.flds.length/\x.2<=4096/\wY (d.flds.drop x.1) x.2=wY d.flds 1) (fun x=>d.flds.length-x.1) (0,1) rfl rfl ⟨Zy _,by decide,rfl⟩ ?_;rintro⟨i,n⟩ ⟨hi,hn4,hD⟩;simp only[] at hi hn4 hD;by_cases hlt:i<d.flds.length
  ·have c1:(i:Int)<d.flds.length:=by omega
   have c4:IntKind.i64.wrap ((i:Int)+1)=(i:Int)+1:=wrap_in (by omega) (by omega);have hf:=hR.fld (Zv hlt);rw[Zx hlt,wY] at hD;have hat:=oS hlt;generalize d.flds[i]=f at hf hD hat;have g2:=c61 f hf;have hsz:=iJ hf;rw[show zW f=[.str f.name,zF 1 (f.words.map wH)] from rfl] at g2;have hmul:n*yL f<=4096*65536:=XG hn4 hsz;have c5:IntKind.i64.wrap ((n:Int)*((yL f:Nat):Int))=((n*yL f:Nat):Int):=by
    rw[Yq,wrap_in]
    ·rw[<-Yq];omega
    ·rw[<-Yq];omega
   simp only[c1,hat,zB,Qs,Zi,Zb,Za,Ze,Ψ77];refine zD g2 ?_ (ha:=by simp only[Zj,Zo,zC,V.norm,C.norm,C.normRow,zS qF]<;>rfl);by_cases hbig:n*yL f>4096
   ·have c6:((n*yL f:Nat):Int)>4096:=by omega
    rw[if_pos hbig] at hD;rw[<-hD] at hS;simp only[c5,c6,Qs,Zi,Za,Ψ77];exact hS _ rfl
   ·have c6: ¬((n*yL f:Nat):Int)>4096:=by omega
    rw[if_neg hbig] at hD;simp only[c4,c5,c6,Qs,Za,Ψ77];exact Next.intro (i+1,n*yL f) rfl rfl ⟨by simp only;omega,by simp only;omega,hD⟩ (by simp only;omega)
  ·have c1: ¬(i:Int)<d.flds.length:=by omega
   rw[ZE (by omega),wY] at hD;rw[<-hD] at hS;simp only[c1,Qs,Zi,Za,Ψ77];exact hS _ rfl
 ·rw[if_neg h0] at hS
  have w0:(xC d !=0)=true:=by simp[h0]
  rw[<-hn] at g1⊢;simp only[Qs,Zb,Za,Ψ77];refine zD g1 ?_ (ha:=by simp only[Zj,Zo,zC,V.norm,C.norm,C.normRow,zS wS]<;>rfl);simp only[w0,Qs,Zi,Za,Ψ77];exact hS _ rfl
theorem mC {l:List Dcm} {i:Nat} (h:i<l.length):(l.map zV).getD i []=[.str l[i].kind,zF 2 (l[i].flds.map zW)]:=by simp[zV,h]
def vZ:List Dcm->List Int->Nat->List Int×Int×Int
 |[],l,n=>(l,(n:Int),0)
 |d::r,l,n=>if (cntD d).2≠0\/(n:Int)*(cntD d).1>4096 then([],0,6) else vZ r (l++[(cntD d).1]) (n*(cntD d).1.toNat)
def cnts (l:List Dcm):List Int×Int×Int:=if l.length>8 then([],0,6) else if wE (fun i=>xC (l.getD i ⟨[],[]⟩)) l.length 0=0 then vZ l [] 1 else([],0,wE (fun i=>xC (l.getD i ⟨[],[]⟩)) l.length 0)
def uT (l:List Dcm):Prop:=l.length<=9223372036854775807/\ ∀d∈l,DcmS d
theorem iK {d:Dcm}:0<=(cntD d).1/\(cntD d).1<=4096:=by
 unfold cntD;split
 ·have: ∀(l:List Fld) (n:Nat),n<=4096->0<=(wY l n).1/\(wY l n).1<=4096:=fun l=>by
   induction l with
   |nil=>intro n h;simp only[wY];omega
   |cons f l ih=>
    intro n h;rw[wY];split
    ·simp
    ·exact ih _ (by omega)
  exact this d.flds 1 (by decide)
 ·simp
theorem qG {rows:List (List C)} (h:C.normRows rows=rows) (sz:Nat) (e:TypeId):(Abs.K.newl e sz none rows).fz.nrm=.c (zF sz rows):=by
 simp[Abs.K.fz,Abs.K.nrm,C.norm,h,zF]
theorem c37 (l:List Dcm) (hl:uT l):Spec Tryz.prog 37 [lst 2 (l.map zV)] (fun v=>v=.tup [lst 1 (zG (cnts l).1),.int .i64 (cnts l).2.1,.int .i64 (cnts l).2.2]):=by
 refine Spec.of_awlP hf37 okf37 (by simp) fun S hS=>?_
 have hlen:=hl.1;unfold cnts at hS;by_cases h8:l.length>8
 ·rw[if_pos h8] at hS
  have c1:(l.length:Int)>8:=by omega
  simp only[zB,c1,Qs,BEq.rfl,Zi,ZJ,Za,Ze,Zq,Ψ37];exact hS _ rfl
 ·rw[if_neg h8] at hS
  have c1: ¬(l.length:Int)>8:=by omega
  simp only[zB,c1,Qs,Za,Ze,Ψ37];rw[uu f37l46.eq_1];refine zO (fun i:Nat=>[(0,lst 2 (l.map zV)),(17,lst 2 (l.map zV)),(18,.int .i64 l.length),(19,.int .i64 i)]) (fun _=>[]) (fun i=>i<=l.length/\wE (fun i=>xC (l.getD i ⟨[],[]⟩)) (l.length-i) i=wE (fun i=>xC (l.getD i ⟨[],[]⟩)) l.length 0) (fun i=>l.length-i) 0 rfl rfl ⟨Zy _,rfl⟩ ?_;rintro i ⟨hi,hD⟩;by_cases hlt:i<l.length
  ·have d1:(i:Int)<l.length:=by omega
   have c4:IntKind.i64.wrap ((i:Int)+1)=(i:Int)+1:=wrap_in (by omega) (by omega);have hgd:l.getD i ⟨[],[]⟩=l[i]:=by rw[Zm,Zk hlt];rfl
   rw[lZ hlt,hgd] at hD;have g1:=c55 _ (hl.2 _ (Zv hlt));have hat:=mC hlt;generalize l[i]=d at hD g1 hat;rw[show zV d=[.str d.kind,zF 2 (d.flds.map zW)] from rfl] at g1;simp only[d1,hat,zB,Qs,Zi,Zb,Za,Ze,Ψ37];refine zD g1 ?_ (ha:=by simp only[Zj,Zo,zC,V.norm,C.norm,C.normRow,zS wS]<;>rfl);by_cases h0:xC d=0
   ·have w0:(xC d !=0)=false:=by simp[h0]
    rw[if_pos h0] at hD;simp only[w0,c4,Qs,Za,Ψ37];exact Next.intro (i+1) rfl rfl ⟨by omega,hD⟩ (by omega)
   ·have w0:(xC d !=0)=true:=by simp[h0]
    rw[if_neg h0] at hD;rw[<-hD,if_neg h0] at hS;simp only[w0,Qs,Zi,ZJ,Za,Zq,Ψ37];exact hS _ rfl
  ·have d1: ¬(i:Int)<l.length:=by omega
   rw[show l.length-i=0 by omega] at hD;have hz:wE (fun i=>xC (l.getD i ⟨[],[]⟩)) l.length 0=0:=hD.symm;rw[if_pos hz] at hS;simp only[d1,zB,Qs,Za,Ze,Ψ37];rw[uu f37l21.eq_1];refine zO (fun x:Nat×List Int×Nat×Option Bool=>[(8,.int .i64 (x.2.2.1:Nat)),(9,.k (.own 9)),(29,lst 2 (l.map zV)),(30,.int .i64 l.length),(31,.int .i64 x.1)]) (fun x=>[(9,.arr 3 1 x.2.2.2 (zG x.2.1))]) (fun x=>x.1<=l.length/\x.2.1.length=x.1/\x.2.2.1<=4096/\vZ (l.drop x.1) x.2.1 x.2.2.1=vZ l [] 1) (fun x=>l.length-x.1) (0,[],1,some true) rfl rfl ⟨Zy _,rfl,by decide,rfl⟩ ?_;rintro⟨i,L,n,nl⟩ ⟨hi,hL,hn,hD⟩;simp only[] at hi hL hn hD;by_cases hlt:i<l.length
   ·have d1:(i:Int)<l.length:=by omega
    have c4:IntKind.i64.wrap ((i:Int)+1)=(i:Int)+1:=wrap_in (by omega) (by omega);have g1:=c77 _ (hl.2 _ (Zv hlt));have hat:=mC hlt;rw[Zx hlt,vZ] at hD;have hr:=iK (d:=l[i]);generalize l[i]=d at hD g1 hat hr;rw[show zV d=[.str d.kind,zF 2 (d.flds.map zW)] from rfl] at g1;generalize cntD d=c at hD g1 hr;obtain⟨cn,ce⟩:=c;simp only[] at hD g1 hr;have hmul:0<=(n:Int)*cn/\(n:Int)*cn<=4096*4096:=⟨Int.mul_nonneg (by omega) hr.1,Int.mul_le_mul (by omega) hr.2 hr.1 (by omega)⟩;have c5:IntKind.i64.wrap ((n:Int)*cn)=(n:Int)*cn:=wrap_in (by omega) (by omega);simp only[d1,hat,zB,Qs,bne_iff_ne,ne_eq,Zi,Zb,Zn,Za,Ze,Ψ37];refine zD g1 ?_ (ha:=by simp only[Zj,Zo,zC,V.norm,C.norm,C.normRow,zS wS]<;>rfl);by_cases h0:ce=0
    ·have w0:(ce !=0)=false:=by simp[h0]
     by_cases hbig:(n:Int)*cn>4096
     ·rw[if_pos (.inr hbig)] at hD
      rw[<-hD] at hS;simp only[w0,c5,hbig,Qs,bne_iff_ne,ne_eq,Zi,ZJ,Zn,Za,Zq,Ψ37];exact hS _ rfl
     ·rw[if_neg (fun q=>q.elim (fun z=>z h0) hbig)] at hD
      have e1:((n*cn.toNat:Nat):Int)=(n:Int)*cn:=by rw[Yq,Int.toNat_of_nonneg hr.1]
      simp only[w0,c4,c5,hbig,yF,Qs,zg0,forall_eq,bne_iff_ne,ne_eq,ZB,Zn,Zd,ZN,Za,Zq,Ψ37];refine⟨by omega,by omega,Next.intro (i+1,L++[cn],n*cn.toNat,some false) (by simp only[e1];rfl) (by simp[zG];rfl) ⟨by simp only;omega,by simp[hL],by simp only;omega,hD⟩ (by simp only;omega)⟩
    ·have w0:(ce !=0)=true:=by simp[h0]
     rw[if_pos (.inl h0)] at hD;rw[<-hD] at hS;simp only[w0,Qs,bne_iff_ne,ne_eq,Zi,ZJ,Zn,Za,Zq,Ψ37];exact hS _ rfl
   ·have d1: ¬(i:Int)<l.length:=by omega
    rw[ZE (by omega),vZ] at hD;rw[<-hD] at hS;simp only[d1,Qs,Zi,ZJ,Za,Zq,Ψ37];refine hS _ ?_;simp only[V.fz,V.fzL,V.nrm,V.nrmL,qG (wD L)];rfl
theorem c13 (l:List Dcm) (hl:uT l):Spec Tryz.prog 13 [lst 2 (l.map zV)] (fun v=>v=.tup [.int .i64 (cnts l).2.1,.int .i64 (cnts l).2.2]):=by
 refine Spec.of_awlP hf13 okf13 (by simp) fun S hS=>?_
 have g:=c37 l hl;generalize cnts l=c at g hS;simp only[Qs,Za,Ψ13];refine yP g ?_ (ha:=by simp only[Zj,Zo,zC,V.norm,C.norm,zS yN]<;>rfl);simp only[Qs,Zi,Zb,Yf,Za,Ψ13];exact hS _ rfl
theorem c81 (l:List Txt) (hw: ∀s∈l,s.length<=9223372036854775807) (hl:l.length<=9223372036854775807):Spec Tryz.prog 81 [lst 1 (zK l)] (fun v=>v=.int .i64 (vD l)):=by
 refine Spec.of_awlS hf81 okf81 (by simp) fun S hS=>?_
 unfold vD at hS;by_cases h4:l.length>4
 ·rw[if_pos h4] at hS
  have c1:(l.length:Int)>4:=by omega
  simp only[zQ,c1,Qs,Za,Ψ81];exact hS
 rw[if_neg h4] at hS;have c1: ¬(l.length:Int)>4:=by omega
 by_cases h0:l=[]
 ·rw[if_pos h0] at hS
  have c2:((l.length:Int)==0)=true:=by simp[h0]
  simp only[zQ,c1,c2,Qs,Za,Ψ81];exact hS
 rw[if_neg h0] at hS;have c2:((l.length:Int)==0)=false:=by
  have:=Yl.2 h0;exact beq_false_of_ne (by omega)
 simp only[zQ,c1,c2,Qs,Za,Ψ81];rw[uu f81l43.eq_1];refine zO (fun i:Nat=>[(0,lst 1 (zK l)),(3,.int .i64 i)]) (fun _=>[]) (fun i=>i<=l.length/\(l.drop i).all uG=l.all uG) (fun i=>l.length-i) 0 rfl rfl ⟨Zy _,rfl⟩ ?_;rintro i ⟨hi,hD⟩;by_cases hlt:i<l.length
 ·have d1:(i:Int)<l.length:=by omega
  have c4:IntKind.i64.wrap ((i:Int)+1)=(i:Int)+1:=wrap_in (by omega) (by omega);have hat:=vU hlt;have g1:=zoA l[i] (hw _ (Zv hlt));rw[Zx hlt,Yz] at hD;generalize l[i]=s at hat g1 hD;simp only[d1,hat,zQ,Qs,Za,Ψ81];refine zD g1 ?_ (ha:=by rfl);cases hv:uG s with
  |true=>
   rw[hv,ZC] at hD;simp only[c4,Qs,Za,Ψ81];exact Next.intro (i+1) rfl rfl ⟨by omega,hD⟩ (by omega)
  |false=>
   rw[hv,ZF] at hD;rw[<-hD,if_neg (by simp)] at hS;simp only[Qs,Ψ81];exact hS
 ·have d1: ¬(i:Int)<l.length:=by omega
  rw[ZE (by omega)] at hD;rw[<-hD,Xu,if_pos rfl] at hS;clear hD;simp only[d1,zQ,Qs,Za,Ψ81];rw[uu f81l26.eq_1];refine zO (fun i:Nat=>[(0,lst 1 (zK l)),(4,.int .i64 i)]) (fun _=>[]) (fun i=>i<=l.length/\qT l i=false) (fun i=>l.length-i) 0 rfl rfl ⟨Zy _,rfl⟩ ?_;rintro i ⟨hi,hD⟩;by_cases hlt:i<l.length
  ·have d1:(i:Int)<l.length:=by omega
   have c4:IntKind.i64.wrap ((i:Int)+1)=(i:Int)+1:=wrap_in (by omega) (by omega);have hgd:l.getD i []=l[i]:=by rw[Zm,Zk hlt];rfl
   have hsu:=zaW l i;have hat:=vU hlt;rw[hD,hgd,Yd] at hsu;simp only[d1,zQ,Qs,Za,Ψ81];rw[uu f81l16.eq_1];refine zO (fun j:Nat=>[(0,lst 1 (zK l)),(4,.int .i64 i),(5,.int .i64 j)]) (fun _=>[]) (fun j=>j<=i/\l[i] ∉ l.take j) (fun j=>i-j) 0 rfl rfl ⟨Zy _,by simp⟩ ?_;rintro j ⟨hj,hN⟩;by_cases hji:j<i
   ·have d2:(j:Int)<i:=by omega
    have d3:(j:Int)<l.length:=by omega
    have c5:IntKind.i64.wrap ((j:Int)+1)=(j:Int)+1:=wrap_in (by omega) (by omega);have hjl:j<l.length:=by omega
    have haj:=vU hjl;have htk:l.take (j+1)=l.take j++[l[j]]:=Zz hjl;have hin:l[j]∈l.take i:=by
     rw[List.mem_take_iff_getElem];exact⟨j,by omega,rfl⟩
    generalize l[i]=a at hat hsu hN;generalize l[j]=b at haj htk hin;by_cases hab:a=b
    ·have e1:(a==b)=true:=by simp[hab]
     rw[hab,decide_eq_true hin] at hsu;rw[if_pos (zi5 l (by omega:i+1<=l.length) hsu)] at hS;simp only[d1,d2,d3,e1,hat,haj,zQ,Qs,Za,Ψ81];exact hS
    ·have e1:(a==b)=false:=by simp[hab]
     simp only[d1,d2,d3,e1,hat,haj,c5,zQ,Qs,Za,Ψ81];exact Next.intro (j+1) rfl rfl ⟨by omega,by rw[htk];simp[hN,hab]⟩ (by omega)
   ·have d2: ¬(j:Int)<i:=by omega
    obtain rfl:j=i:=by omega
    rw[decide_eq_false hN] at hsu;simp only[d2,c4,Qs,Zn,Za,Ψ81];exact Next.intro (j+1) rfl rfl ⟨by omega,hsu⟩ (by omega)
  ·have d1: ¬(i:Int)<l.length:=by omega
   obtain rfl:i=l.length:=by omega
   rw[if_neg (by rw[hD];simp)] at hS;simp only[d1,zQ,Qs,Za,Ψ81];exact hS
theorem c82 (f:Fld) (hf:FldR f):Spec Tryz.prog 82 [.agg (zW f)] (fun v=>v=.int .i64 (yL f:Nat)):=by
 refine Spec.of_awlS hf82 okf82 (by simp) fun S hS=>?_
 have h8:=hf.ws;unfold zW;simp only[zB,Qs,Za,Ψ82];rw[uu f82l11.eq_1];refine zO (fun i:Nat=>[(1,.k (.c (.ro [.str f.name,zF 1 (f.words.map wH)] 0))),(3,.int .i64 (tX (f.words.take i):Nat)),(4,.int .i64 i)]) (fun _=>[]) (fun i=>i<=f.words.length) (fun i=>f.words.length-i) 0 rfl rfl (Zy _) ?_;intro i hi;by_cases hlt:i<f.words.length
 ·have c1:(i:Int)<f.words.length:=by omega
  have c4:IntKind.i64.wrap ((i:Int)+1)=(i:Int)+1:=wrap_in (by omega) (by omega);have hp:=dD hf.ws (fun w hw=>(hf.sp w hw).2) (i+1) (by omega);have hq:4 ^ (i+1)<=4 ^ 8:=ZW (by decide) (by omega);have hpt:=dC hlt;have hws:=lY hlt;generalize f.words[i]=w at hpt hws;have c5:IntKind.i64.wrap (((tX (f.words.take i):Nat):Int)*(w.length:Int))=((tX (f.words.take (i+1)):Nat):Int):=by
   have h4:(4:Nat) ^ 8=65536:=by decide
   rw[hpt,wrap_in]
   ·exact(Yq _ _).symm
   ·rw[<-Yq];omega
   ·rw[<-Yq,<-hpt];omega
  simp only[c1,c4,c5,hws,zB,zQ,Qs,Zb,Za,Ze,Ψ82];exact Next.intro (i+1) rfl rfl (by omega) (by omega)
 ·have c1: ¬(i:Int)<f.words.length:=by omega
  rw[ZU (by omega)];simp only[c1,zB,Qs,Zb,Za,Ze,Ψ82];exact hS
theorem zoB {α:Type} {p:α->Bool} {l:List α} {j:Nat} (h:j<l.length):(l.take (j+1)).any p=((l.take j).any p||p l[j]):=by
 rw[Zz h,List.any_append];simp
theorem c41 (d:Dcm) (hd:DcmS d):Spec Tryz.prog 41 [.agg (zV d)] (fun v=>v=.int .i64 (xC d)):=by
 refine Spec.of_awlS hf41 okf41 (by simp) fun S hS=>?_
 have g1:=c80 d.kind hd.kd;have hfs:=hd.fs;unfold xC at hS;unfold zV;cases hk:nameP d.kind with
 |false=>
  rw[hk] at g1;rw[if_neg (by rw[hk];simp)] at hS;simp only[Qs,Zb,Zd,Za,Ψ41];refine zD g1 ?_ (ha:=by rfl);simp only[Qs,Ψ41];exact hS
 |true=>
  rw[hk] at g1;rw[if_pos hk] at hS;by_cases h12:d.flds.length>12
  ·rw[if_pos h12] at hS
   have c1:(d.flds.length:Int)>12:=by omega
   simp only[Qs,Zb,Zd,Za,Ψ41];refine zD g1 ?_ (ha:=by rfl);simp only[zB,c1,Qs,Zb,Za,Ze,Ψ41];exact hS
  ·rw[if_neg h12] at hS
   have c1: ¬(d.flds.length:Int)>12:=by omega
   simp only[Qs,Zb,Zd,Za,Ψ41];refine zD g1 ?_ (ha:=by rfl);simp only[zB,c1,Qs,Zb,Za,Ze,Ψ41];rw[uu f41l59.eq_1];refine zO (fun i:Nat=>[(1,.k (.c (.ro [.str d.kind,zF 2 (d.flds.map zW)] 0))),(3,.int .i64 i)]) (fun _=>[]) (fun i=>i<=d.flds.length/\wE (vH d.flds) (d.flds.length-i) i=wE (vH d.flds) d.flds.length 0) (fun i=>d.flds.length-i) 0 rfl rfl ⟨Zy _,rfl⟩ ?_;rintro i ⟨hi,hD⟩;by_cases hlt:i<d.flds.length
   ·have d1:(i:Int)<d.flds.length:=by omega
    have c4:IntKind.i64.wrap ((i:Int)+1)=(i:Int)+1:=wrap_in (by omega) (by omega);rw[lZ hlt] at hD;have hat:=oS hlt;have hgd:d.flds.getD i xF=d.flds[i]:=by rw[Zm,Zk hlt];rfl
    have hf:=hd.fl _ (Zv hlt);have hE:vH d.flds i=(if nameP d.flds[i].name=true then(if (d.flds.take i).any (fun g=>decide (g.name=d.flds[i].name))=true then 5 else if d.flds[i].words.length>8 then 6 else wE (fun k=>vD (d.flds[i].words.getD k [])) d.flds[i].words.length 0) else 2):=by
     unfold vH;simp only[hgd]
    generalize d.flds[i]=f at hat hf hE;have g2:=c80 f.name hf.nm;have hbad: ∀e:Int,vH d.flds i=e->e≠0->S (.int .i64 e):=fun e h1 h2=>by
     rw[h1,if_neg h2] at hD;rw[<-hD] at hS;exact hS
    cases hn:nameP f.name with
    |false=>
     rw[hn] at g2;rw[if_neg (by rw[hn];simp)] at hE;simp only[d1,hat,zB,Qs,Zi,Zb,Zd,Za,Ze,Ψ41];refine zD g2 ?_ (ha:=by rfl);simp only[Qs,Ψ41];exact hbad 2 hE (by decide)
    |true=>
     rw[hn] at g2;rw[if_pos hn] at hE;simp only[d1,hat,zB,Qs,Zi,Zb,Zd,Za,Ze,Ψ41];refine zD g2 ?_ (ha:=by rfl);simp only[Qs,Ψ41];rw[uu f41l40.eq_1];refine zO (fun j:Nat=>[(1,.k (.c (.ro [.str d.kind,zF 2 (d.flds.map zW)] 0))),(3,.int .i64 i),(4,.k (.c (.ro [.str f.name,zF 1 (f.words.map wH)] 0))),(5,.int .i64 j)]) (fun _=>[]) (fun j=>j<=i/\(d.flds.take j).any (fun g=>decide (g.name=f.name))=false) (fun j=>i-j) 0 rfl rfl ⟨Zy _,rfl⟩ ?_;rintro j ⟨hj,hN⟩;by_cases hji:j<i
     ·have d2:(j:Int)<i:=by omega
      have d3:(j:Int)<d.flds.length:=by omega
      have c5:IntKind.i64.wrap ((j:Int)+1)=(j:Int)+1:=wrap_in (by omega) (by omega);have hjl:j<d.flds.length:=by omega
      have haj:=oS hjl;have hat2:=zoB (p:=fun g:Fld=>decide (g.name=f.name)) hjl;rw[hN,Yd] at hat2;have hmono:d.flds[j].name=f.name->(d.flds.take i).any (fun g=>decide (g.name=f.name))=true:=fun h=>by
       rw[Yx];exact⟨d.flds[j],by rw[List.mem_take_iff_getElem];exact⟨j,by omega,rfl⟩,decide_eq_true h⟩
      generalize d.flds[j]=g at haj hat2 hmono;by_cases hab:g.name=f.name
      ·have e1:(g.name==f.name)=true:=by simp[hab]
       rw[if_pos (hmono hab)] at hE;simp only[d2,d3,e1,haj,zB,Qs,Zb,Zd,Za,Ze,Ψ41];exact hbad 5 hE (by decide)
      ·have e1:(g.name==f.name)=false:=by simp[hab]
       rw[decide_eq_false hab] at hat2;simp only[d2,d3,e1,haj,c5,zB,Qs,Zb,Zd,Za,Ze,Ψ41];exact Next.intro (j+1) rfl rfl ⟨by omega,hat2⟩ (by omega)
     ·have d2: ¬(j:Int)<i:=by omega
      obtain rfl:j=i:=by omega
      rw[if_neg (by rw[hN];simp)] at hE;by_cases h8:f.words.length>8
      ·rw[if_pos h8] at hE
       have e8:(f.words.length:Int)>8:=by omega
       simp only[d2,e8,zB,Qs,reduceCtorEq,Zb,Za,Ze,Ψ41];exact hbad 6 hE (by decide)
      ·rw[if_neg h8] at hE
       have e8: ¬(f.words.length:Int)>8:=by omega
       simp only[d2,e8,zB,Qs,reduceCtorEq,Zb,Za,Ze,Ψ41];rw[uu f41l18.eq_1];refine zO (fun k:Nat=>[(1,.k (.c (.ro [.str d.kind,zF 2 (d.flds.map zW)] 0))),(3,.int .i64 j),(4,.k (.c (.ro [.str f.name,zF 1 (f.words.map wH)] 0))),(6,.int .i64 k)]) (fun _=>[]) (fun k=>k<=f.words.length/\wE (fun k=>vD (f.words.getD k [])) (f.words.length-k) k=vH d.flds j) (fun k=>f.words.length-k) 0 rfl rfl ⟨Zy _,hE.symm⟩ ?_;rintro k ⟨hk2,hD3⟩;by_cases hlk:k<f.words.length
       ·have d3:(k:Int)<f.words.length:=by omega
        have c5:IntKind.i64.wrap ((k:Int)+1)=(k:Int)+1:=wrap_in (by omega) (by omega);have haw:=lY hlk;have hwg:f.words.getD k []=f.words[k]:=by rw[Zm,Zk hlk];rfl
        have hws:=hf.sp _ (Zv hlk);rw[lZ hlk,hwg] at hD3;generalize f.words[k]=w at haw hws hD3;have g4:=c81 w hws.2 hws.1;simp only[d3,haw,zB,Qs,Zb,Za,Ze,Ψ41];refine zD g4 ?_ (ha:=by simp only[Zj,Zo,zC,V.norm,C.norm,C.normRow,zI,yM]<;>rfl);by_cases hw0:vD w=0
        ·have w0:(vD w !=0)=false:=by simp[hw0]
         rw[if_pos hw0] at hD3;simp only[w0,c5,Qs,Za,Ψ41];exact Next.intro (k+1) rfl rfl ⟨by omega,hD3⟩ (by omega)
        ·have w0:(vD w !=0)=true:=by simp[hw0]
         rw[if_neg hw0] at hD3;simp only[w0,Qs,Za,Ψ41];exact hbad (vD w) hD3.symm hw0
       ·have d3: ¬(k:Int)<f.words.length:=by omega
        rw[show f.words.length-k=0 by omega] at hD3;have hz:vH d.flds j=0:=hD3.symm;rw[if_pos hz] at hD;simp only[d3,c4,zB,Qs,reduceCtorEq,Zb,Zn,Za,Ze,Ψ41];exact Next.intro (j+1) rfl rfl ⟨by omega,hD⟩ (by omega)
   ·have d1: ¬(i:Int)<d.flds.length:=by omega
    rw[show d.flds.length-i=0 by omega] at hD;have hD2:0=wE (vH d.flds) d.flds.length 0:=hD;rw[<-hD2] at hS;simp only[d1,zB,Qs,Zb,Za,Ze,Ψ41];exact hS
theorem c42 (d:Dcm) (hd:DcmS d):Spec Tryz.prog 42 [.agg (zV d)] (fun v=>v=.tup [.int .i64 (cntD d).1,.int .i64 (cntD d).2]):=by
 refine Spec.of_awlP hf42 okf42 (by simp) fun S hS=>?_
 have g1:=c41 d hd;have hn:[C.str d.kind,zF 2 (d.flds.map zW)]=zV d:=rfl;unfold cntD at hS;by_cases h0:xC d=0
 ·rw[if_pos h0] at hS
  have hR:=qV hd h0;have hfs:=hR.fs;have w0:(xC d !=0)=false:=by simp[h0]
  rw[<-hn] at g1⊢;simp only[Qs,Zb,Za,Ψ42];refine zD g1 ?_ (ha:=by simp only[Zj,Zo,zC,V.norm,C.norm,C.normRow,zS wS]<;>rfl);simp only[w0,zB,Qs,Ψ42];rw[uu f42l17.eq_1];refine zO (fun x:Nat×Nat=>[(1,.k (.c (.ro [.str d.kind,zF 2 (d.flds.map zW)] 0))),(5,.int .i64 (x.2:Nat)),(6,.int .i64 x.1)]) (fun _=>[]) (fun x=>x.1<=d.flds.length/\x.2<=4096/\wY (d.flds.drop x.1) x.2=wY d.flds 1) (fun x=>d.flds.length-x.1) (0,1) rfl rfl ⟨Zy _,by simp only;decide,rfl⟩ ?_;rintro⟨i,n⟩ ⟨hi,hn4,hD⟩;simp only[] at hi hn4 hD;by_cases hlt:i<d.flds.length
  ·have c1:(i:Int)<d.flds.length:=by omega
   have c4:IntKind.i64.wrap ((i:Int)+1)=(i:Int)+1:=wrap_in (by omega) (by omega);have hf:=hR.fld (Zv hlt);rw[Zx hlt,wY] at hD;have hat:=oS hlt;generalize d.flds[i]=f at hf hD hat;have g2:=c82 f hf;have hsz:=iJ hf;rw[show zW f=[.str f.name,zF 1 (f.words.map wH)] from rfl] at g2;have hmul:n*yL f<=4096*65536:=XG hn4 hsz;have c5:IntKind.i64.wrap ((n:Int)*((yL f:Nat):Int))=((n*yL f:Nat):Int):=by
    rw[Yq,wrap_in]
    ·rw[<-Yq];omega
    ·rw[<-Yq];omega
   simp only[c1,hat,zB,Qs,Zb,Za,Ze,Ψ42];refine zD g2 ?_ (ha:=by simp only[Zj,Zo,zC,V.norm,C.norm,C.normRow,zS qF]<;>rfl);by_cases hbig:n*yL f>4096
   ·have c6:((n*yL f:Nat):Int)>4096:=by omega
    rw[if_pos hbig] at hD;rw[<-hD] at hS;simp only[c5,c6,Qs,Zi,Za,Ψ42];exact hS _ rfl
   ·have c6: ¬((n*yL f:Nat):Int)>4096:=by omega
    rw[if_neg hbig] at hD;simp only[c4,c5,c6,Qs,Za,Ψ42];exact Next.intro (i+1,n*yL f) rfl rfl ⟨by simp only;omega,by simp only;omega,hD⟩ (by simp only;omega)
  ·have c1: ¬(i:Int)<d.flds.length:=by omega
   rw[ZE (by omega),wY] at hD;rw[<-hD] at hS;simp only[c1,zB,Qs,Zi,Zb,Za,Ze,Ψ42];exact hS _ rfl
 ·rw[if_neg h0] at hS
  have w0:(xC d !=0)=true:=by simp[h0]
  rw[<-hn] at g1⊢;simp only[Qs,Zb,Za,Ψ42];refine zD g1 ?_ (ha:=by simp only[Zj,Zo,zC,V.norm,C.norm,C.normRow,zS wS]<;>rfl);simp only[w0,Qs,Zi,Za,Ψ42];exact hS _ rfl
end Go.Abs
namespace Go
open Go.RowKit
def za2 {α:Type} (F:Fence) (n:Nat) (P:Program) (g:Nat) (lb:Array Value) (encs:α->Array Value) (Kp:World->World->Prop) (S:List α->Prop) (N:Nat) (w:World):Prop:=
 ∀(l:Nat) (J:List α->World->Prop) (W:World),Kp w W->(∀pre W1 W2,J pre W1->Below W1.heap.size W1 W2->J pre W2)->
  (∀pre x W1,J pre W1->pre.length<N->YieldAt F (n-1) P l (encs x) W1 fun e W'=>e=.returned (.bool true)/\J (pre++[x]) W'/\Kp W1 W')->
  J [] W->
  CallsIn F n P g (#[.func (.yield l) #[] #[]]++lb) W fun e W'=>(∃v,e=.returned v)/\ ∃xs,S xs/\J xs W'
def zoC {α:Type} (B:Nat) (Kp:World->World->Prop) (I:List α->World->Prop) (xs:List α) (W:World):Exit->Act->World->Prop
 | .normal,_,W'=>KeepsFrom B W W'/\Kp W W'/\I xs W'
 |_,_,_=>False
theorem kA {W W':World} (hb:Below W.heap.size W W'):W.grownBy W' none:=⟨hb.os,hb.tape,hb.output,hb.size,fun k hk _=>hb.block k hk⟩
variable {F : Fence} {n : Nat} {P : Program}
theorem zi8 {α:Type} {g:Operand} {ps:Array Tmp} {assign body:Code} {Q:Exit->Act->World->Prop} {a:Act} {w:World}
  (hro:F.round=none) (h1:1<=n) {gf:Nat} {lb:Array Value} (hg:a.eval g=.func (.func gf) #[] lb) (hFg:F.fn gf) (eg: ∀args w,(callFunc gf args).run P w=.ok (.enter gf args) w)
  {encs:α->Array Value} {Kp:World->World->Prop} {S:List α->Prop} {N:Nat} (hseq:za2 F (n-1) P gf lb encs Kp S N w)
  (hKt: ∀A B C:World,Kp A B->Kp B C->Kp A C) (hKb: ∀(W W':World) (row:Option Nat),w.heap.size<=W.heap.size->W.grownBy W' row->(∀r,row=some r->w.heap.size<=r)->Kp W W') (hps: ∀x,(encs x).size=ps.size)
  (I:List α->World->Prop) (hI:OwnFrom w.heap.size I) (h0:I [] w) (Ax:α->Act->World->Prop) (hA: ∀x a' W l o o',Ax x a' W->w.heap.size<=l->W.heap[l]?=some o->o.isCells=false->Ax x a' (W.putObj l o'))
  (hassign: ∀(l:Nat) (pre:List α) (x:α) (W:World) (K:Act->World->Prop),I pre W->w.heap.size<=W.heap.size->(∀a' W',Ax x a' W'->I pre W'->KeepsFrom w.heap.size W W'->Kp W W'->w.heap.size<=W'.heap.size->K a' W')->
   assign.wpIn (F.inRound l) (n-1-1) P (Exit.then K (fun _ _ _=>False)) {tmps:=(ps.zip (encs x)).foldl (fun t (p,v)=>t.setIfInBounds p v) a.tmps,defers:=[]} W)
  (hbody: ∀(l:Nat) (pre:List α) (x:α) (a':Act) (W:World),Ax x a' W->I pre W->pre.length<N->w.heap.size<=W.heap.size->body.wpIn (F.inRound l) (n-1-1) P (zoC w.heap.size Kp I (pre++[x]) W) a' W)
  (hdone: ∀(D:Nat) (xs:List α) (W:World),w.heap.size<=D->S xs->I xs W->W.heap[D]?=some (.deferred (some []))->Q .normal {a with defers:={target:=.collected D,args:= #[]}::a.defers} W):
  (Code.rangeFunc g ps assign body).wpIn F n P Q a w:=by
 refine wpIn_rangeFunc ?_;intro fn hfn;rw[hro];obtain⟨rec,hrec⟩: ∃rec:LoopState->Option Code->Loop,rec=fun st pe=>{state:=st,pending:=pe,fn,tmps:=a.tmps,params:=ps,assign,body,defers:=w.heap.size}:=⟨_,rfl⟩
 obtain⟨W1,hW1⟩: ∃W1,(w.alloc (.deferred (some []))).alloc (.loop (rec .ready none))=W1:=⟨_,rfl⟩;have hL1:W1.heap[w.heap.size+1]?=some (.loop (rec .ready none)):=by
  rw[<-hW1];have:=World.alloc_heap_new (w.alloc (.deferred (some []))) (.loop (rec .ready none));rwa [World.size_alloc] at this
 have hK1:W1.heap[w.heap.size]?=some (.deferred (some [])):=by
  rw[<-hW1];exact(Below.heap_alloc _ _ _ (by simp)).trans (World.alloc_heap_new w _)
 have hI1:I [] W1:=by rw[<-hW1];exact hI.alloc _ (hI.alloc _ h0)
 have hg1:w.grownBy W1 none:=by rw[<-hW1];exact kA (((Below.refl _ w).alloc (ZA _) _).alloc (by simp) _)
 have hk1:Kp w W1:=hKb w W1 none (ZA _) hg1 (fun r e=>by cases e);have hs1:w.heap.size+1<W1.heap.size:=(Zs.1 hL1).1;refine⟨w.heap.size+1,[{target:=.collected w.heap.size,args:= #[]}],W1,{target:=.fn (.func gf) lb,args:= #[.func (.yield (w.heap.size+1)) #[] #[]]},W1,gf,
  #[.func (.yield (w.heap.size+1)) #[] #[]]++lb,W1,?_,?_,?_,?_,fun _=>h1,?_⟩
 ·rw[<-hW1,hrec];exact run_enterLoop_outer _ _ _ _ _
 ·simp only[resolve,hg]
  simp[go_sem]
 ·intro f' hf';simp[Target.leads] at hf';subst hf';exact hFg
 ·simp[invoke,go_sem,eg]
 ·refine(hseq (w.heap.size+1)
   (fun pre W=>I pre W/\W.heap[w.heap.size+1]?=some (.loop (rec .ready none))/\W.heap[w.heap.size]?=some (.deferred (some [])))
   W1 hk1
   (fun pre A B hs hb=>⟨hI pre A B none hs.1 (kA hb) (fun r e=>by cases e),(hb.block _ (Zs.1 hs.2.1).1).trans hs.2.1,(hb.block _ (Zs.1 hs.2.2).1).trans hs.2.2⟩)
   ?_ ⟨hI1,hL1,hK1⟩).mono ?_
  ·rintro pre x W ⟨hi,hl,hk⟩ hlen
   have hlt:w.heap.size+1<W.heap.size:=(Zs.1 hl).1;have hy:=run_yield (P:=P) (args:=encs x) hl (by rw[hrec];exact hps x);rw[hrec] at hy;refine⟨fn,_,assign,body,hy,roundIn_of_wpIn hfn (hassign _ pre x W _ hi (by omega) ?_)⟩;intro a' W2 hAx hI2 hk2' hkp2 hsz2;have hl0:=hk2'.same _ _ (by omega) hl rfl;have hk0:=hk2'.same _ _ (ZA _) hk rfl;have hlt2:w.heap.size+1<W2.heap.size:=(Zs.1 hl0).1;refine⟨_,run_beginRound hl0 (by rw[hrec]),?_⟩;have hl2:(W2.putObj (w.heap.size+1) (.loop {rec .ready none with state:=.busy})).heap[w.heap.size+1]?=some (.loop {rec .ready none with state:=.busy}):=World.putObj_heap_same hlt2;have hk2:(W2.putObj (w.heap.size+1) (.loop {rec .ready none with state:=.busy})).heap[w.heap.size]?=some (.deferred (some [])):=(World.putObj_heap_other (by omega)).trans hk0;have hI3:I pre (W2.putObj (w.heap.size+1) (.loop {rec .ready none with state:=.busy})):=hI.putObj _ hI2 (by omega) hl0 rfl;have hg2:=grownBy_putObj' W2 (w.heap.size+1) (.loop {rec .ready none with state:=.busy});have hw2:Kp W2 (W2.putObj (w.heap.size+1) (.loop {rec .ready none with state:=.busy})):=hKb _ _ (some (w.heap.size+1)) (by omega) hg2 (fun r e=>by cases e;omega);refine wpIn_mono (hbody _ pre x a' (W2.putObj (w.heap.size+1) (.loop {rec .ready none with state:=.busy})) (hA _ _ _ _ _ _ hAx (by omega) hl0 rfl) hI3 hlen (by have:=hg2.size;omega)) ?_;rintro e a3 W3 hp;cases e with
   |normal=>
    obtain⟨hk4,hkp4,hi4⟩:=hp;have hkk:=hk4;have hl3:=hkk.same _ _ (by omega) hl2 rfl;have hr:=run_endRound (P:=P) none hl3;rw[hrec] at hr hl3;refine⟨_,_,hr,rfl,⟨hI.putObj _ hi4 (by omega) (hkk.same _ _ (by omega) hl2 rfl) rfl,?_,(World.putObj_heap_other (by omega)).trans (hkk.same _ _ (by omega) hk2 rfl)⟩,?_⟩
    ·rw[hrec];exact World.putObj_heap_same (Zs.1 hl3).1
    ·exact hKt _ _ _ (hKt _ _ _ hkp2 hw2) (hKt _ _ _ hkp4 (hKb _ _ (some (w.heap.size+1)) (by have:=(Zs.1 hl3).1;omega) (grownBy_putObj' _ _ _) (fun r e=>by cases e;omega)))
   |ret=>exact hp.elim
   |exit id=>exact hp.elim
   |goto t=>exact hp.elim
   |panic ch=>exact hp.elim
   |outgrown=>exact hp.elim
  ·rintro e W2 ⟨⟨v,rfl⟩,xs,hS,hi,hl,hk⟩
   exact⟨none,_,by have:=run_endLoop (P:=P) hl (by rw[hrec];simp);rw[hrec] at this;exact this,hdone _ xs _ (ZA _) hS (hI.putObj _ hi (by omega) hl rfl) ((World.putObj_heap_other (by omega)).trans hk)⟩
end Go
namespace Go.Abs
open Go.Proofs Go.RowKit
abbrev yB (W:World):Bk->Prop:=fun b=>b.2<W.heap.size
theorem zoD {Z:Bk->Prop} {w W:World} (hz: ∀b,Z b->b.2<w.heap.size) (hb:Below w.heap.size w W):xG Z w W:=fun b h=>hb.block b.2 (hz b h)
theorem uU {w W:World} {c:C} {v:Value} (h:PRep w (yB w) c v) (hb:Below w.heap.size w W):PRep W (yB W) c v:=
 h.mono (zoD (fun _ h=>h) hb) fun _ h=>ZO h hb.size
theorem kB {w:World} {Z:Bk->Prop} {c:C} {v:Value} (hz: ∀b,Z b->b.2<w.heap.size) (h:PRep w Z c v):PRep w (yB w) c v:=h.mono (fun _ _=>rfl) hz
theorem dE {w:World} {Z:Bk->Prop} {r:List C} {cs:List Value} (hr: ∀c∈r,c.sc=true) (h:yH w Z r cs):cs=r.map wR:=by
 apply List.ext_getElem?;intro j;rw[ZD];cases hj:r[j]? with
 |none=>
  rw[List.getElem?_eq_none_iff] at hj;rw[XL (by rw[h.1];exact hj)];rfl
 |some c=>
  have hlt:j<cs.length:=by rw[h.1];exact(Zw.1 hj).1
  have h1:cs[j]?=some cs[j]:=by simp[hlt]
  rw[h1,zaV (hr c (ZM hj)) (h.2 j c _ hj h1)];rfl
theorem zoE {w:World} {Z:Bk->Prop} {r:List C} (hr: ∀c∈r,c.sc=true):yH w Z r (r.map wR):=by
 refine⟨by simp,fun j c v hc hv=>?_⟩;rw[ZD,hc] at hv;cases hv;exact zi0 (hr c (ZM hc))
theorem wI (w:World) (Z:Bk->Prop):wX w Z [] []:=⟨rfl,fun j x v h=>by simp at h⟩
theorem zi9 {w:World} {Z:Bk->Prop} {x:V} {xs:List V} {v:Value} {vs:List Value} (hx:x.isPure=true) (hv:zJ w Z (fun _=>none) (fun _=>none) x v) (h:wX w Z xs vs):wX w Z (x::xs) (v::vs):=by
 refine⟨by simp[h.1],fun j y u hy hu=>?_⟩;cases j with
 |zero=>cases hy;cases hu;exact⟨hx,hv⟩
 |succ j=>exact h.2 j y u (by simpa using hy) (by simpa using hu)
theorem uA {w:World} {Z:Bk->Prop} {c:C} {xs:List V} {v:Value} {vs:List Value} (hv:PRep w Z c v) (h:wX w Z xs vs):wX w Z (.k (.c c)::xs) (v::vs):=zi9 rfl ⟨hv.oneCell,hv⟩ h
theorem dF {w:World} {Z:Bk->Prop} {r:List C} {xs:List V} {us:Array Value} {vs:List Value} (hv:yH w Z r us.toList) (h:wX w Z xs vs):wX w Z (.agg r::xs) (.agg us::vs):=zi9 rfl ⟨us,rfl,hv⟩ h
theorem uH {w:World} {Z:Bk->Prop} {r:List C} {xs:List V} {vs:List Value} (hr: ∀c∈r,c.sc=true) (h:wX w Z xs vs):wX w Z (.agg r::xs) (.agg (r.map wR).toArray::vs):=dF (zoE hr) h
theorem Spec.pureC {P:Program} {f:FuncId} {xs:List V} {r:V} (h:Spec P f xs (fun r'=>r'=r)) (hp:r.isPure=true) (hr: ∀n,r.reg n=(r,[])) {W:World} (hG:yU (base W)) {Z:Bk->Prop} (hz: ∀b,Z b->b.2<W.heap.size) {vs:Array Value} (ha:wX W Z xs vs.toList):
  Calls P f vs W fun e W'=> ∃v,e=.returned v/\Below W.heap.size W W'/\zJ W' (yB W') (fun _=>none) (fun _=>none) r v:=by
 refine(h.2 W Z vs hG hz ha).mono ?_;rintro e w' ⟨v,r',rfl,rfl,hnr,hrep⟩;obtain⟨κ,hi⟩:=hrep 0;have h0:=hi.tmps 0;simp only[if_pos,hr] at h0;refine⟨v,rfl,dB hi.kept,?_⟩;have h1:=zJ.pure_any (κ':=fun _=>none) (o':=fun _=>none) hp h0;exact zJ.mono (fun _ _=>rfl) (fun b hb=>hb.2.1) (τs:=fun _=>False) (fun τ hτ=>hτ.elim) (fun τ hτ=>by rw[hnr τ] at hτ;cases hτ) h1
theorem Spec.boolC {P:Program} {f:FuncId} {xs:List V} {b:Bool} (h:Spec P f xs (fun r'=>r'=.bool b)) {W:World} (hG:yU (base W)) {Z:Bk->Prop} (hz: ∀b,Z b->b.2<W.heap.size) {vs:Array Value} (ha:wX W Z xs vs.toList):
  Calls P f vs W fun e W'=>e=.returned (.bool b)/\Below W.heap.size W W':=by
 refine(h.pureC rfl (fun _=>rfl) hG hz ha).mono ?_;rintro e w' ⟨v,rfl,hb,hv⟩;rw[pZ hv.2];exact⟨rfl,hb⟩
theorem Spec.strC {P:Program} {f:FuncId} {xs:List V} {s:List UInt8} (h:Spec P f xs (fun r'=>r'=.str s)) {W:World} (hG:yU (base W)) {Z:Bk->Prop} (hz: ∀b,Z b->b.2<W.heap.size) {vs:Array Value} (ha:wX W Z xs vs.toList):
  Calls P f vs W fun e W'=>e=.returned (.string ⟨s.toArray⟩)/\Below W.heap.size W W':=by
 refine(h.pureC rfl (fun _=>rfl) hG hz ha).mono ?_;rintro e w' ⟨v,rfl,hb,hv⟩;rw[tM hv.2];exact⟨rfl,hb⟩
theorem Spec.intC {P:Program} {f:FuncId} {xs:List V} {k:IntKind} {n:Int} (h:Spec P f xs (fun r'=>r'=.int k n)) {W:World} (hG:yU (base W)) {Z:Bk->Prop} (hz: ∀b,Z b->b.2<W.heap.size) {vs:Array Value} (ha:wX W Z xs vs.toList):
  Calls P f vs W fun e W'=>e=.returned (.int k n)/\Below W.heap.size W W':=by
 refine(h.pureC rfl (fun _=>rfl) hG hz ha).mono ?_;rintro e w' ⟨v,rfl,hb,hv⟩;rw[vO hv.2];exact⟨rfl,hb⟩
theorem Spec.listC {P:Program} {f:FuncId} {xs:List V} {c:C} (h:Spec P f xs (fun r'=>r'=.k (.c c))) {W:World} (hG:yU (base W)) {Z:Bk->Prop} (hz: ∀b,Z b->b.2<W.heap.size) {vs:Array Value} (ha:wX W Z xs vs.toList):
  Calls P f vs W fun e W'=> ∃v,e=.returned v/\Below W.heap.size W W'/\PRep W' (yB W') c v:=by
 refine(h.pureC rfl (fun _=>rfl) hG hz ha).mono ?_;rintro e w' ⟨v,rfl,hb,hv⟩;exact⟨v,rfl,hb,hv.2⟩
theorem Spec.aggC {P:Program} {f:FuncId} {xs:List V} {r:List C} (hr: ∀c∈r,c.sc=true) (h:Spec P f xs (fun r'=>r'=.agg r)) {W:World} (hG:yU (base W)) {Z:Bk->Prop} (hz: ∀b,Z b->b.2<W.heap.size) {vs:Array Value} (ha:wX W Z xs vs.toList):
  Calls P f vs W fun e W'=>e=.returned (.agg (r.map wR).toArray)/\Below W.heap.size W W':=by
 refine(h.pureC rfl (fun _=>rfl) hG hz ha).mono ?_;rintro e w' ⟨v,rfl,hb,cs,rfl,hv⟩;have h1:=dE hr hv;obtain⟨cl⟩:=cs;have h2:cl=r.map wR:=h1;subst h2;exact⟨rfl,hb⟩
theorem zoF {rows:List (List C)} {sz:Nat} (hs: ∀r∈rows,r.length=sz) {cur:Array Value} (hc: ∀(i j:Nat) r c,rows[i]?=some r->r[j]?=some c->cur[i*sz+j]?=some (wR c)):cur.toList.take (rows.length*sz)=(rows.flatten.map wR):=by
 have key: ∀(rows:List (List C)) (q:Nat),(∀r∈rows,r.length=sz)->(∀(i j:Nat) r c,rows[i]?=some r->r[j]?=some c->cur[q+(i*sz+j)]?=some (wR c))->(cur.toList.drop q).take (rows.length*sz)=rows.flatten.map wR:=by
  intro rows
  induction rows with
  |nil=>intro q _ _;simp
  |cons r rows ih=>
   intro q h1 h2;have hr:=h1 r (by simp);have h3:=ih (q+sz) (fun x hx=>h1 x (ZH _ hx)) fun i j r' c hi hj=>by
    have:=h2 (i+1) j r' c (by simpa using hi) hj;rw[show q+((i+1)*sz+j)=q+sz+(i*sz+j) by rw[Xw];omega] at this;exact this
   rw[Zu,Xw,Y4,List.take_add,List.drop_drop,h3,YR,ZV];congr 1;apply List.ext_getElem?;intro j;rw[ZZ,YG,ZD];by_cases hj:j<sz
   ·rw[if_pos hj]
    have hj':j<r.length:=by omega
    rw[Zk hj',YF,YE];have:=h2 0 j r r[j] rfl (Zk hj')
    rwa [Nat.zero_mul,Z4] at this
   ·rw[if_neg hj,XL (by omega)];rfl
 have:=key rows 0 hs (by simpa using hc);simpa using this
theorem Spec.newB {P:Program} {f:FuncId} {xs:List V} {e sz:Nat} {rows:List (List C)} {b:Bool} (hsc: ∀r∈rows,∀c∈r,c.sc=true) (hln: ∀r∈rows,r.length=sz) (h:Spec P f xs (fun r'=>r'=.tup [.k (.newl e sz none rows),.bool b])) {W:World} (hG:yU (base W)) {Z:Bk->Prop} (hz: ∀b,Z b->b.2<W.heap.size) {vs:Array Value} (ha:wX W Z xs vs.toList):
  Calls P f vs W fun ex W'=> ∃v,ex=.returned (.tuple #[v,.bool b])/\Below W.heap.size W W'/\W'.ownsRow W.heap.size e sz v rows.length (rows.flatten.map wR):=by
 refine(h.2 W Z vs hG hz ha).mono ?_;rintro ex w' ⟨v,r',rfl,rfl,_,hrep⟩;obtain⟨κ,hi⟩:=hrep 0;have h0:=hi.tmps 0;have ho:=hi.objs 0 (.arr e sz none rows) rfl;have hw:=hi.own 0;have hlen:(rows.flatten.map wR).length=rows.length*sz:=by rw[Ze];exact zi3 rows hln
 obtain⟨us,hu,hl,hv⟩:=h0;have hu':v=.tuple us:=hu;subst hu';obtain⟨l⟩:=us
 match l,hl,hv with
 |[x,y],_,hv=>
  obtain⟨hx,hy,_⟩:=hv;have hyb:=pZ hy.2;subst hyb;refine⟨x,rfl,dB hi.kept,hlen,?_⟩;have hx2:=hx.2 e sz none rows rfl;rcases ho with⟨h1,h2,_⟩|⟨g,cur,cap,h1,h2,h3,h4,h5,h6,_,h8,h9⟩
  ·rcases hx2 with⟨_,h3⟩|⟨g,cur,cap,h3,_⟩
   ·exact .inl ⟨h3,by rw[h2];rfl⟩
   ·rw[h1] at h3;cases h3
  ·rcases hx2 with⟨h,_⟩|⟨g',cur',cap',k1,k2,k3,k4⟩
   ·rw[h1] at h;cases h
   ·rw[h1] at k1;cases k1
    rw[h2] at k2;cases k2;obtain rfl:cap=cap':=by
     have:=h4.symm.trans k3;exact X8 h3 this
    have hg:=(hw g (by simp[zY,V.reg,V.regL]) h1);refine .inr ⟨g,cap,cur,k4,XC hg.1,h2,h5,h6,h4,zoF h8 fun i j r c hr hc=>?_⟩;obtain⟨u,hu,hp⟩:=h9 i j r c hr hc;rw[hu,zaV (hsc r (ZM hr) c (ZM hc)) hp]
end Go.Abs
namespace Go.Proofs
open Go.RowKit Go.Shelf Go.Abs
attribute [local go_sem] Oper.semAt_some
abbrev Ix (m:Nat):Type:={k:Nat//k<m}
def za3 (m:Nat) (fv:Nat->Value×Value) (x:Ix m):Array Value:= #[.int .i64 (x.1:Int),.agg #[(fv x.1).1,(fv x.1).2]]
def zoG (m:Nat) (xs:List (Ix m)):Prop:=xs.map (fun x=>x.1)=(List.range m).reverse
theorem zoH {m k:Nat} {pre:List (Ix m)} (hk:k+1<=m) (h:pre.map (fun x=>x.1)++(List.range (k+1)).reverse=(List.range m).reverse):(pre++[(⟨k,hk⟩:Ix m)]).map (fun x=>x.1)++(List.range k).reverse=(List.range m).reverse:=by
 rw[<-h,YY,List.reverse_append];simp
theorem zoI (n:Nat) (hn:3<=n) (bs m cap:Nat) (hm:m<=1000000) (p:Option Addr) (b o:Nat) (fv:Nat->Value×Value) (hf1: ∀k,(fv k).1.oneCell'=true) (hf2: ∀k,(fv k).2.oneCell'=true) (hp:0<m->p=some ⟨b,o,none⟩) (w:World) (Kp:World->World->Prop) (hKr:Kp w w) (hKt: ∀A B C,Kp A B->Kp B C->Kp A C)
  (hbx: ∀W,Kp w W->W.cell? ⟨bs,0,none⟩=some (.slice p m cap)) (hcl: ∀W,Kp w W-> ∀k,k<m->W.cell? ⟨b,o+k*2,none⟩=some (fv k).1/\W.cell? ⟨b,o+k*2+1,none⟩=some (fv k).2):
  za2 Fence.wide n Tryz.prog 154 #[.pointer (some ⟨bs,0,none⟩)] (za3 m fv) Kp (zoG m) m w:=by
 intro l J W hW hJ hY h0;have h1n:1<=n:=by omega
 have mixed:Tryz.prog.follows Departure.mixedOrders=true:=by kernel_rfl
 have hb0:=hbx W hW;refine callsIn_of_wp Tryz.func154 rfl trivial ?_ rfl;simp only[Tryz.ntmps154,YJ,Zu,ZK,Zb,Xr,YV,YU,Y7,Y1,Z7,ZT];have hw0:IntKind.i64.wrap ((m:Int)-1)=(m:Int)-1:=wrap_in (by omega) (by omega)
 gi_wp2
 gi_loopw [3] (fun q wr=> ∃(k:Nat) (pre:List (Ix m)),k<=m/\q=.int .i64 ((k:Int)-1)/\pre.map (fun x=>x.1)++(List.range k).reverse=(List.range m).reverse/\pre.length+k=m/\J pre wr/\Kp w wr)
  (fun q wr=>match q with| .int _ z=>(z+1).toNat|_=>0)
 case atStart=>exact⟨m,[],ZA _,rfl,by simp,by simp,h0,hW⟩
 case round=>
  obtain⟨k,pre,hk,rfl,hpre,hlen,hJ,hKp⟩:=hrel;by_cases h0k:k=0
  ·subst h0k
   have hle: ¬((0:Nat):Int)-1>=0:=by omega
   gi_wp2
   go_end0
   refine⟨⟨_,rfl⟩,pre,?_,hJ⟩;show _=_;rw[<-hpre];simp
  ·obtain⟨q,rfl⟩: ∃q,k=q+1:=⟨k-1,by omega⟩
   obtain rfl:=hp (by omega);have e6:((q+1:Nat):Int)-1=(q:Int):=by omega
   have hge:(q:Int)>=0:=by omega
   have hqm:(q:Int)<m:=by omega
   have hb1:=hbx wr hKp;obtain⟨hc1,hc2⟩:=hcl wr hKp q (by omega);have ho1:=hf1 q;have ho2:=hf2 q;have hw1:IntKind.i64.wrap ((q:Int)-1)=(q:Int)-1:=wrap_in (by omega) (by omega);obtain⟨fn,tmps,assign,body,hy,hR⟩:=hY pre ⟨q,by omega⟩ wr hJ (by omega);simp only[za3] at hy;rw[e6];clear hbx hcl hY
   gi_wp2
   refine hR.mono ?_;rintro e W3 ⟨rfl,hJ3,hk3⟩
   gi_wp2
   go_roundw
   case rel=>exact⟨q,pre++[⟨q,by omega⟩],by omega,rfl,zoH (by omega) hpre,by rw[Zr];simp only[Zu,ZK];omega,hJ3,hKt _ _ _ hKp hk3⟩
   case measure=>simp only[];omega
end Go.Proofs
namespace Go.Proofs
open Go.RowKit Go.Wd Go.Wire
def tV (s:Txt):Value:=.string ⟨s.toArray⟩
def clV (op:Int) (d f o s t:Txt) (lo hi:Int):Value:=
 if op=0 then .iface 165 (.agg #[tV d]) else if op=1 then .iface 167 (.agg #[tV d,tV f,tV t]) else if op=3 then .iface 169 (.agg #[tV d,tV f,tV o,tV s])
 else if op=2 then .iface 171 (.agg #[tV d,tV f,.int .i64 lo,.int .i64 hi,.bool false]) else if op=4 then .iface 171 (.agg #[tV d,tV f,.int .i64 lo,.int .i64 hi,.bool true]) else .nilIface
def okO (op:Int):Bool:=decide (op=0)||(decide (op=1)||(decide (op=3)||(decide (op=2)||decide (op=4))))
theorem kC (w:World) (o1 o2:Obj):Below w.heap.size w ((w.alloc o1).alloc o2):=((Below.refl _ w).alloc (ZA _) _).alloc (by simp) _
theorem zja (op:Int) (d f o s t:Txt) (lo hi:Int) (w:World):Calls Tryz.prog 79 #[.agg #[.int .i64 op,tV d,tV f,tV o,tV s,tV t,.int .i64 lo,.int .i64 hi]] w fun e w'=>e=.returned (.tuple #[clV op d f o s t lo hi,.bool (okO op)])/\Below w.heap.size w w':=by
 unfold tV;by_cases h0:op=0
 ·subst h0
  go_enter Tryz.func79,Tryz.ntmps79
  go_wp2
  go_ret2
  exact⟨rfl,kC w _ _⟩
 by_cases h1:op=1
 ·subst h1
  go_enter Tryz.func79,Tryz.ntmps79
  go_wp2
  go_ret2
  exact⟨rfl,kC w _ _⟩
 by_cases h3:op=3
 ·subst h3
  go_enter Tryz.func79,Tryz.ntmps79
  go_wp2
  go_ret2
  exact⟨rfl,kC w _ _⟩
 by_cases h2:op=2
 ·subst h2
  go_enter Tryz.func79,Tryz.ntmps79
  go_wp2
  go_ret2
  exact⟨rfl,kC w _ _⟩
 by_cases h4:op=4
 ·subst h4
  go_enter Tryz.func79,Tryz.ntmps79
  go_wp2
  go_ret2
  exact⟨rfl,kC w _ _⟩
 have e1:clV op d f o s t lo hi=.nilIface:=by unfold clV;rw[if_neg h0,if_neg h1,if_neg h3,if_neg h2,if_neg h4]
 have e2:okO op=false:=by unfold okO;simp[h0,h1,h2,h3,h4]
 rw[e1,e2]
 go_enter Tryz.func79,Tryz.ntmps79
 go_wp2
 go_ret2
 exact⟨rfl,kC w _ _⟩
end Go.Proofs
namespace Go.Ex
open Go.Lib Go.Wd Go.Wire Go.Abs
def fldsF (d f:Txt):List Pln->List Txt->List Txt×Bool
 |[],acc=>(acc,true)
 |p::l,acc=>if p.kind=d then(if fstN (fun x=>decide (f=x)) p.names 0<0\/fstN (fun x=>decide (f=x)) p.names 0>=p.texts.length then([],false) else fldsF d f l (acc++[p.texts.getD (fstN (fun x=>decide (f=x)) p.names 0).toNat []])) else fldsF d f l acc
structure PlnS (p:Pln):Prop where
 kd:p.kind.length<=1000000
 ns:p.names.length<=1000000
 ts:p.texts.length<=1000000
 tx: ∀s∈p.texts,s.length<=1000000
def wU (l:List Pln):Prop:=l.length<=1000000/\ ∀p∈l,PlnS p
def kindP (l:List Pln) (s:Txt):Bool:=l.any fun p=>decide (p.kind=s)
end Go.Ex
namespace Go.Abs
open Go.Proofs Go.RowKit Go.Lib Go.Wd Go.Wire Go.Ex
def zX (p:Pln):List C:=[.str p.kind,zF 1 (zK p.names),zF 1 (zK p.texts)]
@[simp] theorem sJ (p:Pln):C.normRow (zX p)=zX p:=by simp only[zX,C.normRow,C.norm,zI,yM]
theorem qW {l:List Pln} {i:Nat} (h:i<l.length):(l.map zX).getD i []=[.str l[i].kind,zF 1 (zK l[i].names),zF 1 (zK l[i].texts)]:=by simp[zX,h]
theorem zoJ (s:Txt) (p:Pln):Spec Tryz.prog 209 [.agg (zX p),.k (.c (.ro [.str s] 0))] (fun v=>v=.bool (decide (p.kind=s))):=by
 refine Spec.of_awlS hf209 okf209 (by simp) fun S hS=>?_
 unfold zX;simp only[Qs,Zb,Zd,Za,Ψ209];refine wQ hS ?_;simp
theorem zoK (s:Txt) (l:List Pln) (hl:l.length<=1000000):Spec Tryz.prog 210 [lst 3 (l.map zX),.k (.c (.fn 209 [.ro [.str s] 0]))] (fun v=>v=.int .i64 (fstN (fun p:Pln=>decide (p.kind=s)) l 0)):=by
 refine Spec.of_awlS hf210 okf210 (by simp) fun S hS=>?_
 simp only[zB,Qs,Zb,Za,Ze,Ψ210];rw[uu f210l17.eq_1];refine zO (fun i:Nat=>[(0,lst 3 (l.map zX)),(1,.k (.c (.fn 209 [.ro [.str s] 0]))),(7,.int .i64 l.length),(8,.int .i64 i)]) (fun _=>[]) (fun i=>i<=l.length/\fstN (fun p:Pln=>decide (p.kind=s)) (l.drop i) i=fstN (fun p:Pln=>decide (p.kind=s)) l 0) (fun i=>l.length-i) 0 rfl rfl ⟨Zy _,by simp⟩ ?_;rintro i ⟨hi,hD⟩;by_cases hlt:i<l.length
 ·have c1:(i:Int)<l.length:=by omega
  have c4:IntKind.i64.wrap ((i:Int)+1)=(i:Int)+1:=wrap_in (by omega) (by omega);have gi:=zoJ s l[i];rw[oQ hlt] at hD;simp only[c1,zB,qW hlt,Qs,oI,Za,Ze,Ψ210];refine rM gi ?_ (ha:=by simp only[Zj,Zo,ZT,Z7,zC,V.norm,C.norm,zX,C.normRow,zI,yM]<;>rfl);by_cases he:l[i].kind=s
  ·rw[if_pos (decide_eq_true he)] at hD
   rw[<-hD] at hS;simp only[decide_eq_true he,Qs,Za,Ψ210];exact hS
  ·rw[if_neg (by rw[decide_eq_false he];simp)] at hD
   simp only[decide_eq_false he,c4,Qs,Za,Ψ210];exact Next.intro (i+1) rfl rfl ⟨by omega,hD⟩ (by omega)
 ·have c1: ¬(i:Int)<l.length:=by omega
  rw[ZE (by omega)] at hD;rw[<-hD] at hS;simp only[c1,Qs,Yp,Za,Ψ210];exact hS
theorem zoL (s:Txt) (l:List Pln) (hl:l.length<=1000000):Spec Tryz.prog 208 [lst 3 (l.map zX),.k (.c (.fn 209 [.ro [.str s] 0]))] (fun v=>v=.bool (kindP l s)):=by
 refine Spec.of_awlS hf208 okf208 (by simp) fun S hS=>?_
 have g1:=zoK s l hl;have hp:=oR (p:=fun p:Pln=>decide (p.kind=s)) l 0;generalize fstN (fun p:Pln=>decide (p.kind=s)) l 0=x at g1 hp;simp only[Qs,Zb,Za,Ψ208];refine zD g1 ?_ (ha:=by simp only[Zj,Zo,zC,V.norm,C.norm,zS sJ,C.normRow]<;>rfl);simp only[Qs];exact wQ hS (by rw[decide_eq_true_eq];exact hp)
theorem zjb (s:Txt) (l:List Pln) (hl:l.length<=1000000):Spec Tryz.prog 207 [lst 3 (l.map zX),.str s] (fun v=>v=.bool (kindP l s)):=by
 refine Spec.of_awlS hf207 okf207 (by simp) fun S hS=>?_
 have g1:=zoL s l hl;generalize kindP l s=x at g1 hS;simp only[Qs,nP,zgm,Zb,Za,nU,nV,nW,nX,nY,nZ,mA,Ψ207];refine zD g1 ?_ (ha:=by simp only[Zj,Zo,zC,V.norm,C.norm,zS sJ,C.normRow]<;>rfl);simp only[Qs];exact hS
theorem zoM (s:Txt) (l:List Pln) (hl:l.length<=1000000):Spec Tryz.prog 204 [.agg [.str s],lst 3 (l.map zX)] (fun v=>v=.bool (kindP l s)):=by
 refine Spec.of_awlS hf204 okf204 (by simp) fun S hS=>?_
 have g1:=zjb s l hl;generalize kindP l s=x at g1 hS;simp only[Qs,Zb,Za,Ψ204];refine zD g1 ?_ (ha:=by simp only[Zj,Zo,zC,V.norm,C.norm,zS sJ,C.normRow]<;>rfl);simp only[Qs];exact hS
theorem zjc (d f:Txt) (l:List Pln) (hl:wU l):Spec Tryz.prog 215 [lst 3 (l.map zX),.agg [.str d,.str f]] (fun v=>v=.tup [lst 1 (zK (fldsF d f l []).1),.bool (fldsF d f l []).2]):=by
 refine Spec.of_awlP hf215 okf215 (by simp) fun S hS=>?_
 have hlen:=hl.1;simp only[zB,Qs,bne_iff_ne,ne_eq,Zb,Zn,Za,Ze,Ψ215];rw[uu f215l25.eq_1];refine zO (fun x:Nat×List Txt×Option Bool=>[(3,.k (.c (.ro [.str d,.str f] 0))),(6,.k (.own 6)),(10,lst 3 (l.map zX)),(11,.int .i64 l.length),(12,.int .i64 x.1)]) (fun x=>[(6,.arr 9 1 x.2.2 (zK x.2.1))]) (fun x=>x.1<=l.length/\x.2.1.length<=x.1/\fldsF d f (l.drop x.1) x.2.1=fldsF d f l []) (fun x=>l.length-x.1) (0,[],some true) rfl rfl ⟨Zy _,by decide,rfl⟩ ?_;rintro⟨i,L,nl⟩ ⟨hi,hL,hD⟩;simp only[] at hi hL hD;by_cases hlt:i<l.length
 ·have d1:(i:Int)<l.length:=by omega
  have c4:IntKind.i64.wrap ((i:Int)+1)=(i:Int)+1:=wrap_in (by omega) (by omega);have hat:=qW hlt;rw[Zx hlt,fldsF] at hD;have hp:=hl.2 _ (Zv hlt);generalize l[i]=p at hD hat hp;have g1:=c40 p.names f (big hp.ns);by_cases hk:p.kind=d
  ·rw[if_pos hk] at hD
   generalize fstN (fun x=>decide (f=x)) p.names 0=j at hD g1;by_cases hj:j<0\/j>=p.texts.length
   ·rw[if_pos hj] at hD
    rw[<-hD] at hS;by_cases hj0:j<0
    ·simp only[d1,hat,hk,zB,Qs,bne_iff_ne,ne_eq,BEq.rfl,Zi,Zb,Zn,Zd,Za,Ze,Ψ215]
     refine zD g1 ?_ (ha:=by simp only[Zj,Zo,zC,V.norm,C.norm,zI,yM]<;>rfl);simp only[hj0,zQ,Qs,bne_iff_ne,ne_eq,Zi,ZJ,Zn,Za,Zq,Ψ215];exact hS _ rfl
    ·have hj1:j>=p.texts.length:=hj.resolve_left hj0
     simp only[d1,hat,hk,zB,Qs,bne_iff_ne,ne_eq,BEq.rfl,Zi,Zb,Zn,Zd,Za,Ze,Ψ215];refine zD g1 ?_ (ha:=by simp only[Zj,Zo,zC,V.norm,C.norm,zI,yM]<;>rfl);simp only[hj0,hj1,zQ,Qs,bne_iff_ne,ne_eq,Zi,ZJ,Zb,Zn,Za,Zq,Ψ215];exact hS _ rfl
   ·rw[if_neg hj] at hD
    obtain⟨m,rfl⟩: ∃m:Nat,j=m:=⟨j.toNat,by omega⟩;have hj0: ¬(m:Int)<0:=by omega
    have hj1: ¬(m:Int)>=p.texts.length:=by omega
    have hm:m<p.texts.length:=by omega
    have hgd:p.texts.getD (m:Int).toNat []=p.texts[m]:=by simp[List.getD,hm]
    rw[hgd] at hD;simp only[d1,hat,hk,zB,Qs,bne_iff_ne,ne_eq,BEq.rfl,Zi,Zb,Zn,Zd,Za,Ze,Ψ215];refine zD g1 ?_ (ha:=by simp only[Zj,Zo,zC,V.norm,C.norm,zI,yM]<;>rfl);simp only[hj0,hj1,zQ,vU hm,c4,Qs,forall_eq,bne_iff_ne,ne_eq,ZB,Zb,Zn,Zd,ZN,Za,Zq,Ψ215];refine⟨by omega,by omega,by omega,Next.intro (i+1,L++[p.texts[m]],some false) rfl (by simp[zK];rfl) ⟨by simp only;omega,by simp;omega,hD⟩ (by simp only;omega)⟩
  ·rw[if_neg hk] at hD
   simp only[d1,hat,hk,c4,zB,Qs,forall_const,bne_iff_ne,ne_eq,Zi,Zb,Zn,Zd,Za,Ze,Ψ215];exact Next.intro (i+1,L,nl) rfl rfl ⟨by simp only;omega,by simp only;omega,hD⟩ (by simp only;omega)
 ·have d1: ¬(i:Int)<l.length:=by omega
  rw[ZE (by omega),fldsF] at hD;rw[<-hD] at hS;simp only[d1,Qs,Zi,ZJ,Za,Zq,Ψ215];refine hS _ ?_;simp only[V.fz,V.fzL,V.nrm,V.nrmL,yM,qG (yM L)];rfl
theorem zoN {g:Nat} {c:C} (hcn:c.norm=c) {p:Txt->Bool} (l:List Txt) (hg: ∀s∈l,Spec Tryz.prog g [.str s,.k (.c c)] (fun v=>v=.bool (p s))) (hl:l.length<=3000000):Spec Tryz.prog 96 [lst 1 (zK l),.k (.c (.fn g [c]))] (fun v=>v=.int .i64 (fstN p l 0)):=by
 refine Spec.of_awlS hf96 okf96 (by simp) fun S hS=>?_
 simp only[zQ,Qs,Zb,Za,Ψ96];rw[uu f96l17.eq_1];refine zO (fun i:Nat=>[(0,lst 1 (zK l)),(1,.k (.c (.fn g [c]))),(7,.int .i64 l.length),(8,.int .i64 i)]) (fun _=>[]) (fun i=>i<=l.length/\fstN p (l.drop i) i=fstN p l 0) (fun i=>l.length-i) 0 rfl rfl ⟨Zy _,by simp⟩ ?_;rintro i ⟨hi,hD⟩;by_cases hlt:i<l.length
 ·have c1:(i:Int)<l.length:=by omega
  have c4:IntKind.i64.wrap ((i:Int)+1)=(i:Int)+1:=wrap_in (by omega) (by omega);have gi:=hg l[i] (Zv hlt);rw[oQ hlt] at hD;simp only[c1,zQ,vU hlt,Qs,oI,Za,Ψ96];refine rM gi ?_ (ha:=by simp only[Zj,Zo,ZT,Z7,zC,V.norm,C.norm,hcn]<;>rfl);cases hp:p l[i] with
  |true=>
   rw[if_pos hp] at hD;rw[<-hD] at hS;simp only[Qs,Za,Ψ96];exact hS
  |false=>
   rw[if_neg (by rw[hp];simp)] at hD;simp only[c4,Qs,Za,Ψ96];exact Next.intro (i+1) rfl rfl ⟨by omega,hD⟩ (by omega)
 ·have c1: ¬(i:Int)<l.length:=by omega
  rw[ZE (by omega)] at hD;rw[<-hD] at hS;simp only[c1,Qs,Yp,Za,Ψ96];exact hS
theorem zjd {g:Nat} {c:C} (hcn:c.norm=c) {p:Txt->Bool} (l:List Txt) (hg: ∀s∈l,Spec Tryz.prog g [.str s,.k (.c c)] (fun v=>v=.bool (p s))) (hl:l.length<=3000000):Spec Tryz.prog 57 [lst 1 (zK l),.k (.c (.fn g [c]))] (fun v=>v=.bool (l.any p)):=by
 refine Spec.of_awlS hf57 okf57 (by simp) fun S hS=>?_
 have g1:=zoN hcn l hg hl;have hp:=oR (p:=p) l 0;generalize fstN p l 0=x at g1 hp;simp only[Qs,Zb,Za,Ψ57];refine zD g1 ?_ (ha:=by simp only[Zj,Zo,zC,V.norm,zI,C.norm,C.normRow,hcn,yM]<;>rfl);simp only[Qs];refine wQ hS ?_;rw[decide_eq_true_eq];exact hp
theorem zoO (d f t s:Txt):Spec Tryz.prog 216 [.str s,.k (.c (.ro [.str d,.str f,.str t] 0))] (fun v=>v=.bool (!decide (s=t))):=by
 refine Spec.of_awlS hf216 okf216 (by simp) fun S hS=>?_
 simp only[Qs,Zb,Za,Ψ216];refine wQ hS ?_;simp
theorem kD (d f:Txt): ∀(l:List Pln) (acc:List Txt),(fldsF d f l acc).1.length<=acc.length+l.length
 |[],acc=>by simp[fldsF]
 |p::l,acc=>by
  rw[fldsF];split
  ·split
   ·simp
   ·have:=kD d f l (acc++[p.texts.getD (fstN (fun x=>decide (f=x)) p.names 0).toNat []])
    simp only[Zr,Zu,ZK] at this⊢;omega
  ·have:=kD d f l acc
   simp only[Zu];omega
def readsP (d f t:Txt) (l:List Pln):Bool:=(fldsF d f l []).2&& !(fldsF d f l []).1.any fun s=> !decide (s=t)
theorem zoP (d f t:Txt) (l:List Pln) (hl:wU l):Spec Tryz.prog 212 [.agg [.str d,.str f,.str t],lst 3 (l.map zX)] (fun v=>v=.bool (readsP d f t l)):=by
 refine Spec.of_awlS hf212 okf212 (by simp) fun S hS=>?_
 have g1:=zjc d f l hl;have hn:=kD d f l [];have h1:=hl.1;unfold readsP at hS;generalize fldsF d f l []=r at g1 hn hS;obtain⟨L,b⟩:=r;simp only[] at g1 hn hS;have g2:=zjd (c:=.ro [.str d,.str f,.str t] 0) rfl L (fun s _=>zoO d f t s) (by simp only[ZK] at hn;omega);simp only[Qs,Zb,Zd,Za,Ψ212];refine yP g1 ?_ (ha:=by simp only[Zj,Zo,zC,V.norm,C.norm,zS sJ,C.normRow]<;>rfl);cases b with
 |false=>
  simp only[Qs,zev,Zi,Zb,Yf,Za,Ψ212];exact hS
 |true=>
  simp only[Qs,zev,nP,Zi,Zb,Yf,Za,nU,nV,nW,nX,nY,nZ,mA,Ψ212];refine zD g2 ?_ (ha:=by simp only[Zj,Zo,zC,V.norm,zI,C.norm,C.normRow,yM]<;>rfl);simp only[Qs,Za];exact hS
end Go.Abs
namespace Go.Ex
open Go.Lib Go.Wd Go.Wire Go.Abs
def digsV (s:Txt):Nat:=s.foldl (fun a c=>10*a+(c.toNat-48)) 0
theorem kE {s:Txt} {i:Nat} (h:i<s.length):digsV (s.take (i+1))=10*digsV (s.take i)+(s[i].toNat-48):=by
 unfold digsV;rw[List.take_add_one,Zk h,Option.toList_some,XI];rfl
theorem dG {c:UInt8} (h:digB c=true):48<=c.toNat/\c.toNat<=57:=by simpa [digB] using h
theorem zje {s:Txt} (h:s.all digB=true): ∀i,i<=s.length->digsV (s.take i)<10 ^ i
 |0,_=>by simp[digsV]
 |i+1,hi=>by
  rw[kE (by omega),Wh];have h1:=zje h i (by omega);have h2:=dG (Zt.1 h _ (Zv (n:=i) (by omega)));omega
def numV (s:Txt):Int×Bool:=
 if s=[] then(0,false) else if spanN digB s≠s.length then(0,false) else if s.getD 0 0=48/\s≠[48] then(0,false) else if s.length>13 then(0,false)
 else if digsV s>1099511627776 then(0,false) else((digsV s:Nat),true)
theorem zjf (s:Txt):0<=(numV s).1/\(numV s).1<=1099511627776:=by
 unfold numV
 repeat' split
 all_goals simp only[]
 all_goals omega
end Go.Ex
namespace Go.Abs
open Go.Proofs Go.RowKit Go.Lib Go.Wd Go.Wire Go.Ex
theorem zoQ (s:Txt) (hl:s.length<=1000000):Spec Tryz.prog 230 [.str s] (fun v=>v=.tup [.int .i64 (numV s).1,.bool (numV s).2]):=by
 refine Spec.of_awlP hf230 okf230 (by simp) fun S hS=>?_
 have g1:=zaU ziZ s (big hl);by_cases h0:s=[]
 ·subst h0
  simp only[Qs,BEq.rfl,Zi,Za,Ψ230];exact hS _ rfl
 have hn:numV s=if spanN digB s≠s.length then((0:Int),false) else if s.getD 0 0=48/\s≠[48] then(0,false) else if s.length>13 then(0,false) else if digsV s>1099511627776 then(0,false) else(((digsV s:Nat):Int),true):=by
  rw[numV,if_neg h0]
 rw[hn] at hS;by_cases hsp:spanN digB s=s.length
 ·rw[if_neg (fun q=>q hsp)] at hS
  have hall:=lX.1 hsp;rw[hsp] at g1;have hpos:=Yl.2 h0;have hi0:(0:Int)<s.length:=by omega
  generalize hc:s.getD 0 0=c at hS;have e48:c=48 ↔ ((c.toNat:Nat):Int)=48:=by
   rw[<-UInt8.toNat_inj];show c.toNat=48 ↔ _;omega
  by_cases hz:c=48/\s≠[48]
  ·rw[if_pos hz] at hS
   obtain⟨z1,z2⟩:=hz;have z3:=e48.1 z1;simp only[h0,Qs,forall_const,Zi,Za,Ψ230];refine zD g1 ?_ (ha:=by rfl);simp only[h0,hi0,hc,z3,z2,Wb,Qs,forall_const,BEq.rfl,Zi,Za,Yy,Ψ230];exact hS _ rfl
  ·rw[if_neg hz] at hS
   have z:(((c.toNat:Nat):Int)=48)=False/\((0:Nat)=0)=True\/(((c.toNat:Nat):Int)=48)=True/\(s=[48])=True:=by
    by_cases z1:c=48
    ·exact .inr ⟨eq_true (e48.1 z1),eq_true (Classical.byContradiction fun q=>hz ⟨z1,q⟩)⟩
    ·exact .inl ⟨eq_false fun q=>z1 (e48.2 q),eq_true rfl⟩
   rcases z with⟨z3,z4⟩|⟨z3,z4⟩
   all_goals
    simp only[h0,Qs,forall_const,Zi,Za,Ψ230];refine zD g1 ?_ (ha:=by rfl);by_cases h13:s.length>13
    ·rw[if_pos h13] at hS
     have d1:(s.length:Int)>13:=by omega
     simp only[h0,hi0,hc,z3,z4,d1,Wb,Qs,forall_const,Zi,Za,Yy,Ψ230];exact hS _ rfl
    ·rw[if_neg h13] at hS
     have d1: ¬(s.length:Int)>13:=by omega
     simp only[h0,hi0,hc,z3,z4,d1,Wb,Qs,forall_const,Zi,Za,Yy,Ψ230];rw[uu f230l19.eq_1];refine zO (fun i:Nat=>[(0,.str s),(4,.int .i64 (digsV (s.take i):Nat)),(30,.int .i64 s.length),(31,.int .i64 i)]) (fun _=>[]) (fun i=>i<=s.length) (fun i=>s.length-i) 0 rfl rfl (Zy _) ?_;intro i hi;by_cases hlt:i<s.length
     ·have e1:(i:Int)<s.length:=by omega
      have c4:IntKind.i64.wrap ((i:Int)+1)=(i:Int)+1:=wrap_in (by omega) (by omega);have hd:=dG (Zt.1 hall _ (Zv hlt));have ht:=kE hlt;have hb:=zje hall (i+1) (by omega);have hb2:10 ^ (i+1)<=10 ^ 13:=ZW (by decide) (by omega);have hb3:(10:Nat) ^ 13=10000000000000:=by decide
      have hg:s.getD i 0=s[i]:=by rw[Zm,Zk hlt];rfl
      generalize s[i]=x at hd ht hg;generalize hT:digsV (s.take (i+1))=T at ht hb;generalize digsV (s.take i)=T0 at ht;have c5:IntKind.u8.wrap (((x.toNat:Nat):Int)-48)=((x.toNat:Nat):Int)-48:=by
       unfold IntKind.wrap;simp[IntKind.signed,IntKind.bits];omega
      have c6:IntKind.i64.wrap (((x.toNat:Nat):Int)-48)=((x.toNat:Nat):Int)-48:=wrap_in (by omega) (by omega);have c7:IntKind.i64.wrap (10*(T0:Int))=10*(T0:Int):=wrap_in (by omega) (by omega);have c8:IntKind.i64.wrap (10*(T0:Int)+(((x.toNat:Nat):Int)-48))=(T:Int):=by
       rw[wrap_in (by omega) (by omega)];omega
      simp only[e1,c4,hg,c5,c6,c7,c8,Ym,Qs,zaE,oL,zaG,Za,Ψ230];exact Next.intro (i+1) (by rw[hT];rfl) rfl (by omega) (by omega)
     ·have e1: ¬(i:Int)<s.length:=by omega
      rw[ZU (by omega)];by_cases hbig:digsV s>1099511627776
      ·rw[if_pos hbig] at hS
       have e2:((digsV s:Nat):Int)>1099511627776:=by omega
       simp only[e1,e2,Qs,Zi,Za,Ψ230];exact hS _ rfl
      ·rw[if_neg hbig] at hS
       have e2: ¬((digsV s:Nat):Int)>1099511627776:=by omega
       simp only[e1,e2,Qs,Zi,Za,Ψ230];exact hS _ rfl
 ·rw[if_pos hsp] at hS
  have hsi: ¬((spanN digB s:Nat):Int)=s.length:=by omega
  simp only[h0,Qs,forall_const,Zi,Za,Ψ230];refine zD g1 ?_ (ha:=by rfl);simp only[h0,hsi,Qs,forall_const,Zi,Za,Yy,Ψ230];exact hS _ rfl
end Go.Abs
namespace Go.Ex
open Go.Lib Go.Wd Go.Wire Go.Abs
def wL (lo hi:Int) (sum:Bool):List Txt->Int->Option Int
 |[],a=>some a
 |s::r,a=>if (numV s).2=true then(if sum=false/\((numV s).1<lo\/(numV s).1>hi) then none else wL lo hi sum r (a+(numV s).1)) else none
def limP (d f:Txt) (lo hi:Int) (sum:Bool) (l:List Pln):Bool:=
 match wL lo hi sum (fldsF d f l []).1 0 with
 |none=>false
 |some a=>(fldsF d f l []).2&&(!sum||(decide (a>=lo)&&decide (a<=hi)))
end Go.Ex
namespace Go.Abs
open Go.Proofs Go.RowKit Go.Lib Go.Wd Go.Wire Go.Ex
theorem za4 (d f:Txt): ∀(l:List Pln) (acc:List Txt),(∀p∈l,PlnS p)->(∀s∈acc,s.length<=1000000)-> ∀s∈(fldsF d f l acc).1,s.length<=1000000
 |[],acc,_,ha=>ha
 |p::l,acc,hp,ha=>by
  rw[fldsF];split
  ·split
   ·intro s hs;cases hs
   ·refine za4 d f l _ (fun q hq=>hp q (ZH _ hq)) fun s hs=>?_
    rcases Yt.1 hs with h|h
    ·exact ha s h
    ·rw[Z9.1 h,Zm]
     cases hg:p.texts[(fstN (fun x=>decide (f=x)) p.names 0).toNat]? with
     |none=>simp
     |some t=>exact(hp p (by simp)).tx t (ZM hg)
  ·exact za4 d f l acc (fun q hq=>hp q (ZH _ hq)) ha
theorem zjg (d f:Txt) (lo hi:Int) (sum:Bool) (l:List Pln) (hl:wU l):Spec Tryz.prog 227 [.agg [.str d,.str f,.int .i64 lo,.int .i64 hi,.bool sum],lst 3 (l.map zX)] (fun v=>v=.bool (limP d f lo hi sum l)):=by
 refine Spec.of_awlS hf227 okf227 (by simp) fun S hS=>?_
 have g1:=zjc d f l hl;have hn:=kD d f l [];have hm:=za4 d f l [] hl.2 (by simp);have h1:=hl.1;unfold limP at hS;generalize fldsF d f l []=r at g1 hn hm hS;obtain⟨L,b⟩:=r;simp only[ZK,Z4] at g1 hn hm hS;simp only[Qs,Zb,Zd,Za,Ψ227];refine yP g1 ?_ (ha:=by simp only[Zj,Zo,zC,V.norm,C.norm,zS sJ,C.normRow]<;>rfl);simp only[zQ,Qs,Zi,Zb,Yf,Za,Ψ227];rw[uu f227l21.eq_1];refine zO (fun x:Nat×Nat=>[(2,.k (.c (.ro [.str d,.str f,.int .i64 lo,.int .i64 hi,.bool sum] 0))),(6,.bool b),(7,.int .i64 (x.2:Nat)),(19,lst 1 (zK L)),(20,.int .i64 L.length),(21,.int .i64 x.1)]) (fun _=>[]) (fun x=>x.1<=L.length/\x.2<=x.1*1099511627776/\wL lo hi sum (L.drop x.1) (x.2:Nat)=wL lo hi sum L 0) (fun x=>L.length-x.1) (0,0) rfl rfl ⟨Zy _,by decide,rfl⟩ ?_;rintro⟨i,a⟩ ⟨hi',ha,hD⟩;simp only[] at hi' ha hD;by_cases hlt:i<L.length
 ·have d1:(i:Int)<L.length:=by omega
  have c4:IntKind.i64.wrap ((i:Int)+1)=(i:Int)+1:=wrap_in (by omega) (by omega);rw[Zx hlt,wL] at hD;have g2:=zoQ L[i] (hm _ (Zv hlt));have hr:=zjf L[i];have hat:=vU hlt;generalize L[i]=s at hD g2 hr hat;generalize numV s=nv at hD g2 hr;obtain⟨n,is⟩:=nv;simp only[] at hD g2 hr;obtain⟨m,rfl⟩: ∃m:Nat,n=m:=⟨n.toNat,by omega⟩;have c5:IntKind.i64.wrap ((a:Int)+(m:Int))=((a+m:Nat):Int):=by
   rw[wrap_in (by omega) (by omega)];omega
  cases is with
  |false=>
   rw[if_neg (by decide)] at hD;rw[<-hD] at hS;simp only[d1,hat,zQ,Qs,Za,Ψ227];refine zD g2 ?_ (ha:=by rfl);simp only[Qs,Za,Ψ227];exact hS
  |true=>
   rw[if_pos rfl] at hD;cases sum with
   |true=>
    rw[if_neg (by simp)] at hD;simp only[d1,hat,zQ,Qs,Za,Ψ227];refine zD g2 ?_ (ha:=by rfl);simp only[c4,c5,Qs,Zb,Za,Ψ227];exact Next.intro (i+1,a+m) rfl rfl ⟨by simp only;omega,by simp only;omega,by simpa using hD⟩ (by simp only;omega)
   |false=>
    by_cases q1:(m:Int)<lo
    ·rw[if_pos ⟨rfl,.inl q1⟩] at hD
     rw[<-hD] at hS;simp only[d1,hat,zQ,Qs,Za,Ψ227];refine zD g2 ?_ (ha:=by rfl);simp only[c4,c5,q1,Qs,Zb,Zd,Za,Ψ227];exact hS
    ·by_cases q2:(m:Int)>hi
     ·rw[if_pos ⟨rfl,.inr q2⟩] at hD
      rw[<-hD] at hS;simp only[d1,hat,zQ,Qs,Za,Ψ227];refine zD g2 ?_ (ha:=by rfl);simp only[c4,c5,q1,q2,Qs,Zb,Zd,Za,Ψ227];exact hS
     ·rw[if_neg (fun q=>q.2.elim q1 q2)] at hD
      simp only[d1,hat,zQ,Qs,Za,Ψ227];refine zD g2 ?_ (ha:=by rfl);simp only[c4,c5,q1,q2,Qs,Zb,Zd,Za,Ψ227];exact Next.intro (i+1,a+m) rfl rfl ⟨by simp only;omega,by simp only;omega,by simpa using hD⟩ (by simp only;omega)
 ·have d1: ¬(i:Int)<L.length:=by omega
  rw[ZE (by omega),wL] at hD;rw[<-hD] at hS;simp only[] at hS;cases b with
  |false=>
   simp only[d1,Qs,Za,Ψ227];exact hS
  |true=>
   cases sum with
   |false=>
    simp only[d1,Qs,Zb,Za,Ψ227];exact hS
   |true=>
    by_cases q1:(a:Int)>=lo
    ·by_cases q2:(a:Int)<=hi
     ·simp only[d1,q1,q2,Qs,Zb,Zd,Za,Ψ227]
      simpa [q1,q2] using hS
     ·simp only[d1,q1,q2,Qs,Zb,Zd,Za,Ψ227]
      simpa [q1,q2] using hS
    ·simp only[d1,q1,Qs,Zb,Zd,Za,Ψ227]
     simpa [q1] using hS
def zM (d:Dmd):List C:=[.int .i64 d.op,.str d.doc,.str d.fld,.str d.oth,.str d.sec,.str d.txt,.int .i64 d.lo,.int .i64 d.hi]
theorem dH (d f:Txt) (hd:d.length<=1000000) (hf:f.length<=1000000):Spec Tryz.prog 201 [.agg [.str d,.str f]] (fun v=>v=.bool (nameP d&&nameP f)):=by
 refine Spec.of_awlS hf201 okf201 (by simp) fun S hS=>?_
 have g1:=c92 d (big hd);have g2:=c92 f (big hf);generalize nameP d=x at g1 hS;generalize nameP f=y at g2 hS;simp only[Qs,Zb,Zd,Za,Ψ201];refine zD g1 ?_ (ha:=by rfl);cases x with
 |false=>
  simp only[Qs,Za];exact hS
 |true=>
  simp only[Qs,Zb,Za];refine zD g2 ?_ (ha:=by rfl);simp only[Qs,Za];exact hS
def wV:Txt:=[32,46,32]
theorem dI (d f:Txt) (hd:d.length<=1000000) (hf:f.length<=1000000):Spec Tryz.prog 202 [.agg [.str d,.str f]] (fun v=>v=.str (d++wV++f)):=by
 refine Spec.of_awlS hf202 okf202 (by simp) fun S hS=>?_
 simp only[Qs,Zb,Zd,Za,Ψ202];exact⟨by omega,by simp only[Zr,Zu,ZK];omega,hS⟩
theorem zoR (d:Txt) (hd:d.length<=1000000):Spec Tryz.prog 205 [.agg [.str d]] (fun v=>v=.bool (nameP d)):=by
 refine Spec.of_awlS hf205 okf205 (by simp) fun S hS=>?_
 have g1:=c92 d (big hd);generalize nameP d=x at g1 hS;simp only[Qs,Za,Ψ205];refine zD g1 ?_ (ha:=by rfl);simp only[Qs];exact hS
theorem zoS (d:Txt):Spec Tryz.prog 203 [.agg [.str d]] (fun v=>v=.agg (zM ⟨0,d,[],[],[],[],0,0⟩)):=by
 refine Spec.of_awlS hf203 okf203 (by simp) fun S hS=>?_
 simp only[Qs,bne_iff_ne,ne_eq,Zi,Zb,Zn,Zd,ZN,Za,nT,Ψ203];exact hS
theorem zoT (d f t:Txt):Spec Tryz.prog 211 [.agg [.str d,.str f,.str t]] (fun v=>v=.agg (zM ⟨1,d,f,[],[],t,0,0⟩)):=by
 refine Spec.of_awlS hf211 okf211 (by simp) fun S hS=>?_
 simp only[Qs,bne_iff_ne,ne_eq,Zi,Zb,Zn,Zd,ZN,Za,nT,Ψ211];exact hS
theorem zoU (d f e g:Txt):Spec Tryz.prog 221 [.agg [.str d,.str f,.str e,.str g]] (fun v=>v=.agg (zM ⟨3,d,f,e,g,[],0,0⟩)):=by
 refine Spec.of_awlS hf221 okf221 (by simp) fun S hS=>?_
 simp only[Qs,bne_iff_ne,ne_eq,Zi,Zb,Zn,Zd,ZN,Za,nT,Ψ221];exact hS
theorem zjh (d f:Txt) (lo hi:Int) (sum:Bool):Spec Tryz.prog 226 [.agg [.str d,.str f,.int .i64 lo,.int .i64 hi,.bool sum]] (fun v=>v=.agg (zM ⟨if sum=true then 4 else 2,d,f,[],[],[],lo,hi⟩)):=by
 refine Spec.of_awlS hf226 okf226 (by simp) fun S hS=>?_
 cases sum with
 |true=>
  simp only[Qs,zaH,jX,jY,jZ,zaI,bne_iff_ne,ne_eq,Zi,Zb,Zn,Zd,ZN,Za,nT,Ψ226];exact hS
 |false=>
  simp only[Qs,jX,jY,jZ,bne_iff_ne,ne_eq,Zi,Zb,Zn,Zd,ZN,Za,nT,Ψ226];exact hS
theorem zoV (d f e g:Txt) (hd:d.length<=1000000) (hf:f.length<=1000000) (he:e.length<=1000000) (hg:g.length<=1000000):Spec Tryz.prog 223 [.agg [.str d,.str f,.str e,.str g]] (fun v=>v=.bool ((nameP d&&nameP f)&&(nameP e&&nameP g))):=by
 refine Spec.of_awlS hf223 okf223 (by simp) fun S hS=>?_
 have g1:=dH d f hd hf;have g2:=dH e g he hg;generalize (nameP d&&nameP f)=x at g1 hS;generalize (nameP e&&nameP g)=y at g2 hS;simp only[Qs,Zb,Zd,Za,Ψ223];refine zD g1 ?_ (ha:=by rfl);cases x with
 |false=>
  simp only[Qs,Za];exact hS
 |true=>
  simp only[Qs,Zb,Za];refine zD g2 ?_ (ha:=by rfl);simp only[Qs,Za];exact hS
theorem zji (d f:Txt) (lo hi:Int) (sum:Bool) (hd:d.length<=1000000) (hf:f.length<=1000000):Spec Tryz.prog 228 [.agg [.str d,.str f,.int .i64 lo,.int .i64 hi,.bool sum]] (fun v=>v=.bool ((nameP d&&nameP f)&&(decide (lo>=0)&&(decide (lo<=hi)&&decide (hi<=1099511627776))))):=by
 refine Spec.of_awlS hf228 okf228 (by simp) fun S hS=>?_
 have g1:=dH d f hd hf;generalize (nameP d&&nameP f)=x at g1 hS;simp only[Qs,Zb,Zd,Za,Ψ228];refine zD g1 ?_ (ha:=by rfl);cases x with
 |false=>
  simp only[Qs,Za];exact hS
 |true=>
  by_cases q1:lo>=0
  ·by_cases q2:lo<=hi
   ·by_cases q3:hi<=1099511627776
    ·simp only[q1,q2,q3,Qs,Zb,Zd,Za]
     simpa [q1,q2,q3] using hS
    ·simp only[q1,q2,q3,Qs,Zb,Zd,Za]
     simpa [q1,q2,q3] using hS
   ·simp only[q1,q2,Qs,Zb,Zd,Za]
    simpa [q1,q2] using hS
  ·simp only[q1,Qs,Zb,Zd,Za]
   simpa [q1] using hS
theorem zoW (c:UInt8):Spec Tryz.prog 218 [.int .u8 (c.toNat:Int)] (fun v=>v=.bool (uR c)):=by
 refine Spec.of_awlS hf218 okf218 (by simp) fun S hS=>?_
 unfold uR at hS;have h1:=u8r c;by_cases q1:((c.toNat:Nat):Int)>=32
 ·by_cases q2:((c.toNat:Nat):Int)<=126
  ·simp only[q1,q2,Qs,Za,Ψ218]
   refine wQ hS ?_;rw[decide_eq_true_eq];simp only[true_iff];omega
  ·simp only[q1,q2,Qs,Za,Ψ218]
   refine wQ hS ?_;rw[decide_eq_true_eq];simp only[Ya,false_iff];omega
 ·simp only[q1,Qs,Za,Ψ218]
  refine wQ hS ?_;rw[decide_eq_true_eq];simp only[Ya,false_iff];omega
theorem zoX (d f:Txt) (l:List Pln) (hl:wU l):Spec Tryz.prog 215 [lst 3 (l.map zX),.agg [.str d,.str f]] (fun v=>v=.tup [.k (.newl 9 1 none (zK (fldsF d f l []).1)),.bool (fldsF d f l []).2]):=by
 refine Spec.of_awlS hf215 okf215 (by simp) fun S hS=>?_
 have hlen:=hl.1;simp only[zB,Qs,bne_iff_ne,ne_eq,Zb,Zn,Za,Ze,Ψ215];rw[uu f215l25.eq_1];refine zO (fun x:Nat×List Txt×Option Bool=>[(3,.k (.c (.ro [.str d,.str f] 0))),(6,.k (.own 6)),(10,lst 3 (l.map zX)),(11,.int .i64 l.length),(12,.int .i64 x.1)]) (fun x=>[(6,.arr 9 1 x.2.2 (zK x.2.1))]) (fun x=>x.1<=l.length/\x.2.1.length<=x.1/\fldsF d f (l.drop x.1) x.2.1=fldsF d f l []) (fun x=>l.length-x.1) (0,[],some true) rfl rfl ⟨Zy _,by decide,rfl⟩ ?_;rintro⟨i,L,nl⟩ ⟨hi,hL,hD⟩;simp only[] at hi hL hD;by_cases hlt:i<l.length
 ·have d1:(i:Int)<l.length:=by omega
  have c4:IntKind.i64.wrap ((i:Int)+1)=(i:Int)+1:=wrap_in (by omega) (by omega);have hat:=qW hlt;rw[Zx hlt,fldsF] at hD;have hp:=hl.2 _ (Zv hlt);generalize l[i]=p at hD hat hp;have g1:=c40 p.names f (big hp.ns);by_cases hk:p.kind=d
  ·rw[if_pos hk] at hD
   generalize fstN (fun x=>decide (f=x)) p.names 0=j at hD g1;by_cases hj:j<0\/j>=p.texts.length
   ·rw[if_pos hj] at hD
    rw[<-hD] at hS;by_cases hj0:j<0
    ·simp only[d1,hat,hk,zB,Qs,bne_iff_ne,ne_eq,BEq.rfl,Zi,Zb,Zn,Zd,Za,Ze,Ψ215]
     refine zD g1 ?_ (ha:=by simp only[Zj,Zo,zC,V.norm,C.norm,zI,yM]<;>rfl);simp only[hj0,zQ,Qs,bne_iff_ne,ne_eq,Zi,ZJ,Zn,Za,Zq,Ψ215];exact hS
    ·have hj1:j>=p.texts.length:=hj.resolve_left hj0
     simp only[d1,hat,hk,zB,Qs,bne_iff_ne,ne_eq,BEq.rfl,Zi,Zb,Zn,Zd,Za,Ze,Ψ215];refine zD g1 ?_ (ha:=by simp only[Zj,Zo,zC,V.norm,C.norm,zI,yM]<;>rfl);simp only[hj0,hj1,zQ,Qs,bne_iff_ne,ne_eq,Zi,ZJ,Zb,Zn,Za,Zq,Ψ215];exact hS
   ·rw[if_neg hj] at hD
    obtain⟨m,rfl⟩: ∃m:Nat,j=m:=⟨j.toNat,by omega⟩;have hj0: ¬(m:Int)<0:=by omega
    have hj1: ¬(m:Int)>=p.texts.length:=by omega
    have hm:m<p.texts.length:=by omega
    have hgd:p.texts.getD (m:Int).toNat []=p.texts[m]:=by simp[List.getD,hm]
    rw[hgd] at hD;simp only[d1,hat,hk,zB,Qs,bne_iff_ne,ne_eq,BEq.rfl,Zi,Zb,Zn,Zd,Za,Ze,Ψ215];refine zD g1 ?_ (ha:=by simp only[Zj,Zo,zC,V.norm,C.norm,zI,yM]<;>rfl);simp only[hj0,hj1,zQ,vU hm,c4,Qs,forall_eq,bne_iff_ne,ne_eq,ZB,Zb,Zn,Zd,ZN,Za,Zq,Ψ215];refine⟨by omega,by omega,by omega,Next.intro (i+1,L++[p.texts[m]],some false) rfl (by simp[zK];rfl) ⟨by simp only;omega,by simp;omega,hD⟩ (by simp only;omega)⟩
  ·rw[if_neg hk] at hD
   simp only[d1,hat,hk,c4,zB,Qs,forall_const,bne_iff_ne,ne_eq,Zi,Zb,Zn,Zd,Za,Ze,Ψ215];exact Next.intro (i+1,L,nl) rfl rfl ⟨by simp only;omega,by simp only;omega,hD⟩ (by simp only;omega)
 ·have d1: ¬(i:Int)<l.length:=by omega
  rw[ZE (by omega),fldsF] at hD;rw[<-hD] at hS;simp only[d1,Qs,Zi,ZJ,Za,Zq,Ψ215];simpa only[yM] using hS
end Go.Abs
namespace Go.Proofs
open Go.Shelf Go.RowKit
def Tryz.laysString_ren:Go.Shelf.Ren:=
 {
  f:=fun x=>
   match x with
   |169=>134
   |n=>n,
  t:=fun x=>
   match x with
   |70=>185
   |9=>9
   |0=>0
   |72=>188
   |37=>186
   |127=>214
   |3=>3
   |5=>5
   |n=>n,
  g:=fun n=>n}
theorem Tryz.laysString:Lays.n169 Tryz.prog Tryz.laysString_ren:=
 {mixed:=by kernel_rfl,f169:=Z1 Tryz.func134 (congrArg some (ZR (Body.n169 Tryz.laysString_ren))),
  t0:=Tryz.underlying0,a0:=Tryz.isAgg0,z0:=Tryz.sizeOf0,v0:=Tryz.zeroValue0,t3:=Tryz.underlying3,
  a3:=Tryz.isAgg3,z3:=Tryz.sizeOf3,v3:=Tryz.zeroValue3,t9:=Tryz.underlying9,a9:=Tryz.isAgg9,
  z9:=Tryz.sizeOf9,v9:=Tryz.zeroValue9,t37:=Tryz.underlying186,a37:=Tryz.isAgg186,z37:=Tryz.sizeOf186,
  v37:=Tryz.zeroValue186,t70:=Tryz.underlying185,a70:=Tryz.isAgg185,z70:=Tryz.sizeOf185,
  v70:=Tryz.zeroValue185,t72:=Tryz.underlying188,a72:=Tryz.isAgg188,z72:=Tryz.sizeOf188,
  v72:=Tryz.zeroValue188,t127:=Tryz.underlying214,a127:=Tryz.isAgg214,z127:=Tryz.sizeOf214,
  v127:=Tryz.zeroValue214}
def Tryz.laysGrow_ren:Go.Shelf.Ren:=
 {
  f:=fun x=>
   match x with
   |241=>162
   |277=>176
   |n=>n,
  t:=fun x=>
   match x with
   |70=>185
   |3=>3
   |0=>0
   |72=>188
   |37=>186
   |5=>5
   |n=>n,
  g:=fun n=>n}
theorem Tryz.laysGrow:Lays.n241 Tryz.prog Tryz.laysGrow_ren:=
 {mixed:=by kernel_rfl,f241:=Z1 Tryz.func162 (congrArg some (ZR (Body.n241 Tryz.laysGrow_ren))),
  f277:=Z1 Tryz.func176 (congrArg some (ZR (Body.n277 Tryz.laysGrow_ren))),t0:=Tryz.underlying0,
  a0:=Tryz.isAgg0,z0:=Tryz.sizeOf0,v0:=Tryz.zeroValue0,t3:=Tryz.underlying3,a3:=Tryz.isAgg3,
  z3:=Tryz.sizeOf3,v3:=Tryz.zeroValue3,t37:=Tryz.underlying186,a37:=Tryz.isAgg186,z37:=Tryz.sizeOf186,
  v37:=Tryz.zeroValue186,t70:=Tryz.underlying185,a70:=Tryz.isAgg185,z70:=Tryz.sizeOf185,
  v70:=Tryz.zeroValue185,t72:=Tryz.underlying188,a72:=Tryz.isAgg188,z72:=Tryz.sizeOf188,
  v72:=Tryz.zeroValue188}
end Go.Proofs
namespace Go.Proofs
open Go.Shelf Go.RowKit Go.Lib
theorem Tryz.bx169:Builder.Extra Tryz.prog Tryz.laysString_ren where
 sizeBuilder:=by kernel_rfl
 liesBuilder:=by kernel_rfl
 t5:=Tryz.underlying5
 a5:=Tryz.isAgg5
 z5:=Tryz.sizeOf5
 v5:=Tryz.zeroValue5
 infoByte:=by kernel_rfl
 cellsByte:=by kernel_rfl
 sizeByte:=by kernel_rfl
 neB5:=by decide
theorem zoY (b:Nat) (w:World) (h0:w.cell? ⟨b,0,none⟩=some (.pointer (some ⟨b,0,none⟩))):
  Calls Tryz.prog 161 #[.pointer (some ⟨b,0,none⟩)] w fun e w'=>e=.returned (.tuple #[])/\w'=w:=by
 obtain⟨j,hj,_⟩:=Zf.1 Tryz.bx169.sizeBuilder
 go_enter Tryz.func161,Tryz.ntmps161
 go_wp2
 rw[Lib.run_neq_ptr_same w _ Tryz.underlying185 hj]
 go_wp2
 go_end0
 exact⟨rfl,rfl⟩
theorem zjj (b:Nat) (w:World) (h0:w.cell? ⟨b,0,none⟩=some (.pointer none)) (hsh:w.shape? b=some (188,2)) (hfz:w.frozen? ⟨b,0,none⟩=false):
  Calls Tryz.prog 161 #[.pointer (some ⟨b,0,none⟩)] w fun e w'=>e=.returned (.tuple #[])/\w'=w.setCell ⟨b,0,none⟩ (.pointer (some ⟨b,0,none⟩)):=by
 obtain⟨j,hj,hjs⟩:=Zf.1 Tryz.bx169.sizeBuilder
 go_enter Tryz.func161,Tryz.ntmps161
 go_wp2
 rw[Lib.run_to_unsafe w ⟨b,0,none⟩ Tryz.underlying185 Tryz.underlying227 hj (by rw[hjs];decide) hsh (Nat.zero_lt_succ 1)];simp only[Result.andThen];rw[Oper.upon_value]
 go_wp2
 rw[run_callFunc_extern Tryz.func175 (by kernel_rfl) (by kernel_rfl) (by kernel_rfl) (e:=Extern.AbiNoEscape.same) (by kernel_rfl)];rw[Lib.run_noEscape];simp only[Result.andThen];rw[Oper.upon_value]
 go_wp2
 rw[Lib.run_from_unsafe w ⟨b,0,none⟩ Tryz.underlying227 Tryz.underlying185 hj hsh Tryz.bx169.liesBuilder];simp only[Result.andThen];rw[Oper.upon_value]
 go_wp2
 go_end0
 exact⟨rfl,rfl⟩
theorem zjk (B b:Nat) (bs:List Value) (w:World) (h:Lib.IsBuilderF 188 5 B b bs w):
  Calls Tryz.prog 161 #[.pointer (some ⟨b,0,none⟩)] w fun e w'=>e=.returned (.tuple #[])/\Lib.BuilderAtF 188 5 B b (.pointer (some ⟨b,0,none⟩)) bs w'/\Below B w w':=by
 rcases h with h|h
 ·refine(zjj b w h.cell0 h.shape h.frozen0).mono ?_
  rintro e w' ⟨rfl,rfl⟩;exact⟨rfl,h.used _,(Below.refl B w).setCell (p:=⟨b,0,none⟩) h.1 _⟩
 ·refine(zoY b w h.cell0).mono ?_
  rintro e w' ⟨rfl,rfl⟩;exact⟨rfl,h,Below.refl B _⟩
theorem zoZ (B b:Nat) (bs:List Value) (s:ByteArray) (w:World) (h:Lib.IsBuilderF 188 5 B b bs w) (hlen:bs.length+s.size<=140737488355328) (hBw:B<=w.heap.size):
  Calls Tryz.prog 133 #[.pointer (some ⟨b,0,none⟩),.string s] w fun e w'=>e=.returned (.tuple #[.int .i64 s.size,.nilIface])/\Lib.IsBuilderF 188 5 B b (bs++Lib.strCells s) w'/\Below B w w':=by
 obtain⟨i0,hi,hz0,hz1,hz2⟩:=info_parts Tryz.bx169.infoByte
 go_enter Tryz.func133,Tryz.ntmps133
 go_wp2_with (go_at_call 161;refine(zjk B b bs _ h).mono ?_)
 rintro e w1 ⟨rfl,h1,hb1⟩;obtain⟨hB,v,hbk,hown,hne⟩:=h1;have c0:w1.cell? ⟨b,0,none⟩=some (.pointer (some ⟨b,0,none⟩)):=by rw[Lib.cell_of_heap hbk];rfl
 have c1:w1.cell? ⟨b,1,none⟩=some v:=by rw[Lib.cell_of_heap hbk];rfl
 go_wp2_with (at_builtin;refine Lib.wpList_append_own_stringF _ rfl _ _ 186 9 rfl B 5 i0 Tryz.underlying186 Tryz.underlying9 hi hz0 hz1 hz2 _ _ _ rfl hown s rfl ?c3 ?c4 ?c5 ?_)
 case c3=>unfold maxLen;omega
 case c4=>omega
 case c5=>have:=hb1.size;omega
 intro v' w2 hown' hgrow _;have hlt:b<w1.heap.size:=by
  rcases Y3 b w1.heap.size with h'|h'
  ·exact h'
  ·simp[Array.getElem?_eq_none h'] at hbk
 have hb2:w2.heap[b]?=some (.cells #[.pointer (some ⟨b,0,none⟩),v] 188 (0,0)):=by
  rw[hgrow.block b hlt (fun e=>hne e.symm)];exact hbk
 have d0:w2.cell? ⟨b,0,none⟩=some (.pointer (some ⟨b,0,none⟩)):=by rw[Lib.cell_of_heap hb2];rfl
 have d1:w2.cell? ⟨b,1,none⟩=some v:=by rw[Lib.cell_of_heap hb2];rfl
 have f1:w2.frozen? ⟨b,1,none⟩=false:=Lib.frozen_of_heap hb2 1;obtain⟨ao,n',cap,rfl⟩: ∃ao n' cap,v'=.slice ao n' cap:=by
  rcases hown'.2 with⟨hv,_⟩|⟨g,cap,cur,fz,hv,_⟩
  ·exact⟨_,_,_,hv⟩
  ·exact⟨_,_,_,hv⟩
 go_wp2
 go_ret2
 refine⟨rfl,.inr ?_,?_⟩
 ·exact Lib.BuilderAtF.put (T:=188) (e:=5) hB hb2 (bs':=bs++Lib.strCells s) (by simpa [Lib.strCells_length] using hown') (by decide)
 ·exact(hb1.grown hgrow (by have:=hb1.size;omega) (fun k hk=>(hown.lt k hk).1)).setCell (p:=⟨b,1,none⟩) hB _
theorem Tryz.bxg:Builder.Extra Tryz.prog Tryz.laysGrow_ren where
 sizeBuilder:=by kernel_rfl
 liesBuilder:=by kernel_rfl
 t5:=Tryz.underlying5
 a5:=Tryz.isAgg5
 z5:=Tryz.sizeOf5
 v5:=Tryz.zeroValue5
 infoByte:=by kernel_rfl
 cellsByte:=by kernel_rfl
 sizeByte:=by kernel_rfl
 neB5:=by decide
theorem zjl (B b:Nat) (l:List UInt8) (w:World) (h:Lib.IsBuilderF 188 5 B b (Lib.byteCells l) w) (hBw:B<=w.heap.size):
  Calls Tryz.prog 134 #[.pointer (some ⟨b,0,none⟩)] w fun e w'=>e=.returned (.string ⟨l.toArray⟩)/\Lib.IsBuilderF 188 5 B b (Lib.byteCells l) w'/\Below B w w':=
 (Any.Builder_String_any_k Tryz.laysString Tryz.bx169 B b l w h hBw).mono fun _ _ h=>⟨h.1,h.2.1,h.2.2.1⟩
theorem zo0 (B b n:Nat) (w:World) (hB:B<=b) (hbk:w.heap[b]?=some (.cells #[.pointer (some ⟨b,0,none⟩),.slice none 0 0] 188 (0,0))) (hBw:B<=w.heap.size) (hn:n<=281474976710656):
  Calls Tryz.prog 162 #[.pointer (some ⟨b,0,none⟩),.int .i64 n] w fun e w'=>e=.returned (.tuple #[])/\(Lib.BuilderAt 188 5 B b (.pointer (some ⟨b,0,none⟩)) [] w'/\Below B w w'):=Any.Builder_grow_fresh Tryz.laysGrow Tryz.bxg B b n w hB hbk hBw hn
theorem zo1 (B b n:Nat) (w:World) (hB:B<=b) (hbk:w.heap[b]?=some (.cells #[.pointer none,.slice none 0 0] 188 (0,0))) (hBw:B<=w.heap.size) (hn:n<=281474976710656):
  Calls Tryz.prog 132 #[.pointer (some ⟨b,0,none⟩),.int .i64 n] w fun e w'=>e=.returned (.tuple #[])/\(Lib.IsBuilderF 188 5 B b [] w'/\Below B w w'):=by
 have hbk1:(w.setCell ⟨b,0,none⟩ (.pointer (some ⟨b,0,none⟩))).heap[b]?=some (.cells #[.pointer (some ⟨b,0,none⟩),.slice none 0 0] 188 (0,0)):=by
  simp[World.setCell,Xv,hbk]
 have c1:(w.setCell ⟨b,0,none⟩ (.pointer (some ⟨b,0,none⟩))).cell? ⟨b,1,none⟩=some (.slice none 0 0):=by rw[Lib.cell_of_heap hbk1];rfl
 have hb1:Below B w (w.setCell ⟨b,0,none⟩ (.pointer (some ⟨b,0,none⟩))):=(Below.refl B w).setCell (p:=⟨b,0,none⟩) hB _
 go_enter Tryz.func132,Tryz.ntmps132
 have hU:Lib.BuilderAt 188 5 B b (.pointer (some ⟨b,0,none⟩)) [] (w.setCell ⟨b,0,none⟩ (.pointer (some ⟨b,0,none⟩))):=⟨hB,.slice none 0 0,hbk1,World.ownsRow_nil _ _ _ _,by simp[Value.ownBlock]⟩;have c1':(w.setCell ⟨b,0,none⟩ (.pointer (some ⟨b,0,none⟩))).drew.cell? ⟨b,1,none⟩=some (.slice none 0 0):=c1
 go_wp2_with (go_at_call 161;refine(zjj b w (by rw[Lib.cell_of_heap hbk];rfl) (by simp[World.shape?,hbk]) (Lib.frozen_of_heap hbk 0)).mono ?_;rintro e w' ⟨rfl,rfl⟩)
 go_region
 all_goals go_wp2_with (go_at_call 162;refine(zo0 B b n (w.setCell ⟨b,0,none⟩ (.pointer (some ⟨b,0,none⟩))).drew hB hbk1 (by simpa [World.setCell,World.drew,-World.drew_eq] using hBw) hn).mono ?_;rintro e w' ⟨rfl,h1,h2⟩)
 all_goals first
  |(go_end0;exact⟨rfl,.of (.inr h1),hb1.drew.trans h2⟩)
  |(go_end0;exact⟨rfl,.of (.inr hU.drew),hb1.drew⟩)
abbrev uB:=List UInt8
def joinS (sep:uB):List uB->uB
 |[]=>[]
 |[w]=>w
 |w::v::r=>w++(sep++joinS sep (v::r))
theorem zjm (sep:uB): ∀(l:List uB) (x:uB),l≠[]->joinS sep (l++[x])=joinS sep l++(sep++x)
 |[],_,h=>absurd rfl h
 |[w],x,_=>rfl
 |w::v::r,x,_=>by
  have ih:=zjm sep (v::r) x (by simp);rw[ZT] at ih;rw[ZT,ZT,joinS,ih,joinS];simp
def xJ:List uB->Nat
 |[]=>0
 |w::r=>w.length+xJ r
theorem zjn (a b:List uB):xJ (a++b)=xJ a+xJ b:=by
 induction a with
 |nil=>simp[xJ]
 |cons w r ih=>simp only[ZT,xJ,ih];omega
theorem dJ (sep:uB): ∀l:List uB,(joinS sep l).length<=xJ l+sep.length*l.length
 |[]=>by simp[joinS]
 |[w]=>by simp[joinS,xJ]
 |w::v::r=>by
  have ih:=dJ sep (v::r);simp only[joinS,xJ,Zr,Zu] at ih⊢;rw[Nat.mul_add,Y5] at ih⊢;rw[Nat.mul_add,Y5];omega
theorem za5 {l:List uB} {k:Nat} (h:k<l.length):l.take (k+1)=l.take k++[l.getD k []]:=by
 rw[Zz h];simp[List.getD,h]
theorem zo2 {l:List uB} {k:Nat} (h:k<l.length):xJ (l.take (k+1))=xJ (l.take k)+(l.getD k []).length:=by
 rw[za5 h,zjn];simp[xJ]
theorem za6 (l:List uB) (k:Nat):xJ (l.take k)<=xJ l:=by
 have:=zjn (l.take k) (l.drop k);rw[List.take_append_drop] at this;omega
theorem zo3 {l:List uB} (sep:uB) {j:Nat} (h:j+1<l.length):joinS sep (l.take (j+1+1))=joinS sep (l.take (j+1))++(sep++l.getD (j+1) []):=by
 rw[za5 h,zjm];intro e;rw[List.take_eq_nil_iff] at e;rcases e with e|e
 ·omega
 ·subst e;simp at h
theorem za7 (B b:Nat) (l x:List UInt8) (w:World) (h:Lib.IsBuilderF 188 5 B b (Lib.byteCells l) w) (hlen:l.length+x.length<=140737488355328) (hBw:B<=w.heap.size):
  Calls Tryz.prog 133 #[.pointer (some ⟨b,0,none⟩),.string ⟨x.toArray⟩] w fun e w'=>e=.returned (.tuple #[.int .i64 x.length,.nilIface])/\Lib.IsBuilderF 188 5 B b (Lib.byteCells (l++x)) w'/\Below B w w':=by
 have hsz:(⟨x.toArray⟩:ByteArray).size=x.length:=by show x.toArray.size=_;simp
 refine(zoZ B b (Lib.byteCells l) ⟨x.toArray⟩ w h (by rw[Lib.byteCells_length,hsz];exact hlen) hBw).mono ?_;rintro e w' ⟨rfl,h1,h2⟩;exact⟨by rw[hsz],by rw[Lib.byteCells_append];exact h1,h2⟩
theorem zjo (l:List uB) (sep:uB) (cap b o:Nat) (w:World) (hb0:b<w.heap.size) (hp: ∀k,k<l.length->w.cell? ⟨b,o+k,none⟩=some (.string ⟨(l.getD k []).toArray⟩)) (h2:2<=l.length) (hn:l.length<=1000) (hcap:l.length<=cap) (hs0:0<sep.length) (hs:sep.length<=100) (hlen:xJ l<=1000000):
  Calls Tryz.prog 101 #[.slice (some ⟨b,o,none⟩) l.length cap,.string ⟨sep.toArray⟩] w fun e w'=>e=.returned (.string ⟨(joinS sep l).toArray⟩)/\Below w.heap.size w w':=by
 obtain⟨n,hN⟩: ∃n,l.length=n:=⟨_,rfl⟩;have hN':Aside (l.length=n):=hN;rw[hN] at hp h2 hn hcap⊢;clear hN;have hpA:Aside (∀k,k<n->w.cell? ⟨b,o+k,none⟩=some (.string ⟨(l.getD k []).toArray⟩)):=hp;clear hp;have i0: ¬(n:Int)=0:=by omega
 have i1: ¬(n:Int)=1:=by omega
 have hsz:(⟨sep.toArray⟩:ByteArray).size=sep.length:=by show sep.toArray.size=_;simp
 have hsp:(sep.length:Int)>0:=by omega
 obtain⟨M,hM⟩: ∃M:Nat,sep.length*(n-1)=M:=⟨_,rfl⟩;have hMb:M<=100*1000:=by rw[<-hM];exact XG hs (by omega)
 have w1:IntKind.i64.wrap ((n:Int)-1)=(n:Int)-1:=Go.Abs.wrap_in (by omega) (by omega);have hq:100<(9223372036854775807:Int)/((n:Int)-1)/\(9223372036854775807:Int)/((n:Int)-1)<=9223372036854775807:=by
  refine⟨?_,Int.ediv_le_self _ (by decide)⟩;have:(101:Int)<=9223372036854775807/((n:Int)-1):=by
   rw[Int.le_ediv_iff_mul_le (by omega)];omega
  omega
 have w2:IntKind.i64.wrap ((9223372036854775807:Int).tdiv ((n:Int)-1))=9223372036854775807/((n:Int)-1):=by
  rw[Int.tdiv_eq_ediv_of_nonneg (by decide)];exact Go.Abs.wrap_in (by omega) (by omega)
 have hng0: ¬(sep.length:Int)>=9223372036854775807/((n:Int)-1):=by omega
 have w3:IntKind.i64.wrap ((sep.length:Int)*((n:Int)-1))=(M:Int):=by
  rw[show(sep.length:Int)*((n:Int)-1)=(M:Int) by rw[<-hM];push_cast;rw[Int.ofNat_sub (by omega)];rfl];exact Go.Abs.wrap_in (by omega) (by omega)
 have w4:IntKind.i64.wrap (M:Int)=(M:Int):=Go.Abs.wrap_in (by omega) (by omega);clear hM hq
 go_enter Tryz.func101,Tryz.ntmps101
 go_wp2
 go_loopg [5,41] n (fun g t i wr=>wr=w/\ ∃k:Nat,k<=n/\g=n-k/\i=.int .i64 k/\t=.int .i64 ((M+xJ (l.take k):Nat):Int))
 case atStart=>exact⟨rfl,0,Zy _,rfl,rfl,by simp[xJ]⟩
 case round=>
  obtain⟨rfl,k,hk,rfl,rfl,rfl⟩:=hrel;by_cases hlt:k<n
  ·have hc:=hpA.out k hlt
   have hkn:(k:Int)<n:=by omega
   have hst:=zo2 (l:=l) (k:=k) (by rw[hN'.out];exact hlt);have hle:=za6 l (k+1);generalize l.getD k []=x at hc hst;obtain⟨T,hT⟩: ∃T,M+xJ (l.take k)=T:=⟨_,rfl⟩;have hT2:Aside (M+xJ (l.take (k+1))=T+x.length):=show _=_ by rw[hst];omega
   have hTb:T+x.length<=1100000:=by omega
   rw[hT];clear hst hle hT;have hszx:(⟨x.toArray⟩:ByteArray).size=x.length:=by show x.toArray.size=_;simp
   have hw2:IntKind.i64.wrap (9223372036854775807-(T:Int))=9223372036854775807-(T:Int):=Go.Abs.wrap_in (by omega) (by omega);have hw3:IntKind.i64.wrap ((T:Int)+x.length)=((T+x.length:Nat):Int):=by rw[Go.Abs.wrap_in (by omega) (by omega)];omega
   have hwr:IntKind.i64.wrap ((k:Int)+1)=((k+1:Nat):Int):=by rw[Go.Abs.wrap_in (by omega) (by omega)];omega
   have hng: ¬(x.length:Int)>9223372036854775807-(T:Int):=by omega
   go_wp2
   go_roundg (n-(k+1))
   case measure=>omega
   case rel=>
    refine⟨rfl,k+1,by omega,rfl,by go_num,?_⟩;rw[hT2.out,Int.natCast_add]
  ·obtain rfl:k=n:=by omega
   rename World=>w0
   have c0:=hpA.out 0 (by omega);rw[YC] at c0;obtain⟨T,hT⟩: ∃T,M+xJ (l.take k)=T:=⟨_,rfl⟩;have hTb:T<=1100000:=by have:=za6 l k;omega
   rw[hT];have hJ: ∀j,(joinS sep (l.take j)).length<=1100000:=fun j=>by
    have h1:=dJ sep (l.take j);have h2:=za6 l j;have h3:sep.length*(l.take j).length<=100*1000:=XG hs (by rw[Yk,hN'.out];omega);omega
   have e01:Aside (joinS sep (l.take (0+1))=l.getD 0 []):=show _=_ by rw[za5 (by rw[hN'.out];omega)];rfl
   have hx0:=hJ (0+1);rw[e01.out] at hx0;obtain⟨x0,hx0'⟩: ∃x,l.getD 0 []=x:=⟨_,rfl⟩;rw[hx0'] at c0 hx0 e01;clear hT hx0';have hg1:(w0.alloc (.cells #[.pointer none,.slice none 0 0] 188)).heap[w0.heap.size]?=some (.cells #[.pointer none,.slice none 0 0] 188 (0,0)):=Go.Abs.alloc_get w0 _;have hb2:Below w0.heap.size w0 (w0.alloc (.cells #[.pointer none,.slice none 0 0] 188)):=(Below.refl _ w0).alloc (ZA _) _;have hb4of: ∀w2,Below w0.heap.size (w0.alloc (.cells #[.pointer none,.slice none 0 0] 188)) w2->w2.cell? ⟨b,o,none⟩=some (.string ⟨x0.toArray⟩):=fun w2 h=>((hb2.trans h).cell (p:=⟨b,o,none⟩) hb0).trans c0
   go_wp2_with (first|(go_at_call 132;refine(zo1 w0.heap.size w0.heap.size T _ (ZA _) hg1 hb2.size (by omega)).mono ?_;rintro e w2 ⟨rfl,hI2,hb3⟩;have c0':=hb4of w2 hb3)|(go_at_call 133;refine(za7 w0.heap.size w0.heap.size [] x0 _ hI2 (by rw[ZK];omega) (hb2.trans hb3).size).mono ?_;rintro e w3 ⟨rfl,hI3,hb5⟩))
   have hb6:=(hb2.trans hb3).trans hb5;rw[Z7,<-e01.out] at hI3
   go_loopg [65] (k-1) (fun g i w0'=>Below w0.heap.size w0 w0'/\ ∃j:Nat,j+1<=k/\g=k-1-j/\i=.int .i64 j/\Lib.IsBuilderF 188 5 w0.heap.size w0.heap.size (Lib.byteCells (joinS sep (l.take (j+1)))) w0')
   case atStart=>exact⟨hb6,0,by omega,rfl,rfl,hI3⟩
   case round=>
    obtain⟨hbx,j,hj,rfl,rfl,hIx⟩:=hrel;by_cases hlt2:j+1<k
    ·have hkn:(j:Int)<k-1:=by omega
     have hkn2:(j:Int)<((k-1:Nat):Int):=by omega
     have hkn3:j<k-1:=by omega
     have cj0:=hpA.out (j+1) hlt2;rw[show o+(j+1)=o+1+j by omega] at cj0;have cj:=(hbx.cell (p:=⟨b,o+1+j,none⟩) hb0).trans cj0;have hwr:IntKind.i64.wrap ((j:Int)+1)=((j+1:Nat):Int):=by rw[Go.Abs.wrap_in (by omega) (by omega)];omega
     have hE:Aside (joinS sep (l.take (j+1+1))=joinS sep (l.take (j+1))++(sep++l.getD (j+1) [])):=zo3 sep (by rw[hN'.out];exact hlt2);have hl2:=hJ (j+1+1);rw[hE.out] at hl2;generalize l.getD (j+1) []=x at cj cj0 hE hl2;generalize joinS sep (l.take (j+1))=A at hIx hE hl2;simp only[Zr] at hl2
     go_wp2_with (first|(go_at_call 133;refine(za7 w0.heap.size w0.heap.size (A++sep) x _ hI5 (by rw[Zr];omega) (hbx.trans hb7).size).mono ?_;rintro e w6 ⟨rfl,hI6,hb8⟩)|(go_at_call 133;refine(za7 w0.heap.size w0.heap.size A sep _ hIx (by omega) hbx.size).mono ?_;rintro e w5 ⟨rfl,hI5,hb7⟩))
     rw[Z3,<-hE.out] at hI6
     go_roundg (k-1-(j+1))
     case measure=>omega
     case rel=>exact⟨(hbx.trans hb7).trans hb8,j+1,by omega,rfl,by go_num,hI6⟩
    ·obtain rfl:j+1=k:=by omega
     have hge: ¬(j:Int)<((j+1:Nat):Int)-1:=by omega
     have hge2: ¬(j:Int)<((j+1-1:Nat):Int):=by omega
     have hE:Aside (joinS sep (l.take (j+1))=joinS sep l):=show _=_ by rw[ZU (by rw[hN'.out];exact ZA _)]
     go_wp2_with (go_at_call 134;refine(zjl w0.heap.size w0.heap.size (joinS sep (l.take (j+1))) _ hIx hbx.size).mono ?_;rintro e w6 ⟨rfl,hI6,hb8⟩)
     go_ret
     exact⟨by rw[hE.out];rfl,hbx.trans hb8⟩
theorem za8 (cap:Nat) (ao:Option Addr) (sep:ByteArray) (w:World):
  Calls Tryz.prog 101 #[.slice ao 0 cap,.string sep] w fun e w'=>e=.returned (.string ⟨#[]⟩)/\Below w.heap.size w w':=by
 go_enter Tryz.func101,Tryz.ntmps101
 go_wp2
 go_ret
 exact⟨rfl,Below.refl _ _⟩
theorem zjp (cap b o:Nat) (s sep:ByteArray) (w:World) (hc:w.cell? ⟨b,o,none⟩=some (.string s)) (hcap:1<=cap):
  Calls Tryz.prog 101 #[.slice (some ⟨b,o,none⟩) 1 cap,.string sep] w fun e w'=>e=.returned (.string s)/\Below w.heap.size w w':=by
 go_enter Tryz.func101,Tryz.ntmps101
 go_wp2
 go_ret
 exact⟨rfl,Below.refl _ _⟩
end Go.Proofs
namespace Go.Ex
open Go.Lib Go.Wd Go.Wire
def pick:List (List Txt)->Nat->List Txt×Nat
 |[],i=>([],i)
 |w::ws,i=>(w.getD ((pick ws i).2 % w.length) []::(pick ws i).1,(pick ws i).2/w.length)
theorem dK: ∀(W:List (List Txt)) (i:Nat),(pick W i).1.length=W.length
 |[],_=>rfl
 |w::W,i=>by rw[pick,Zu,dK W i,Zu]
theorem za9 {W:List (List Txt)} {i B:Nat} (h: ∀x∈W,1<=x.length/\ ∀s∈x,s.length<=B): ∀s∈(pick W i).1,s.length<=B:=by
 induction W with
 |nil=>intro s hs;simp[pick] at hs
 |cons w W ih=>
  intro s hs;rw[pick,ZB] at hs;rcases hs with rfl|hs
  ·have hw:=h w (by simp)
   have hm:(pick W i).2 % w.length<w.length:=XH _ (by omega);rw[Zm,Zk hm];exact hw.2 _ (Zv hm)
  ·exact ih (fun x hx=>h x (ZH _ hx)) s hs
theorem zjq: ∀(W:List (List Txt)) (i:Nat),(pick W i).2<=i
 |[],_=>ZA _
 |w::W,i=>by rw[pick];exact ZX (Xk _ _) (zjq W i)
def textF (f:Fld) (i:Nat):Txt:=joinB 32 (pick f.words i).1
def stX (W:List (List Txt)) (i k j:Nat):Txt:=if k<=j then(pick (W.drop k) i).1.getD (j-k) [] else[]
theorem zo4 {W:List (List Txt)} {i k:Nat} (h:k<W.length) (j:Nat):stX W i k j=if j=k then W[k].getD ((pick (W.drop (k+1)) i).2 % W[k].length) [] else stX W i (k+1) j:=by
 unfold stX;rw[Zx h,pick];by_cases h1:j=k
 ·subst h1;simp
 ·rw[if_neg h1]
  by_cases h2:k<=j
  ·rw[if_pos h2,if_pos (by omega)]
   obtain⟨d,hd⟩: ∃d,j-k=d+1:=⟨j-k-1,by omega⟩;rw[hd,show j-(k+1)=d by omega];rfl
  ·rw[if_neg h2,if_neg (by omega)]
end Go.Ex
namespace Go.Proofs
open Go.Shelf Go.RowKit Go.Lib Go.Abs Go.Ex Go.Wire Go.Wd
abbrev sV (s:Txt):Value:=.string ⟨s.toArray⟩
def qY (w:World) (g:Nat) (st:Nat->Txt):Prop:= ∃cur:Array Value,w.heap[g]?=some (.cells cur 184 (0,0))/\cur.size=8/\ ∀j,j<8->cur[j]?=some (sV (st j))
theorem qY.cell {w:World} {g:Nat} {st:Nat->Txt} (h:qY w g st) {j:Nat} (hj:j<8):w.cell? ⟨g,j,none⟩=some (sV (st j)):=by
 obtain⟨cur,h1,_,h2⟩:=h;simp only[World.cell?,h1];exact h2 j hj
theorem qY.frozen {w:World} {g:Nat} {st:Nat->Txt} (h:qY w g st) {j:Nat}:w.frozen? ⟨g,j,none⟩=false:=by
 obtain⟨cur,h1,_,h2⟩:=h;simp[World.frozen?,h1]
theorem qY.set {w:World} {g:Nat} {st st':Nat->Txt} (h:qY w g st) {j:Nat} (hj:j<8) (s:Txt) (hst: ∀i,i<8->st' i=if i=j then s else st i):qY (w.setCell ⟨g,j,none⟩ (sV s)) g st':=by
 obtain⟨cur,h1,hs,h2⟩:=h;refine⟨cur.setIfInBounds j (sV s),by simp[World.setCell,Xv,h1],by simp[hs],fun i hi=>?_⟩;rw[Ys,hst i hi];by_cases e:j=i
 ·subst e
  simp[hs,hj]
 ·rw[if_neg e,if_neg (fun q=>e q.symm)]
  exact h2 i hi
theorem zba: ∀l:List Txt,joinS [32] l=joinB 32 l
 |[]=>rfl
 |[w]=>rfl
 |w::v::r=>by rw[joinS,zba (v::r),joinB];rfl
theorem zjr {B:Nat}: ∀{l:List Txt},(∀s∈l,s.length<=B)->xJ l<=B*l.length
 |[],_=>by simp[xJ]
 |a::l,h=>by
  have h1:=h a (by simp);have h2:=zjr (l:=l) fun s hs=>h s (ZH _ hs)
  simp only[xJ,Zu,Nat.mul_succ];omega
theorem zo5 (w:World) (o1 o2:Obj):((w.alloc o1).alloc o2).heap[w.heap.size]?=some o1/\((w.alloc o1).alloc o2).heap[w.heap.size+1]?=some o2:=by
 have h:((w.alloc o1).alloc o2).heap=(w.heap.push o1).push o2:=rfl;rw[h];constructor
 ·rw[YP,if_neg (by rw[Array.size_push];omega),YP,if_pos rfl]
 ·rw[YP,if_pos (by rw[Array.size_push])]
theorem zo6 (nm:ByteArray) (W:List (List Txt)) (p:Option Addr) (b o cap:Nat) (hn:W.length<=8) (hp:0<W.length->p=some ⟨b,o,none⟩) (bk ok cp:Nat->Nat) (w:World)
  (hk: ∀k,k<W.length->w.cell? ⟨b,o+k,none⟩=some (.slice (some ⟨bk k,ok k,none⟩) (W.getD k []).length (cp k))) (hl: ∀x∈W,1<=x.length/\x.length<=4/\ ∀s∈x,s.length<=100)
  (ht: ∀k j,k<W.length->j<(W.getD k []).length->w.cell? ⟨bk k,ok k+j,none⟩=some (sV ((W.getD k []).getD j []))) (i:Nat) (hi:i<=1000000):
  Calls Tryz.prog 100 #[.agg #[.string nm,.slice p W.length cap],.int .i64 i] w fun e w'=>e=.returned (sV (joinB 32 (pick W i).1))/\Below w.heap.size w w':=by
 obtain⟨n,hN⟩: ∃n,W.length=n:=⟨_,rfl⟩;have hN':Aside (W.length=n):=hN;rw[hN] at hk ht hn hp⊢
 go_enter Tryz.func100,Tryz.ntmps100
 go_wp2
 have hst: ∀j,stX W i n j=[]:=fun j=>by
  unfold stX;rw[ZE (by rw[hN'.out];exact ZA _)];split<;>rfl
 have hA:=zo5 w (Obj.cells #[Value.string nm,Value.slice p n cap] 107) (Obj.cells #[Value.string {data:= #[]},Value.string {data:= #[]},Value.string {data:= #[]},Value.string {data:= #[]},Value.string {data:= #[]},Value.string {data:= #[]},Value.string {data:= #[]},Value.string {data:= #[]}] 184);have hB0:Below w.heap.size w ((w.alloc (Obj.cells #[Value.string nm,Value.slice p n cap] 107)).alloc (Obj.cells #[Value.string {data:= #[]},Value.string {data:= #[]},Value.string {data:= #[]},Value.string {data:= #[]},Value.string {data:= #[]},Value.string {data:= #[]},Value.string {data:= #[]},Value.string {data:= #[]}] 184)):=((Below.refl _ w).alloc (ZA _) _).alloc (by simp) _;generalize ((w.alloc (Obj.cells #[Value.string nm,Value.slice p n cap] 107)).alloc (Obj.cells #[Value.string {data:= #[]},Value.string {data:= #[]},Value.string {data:= #[]},Value.string {data:= #[]},Value.string {data:= #[]},Value.string {data:= #[]},Value.string {data:= #[]},Value.string {data:= #[]}] 184))=wA at hA hB0⊢;have hbx0:wA.cell? ⟨w.heap.size,1,none⟩=some (.slice p n cap):=by simp only[World.cell?,hA.1];rfl
 have hH0:qY wA (w.heap.size+1) (stX W i n):=⟨_,hA.2,rfl,fun j hj=>by
  rw[hst]
  match j,hj with
  |0,_=>rfl
  |1,_=>rfl
  |2,_=>rfl
  |3,_=>rfl
  |4,_=>rfl
  |5,_=>rfl
  |6,_=>rfl
  |7,_=>rfl⟩
 have hp0:(pick (W.drop n) i).2=i:=by rw[ZE (by rw[hN'.out];exact ZA _)];rfl
 clear hA hst
 go_loopg [1,6] n (fun g x t wr=> ∃k:Nat,k<=n/\k=g/\x=.int .i64 ((pick (W.drop k) i).2:Nat)/\t=.int .i64 ((k:Int)-1)/\wr.cell? ⟨w.heap.size,1,none⟩=some (.slice p n cap)/\qY wr (w.heap.size+1) (stX W i k)/\Below w.heap.size w wr)
 case atStart=>exact⟨n,ZA _,rfl,by rw[hp0],rfl,hbx0,hH0,hB0⟩
 case round=>
  obtain⟨k,hkn,rfl,rfl,rfl,hbx,hH,hb⟩:=hrel;by_cases h0:k=0
  ·subst h0
   have hle: ¬((0:Nat):Int)-1>=0:=by omega
   have hpl:=dK W i;have hcs: ∀j,j<n->wr.cell? ⟨w.heap.size+1,j,none⟩=some (sV ((pick W i).1.getD j [])):=fun j hj=>by
    have h1:=hH.cell (j:=j) (by omega);rw[h1];unfold stX;rw[if_pos (Zy _),List.drop_zero,XZ]
   have hsm: ∀s∈(pick W i).1,s.length<=100:=fun s hs=>za9 (fun x hx=>⟨(hl x hx).1,(hl x hx).2.2⟩) s hs
   have hbk:=(World.block_lt_of_cell? _ _ hbx);have hwn:w.heap.size<=wr.heap.size:=hb.size;rw[hN'.out] at hpl;obtain⟨T,hT⟩: ∃T,(pick W i).1=T:=⟨_,rfl⟩;rw[hT] at hpl hcs hsm;clear hH hbx0 hH0 hB0 hk ht hl hp;have hJoin:Calls Tryz.prog 101 #[.slice (some ⟨w.heap.size+1,0,none⟩) n 8,.string ⟨#[32]⟩] wr fun e w'=>e=.returned (sV (joinB 32 T))/\Below wr.heap.size wr w':=by
    have hsum:xJ T<=100*T.length:=zjr hsm;rcases Y3 n 2 with h2|h2
    ·rcases Y3 n 1 with h1|h1
     ·obtain rfl:n=0:=by omega
      obtain rfl:=Yn hpl;exact za8 8 _ _ wr
     ·obtain rfl:n=1:=by omega
      obtain⟨t,rfl⟩:=List.length_eq_one_iff.1 hpl;exact zjp 8 _ 0 _ _ wr (hcs 0 (by omega)) (by decide)
    ·have:=zjo T [32] 8 (w.heap.size+1) 0 wr (by have:=World.block_lt_of_cell? _ _ (hcs 0 (by omega));exact this) (fun k hk=>by rw[Z4];exact hcs k (by omega)) (by omega) (by omega) (by omega) (by decide) (by decide) (by omega)
     rw[hpl] at this;rw[<-zba];exact this
   have hal:Tryz.prog.arrayLen 184=8:=by kernel_rfl
   have hn8:(n:Int)<=Tryz.prog.arrayLen 184:=by rw[hal];omega
   have hn0:(0:Int)<=n:=by omega
   have hsl:(Instr.sliceAt 184 (.pointer (some ⟨w.heap.size+1,0,none⟩)) none (some (.int .i64 n)) none).run Tryz.prog wr=.ok (.slice (some ⟨w.heap.size+1,0,none⟩) n 8) wr:=by
    rw[run_sliceAt_array_h wr 184 ⟨w.heap.size+1,0,none⟩ (by kernel_rfl) .i64 n hn0 hn8,hal];rw[show Tryz.prog.elem 184=9 by kernel_rfl,Tryz.sizeOf9];rfl
   go_wp2_with (go_at_call 101;refine hJoin.mono ?_;rintro e w' ⟨rfl,hb2⟩)
   go_ret
   rw[hT];exact⟨rfl,hb.trans (hb2.mono hwn)⟩
  ·obtain⟨m,rfl⟩: ∃m,k=m+1:=⟨k-1,by omega⟩
   obtain rfl:=hp (by omega);clear hp;have hm:m<n:=hkn;have hge:((m+1:Nat):Int)-1>=0:=by omega
   have hmw:m<W.length:=by rw[hN'.out];exact hm
   have hgd:W.getD m []=W[m]:=by rw[Zm,Zk hmw];rfl
   have hlm:=hl _ (Zv hmw);have hbb:=World.block_lt_of_cell? _ _ (hk m hm);have hc1:=(hb.cell (p:=⟨b,o+m,none⟩) hbb).trans (hk m hm);have hw1:IntKind.i64.wrap ((m:Int)-1)=(m:Int)-1:=Go.Abs.wrap_in (by omega) (by omega);have e6:((m+1:Nat):Int)-1=(m:Int):=by omega
   have hm8:m<8:=by omega
   have hst:=fun j=>zo4 (i:=i) hmw j
   have hpk:(pick (W.drop m) i).2=(pick (W.drop (m+1)) i).2/W[m].length:=by rw[Zx hmw,pick]
   have hqle:=zjq (W.drop (m+1)) i;have htm:=ht m;rw[hgd] at hc1 htm;generalize W[m]=wd at hlm hst hpk hc1 htm;obtain⟨q,hq⟩: ∃q,(pick (W.drop (m+1)) i).2=q:=⟨_,rfl⟩;rw[hq] at hst hpk hqle⊢;rw[e6];obtain⟨L,hL⟩: ∃L,wd.length=L:=⟨_,rfl⟩;rw[hL] at hlm hst hpk hc1 htm;have hL0: ¬(L:Int)=0:=by omega
   have hmod:q % L<L:=XH _ (by omega);have hr1:(q:Int).tmod (L:Int)=((q % L:Nat):Int):=(XJ q L).symm;have hr2:(q:Int).tdiv (L:Int)=((q/L:Nat):Int):=(XS q L).symm;have hc2:=htm (q % L) hm hmod;have hbb2:=World.block_lt_of_cell? _ _ hc2;have hc3:=(hb.cell (p:=⟨bk m,ok m+q % L,none⟩) hbb2).trans hc2;have hc4:=hH.cell hm8;have hf4:=hH.frozen (j:=m);have hset:=hH.set (st':=stX W i m) hm8 (wd.getD (q % L) []) (fun j _=>hst j);have hmod':((q % L:Nat):Int)<L:=by omega
   have hmi:(m:Int)<n:=by omega
   have hm8i:(m:Int)<8:=by omega
   generalize hJ:q % L=J at hr1 hc3 hset hmod';clear hc2 hst htm hk ht hgd hl hH hB0 hH0 hbx0 hlm hmod;have hne:(⟨w.heap.size+1,m,none⟩:Addr)≠⟨w.heap.size,1,none⟩:=fun e=>by
    have:=congrArg Addr.block e;simp at this
   have hbx2:(wr.setCell ⟨w.heap.size+1,m,none⟩ (sV (wd.getD J []))).cell? ⟨w.heap.size,1,none⟩=some (.slice (some ⟨b,o,none⟩) n cap):=by
    have:=World.cell?_setCell_other wr _ _ (sV (wd.getD J [])) hne;rw[this];exact hbx
   have hqd:wrap64 ((q:Int)/(L:Int))=(q:Int)/(L:Int):=by
    rw[<-X2];have hd:=Xk q L;generalize q/L=d at hd;unfold wrap64;omega
   go_wp2
   go_roundg m
   case rel=>exact⟨m,by omega,rfl,by rw[hpk,X2],rfl,hbx2,hset,hb.setCell (by simp) _⟩
   case measure=>omega
end Go.Proofs
namespace Go.Abs
open Go.Proofs Go.RowKit Go.Lib Go.Wd Go.Wire Go.Ex
theorem zo7 (l:List Txt):Plain 1 (zK l):=by
 refine⟨by decide,fun r hr=>?_,fun r hr c hc=>?_⟩
 ·obtain⟨s,_,rfl⟩:=ZL.1 hr;rfl
 ·obtain⟨s,_,rfl⟩:=ZL.1 hr
  rw[Z9.1 hc];rfl
theorem zo8 (l:List Txt):qU (zK l)=l.map fun s=>Value.string ⟨s.toArray⟩:=by
 rw[qU,zK]
 induction l with
 |nil=>rfl
 |cons a l ih=>simp only[Zj,YR,ZV,ih];rfl
theorem zo9 {w:World} {Z:Bk->Prop} {l:List Txt} (hl:l≠[]) {v:Value} (h:PRep w Z (zF 1 (zK l)) v):
  ∃b o cap,v=.slice (some ⟨b,o,none⟩) l.length cap/\ ∀j,j<l.length->w.cell? ⟨b,o+j,none⟩=some (sV (l.getD j [])):=by
 obtain⟨p,k,rfl,q,m⟩:=(zo7 l).slice h;have hpos:0<(zK l).length:=by rw[zQ];exact Yl.2 hl
 obtain⟨b,o,rfl,g⟩:=q hpos;refine⟨b,o,k,by rw[zQ],fun j hj=>?_⟩;refine g j _ ?_;rw[zo8,ZD,Zk hj];simp[List.getD,hj]
theorem zpa {w:World} {Z:Bk->Prop} {W:List (List Txt)} (hW: ∀x∈W,x≠[]) {v:Value} (h:PRep w Z (zF 1 (W.map wH)) v):
  ∃p cap b o,∃bk ok cp:Nat->Nat,v=.slice p W.length cap/\(0<W.length->p=some ⟨b,o,none⟩)/\
   (∀k,k<W.length->w.cell? ⟨b,o+k,none⟩=some (.slice (some ⟨bk k,ok k,none⟩) (W.getD k []).length (cp k)))/\
   ∀k j,k<W.length->j<(W.getD k []).length->w.cell? ⟨bk k,ok k+j,none⟩=some (sV ((W.getD k []).getD j [])):=by
 by_cases h0:W=[]
 ·subst h0
  have h':PRep w Z (.list 0 none []) v:=h;cases h' with
  |nil=>exact⟨none,0,0,0,fun _=>0,fun _=>0,fun _=>0,rfl,fun q=>absurd q (by simp),fun k q=>absurd q (by simp),fun k j q=>absurd q (by simp)⟩
  |emp _ _ a _=>exact⟨some a,0,0,0,fun _=>0,fun _=>0,fun _=>0,rfl,fun q=>absurd q (by simp),fun k q=>absurd q (by simp),fun k j q=>absurd q (by simp)⟩
  |list b o cap _ _ _ _ _ _ _ _ _ _ _=>exact⟨some ⟨b,o,none⟩,cap,0,0,fun _=>0,fun _=>0,fun _=>0,rfl,fun q=>absurd q (by simp),fun k q=>absurd q (by simp),fun k j q=>absurd q (by simp)⟩
 ·have hne:(W.map wH).isEmpty=false:=by cases W<;>simp_all
  unfold zF at h;rw[hne,if_neg (by simp)] at h;have hpos:=Yl.2 h0;generalize hrw:W.map wH=rows at h;cases h with
  |nil=>simp at hrw;exact absurd hrw h0
  |emp _ _ a _=>simp at hrw;exact absurd hrw h0
  |list b o cap _ _ _ val h1 h2 h3 h4 h5 h6 h7=>
   subst hrw;have hat: ∀k,k<W.length->(W.map wH)[k]?=some [zF 1 (zK (W.getD k []))]:=fun k hk=>by
    rw[ZD,Zk hk,Zm,Zk hk];rfl
   have key: ∀k,∃bk ok cp,k<W.length->w.cell? ⟨b,o+k,none⟩=some (.slice (some ⟨bk,ok,none⟩) (W.getD k []).length cp)/\ ∀j,j<(W.getD k []).length->w.cell? ⟨bk,ok+j,none⟩=some (sV ((W.getD k []).getD j [])):=fun k=>by
    by_cases hk:k<W.length
    ·have hm:W.getD k []≠[]:=by
      rw[Zm,Zk hk];exact hW _ (Zv hk)
     have hv:=h7 k 0 _ _ (hat k hk) rfl;obtain⟨bk,ok,cp,e,hc⟩:=zo9 hm hv;have hcell:=h6 k 0 _ _ (hat k hk) rfl;rw[Y5,YC,e] at hcell;exact⟨bk,ok,cp,fun _=>⟨hcell,hc⟩⟩
    ·exact⟨0,0,0,fun q=>absurd q hk⟩
   have hlen:(W.map wH).length=W.length:=Ze ..;exact⟨some ⟨b,o,none⟩,cap,b,o,fun k=>(key k).choose,fun k=>(key k).choose_spec.choose,fun k=>(key k).choose_spec.choose_spec.choose,by rw[hlen],fun _=>rfl,
    fun k hk=>((key k).choose_spec.choose_spec.choose_spec hk).1,fun k j hk hj=>((key k).choose_spec.choose_spec.choose_spec hk).2 j hj⟩
theorem zpb (f:Fld) (hf:FldR f) (hs: ∀w∈f.words,∀s∈w,s.length<=100) (i:Nat) (hi:i<=1000000):Spec Tryz.prog 100 [.agg (zW f),.int .i64 (i:Int)] (fun v=>v=.str (textF f i)):=by
 refine⟨rN (by kernel_rfl),fun w Z vs hG hz ha=>?_⟩;obtain⟨vl⟩:=vs
 match vl,ha with
 |[],ha=>exact absurd ha.1 (by simp)
 |[_],ha=>exact absurd ha.1 (by simp)
 |_::_::_::_,ha=>exact absurd ha.1 (by simp)
 |[v,v2],ha=>
  have e2:=vO (ha.2 1 _ v2 rfl rfl).2.2;subst e2;obtain⟨us,rfl,hrow⟩:=(ha.2 0 _ v rfl rfl).2;obtain⟨ul⟩:=us
  match ul,hrow with
  |[],hrow=>exact absurd hrow.1 (by simp[zW])
  |[_],hrow=>exact absurd hrow.1 (by simp[zW])
  |_::_::_::_,hrow=>exact absurd hrow.1 (by simp[zW])
  |[u0,u1],hrow=>
   have e0:=tM (hrow.2 0 (.str f.name) u0 rfl rfl);subst e0;have h1:PRep w Z (zF 1 (f.words.map wH)) u1:=hrow.2 1 _ u1 rfl rfl;obtain⟨p,cap,b,o,bk,ok,cp,rfl,hp,hk,ht⟩:=zpa (fun x hx=>List.ne_nil_of_length_pos (hf.sp x hx).1) h1;refine(zo6 ⟨f.name.toArray⟩ f.words p b o cap hf.ws hp bk ok cp w hk (fun x hx=>⟨(hf.sp x hx).1,(hf.sp x hx).2,hs x hx⟩) ht i hi).mono ?_;rintro e w' ⟨rfl,hb⟩;exact⟨_,_,rfl,rfl,fun _=>rfl,oO hG (wB hb) (fun _=>rfl) (fun _=>⟨rfl,.str _⟩)⟩
end Go.Abs
namespace Go.Ex
def bitsN (s:Nat):List Nat:=(List.range 10).filter fun k=>s.testBit k
theorem qZ {s k:Nat} (h:s<1024):k∈bitsN s ↔ s.testBit k=true:=by
 unfold bitsN;rw[Z8,Yb];refine⟨fun h=>h.2,fun q=>⟨?_,q⟩⟩;rcases Y3 k 10 with h1|h1
 ·exact h1
 ·rw[Wg (ZO h (show 1024<=2 ^ k from ZW (n:=2) (by decide) h1))] at q;cases q
def andN (a b:Nat):Nat:=a ^^^ (a&&&b)
theorem mD (a b k:Nat):(andN a b).testBit k=(a.testBit k&& !b.testBit k):=by
 unfold andN;rw[Nat.testBit_xor,XM];cases a.testBit k<;>cases b.testBit k<;>rfl
theorem pA (k j:Nat):(1<<<k).testBit j=decide (k=j):=by
 rw[X0,Nat.testBit_two_pow]
theorem zjs {a b:Nat}:a&&&b=0 ↔ ∀k,a.testBit k=true->b.testBit k=false:=by
 constructor
 ·intro h k ha
  have:=XM a b k;rw[h,YW,ha,ZC] at this;exact this.symm
 ·intro h
  apply XE;intro k;rw[YW,XM];cases ha:a.testBit k with
  |true=>rw[h k ha];rfl
  |false=>rfl
def hitP (F:List Nat) (s:Nat):Bool:=F.all fun f=>f&&&s !=0
theorem mE {F:List Nat} {s:Nat}:hitP F s=true ↔ ∀f∈F,∃k,f.testBit k=true/\s.testBit k=true:=by
 unfold hitP;rw[Zt];refine⟨fun h f hf=>?_,fun h f hf=>?_⟩
 ·have h1:=h f hf
  rw[bne_iff_ne,ne_eq,zjs] at h1;by_cases hk: ∃k,f.testBit k=true/\s.testBit k=true
  ·exact hk
  ·exact absurd (fun k hf=>by cases hs:s.testBit k with|false=>rfl|true=>exact absurd ⟨k,hf,hs⟩ hk) h1
 ·obtain⟨k,h1,h2⟩:=h f hf
  rw[bne_iff_ne,ne_eq,zjs];intro h3;rw[h3 k h1] at h2;cases h2
def wZ (F:List Nat) (s:Nat):Bool:=hitP F s&&(bitsN s).all fun k=> !hitP F (andN s (1<<<k))
theorem zbb {F:List Nat} {s:Nat} (h:s<1024):wZ F s=true ↔ hitP F s=true/\ ∀k,s.testBit k=true->hitP F (andN s (1<<<k))=false:=by
 unfold wZ;rw[Zp,Zt];refine and_congr X7 ⟨fun h1 k hk=>?_,fun h1 k hk=>?_⟩
 ·have:=h1 k ((qZ h).2 hk);simpa using this
 ·have:=h1 k ((qZ h).1 hk);simpa using this
def tY (D:Nat):Nat->Nat->List Nat
 |0,_=>[]
 |n+1,p=>if p=0 then[] else p::tY D n ((p-1)&&&D)
def dL (D:Nat):List Nat:=((List.range 256).filter fun p=>p !=0&&p&&&D==p).reverse
theorem zbc: ∀D,D<256->tY D 256 D=dL D:=by decide+kernel
theorem zbd {D p:Nat} (hD:D<256):p∈dL D ↔ p≠0/\p&&&D=p:=by
 unfold dL;rw[List.mem_reverse,Z8,Yb,Zp,bne_iff_ne,beq_iff_eq];refine⟨fun h=>h.2,fun h=>⟨?_,h⟩⟩;have:=Nat.and_le_right (n:=p) (m:=D);omega
theorem zbe {D p:Nat}:p&&&D=p ↔ ∀k,p.testBit k=true->D.testBit k=true:=by
 constructor
 ·intro h k hk
  rw[<-h,XM,Zp] at hk;exact hk.2
 ·intro h
  apply XE;intro k;rw[XM];cases hp:p.testBit k with
  |true=>rw[h k hp];rfl
  |false=>rfl
def yW:List Nat->List Nat->List Nat
 |[],acc=>acc
 |f::F,acc=>yW F (if f∈acc then acc else acc++[f])
theorem iL: ∀(F acc:List Nat) (x:Nat),x∈yW F acc ↔ x∈F\/x∈acc
 |[],acc,x=>by simp[yW]
 |f::F,acc,x=>by
  rw[yW,iL F];split
  ·rename_i h
   rw[ZB];constructor
   ·rintro(h1|h1)
    ·exact .inl (.inr h1)
    ·exact .inr h1
   ·rintro((rfl|h1)|h1)
    ·exact .inr h
    ·exact .inl h1
    ·exact .inr h1
  ·simp only[Yt,ZB,Zq,or_false]
   constructor
   ·rintro(h1|h1|h1)
    ·exact .inl (.inr h1)
    ·exact .inr h1
    ·exact .inl (.inl h1)
   ·rintro((h1|h1)|h1)
    ·exact .inr (.inr h1)
    ·exact .inl h1
    ·exact .inr (.inl h1)
theorem zjt: ∀(F acc:List Nat),acc.Nodup->(yW F acc).Nodup
 |[],acc,h=>h
 |f::F,acc,h=>by
  rw[yW];refine zjt F _ ?_;split
  ·exact h
  ·rename_i hf
   rw[List.nodup_append];exact⟨h,by simp,fun a ha b hb=>by rw[Z9] at hb;subst hb;rintro rfl;exact hf ha⟩
theorem zpc (F:List Nat) (p:Nat->Bool):(yW F []).all p=F.all p:=by
 rw[Ye,Zt,Zt];refine⟨fun h x hx=>h x ((iL F [] x).2 (.inl hx)),fun h x hx=>h x ?_⟩;rcases(iL F [] x).1 hx with h|h
 ·exact h
 ·cases h
structure Vw where
 sets:List Nat
 never:Nat
 doubt:Nat
def tZ (m:Nat) (F:List Nat):Vw:=⟨yW F [],F.foldl (· &&& ·) (2 ^ m-1),andN (F.foldl (· ||| ·) 0) (F.foldl (· &&& ·) (2 ^ m-1))⟩
theorem dM: ∀(F:List Nat) (a k:Nat),(F.foldl (· &&& ·) a).testBit k=(a.testBit k&&F.all (·.testBit k))
 |[],a,k=>by simp
 |f::F,a,k=>by rw[YZ,dM F,XM,Yz,X4]
theorem iM: ∀(F:List Nat) (a k:Nat),(F.foldl (· ||| ·) a).testBit k=(a.testBit k||F.any (·.testBit k))
 |[],a,k=>by simp
 |f::F,a,k=>by rw[YZ,iM F,XR,List.any_cons,Bool.or_assoc]
theorem xM {m s:Nat}:s<2 ^ m ↔ ∀k,s.testBit k=true->k<m:=by
 constructor
 ·intro h k hk
  rcases Y3 k m with h1|h1
  ·exact h1
  ·rw[Wg (ZO h (ZW (n:=2) (by decide) h1))] at hk;cases hk
 ·intro h
  apply Nat.lt_pow_two_of_testBit;intro i hi;cases q:s.testBit i with
  |false=>rfl
  |true=>exact absurd (h i q) (by omega)
theorem zpd {m:Nat} {F:List Nat}:(tZ m F).never<2 ^ m:=xM.2 fun k hk=>by
 have h:(F.foldl (· &&& ·) (2 ^ m-1)).testBit k=true:=hk;rw[dM,Zp,Nat.testBit_two_pow_sub_one,decide_eq_true_eq] at h;exact h.1
theorem iN {m:Nat} {F:List Nat} (hF: ∀f∈F,f<2 ^ m):(tZ m F).doubt<2 ^ m:=xM.2 fun k hk=>by
 have h:(andN (F.foldl (· ||| ·) 0) (F.foldl (· &&& ·) (2 ^ m-1))).testBit k=true:=hk;rw[mD,Zp,iM,YW,Yd,Yx] at h;obtain⟨⟨f,hf,h1⟩,_⟩:=h;exact xM.1 (hF f hf) k h1
theorem dN {m:Nat} {F:List Nat} (h0:F≠[]) (hF: ∀f∈F,f<2 ^ m) (k:Nat):(tZ m F).never.testBit k=true ↔ ∀f∈F,f.testBit k=true:=by
 show(F.foldl (· &&& ·) (2 ^ m-1)).testBit k=true ↔ _;rw[dM,Zp,Zt,Nat.testBit_two_pow_sub_one,decide_eq_true_eq];refine⟨fun h=>h.2,fun h=>⟨?_,h⟩⟩;obtain⟨f,hf⟩:=Xp F h0;exact xM.1 (hF f hf) k (h f hf)
theorem zbf {m:Nat} {F:List Nat} (h0:F≠[]) (hF: ∀f∈F,f<2 ^ m) (k:Nat):(tZ m F).doubt.testBit k=true ↔ (∃f∈F,f.testBit k=true)/\ ∃f∈F,f.testBit k=false:=by
 show(andN (F.foldl (· ||| ·) 0) (tZ m F).never).testBit k=true ↔ _;rw[mD,Zp,iM,YW,Yd,Yx];refine and_congr X7 ?_;rw[YL,Yj,ne_eq,dN h0 hF];constructor
 ·intro h
  by_cases hx: ∃f∈F,f.testBit k=false
  ·exact hx
  ·exact absurd (fun f hf=>by cases q:f.testBit k with|true=>rfl|false=>exact absurd ⟨f,hf,q⟩ hx) h
 ·rintro⟨f,hf,h1⟩ h
  rw[h f hf] at h1;cases h1
def conflP (v:Vw):List Nat:=((List.range 64).filter fun k=>v.never.testBit k).map (fun k=>1<<<k)++(tY v.doubt 256 v.doubt).filter (wZ v.sets)
theorem zpe (F:List Nat):wZ (yW F [])=wZ F:=by
 have h:hitP (yW F [])=hitP F:=funext fun s=>by unfold hitP;exact zpc F _
 funext s;unfold wZ;rw[h]
theorem zju {m:Nat} {F:List Nat} (hm:m<=8) (h0:F≠[]) (hF: ∀f∈F,f<2 ^ m) (s:Nat):s∈conflP (tZ m F) ↔ s<2 ^ m/\wZ F s=true:=by
 have h256:2 ^ m<=256:=(ZW (n:=2) (by decide) hm:2 ^ m<=2 ^ 8);have hd:=iN hF;unfold conflP;rw[Yt,ZL,zbc _ (by omega),Z8,zbd (by omega),show(tZ m F).sets=yW F [] from rfl,zpe];have hb: ∀{k j:Nat},(1<<<k).testBit j=true ↔ k=j:=fun{k j}=>by rw[pA,decide_eq_true_eq]
 constructor
 ·rintro(⟨k,hk,rfl⟩|⟨⟨hn,hs⟩,hc⟩)
  ·rw[Z8,dN h0 hF] at hk
   obtain⟨f,hf⟩:=Xp F h0;have hkm:k<m:=xM.1 (hF f hf) k (hk.2 f hf);have hlt:1<<<k<2 ^ m:=xM.2 fun j hj=>by rw[hb] at hj;omega
   refine⟨hlt,(zbb (by omega)).2 ⟨mE.2 fun f hf=>⟨k,hk.2 f hf,hb.2 rfl⟩,fun j hj=>?_⟩⟩;rw[hb] at hj;subst hj;rw[Yj];intro hh;obtain⟨f,hf⟩:=Xp F h0;obtain⟨i,_,hi⟩:=mE.1 hh f hf;rw[mD] at hi;cases hx:(1<<<k).testBit i<;>simp[hx] at hi
  ·refine⟨xM.2 fun k hk=>xM.1 hd k (zbe.1 hs k hk),hc⟩
 ·rintro⟨hs,hc⟩
  have hc2:=(zbb (by omega)).1 hc;by_cases hx: ∃k,s.testBit k=true/\ ∀f∈F,f.testBit k=true
  ·left
   obtain⟨k,hk,hall⟩:=hx;refine⟨k,?_,?_⟩
   ·rw[Z8,dN h0 hF,Yb]
    exact⟨by have:=xM.1 hs k hk;omega,hall⟩
   ·apply XE
    intro j;rw[pA];by_cases hj:k=j
    ·subst hj;rw[hk];simp
    ·rw[decide_eq_false hj]
     cases q:s.testBit j with
     |false=>rfl
     |true=>
      exfalso;have:=hc2.2 j q;rw[Yj] at this;exact this (mE.2 fun f hf=>⟨k,hall f hf,by rw[mD,hk,pA,decide_eq_false (fun e=>hj e.symm)];rfl⟩)
  ·right
   refine⟨⟨?_,zbe.2 fun k hk=>?_⟩,hc⟩
   ·rintro rfl
    obtain⟨f,hf⟩:=Xp F h0;obtain⟨k,_,h2⟩:=mE.1 hc2.1 f hf;rw[YW] at h2;cases h2
   ·rw[zbf h0 hF]
    refine⟨?_,?_⟩
    ·by_cases hy: ∃f∈F,f.testBit k=true
     ·exact hy
     ·exfalso
      have:=hc2.2 k hk;rw[Yj] at this;refine this (mE.2 fun f hf=>?_);obtain⟨j,h1,h2⟩:=mE.1 hc2.1 f hf;refine⟨j,h1,?_⟩;rw[mD,h2,pA];have:k≠j:=by rintro rfl;exact hy ⟨f,hf,h1⟩
      rw[decide_eq_false this];rfl
    ·by_cases hy: ∃f∈F,f.testBit k=false
     ·exact hy
     ·exact absurd ⟨k,hk,fun f hf=>by cases q:f.testBit k with|true=>rfl|false=>exact absurd ⟨f,hf,q⟩ hy⟩ hx
def yX:List Nat->Nat->List Nat×Nat
 |[],i=>([],i)
 |s::l,i=>((yX l i).2 % s::(yX l i).1,(yX l i).2/s)
def prodN:List Nat->Nat
 |[]=>1
 |s::l=>s*prodN l
theorem mF: ∀{l:List Nat},(∀s∈l,0<s)->0<prodN l
 |[],_=>Nat.one_pos
 |s::l,h=>Nat.mul_pos (h s (by simp)) (mF fun x hx=>h x (ZH _ hx))
theorem iO: ∀(l:List Nat) (i:Nat),(yX l i).2=i/prodN l
 |[],i=>by simp[yX,prodN]
 |s::l,i=>by rw[yX,iO l,prodN,Wi,Nat.div_div_eq_div_mul]
theorem zbg: ∀(l:List Nat) (i:Nat),(yX l i).1.length=l.length
 |[],_=>rfl
 |s::l,i=>by rw[yX,Zu,zbg l,Zu]
structure Strict {α:Type} (lt:α->α->Bool):Prop where
 irr: ∀a,lt a a=false
 tr: ∀a b c,lt a b=true->lt b c=true->lt a c=true
 tot: ∀a b,lt a b=false->lt b a=false->a=b
def insO {α:Type} (lt:α->α->Bool) (x:α):List α->List α
 |[]=>[x]
 |y::l=>if lt x y=true then x::y::l else y::insO lt x l
def sortO {α:Type} (lt:α->α->Bool):List α->List α
 |[]=>[]
 |x::l=>insO lt x (sortO lt l)
theorem dO {α:Type} (lt:α->α->Bool) (x:α): ∀l,(insO lt x l).Perm (x::l)
 |[]=>XF _
 |y::l=>by
  rw[insO];split
  ·exact XF _
  ·exact((dO lt x l).cons y).trans (List.Perm.swap x y l)
theorem kF {α:Type} (lt:α->α->Bool): ∀l,(sortO lt l).Perm l
 |[]=>XF _
 |x::l=>(dO lt x _).trans ((kF lt l).cons x)
theorem zbh {α:Type} {lt:α->α->Bool} (h:Strict lt) (x:α): ∀l:List α,l.Pairwise (fun a b=>lt b a=false)->(insO lt x l).Pairwise fun a b=>lt b a=false
 |[],_=>by simp[insO]
 |y::l,hl=>by
  rw[insO];have hc:=Xc.1 hl;split
  ·rename_i hxy
   refine Xc.2 ⟨fun z hz=>?_,hl⟩;cases q:lt z x with
   |false=>rfl
   |true=>
    exfalso;have h1:=h.tr _ _ _ q hxy;rcases ZB.1 hz with rfl|hz
    ·rw[h.irr] at h1;cases h1
    ·rw[hc.1 z hz] at h1;cases h1
  ·rename_i hxy
   refine Xc.2 ⟨fun z hz=>?_,zbh h x l hc.2⟩;rcases ZB.1 ((dO lt x l).mem_iff.1 hz) with rfl|hz
   ·simpa using hxy
   ·exact hc.1 z hz
theorem zbi {α:Type} {lt:α->α->Bool} (h:Strict lt): ∀l:List α,(sortO lt l).Pairwise fun a b=>lt b a=false
 |[]=>Xx
 |x::l=>zbh h x _ (zbi h l)
theorem zbj {α:Type} {lt:α->α->Bool} (h:Strict lt): ∀{a b:List α},a.Perm b->a.Pairwise (fun x y=>lt y x=false)->b.Pairwise (fun x y=>lt y x=false)->a=b
 |[],b,hp,_,_=>(List.Perm.nil_eq hp)
 |x::a,[],hp,_,_=>absurd hp.length_eq (by simp)
 |x::a,y::b,hp,ha,hb=>by
  have h1:=Xc.1 ha;have h2:=Xc.1 hb;have e:x=y:=by
   rcases ZB.1 (hp.mem_iff.1 (Yv)) with e|hx
   ·exact e
   rcases ZB.1 (hp.mem_iff.2 (Yv)) with e|hy
   ·exact e.symm
   exact h.tot _ _ (h2.1 x hx) (h1.1 y hy)
  subst e;rw[zbj h ((List.perm_cons x).1 hp) h1.2 h2.2]
theorem zbk {α:Type} {lt:α->α->Bool} (h:Strict lt) {a b:List α} (hp:b.Perm a) (hb:b.Pairwise fun x y=>lt y x=false):b=sortO lt a:=
 zbj h (hp.trans (kF lt a).symm) hb (zbi h a)
def vA:List Nat->List Nat->Bool
 |a::x,b::y=>if a=b then vA x y else decide (a<b)
 |[],_::_=>true
 |_,[]=>false
def ltC (a b:List Nat):Bool:=if a.length=b.length then vA a b else decide (a.length<b.length)
theorem zbl: ∀a,vA a a=false
 |[]=>rfl
 |a::x=>by rw[vA,if_pos rfl,zbl x]
theorem zbm: ∀a b c,vA a b=true->vA b c=true->vA a c=true
 |[],[],_,h,_=>by cases h
 |[],_::_,[],_,h=>by cases h
 |[],_::_,_::_,_,_=>rfl
 |_::_,[],_,h,_=>by cases h
 |_::_,_::_,[],_,h=>by cases h
 |a::x,b::y,c::z,h1,h2=>by
  rw[vA] at h1 h2⊢;split at h1
  ·rename_i e1;subst e1
   split at h2
   ·rename_i e2;subst e2;rw[if_pos rfl];exact zbm x y z h1 h2
   ·rename_i e2;rw[if_neg e2];exact h2
  ·rename_i e1
   rw[decide_eq_true_eq] at h1;split at h2
   ·rename_i e2;subst e2;rw[if_neg e1,decide_eq_true_eq];exact h1
   ·rename_i e2
    rw[decide_eq_true_eq] at h2;rw[if_neg (by omega),decide_eq_true_eq];omega
theorem zbn: ∀a b,vA a b=false->vA b a=false->a=b
 |[],[],_,_=>rfl
 |[],_::_,h,_=>by cases h
 |_::_,[],_,h=>by cases h
 |a::x,b::y,h1,h2=>by
  rw[vA] at h1 h2;by_cases e:a=b
  ·subst e
   rw[if_pos rfl] at h1 h2;rw[zbn x y h1 h2]
  ·rw[if_neg e,decide_eq_false_iff_not] at h1
   rw[if_neg (fun h=>e h.symm),decide_eq_false_iff_not] at h2;omega
theorem zbo:Strict ltC where
 irr a:=by unfold ltC;rw[if_pos rfl,zbl]
 tr a b c h1 h2:=by
  unfold ltC at*
  split at h1
  ·rename_i e1
   split at h2
   ·rename_i e2;rw[if_pos (e1.trans e2)];exact zbm _ _ _ h1 h2
   ·rename_i e2;rw[if_neg (by rw[e1];exact e2),e1];exact h2
  ·rename_i e1
   rw[decide_eq_true_eq] at h1;split at h2
   ·rename_i e2;rw[if_neg (by rw[<-e2];exact e1),decide_eq_true_eq,<-e2];exact h1
   ·rename_i e2
    rw[decide_eq_true_eq] at h2;rw[if_neg (by omega),decide_eq_true_eq];omega
 tot a b h1 h2:=by
  unfold ltC at*
  by_cases e:a.length=b.length
  ·rw[if_pos e] at h1;rw[if_pos e.symm] at h2;exact zbn _ _ h1 h2
  ·rw[if_neg e,decide_eq_false_iff_not] at h1
   rw[if_neg (fun h=>e h.symm),decide_eq_false_iff_not] at h2;omega
end Go.Ex
namespace Go.Ex
open Go.Lib Go.Wd Go.Wire Go.Abs
def agreesP (d f e g:Txt) (l:List Pln):Bool:=
 if kindP l d=true then if kindP l e=true then
  (fldsF d f l []).2&&((fldsF e g l []).2&& !((fldsF d f l []).1++(fldsF e g l []).1).any fun s=> !decide (s=(fldsF d f l []).1.headD []))
 else true else true
def vE (m:Dmd) (l:List Pln):Bool:=
 if m.op=0 then kindP l m.doc else if m.op=1 then readsP m.doc m.fld m.txt l else if m.op=2 then limP m.doc m.fld m.lo m.hi false l
 else if m.op=3 then agreesP m.doc m.fld m.oth m.sec l else if m.op=4 then limP m.doc m.fld m.lo m.hi true l else false
def yI:Dmd:=⟨0,[],[],[],[],[],0,0⟩
def failP (L:List Dmd) (p:List Pln):List Nat:=(List.range L.length).filter fun i=> !vE (L.getD i yI) p
theorem dP {L:List Dmd} {p:List Pln} {k:Nat}:k∈failP L p ↔ k<L.length/\vE (L.getD k yI) p=false:=by
 unfold failP;rw[Z8,Yb];simp
def setN (l:List Nat):Nat:=l.foldl (fun s k=>s|||(1<<<k)) 0
theorem zjv: ∀(l:List Nat) (a j:Nat),(l.foldl (fun s k=>s|||(1<<<k)) a).testBit j=(a.testBit j||decide (j∈l))
 |[],a,j=>by simp
 |k::l,a,j=>by
  rw[YZ,zjv l,XR,pA,Bool.or_assoc];congr 1;rw[Ye,Yi,decide_eq_true_eq,decide_eq_true_eq,decide_eq_true_eq,ZB];exact or_congr eq_comm X7
theorem zpf (l:List Nat) (j:Nat):(setN l).testBit j=decide (j∈l):=by unfold setN;rw[zjv,YW,Yd]
theorem zbp {l:List Nat} {m:Nat} (h: ∀k∈l,k<m):setN l<2 ^ m:=xM.2 fun k hk=>by rw[zpf,decide_eq_true_eq] at hk;exact h k hk
def wM:List Fld->Nat->List Txt×Nat
 |[],i=>([],i)
 |f::l,i=>(textF f ((wM l i).2 % yL f)::(wM l i).1,(wM l i).2/yL f)
def rdD (d:Dcm) (i:Nat):Pln:=⟨d.kind,d.flds.map Fld.name,(wM d.flds i).1⟩
def xU:List Dcm->List Nat->Nat->List Pln×Nat
 |d::l,c::cs,i=>(rdD d ((xU l cs i).2 % c)::(xU l cs i).1,(xU l cs i).2/c)
 |_,_,i=>([],i)
def xO (D:List Dcm):List Nat:=(cnts D).1.map Int.toNat
def rdsD (D:List Dcm) (i:Nat):List Pln:=(xU D (xO D) i).1
def yY (D:List Dcm):Nat:=(cnts D).2.1.toNat
def failsD (L:List Dmd) (D:List Dcm):List Nat:=(List.range (yY D)).map fun i=>setN (failP L (rdsD D i))
theorem iP (L:List Dmd) (D:List Dcm): ∀f∈failsD L D,f<2 ^ L.length:=by
 intro f hf;obtain⟨i,_,rfl⟩:=ZL.1 hf;exact zbp fun k hk=>(dP.1 hk).1
def viewD (L:List Dmd) (D:List Dcm):Vw:=tZ L.length (failsD L D)
def xX (a b:Plc):Bool:=if a.doc=b.doc then decide (a.fld<b.fld) else decide (a.doc<b.doc)
theorem pB:Strict xX where
 irr a:=by unfold xX;rw[if_pos rfl,decide_eq_false_iff_not];omega
 tr a b c h1 h2:=by
  unfold xX at*
  split at h1<;>split at h2<;>rw[decide_eq_true_eq] at h1 h2
  ·rw[if_pos (by omega),decide_eq_true_eq];omega
  ·rw[if_neg (by omega),decide_eq_true_eq];omega
  ·rw[if_neg (by omega),decide_eq_true_eq];omega
  ·rw[if_neg (by omega),decide_eq_true_eq];omega
 tot a b h1 h2:=by
  obtain⟨a1,a2⟩:=a;obtain⟨b1,b2⟩:=b;unfold xX at*
  simp only[] at*
  by_cases e:a1=b1
  ·rw[if_pos e,decide_eq_false_iff_not] at h1
   rw[if_pos e.symm,decide_eq_false_iff_not] at h2;rw[e,show a2=b2 by omega]
  ·rw[if_neg e,decide_eq_false_iff_not] at h1
   rw[if_neg (fun h=>e h.symm),decide_eq_false_iff_not] at h2;omega
def mG (m:Dmd) (p:Pln) (k:Nat):Bool:=
 (decide (fstN (fun x=>decide (p.names.getD k []=x)) p.names 0=(k:Int))&&decide (k<p.texts.length))&&
  ((decide (p.kind=m.doc)&&decide (p.names.getD k []=m.fld))||(decide (m.op=3)&&(decide (p.kind=m.oth)&&decide (p.names.getD k []=m.sec))))
def qH (m:Dmd) (p:Pln) (i:Nat):List Plc:=((List.range p.names.length).filter (mG m p)).map fun(k:Nat)=>⟨(i:Int),(k:Int)⟩
def looksL (m:Dmd):List Pln->Nat->List Plc
 |[],_=>[]
 |p::l,i=>qH m p i++looksL m l (i+1)
def looksP (m:Dmd) (l:List Pln):List Plc:=if m.op<=0\/m.op>=5 then[] else looksL m l 0
def vV:List Plc->List Plc
 |[]=>[]
 |[a]=>[a]
 |a::b::l=>if a=b then vV (b::l) else a::vV (b::l)
def placesP (L:List Dmd) (which:List Nat) (l:List Pln):List Plc:=vV (sortO xX (which.map fun k=>looksP (L.getD k yI) l).flatten)
def dQ (L:List Dmd) (v:Vw) (p:List Pln):List Flw:=
 ((sortO ltC ((conflP v).map bitsN)).map fun c=>⟨c.map fun(k:Nat)=>(k:Int),placesP L c p,true⟩)++(bitsN v.doubt).map fun k=>⟨[(k:Int)],placesP L [k] p,false⟩
def dR (L:List Dmd) (D:List Dcm):List Flw:=dQ L (viewD L D) (rdsD D 0)
def dS (v:Vw):Int:=if 0∈v.sets then(if v.sets.length=1 then 1 else 2) else 0
end Go.Ex
namespace Go.Abs
open Go.Proofs Go.RowKit Go.Lib Go.Wd Go.Wire Go.Ex
theorem zpg (l0:List Txt) (h0:0<l0.length) (hl:l0.length<=1000000) (s:Txt):Spec Tryz.prog 225 [.str s,.k (.c (.ro [zF 1 (zK l0)] 0))] (fun v=>v=.bool (!decide (s=l0.headD []))):=by
 refine Spec.of_awlS hf225 okf225 (by simp) fun S hS=>?_
 have e:l0.headD []=l0[0]:=by cases l0 with|nil=>cases h0|cons a l=>rfl
 have c1:(0:Int)<l0.length:=by omega
 rw[e] at hS;have hat:=vU h0;simp only[c1,zQ,hat,Qs,Zb,Za,Yy,Ψ225];refine wQ hS ?_;simp
end Go.Abs
namespace Go.Proofs
open Go.RowKit Go.Abs Go.Wd Go.Wire Go.Ex
theorem zph (w:World) (base g1 n1 c1 g2 n2 c2:Nat) (xs ys:List Value) (hx:w.ownsRow base 9 1 (.slice (some ⟨g1,0,none⟩) n1 c1) n1 xs) (hb:base<=w.heap.size) (hy:ys.length=n2) (hyc: ∀j u,ys[j]?=some u->w.cell? ⟨g2,j,none⟩=some u) (h1: ∀u∈ys,u.oneCell'=true)
  (hn:n1+n2<=4000000):
  ∃g' cap' w',(Builtin.append_ #[51,51] 51 #[.slice (some ⟨g1,0,none⟩) n1 c1,.slice (some ⟨g2,0,none⟩) n2 c2]).run Tryz.prog w=.ok (.slice (some ⟨g',0,none⟩) (n1+n2) cap') w'/\n1+n2<=cap'/\cap'<=maxLen/\Below base w w'/\(∀k,k<w.heap.size->k≠g1->w'.heap[k]?=w.heap[k]?)/\
   (∀j u,(xs++ys)[j]?=some u->w'.cell? ⟨g',j,none⟩=some u)/\(∀j u,xs[j]?=some u->w'.cell? ⟨g1,j,none⟩=some u):=by
 obtain⟨i0,hi,hz0,hz1,hz2⟩:=info_parts (show(Tryz.prog.info? 9).map (fun i=>(i.zero,i.size,i.bytes))=some (some (.string ⟨#[]⟩),1,16) by kernel_rfl);rcases hx with⟨hxl,⟨hc,_⟩|⟨g,cap,cur,hv,hg,hh,h5,h6,h7,h8⟩⟩
 ·cases hc
 obtain⟨rfl,rfl⟩:g1=g/\c1=cap:=by cases hv;exact⟨rfl,rfl⟩
 have hS:Src Tryz.prog i0.size 51 (.slice (some ⟨g2,0,none⟩) n2 c2) n2 ys w:=Src.ofSlice w (e':=9) (by kernel_rfl) ⟨g2,0,none⟩ n2 c2 ys (by rw[hz1,hy];omega) (fun j u hu=>by rw[rF,Z4];exact hyc j u hu) h1;have hgs:g1<w.heap.size:=(Zs.1 hh).1;have hxs:xs.length=n1:=by omega
 have hcell: ∀j u,xs[j]?=some u->cur[j]?=some u:=fun j u hu=>by
  rw[<-h8,ZZ] at hu;split at hu
  ·rwa [YE] at hu
  ·cases hu
 have cell_of: ∀(W:World) (b:Nat) (cr:Array Value) (j:Nat) (u:Value),W.heap[b]?=some (.cells cr 9 (0,0))->cr[j]?=some u->W.cell? ⟨b,j,none⟩=some u:=fun W b cr j u h k=>by
  simp only[World.cell?,h];simpa using k
 by_cases hroom:n1+n2<=c1
 ·have hrun:=run_append_room_row (P:=Tryz.prog) (w:=w) 51 51 51 9 i0 (by kernel_rfl) hi g1 n1 c1 cur hh (.slice (some ⟨g2,0,none⟩) n2 c2) n2 ys hS hroom (by rw[hz1];exact h7)
  rw[hz1,Y5] at hrun;have hcut:cur.toList.take n1=xs:=by rw[<-h8,Y5]
  rw[hcut] at hrun;have hcx: ∀j u,(xs++ys)[j]?=some u->(xs++ys++cur.toList.drop (n1+ys.length)).toArray[j]?=some u:=fun j u hu=>by
   have hlt:j<(xs++ys).length:=(Zw.1 hu).1;rw[Xh,ZG hlt,hu]
  generalize (xs++ys++cur.toList.drop (n1+ys.length)).toArray=cur2 at hrun hcx;have hnew:=setRow_heap w g1 cur cur2 9 (0,0) hh;refine⟨g1,c1,_,hrun,hroom,h6,?_,fun k _ hk=>setRow_other w g1 k cur2 hk,fun j u hu=>cell_of _ _ _ _ _ hnew (hcx j u hu),fun j u hu=>cell_of _ _ _ _ _ hnew (hcx j u ?_)⟩
  ·exact⟨rfl,rfl,rfl,by simp,fun k hk=>setRow_other w g1 k cur2 (by omega)⟩
  ·rw[ZG (Zw.1 hu).1,hu]
 ·have hold:(Builtin.firstCells i0.size n1 (.slice (some ⟨g1,0,none⟩) n1 c1)).run Tryz.prog w.drew=.ok xs.toArray w.drew:=by
   rw[hz1];refine run_firstCells_some w.drew 1 n1 ⟨g1,0,none⟩ n1 c1 xs (by omega) fun j u hu=>?_
   rw[rF,Z4];exact cell_of w g1 cur j u hh (hcell j u hu)
  have hfit:Builtin.nextslicecap (n1+n2) c1*i0.bytes<=281474976710656:=growslice_fits (by omega) (by rw[hz2];omega);have hrun:=run_append_grow_src (P:=Tryz.prog) w 51 51 51 9 i0 (.string ⟨#[]⟩) (by kernel_rfl) hi hz0 (some ⟨g1,0,none⟩) n1 c1 xs hold (.slice (some ⟨g2,0,none⟩) n2 c2) n2 ys hS (by omega) (by omega) hfit;have hge:=grownCap_ge w (n1+n2) c1 9;have hlm:=grownCap_le_maxLen w (n1+n2) c1 9 (by simp only[maxLen];omega);generalize grownCap w (n1+n2) c1 9=cp at hrun hge hlm;have hcx: ∀j u,(xs++ys)[j]?=some u->((xs++ys).toArray++Builtin.zeroCells (Value.string ⟨#[]⟩).cells (cp-(n1+n2)))[j]?=some u:=fun j u hu=>by
   have hlt:j<(xs++ys).length:=(Zw.1 hu).1;rw[Y2 (by simpa using hlt),Xh,hu]
  generalize ((xs++ys).toArray++Builtin.zeroCells (Value.string ⟨#[]⟩).cells (cp-(n1+n2)))=cur2 at hrun hcx;have hnew:(w.drew.alloc (.cells cur2 9)).heap[w.heap.size]?=some (.cells cur2 9 (0,0)):=World.alloc_heap_new w.drew _;refine⟨w.heap.size,cp,_,hrun,hge,hlm,?_,fun k hk _=>Below.heap_alloc w.drew _ k hk,fun j u hu=>cell_of _ _ _ _ _ hnew (hcx j u hu),fun j u hu=>?_⟩
  ·exact((Below.refl base w).drew).alloc hb _
  ·have hw:(w.drew.alloc (.cells cur2 9)).heap[g1]?=some (.cells cur 9 (0,0)):=(Below.heap_alloc w.drew _ g1 hgs).trans hh
   exact cell_of _ _ _ _ _ hw (hcell j u hu)
theorem zpi {W W':World} (hb:Below W.heap.size W W'):W.grownBy W' none:=⟨hb.os,hb.tape,hb.output,hb.size,fun k hk _=>hb.block k hk⟩
theorem zpj (L:List Txt) (j:Nat):(L.map tV)[j]?=(L[j]?).map tV:=ZD ..
theorem zpk (L:List Txt):((zK L).flatten.map wR)=L.map tV:=by
 induction L with
 |nil=>rfl
 |cons a L ih=>simp only[zK,Zj,YR,ZV] at ih⊢;rw[ih];rfl
theorem zjw {w:World} {L:List Txt} (h0:0<L.length) {g o cap:Nat} (hg:g<w.heap.size) (h1:L.length<=cap) (h2:cap<=maxLen) (hc: ∀j u,(L.map tV)[j]?=some u->w.cell? ⟨g,o+j,none⟩=some u):
  PRep w (yB w) (zF 1 (zK L)) (.slice (some ⟨g,o,none⟩) L.length cap):=by
 have e:zF 1 (zK L)=.list 1 none (zK L):=by
  unfold zF;rw[if_neg];cases L with|nil=>cases h0|cons a L=>simp[zK]
 have e2:L.length=(zK L).length:=(zQ L).symm;rw[e,e2];have hat: ∀(i j:Nat) r c,(zK L)[i]?=some r->r[j]?=some c->j=0/\ ∃s,L[i]?=some s/\c=.str s:=fun i j r c hr hc=>by
  rw[zK,ZD] at hr;cases hs:L[i]? with
  |none=>rw[hs] at hr;cases hr
  |some s=>
   rw[hs] at hr;cases hr;cases j with
   |zero=>cases hc;exact⟨rfl,s,rfl,rfl⟩
   |succ j=>simp at hc
 refine .list g o cap 1 none (zK L) (fun i _=>tV (L.getD i [])) (by simp) (by rw[zQ];exact h1) h2 (fun _=>hg) (fun r hr=>by obtain⟨s,_,rfl⟩:=ZL.1 hr;rfl) (fun i j r c hr hcj=>?_) fun i j r c hr hcj=>?_
 ·obtain⟨rfl,s,hs,rfl⟩:=hat i j r c hr hcj
  rw[Y5,YC];exact hc i _ (by rw[zpj,hs];simp[List.getD,hs])
 ·obtain⟨rfl,s,hs,rfl⟩:=hat i j r c hr hcj
  have:L.getD i []=s:=by simp[List.getD,hs]
  rw[this];exact .str s
theorem zjx {W:World} {b0:Nat} {v:Value} {L:List Txt} (h:W.ownsRow b0 9 1 v (zK L).length ((zK L).flatten.map wR)) (h0:0<L.length):
  ∃g cap,v=.slice (some ⟨g,0,none⟩) L.length cap/\b0<=g/\L.length<=cap/\cap<=maxLen/\W.ownsRow b0 9 1 (.slice (some ⟨g,0,none⟩) L.length cap) L.length (L.map tV)/\ ∀j u,(L.map tV)[j]?=some u->W.cell? ⟨g,j,none⟩=some u:=by
 rw[zQ,zpk] at h;have h2:=h;rcases h with⟨_,⟨_,h3⟩|⟨g,cap,cur,rfl,hg,hh,h5,h6,h7,h8⟩⟩
 ·omega
 refine⟨g,cap,rfl,hg,h5,h6,h2,fun j u hu=>?_⟩;rw[<-h8,ZZ] at hu;split at hu
 ·rw[YE] at hu
  simp only[World.cell?,hh];simpa using hu
 ·cases hu
theorem dT (d f:Txt): ∀(l:List Pln) (acc:List Txt),(fldsF d f l acc).2=true->acc.length<=(fldsF d f l acc).1.length/\(kindP l d=true->acc.length<(fldsF d f l acc).1.length)
 |[],acc,_=>⟨ZA _,fun h=>by simp[kindP] at h⟩
 |p::l,acc,h=>by
  rw[fldsF] at h⊢;by_cases hk:p.kind=d
  ·rw[if_pos hk] at h⊢
   split at h
   ·cases h
   ·rename_i hj
    rw[if_neg hj];have:=dT d f l _ h;rw[Zr] at this;simp only[Zu,ZK] at this;exact⟨by omega,fun _=>by omega⟩
  ·rw[if_neg hk] at h⊢
   have:=dT d f l acc h;refine⟨this.1,fun hq=>this.2 ?_⟩;unfold kindP at hq⊢;rw[List.any_cons,decide_eq_false hk,Yd] at hq;exact hq
theorem dU {W:World} {b0:Nat} {v:Value} {L:List Txt} (h:W.ownsRow b0 9 1 v (zK L).length ((zK L).flatten.map wR)): ∃p cap,v=.slice p L.length cap:=by
 rw[zQ] at h;rcases h.2 with⟨rfl,h3⟩|⟨g,cap,cur,rfl,_⟩
 ·exact⟨none,0,by rw[h3]⟩
 ·exact⟨_,cap,rfl⟩
theorem qI {W:World} {b t:Nat} {a0 a1 a2 a3:Value} (h:W.heap[b]?=some (.cells #[a0,a1,a2,a3] t (0,0))):
  W.cell? ⟨b,0,none⟩=some a0/\W.cell? ⟨b,1,none⟩=some a1/\W.cell? ⟨b,2,none⟩=some a2/\W.cell? ⟨b,3,none⟩=some a3:=by
 refine⟨?_,?_,?_,?_⟩<;>simp[World.cell?,h]
attribute [-go_sem] Builtin.append_
theorem zpl (L M:List Txt) (A:Bool) (hA:((L++M).any fun s=> !decide (s=L.headD []))=A) (hL0:0<L.length) (hlen:L.length+M.length<=3000000) (hLl:L.length<=1000000) (W:World) (hG:yU (base W)) (bx g3 cap3 g5 cap5:Nat) (hbx:W.heap[bx]?=some (.cells #[Value.slice (some ⟨g3,0,none⟩) L.length cap3] 51 (0,0)))
  (hc3:L.length<=cap3) (hm3:cap3<=maxLen) (hc5:L.length+M.length<=cap5) (hm5:cap5<=maxLen) (hcx: ∀j u,(L.map tV++M.map tV)[j]?=some u->W.cell? ⟨g5,j,none⟩=some u) (hcl: ∀j u,(L.map tV)[j]?=some u->W.cell? ⟨g3,j,none⟩=some u):
  Calls Tryz.prog 57 #[.slice (some ⟨g5,0,none⟩) (L.length+M.length) cap5,.func (.func 225) #[] #[.pointer (some ⟨bx,0,none⟩)]] W fun ex W'=>ex=.returned (.bool A)/\Below W.heap.size W W':=by
 subst hA;have hcon:=zjd (c:=.ro [zF 1 (zK L)] 0) (by simp only[C.norm,C.normRow,zI,yM]) (L++M) (fun s _=>zpg L hL0 hLl s) (by rw[Zr];exact hlen);have hb3:=World.block_lt_of_cell? _ _ (hcl 0 (tV L[0]) (by rw[ZD,Zk hL0];rfl));have hb5:=World.block_lt_of_cell? _ _ (hcx 0 (tV L[0]) (by rw[ZG (by simpa using hL0),ZD,Zk hL0];rfl));have hbl:=(Zs.1 hbx).1;have e:L.length+M.length=(L++M).length:=by simp
 have hP1:PRep W (yB W) (zF 1 (zK (L++M))) (.slice (some ⟨g5,0,none⟩) (L++M).length cap5):=zjw (by rw[<-e];omega) hb5 (by rw[<-e];exact hc5) hm5 fun j u hu=>by rw[Z4];exact hcx j u (by rw[<-ZV];exact hu)
 have hP2:PRep W (yB W) (zF 1 (zK L)) (.slice (some ⟨g3,0,none⟩) L.length cap3):=zjw hL0 hb3 hc3 hm3 fun j u hu=>by rw[Z4];exact hcl j u hu
 have hP3:PRep W (yB W) (.ro [zF 1 (zK L)] 0) (.pointer (some ⟨bx,0,none⟩)):=.ro bx _ 0 (fun _=> .slice (some ⟨g3,0,none⟩) L.length cap3) hbl (fun j c hc=>by
  cases j with
  |zero=>simp[World.cell?,hbx]
  |succ j=>simp at hc) fun j c hc=>by
  cases j with
  |zero=>cases hc;exact hP2
  |succ j=>simp at hc
 have hP4:PRep W (yB W) (.fn 225 [.ro [zF 1 (zK L)] 0]) (.func (.func 225) #[] #[.pointer (some ⟨bx,0,none⟩)]):=.fn 225 _ _ (fun _=> .pointer (some ⟨bx,0,none⟩)) rfl (fun j c hc=>by
  cases j with
  |zero=>rfl
  |succ j=>simp at hc) fun j c hc=>by
  cases j with
  |zero=>cases hc;exact hP3
  |succ j=>simp at hc
 rw[e];exact hcon.boolC hG (Z:=yB W) (fun _ h=>h) (uA hP1 (uA hP4 (wI _ _)))
theorem zpm (d f e g:Txt) (l:List Pln) (hl:wU l) (w:World) (hG:yU (base w)) (v2:Value) (hv:PRep w (yB w) (zF 3 (l.map zX)) v2):
  Calls Tryz.prog 222 #[.agg #[tV d,tV f,tV e,tV g],v2] w fun ex w'=>ex=.returned (.bool (agreesP d f e g l))/\Below w.heap.size w w':=by
 have k207: ∀s W,Below w.heap.size w W->Calls Tryz.prog 207 #[v2,tV s] W fun ex W'=>ex=.returned (.bool (kindP l s))/\Below W.heap.size W W':=fun s W hb=>
  (zjb s l hl.1).boolC (hG.later (wB hb)) (Z:=yB W) (fun _ h=>h) (uA (uU hv hb) (uA (.str _) (wI _ _)))
 have k215: ∀d f W,Below w.heap.size w W->Calls Tryz.prog 215 #[v2,.agg #[tV d,tV f]] W fun ex W'=> ∃v,ex=.returned (.tuple #[v,.bool (fldsF d f l []).2])/\Below W.heap.size W W'/\W'.ownsRow W.heap.size 9 1 v (zK (fldsF d f l []).1).length ((zK (fldsF d f l []).1).flatten.map wR):=fun d f W hb=>
  (zoX d f l hl).newB (fun r hr c hc=>by obtain⟨s,_,rfl⟩:=ZL.1 hr;rw[Z9.1 hc];rfl) (fun r hr=>by obtain⟨s,_,rfl⟩:=ZL.1 hr;rfl) (hG.later (wB hb)) (Z:=yB W) (fun _ h=>h) (uA (uU hv hb) (uH (r:=[.str d,.str f]) (by simp[C.sc]) (wI _ _)))
 have hB0: ∀o,Below w.heap.size w (w.alloc o):=fun o=>(Below.refl _ w).alloc (ZA _) _
 have a207d:=k207 d;have a207e:=k207 e;have a215d:=k215 d f;have a215e:=k215 e g;have hvo:=hv.oneCell;have hp1:=fun h=>dT d f l [] h
 have hp2:=fun h=>dT e g l [] h
 have hR:agreesP d f e g l=agreesP d f e g l:=rfl
 conv at hR=>rhs;unfold agreesP
 generalize agreesP d f e g l=R at hR⊢;generalize kindP l d=b1 at a207d hR hp1;generalize kindP l e=b2 at a207e hR hp2;clear k207 k215;unfold tV at*
 cases b1 with
 |false=>
  rw[if_neg (by simp)] at hR;subst hR
  go_enter Tryz.func222,Tryz.ntmps222
  go_wp2_with (go_at_call 207;refine(a207d _ (hB0 _)).mono ?_;rintro ex w1 ⟨rfl,hb1⟩)
  go_ret
  exact⟨rfl,(hB0 _).trans (hb1.mono (hB0 _).size)⟩
 |true=>
  rw[if_pos rfl] at hR;cases b2 with
  |false=>
   rw[if_neg (by simp)] at hR;subst hR
   go_enter Tryz.func222,Tryz.ntmps222
   go_wp2_with (first|(go_at_call 207;refine(a207e _ hB1).mono ?_;rintro ex w2 ⟨rfl,hb2⟩)|(go_at_call 207;refine(a207d _ (hB0 _)).mono ?_;rintro ex w1 ⟨rfl,hb1⟩;have hB1:=(hB0 (.cells #[Value.string ⟨d.toArray⟩,Value.string ⟨f.toArray⟩,Value.string ⟨e.toArray⟩,Value.string ⟨g.toArray⟩] 169)).trans (hb1.mono (hB0 (.cells #[Value.string ⟨d.toArray⟩,Value.string ⟨f.toArray⟩,Value.string ⟨e.toArray⟩,Value.string ⟨g.toArray⟩] 169)).size);have hx1:=(hb1.block w.heap.size (by simp)).trans (World.alloc_heap_new w (.cells #[Value.string ⟨d.toArray⟩,Value.string ⟨f.toArray⟩,Value.string ⟨e.toArray⟩,Value.string ⟨g.toArray⟩] 169));obtain⟨q0,q1,q2,q3⟩:=qI hx1))
   go_ret
   exact⟨rfl,hB1.trans (hb2.mono hB1.size)⟩
  |true=>
   rw[if_pos rfl] at hR;have n1:=kD d f l [];have n2:=kD e g l [];have hl1:=hl.1;generalize (fldsF d f l [])=r1 at a215d hR n1 hp1;generalize (fldsF e g l [])=r2 at a215e hR n2 hp2;obtain⟨L,x1⟩:=r1;obtain⟨M,x2⟩:=r2;simp only[ZK,Z4] at a215d a215e hR n1 n2 hp1 hp2;have hx12:x1=true/\x2=true\/(x1&&x2)=false:=by cases x1<;>cases x2<;>simp
   rcases hx12 with⟨rfl,rfl⟩|hx12
   ·have hL0:0<L.length:=(hp1 rfl).2 trivial
    have hM0:0<M.length:=(hp2 rfl).2 trivial;rw[ZC,ZC] at hR;obtain⟨A,hA⟩: ∃A,Aside (((L++M).any fun s=> !decide (s=L.headD []))=A):=⟨_,rfl⟩;rw[hA.out] at hR;subst hR;clear hp1 hp2
    go_enter Tryz.func222,Tryz.ntmps222
    go_wp2_with (first|(go_at_call 57;refine(zpl L M A hA.out hL0 (by omega) (by omega) w5 (hG.later (wB (hB4.trans (hB5.mono hB2.size)))) w3.heap.size g3 cap3 g5 cap5 ((hoth w3.heap.size (Zs.1 hbx).1 (Nat.ne_of_gt hgl3)).trans hbx) hc3 hm3 hq5 hq6 hcx hcl).mono ?_;rintro ex w6 ⟨rfl,hb6⟩)|(go_at_call 215;refine(a215e _ hB3).mono ?_;rintro ex w4 ⟨v4,rfl,hb4,ho4⟩;have hB4:=hB3.trans (hb4.mono hB3.size);obtain⟨g4,cap4,rfl,hg4,hc4,hm4,ho4',hcl4⟩:=zjx ho4 hM0;have hbx:w4.heap[w3.heap.size]?=some (.cells #[Value.slice (some ⟨g3,0,none⟩) L.length cap3] 51 (0,0)):=(hb4.block w3.heap.size (by simp)).trans (World.alloc_heap_new w3 _);have hbc:w4.cell? ⟨w3.heap.size,0,none⟩=some (.slice (some ⟨g3,0,none⟩) L.length cap3):=(by simp[World.cell?,hbx]);obtain⟨g5,cap5,w5,hrun,hq5,hq6,hB5,hoth,hcx,hcl⟩:=zph w4 w2.heap.size g3 L.length cap3 g4 M.length cap4 (L.map tV) (M.map tV) ((ho3'.kept (World.grownBy_alloc w3 (.cells #[Value.slice (some ⟨g3,0,none⟩) L.length cap3] 51) none) (Classical.em _)).kept (zpi hb4) (Classical.em _)) (ZX hb3.size (ZX (by simp) hb4.size)) (by simp) hcl4 (by intro u hu;obtain⟨s,_,rfl⟩:=ZL.1 hu;rfl) (by omega))|(go_at_call 215;refine(a215d _ hB2).mono ?_;rintro ex w3 ⟨v3,rfl,hb3,ho3⟩;obtain⟨g3,cap3,rfl,hg3,hc3,hm3,ho3',hcl3⟩:=zjx ho3 hL0;have hgl3:g3<w3.heap.size:=World.block_lt_of_cell? _ _ (hcl3 0 (tV L[0]) (by rw[ZD,Zk hL0];rfl));have hB3:=(hB2.trans (hb3.mono hB2.size)).alloc (hB2.trans (hb3.mono hB2.size)).size (.cells #[Value.slice (some ⟨g3,0,none⟩) L.length cap3] 51);have hx3:=(Below.heap_alloc w3 (.cells #[Value.slice (some ⟨g3,0,none⟩) L.length cap3] 51) w.heap.size (ZO (Zs.1 hx2).1 hb3.size)).trans ((hb3.block w.heap.size (Zs.1 hx2).1).trans hx2);obtain⟨s0,s1,s2,s3⟩:=qI hx3)|(go_at_call 207;refine(a207e _ hB1).mono ?_;rintro ex w2 ⟨rfl,hb2⟩;have hB2:=hB1.trans (hb2.mono hB1.size);have hx2:=(hb2.block w.heap.size (Zs.1 hx1).1).trans hx1;obtain⟨r0,r1,r2,r3⟩:=qI hx2)|(go_at_call 207;refine(a207d _ (hB0 _)).mono ?_;rintro ex w1 ⟨rfl,hb1⟩;have hB1:=(hB0 (.cells #[Value.string ⟨d.toArray⟩,Value.string ⟨f.toArray⟩,Value.string ⟨e.toArray⟩,Value.string ⟨g.toArray⟩] 169)).trans (hb1.mono (hB0 (.cells #[Value.string ⟨d.toArray⟩,Value.string ⟨f.toArray⟩,Value.string ⟨e.toArray⟩,Value.string ⟨g.toArray⟩] 169)).size);have hx1:=(hb1.block w.heap.size (by simp)).trans (World.alloc_heap_new w (.cells #[Value.string ⟨d.toArray⟩,Value.string ⟨f.toArray⟩,Value.string ⟨e.toArray⟩,Value.string ⟨g.toArray⟩] 169));obtain⟨q0,q1,q2,q3⟩:=qI hx1))
    go_ret
    exact⟨rfl,(hB4.trans (hB5.mono hB2.size)).trans (hb6.mono (hB4.trans (hB5.mono hB2.size)).size)⟩
   ·have hRf:R=false:=by rw[hR,<-X4,hx12];rfl
    subst hRf;clear hR;cases x1 with
    |false=>
     go_enter Tryz.func222,Tryz.ntmps222
     go_wp2_with (first|(go_at_call 215;refine(a215e _ hB3).mono ?_;rintro ex w4 ⟨v4,rfl,hb4,ho4⟩;have hB4:=hB3.trans (hb4.mono hB3.size);obtain⟨p4,cap4,rfl⟩:=dU ho4)|(go_at_call 215;refine(a215d _ hB2).mono ?_;rintro ex w3 ⟨v3,rfl,hb3,ho3⟩;obtain⟨p3,cap3,rfl⟩:=dU ho3;have hB3:=(hB2.trans (hb3.mono hB2.size)).alloc (hB2.trans (hb3.mono hB2.size)).size (.cells #[Value.slice p3 L.length cap3] 51);have hx3:=(Below.heap_alloc w3 (.cells #[Value.slice p3 L.length cap3] 51) w.heap.size (ZO (Zs.1 hx2).1 hb3.size)).trans ((hb3.block w.heap.size (Zs.1 hx2).1).trans hx2);obtain⟨s0,s1,s2,s3⟩:=qI hx3)|(go_at_call 207;refine(a207e _ hB1).mono ?_;rintro ex w2 ⟨rfl,hb2⟩;have hB2:=hB1.trans (hb2.mono hB1.size);have hx2:=(hb2.block w.heap.size (Zs.1 hx1).1).trans hx1;obtain⟨r0,r1,r2,r3⟩:=qI hx2)|(go_at_call 207;refine(a207d _ (hB0 _)).mono ?_;rintro ex w1 ⟨rfl,hb1⟩;have hB1:=(hB0 (.cells #[Value.string ⟨d.toArray⟩,Value.string ⟨f.toArray⟩,Value.string ⟨e.toArray⟩,Value.string ⟨g.toArray⟩] 169)).trans (hb1.mono (hB0 (.cells #[Value.string ⟨d.toArray⟩,Value.string ⟨f.toArray⟩,Value.string ⟨e.toArray⟩,Value.string ⟨g.toArray⟩] 169)).size);have hx1:=(hb1.block w.heap.size (by simp)).trans (World.alloc_heap_new w (.cells #[Value.string ⟨d.toArray⟩,Value.string ⟨f.toArray⟩,Value.string ⟨e.toArray⟩,Value.string ⟨g.toArray⟩] 169));obtain⟨q0,q1,q2,q3⟩:=qI hx1))
     go_ret
     exact⟨rfl,hB4⟩
    |true=>
     cases x2 with
     |true=>cases hx12
     |false=>
      go_enter Tryz.func222,Tryz.ntmps222
      go_wp2_with (first|(go_at_call 215;refine(a215e _ hB3).mono ?_;rintro ex w4 ⟨v4,rfl,hb4,ho4⟩;have hB4:=hB3.trans (hb4.mono hB3.size);obtain⟨p4,cap4,rfl⟩:=dU ho4)|(go_at_call 215;refine(a215d _ hB2).mono ?_;rintro ex w3 ⟨v3,rfl,hb3,ho3⟩;obtain⟨p3,cap3,rfl⟩:=dU ho3;have hB3:=(hB2.trans (hb3.mono hB2.size)).alloc (hB2.trans (hb3.mono hB2.size)).size (.cells #[Value.slice p3 L.length cap3] 51);have hx3:=(Below.heap_alloc w3 (.cells #[Value.slice p3 L.length cap3] 51) w.heap.size (ZO (Zs.1 hx2).1 hb3.size)).trans ((hb3.block w.heap.size (Zs.1 hx2).1).trans hx2);obtain⟨s0,s1,s2,s3⟩:=qI hx3)|(go_at_call 207;refine(a207e _ hB1).mono ?_;rintro ex w2 ⟨rfl,hb2⟩;have hB2:=hB1.trans (hb2.mono hB1.size);have hx2:=(hb2.block w.heap.size (Zs.1 hx1).1).trans hx1;obtain⟨r0,r1,r2,r3⟩:=qI hx2)|(go_at_call 207;refine(a207d _ (hB0 _)).mono ?_;rintro ex w1 ⟨rfl,hb1⟩;have hB1:=(hB0 (.cells #[Value.string ⟨d.toArray⟩,Value.string ⟨f.toArray⟩,Value.string ⟨e.toArray⟩,Value.string ⟨g.toArray⟩] 169)).trans (hb1.mono (hB0 (.cells #[Value.string ⟨d.toArray⟩,Value.string ⟨f.toArray⟩,Value.string ⟨e.toArray⟩,Value.string ⟨g.toArray⟩] 169)).size);have hx1:=(hb1.block w.heap.size (by simp)).trans (World.alloc_heap_new w (.cells #[Value.string ⟨d.toArray⟩,Value.string ⟨f.toArray⟩,Value.string ⟨e.toArray⟩,Value.string ⟨g.toArray⟩] 169));obtain⟨q0,q1,q2,q3⟩:=qI hx1))
      go_ret
      exact⟨rfl,hB4⟩
end Go.Proofs
namespace Go.Ex
open Go.Lib Go.Wd Go.Wire Go.Abs
def uC (fl:List Fld) (i:Nat) (pre:List Nat):Nat×(Nat->Txt):=
 pre.foldl (fun s k=>(s.1/yL (fl.getD k xF),fun j=>if j=k then textF (fl.getD k xF) (s.1 % yL (fl.getD k xF)) else s.2 j)) (i,fun _=>[])
theorem zjy (fl:List Fld) (i:Nat) (pre:List Nat) (k:Nat):uC fl i (pre++[k])=((uC fl i pre).1/yL (fl.getD k xF),fun j=>if j=k then textF (fl.getD k xF) ((uC fl i pre).1 % yL (fl.getD k xF)) else(uC fl i pre).2 j):=by
 unfold uC;rw[XI];rfl
theorem zpn (fl:List Fld) (i:Nat) (pre:List Nat):(uC fl i pre).1<=i:=by
 have key: ∀(pre:List Nat) (s:Nat×(Nat->Txt)),(pre.foldl (fun(s:Nat×(Nat->Txt)) k=>(s.1/yL (fl.getD k xF),fun j=>if j=k then textF (fl.getD k xF) (s.1 % yL (fl.getD k xF)) else s.2 j)) s).1<=s.1:=by
  intro pre
  induction pre with
  |nil=>intro s;exact ZA _
  |cons a l ih=>intro s;rw[YZ];exact ZX (ih _) (Xk _ _)
 exact key pre _
theorem zjz: ∀(l:List Fld) (i:Nat),(wM l i).1.length=l.length
 |[],_=>rfl
 |f::l,i=>by rw[wM,Zu,zjz l,Zu]
theorem zjA (fl:List Fld) (i:Nat): ∀k,k<=fl.length->(uC fl i ((YX (fl.length-k) k).reverse)).1=(wM (fl.drop (fl.length-k)) i).2/\ ∀j,j<k->(uC fl i ((YX (fl.length-k) k).reverse)).2 (fl.length-k+j)=(wM (fl.drop (fl.length-k)) i).1.getD j []
 |0,_=>by simp[uC,wM]
 |k+1,hk=>by
  have h:=zjA fl i k (by omega);have e:YX (fl.length-(k+1)) (k+1)=(fl.length-(k+1))::YX (fl.length-k) k:=by
   rw[List.range'_succ];congr 2;omega
  have hlt:fl.length-(k+1)<fl.length:=by omega
  have hd:fl.drop (fl.length-(k+1))=fl.getD (fl.length-(k+1)) xF::fl.drop (fl.length-k):=by
   rw[Zx hlt];simp only[List.getD,Zk hlt,Xs];congr 2;omega
  rw[e,List.reverse_cons,zjy,hd,wM,h.1];refine⟨rfl,fun j hj=>?_⟩;cases j with
  |zero=>simp
  |succ j=>
   simp only[];rw[if_neg (by omega)];have:=h.2 j (by omega);rw[show fl.length-k+j=fl.length-(k+1)+(j+1) by omega] at this;rw[this];simp
end Go.Ex
namespace Go.Proofs
open Go.RowKit Go.Shelf Go.Abs Go.Wd Go.Wire Go.Ex
attribute [local go_sem] Oper.semAt_some
theorem zpo (v:Value) (hv:v.oneCell'=true) (w:World):Calls Tryz.prog 112 #[v] w fun e w'=>e=.returned (.func (.func 154) #[] #[.pointer (some ⟨w.heap.size,0,none⟩)])/\w'=w.alloc (.cells #[v] 56):=by
 go_enter Tryz.func112,Tryz.ntmps112
 go_wp2
 go_ret
 exact⟨rfl,rfl⟩
structure FldAt (w:World) (fl:List Fld) (p:Option Addr) (b o:Nat) (fv:Nat->Value×Value):Prop where
 ad:0<fl.length->p=some ⟨b,o,none⟩/\b<w.heap.size
 cl: ∀k,k<fl.length->w.cell? ⟨b,o+k*2,none⟩=some (fv k).1/\w.cell? ⟨b,o+k*2+1,none⟩=some (fv k).2
 rp: ∀k,k<fl.length->yH w (yB w) (zW (fl.getD k xF)) [(fv k).1,(fv k).2]
 o1: ∀k,(fv k).1.oneCell'=true
 o2: ∀k,(fv k).2.oneCell'=true
theorem zpp {w:World} {Z:Bk->Prop} (hz: ∀b,Z b->b.2<w.heap.size) {fl:List Fld} {v:Value} (h:PRep w Z (zF 2 (fl.map zW)) v): ∃p cap b o fv,v=.slice p fl.length cap/\FldAt w fl p b o fv:=by
 by_cases h0:fl=[]
 ·subst h0
  have h':PRep w Z (.list 0 none []) v:=h;have hd: ∀p,FldAt w [] p 0 0 fun _=>(.bool true,.bool true):=fun p=>⟨fun q=>absurd q (by simp),fun k q=>absurd q (by simp),fun k q=>absurd q (by simp),fun _=>rfl,fun _=>rfl⟩
  cases h' with
  |nil=>exact⟨none,0,0,0,_,rfl,hd _⟩
  |emp _ _ a _=>exact⟨some a,0,0,0,_,rfl,hd _⟩
  |list b o cap _ _ _ _ _ _ _ _ _ _ _=>exact⟨some ⟨b,o,none⟩,cap,0,0,_,rfl,hd _⟩
 ·have hne:(fl.map zW).isEmpty=false:=by cases fl<;>simp_all
  have hpos:=Yl.2 h0;have h':PRep w Z (.list 2 none (fl.map zW)) v:=by
   unfold zF at h;rw[hne,if_neg (by simp)] at h;exact h
  generalize hrw:fl.map zW=rows at h';cases h' with
  |nil=>simp at hrw;exact absurd hrw h0
  |emp _ _ a _=>simp at hrw;exact absurd hrw h0
  |list b o cap _ _ _ val h1 h2 h3 h4 h5 h6 h7=>
   subst hrw;have hat: ∀k,k<fl.length->(fl.map zW)[k]?=some (zW (fl.getD k xF)):=fun k hk=>by
    rw[ZD,Zk hk];simp[List.getD,hk]
   have hlen:(fl.map zW).length=fl.length:=Ze ..;have hb:b<w.heap.size:=hz _ (h4 (by rw[<-Yl,hlen];exact hpos));refine⟨some ⟨b,o,none⟩,cap,b,o,fun k=>if k<fl.length then(val k 0,val k 1) else(.bool true,.bool true),by rw[hlen],fun _=>⟨rfl,hb⟩,fun k hk=>?_,fun k hk=>?_,fun k=>?_,fun k=>?_⟩
   ·simp only[if_pos hk]
    exact⟨h6 k 0 _ _ (hat k hk) rfl,by have:=h6 k 1 _ _ (hat k hk) rfl;rwa [<-YM] at this⟩
   ·simp only[if_pos hk]
    refine⟨rfl,fun j c u hc hu=>?_⟩
    match j with
    |0=>cases hc;cases hu;exact kB hz (h7 k 0 _ _ (hat k hk) rfl)
    |1=>cases hc;cases hu;exact kB hz (h7 k 1 _ _ (hat k hk) rfl)
    |j+2=>simp[zW] at hc
   ·by_cases hk:k<fl.length
    ·simp only[if_pos hk];exact(h7 k 0 _ _ (hat k hk) rfl).oneCell
    ·simp only[if_neg hk];rfl
   ·by_cases hk:k<fl.length
    ·simp only[if_pos hk];exact(h7 k 1 _ _ (hat k hk) rfl).oneCell
    ·simp only[if_neg hk];rfl
def fvO (fl:List Fld) (pf:Nat->Option Addr×Nat) (k:Nat):Value×Value:=(.string ⟨(fl.getD k xF).name.toArray⟩,.slice (pf k).1 (fl.getD k xF).words.length (pf k).2)
theorem zpq {w:World} {Z:Bk->Prop} {sz:Nat} {rows:List (List C)} {v:Value} (h:PRep w Z (zF sz rows) v): ∃p cap,v=.slice p rows.length cap:=by
 unfold zF at h;split at h
 ·rename_i he
  have:rows=[]:=by simpa using he
  subst this;cases h with
  |nil=>exact⟨none,0,rfl⟩
  |emp _ _ a _=>exact⟨some a,0,rfl⟩
  |list b o cap _ _ _ _ _ _ _ _ _ _ _=>exact⟨some ⟨b,o,none⟩,cap,rfl⟩
 ·cases h with
  |nil=>exact⟨none,0,rfl⟩
  |emp _ _ a _=>exact⟨some a,0,rfl⟩
  |list b o cap _ _ _ _ _ _ _ _ _ _ _=>exact⟨some ⟨b,o,none⟩,cap,rfl⟩
theorem zpr {w:World} {fl:List Fld} {p:Option Addr} {b o:Nat} {fv:Nat->Value×Value} (h:FldAt w fl p b o fv): ∃pf,FldAt w fl p b o (fvO fl pf):=by
 have key: ∀k,∃q:Option Addr×Nat,k<fl.length->fv k=fvO fl (fun _=>q) k:=fun k=>by
  by_cases hk:k<fl.length
  ·have hr:=h.rp k hk
   have h1:=tM (hr.2 0 (.str (fl.getD k xF).name) (fv k).1 rfl rfl);obtain⟨q,cap,h2⟩:=zpq (hr.2 1 (zF 1 ((fl.getD k xF).words.map wH)) (fv k).2 rfl rfl);rw[Ze] at h2;refine⟨(q,cap),fun _=>?_⟩;unfold fvO;exact Prod.ext h1 h2
  ·exact⟨(none,0),fun q=>absurd q hk⟩
 refine⟨fun k=>(key k).choose,?_⟩;have e: ∀k,k<fl.length->fvO fl (fun k=>(key k).choose) k=fv k:=fun k hk=>((key k).choose_spec hk).symm
 exact⟨h.ad,fun k hk=>by rw[e k hk];exact h.cl k hk,fun k hk=>by rw[e k hk];exact h.rp k hk,fun _=>rfl,fun _=>rfl⟩
attribute [local go_sem] Oper.semAt_some
def mk0 (n:Nat):Array Value:=madeCells (Value.string ⟨#[]⟩).cells n
theorem zbq (n:Nat):(mk0 n).size=n:=size_madeCells _ _
theorem zjB {n j:Nat} (h:j<n):(mk0 n)[j]?=some (tV []):=by
 have h1:j<(mk0 n).size:=by rw[zbq];exact h
 rw[Yg h1];simp[mk0,madeCells,Value.cells,tV,Nat.mod_one]
theorem zps (n:Nat) (hn:n<=1000000) (W:World):(Instr.makeSlice 51 (.int .i64 (n:Int)) (.int .i64 (n:Int))).run Tryz.prog W=.ok (.slice (some ⟨W.heap.size,0,none⟩) n n) (W.alloc (.cells (mk0 n) 9)):=by
 obtain⟨i0,hi,hz0,hz1,hz2⟩:=info_parts (show(Tryz.prog.info? 9).map (fun i=>(i.zero,i.size,i.bytes))=some (some (.string ⟨#[]⟩),1,16) by kernel_rfl);have:=run_make (P:=Tryz.prog) W 51 9 i0 (.string ⟨#[]⟩) (by kernel_rfl) hi hz0 .i64 .i64 n n (by omega) (by omega) (by rw[hz2];omega) (by omega);rw[this,hz1];simp[mk0]
theorem xQ (w:World) (a b c:Obj):(((w.alloc a).alloc b).alloc c).heap[w.heap.size]?=some a/\(((w.alloc a).alloc b).alloc c).heap[w.heap.size+1]?=some b/\(((w.alloc a).alloc b).alloc c).heap[w.heap.size+1+1]?=some c:=by
 have h:(((w.alloc a).alloc b).alloc c).heap=((w.heap.push a).push b).push c:=rfl;rw[h];refine⟨?_,?_,?_⟩
 ·rw[YP,if_neg (by simp;omega),YP,if_neg (by simp),YP,if_pos rfl]
 ·rw[YP,if_neg (by simp),YP,if_pos (by simp)]
 ·rw[YP,if_pos (by simp)]
theorem rO {W:World} {b t:Nat} {a0:Value} (h:W.heap[b]?=some (.cells #[a0] t (0,0))):W.cell? ⟨b,0,none⟩=some a0:=by simp[World.cell?,h]
theorem mH {W:World} {b t:Nat} {a0 a1:Value} (h:W.heap[b]?=some (.cells #[a0,a1] t (0,0))):W.cell? ⟨b,0,none⟩=some a0/\W.cell? ⟨b,1,none⟩=some a1:=by constructor<;>simp[World.cell?,h]
def sK (k:Nat):Code->Option Code
 | .region i o d=>if i=k then some (.region i o d) else none
 | .seq a b=>match sK k a with|some c=>some c|none=>sK k b
 | .cond _ a b=>match sK k a with|some c=>some c|none=>sK k b
 | .block _ c=>sK k c
 | .loop c=>sK k c
 | .scope c=>sK k c
 |_=>none
def mI (f:Func):Code:=f.body.getD .skip
theorem vP (W:World):Below W.heap.size W W.drew:=(Below.refl _ W).drew
theorem zpt (kd:Txt) (p:Option Addr) (n cap i b2 b3 b4:Nat) (cn:Int) (hn:n<=12) (z11 z12 z13 z14 z15 z16 z17 z18 z19 z20 z21 z22 z23 z24 z25 z26 z27 z28:Value) (w1:World) (q2:w1.heap[b2]?=some (.cells #[.string ⟨kd.toArray⟩,.slice p n cap] 58 (0,0))) (Q:Exit->Act->World->Prop)
  (hQ: ∀(gn gt b8:Nat) (z31 z32 z33 z34 z35 z36 z37 z38 z39 z40 z41:Value) (W:World),gn≠gt->gn≠b8->gt≠b8->w1.heap.size<=gn->w1.heap.size<=gt->w1.heap.size<=b8->W.heap[gn]?=some (.cells (mk0 n) 9 (0,0))->W.heap[gt]?=some (.cells (mk0 n) 9 (0,0))->W.heap[b8]?=some (.cells #[.string ⟨kd.toArray⟩,.slice (some ⟨gn,0,none⟩) n n,.slice (some ⟨gt,0,none⟩) n n] 53 (0,0))->Below w1.heap.size w1 W->Q .normal {tmps:= #[.agg #[.string ⟨kd.toArray⟩,.slice p n cap],.int .i64 (i:Int),.pointer (some ⟨b2,0,none⟩),.pointer (some ⟨b3,0,none⟩),.pointer (some ⟨b4,0,none⟩),.int .i64 0,.int .i64 cn,.int .i64 0,.pointer (some ⟨b8,0,none⟩),undef,undef,z11,z12,z13,z14,z15,z16,z17,z18,z19,z20,z21,z22,z23,z24,z25,z26,z27,z28,undef,undef,z31,z32,z33,z34,z35,z36,z37,z38,z39,z40,z41,undef,undef,undef,undef,undef,undef,undef,undef,undef,undef,undef,undef,undef,undef,undef,undef,undef,undef,undef,undef,undef,undef,undef,undef,undef,undef],defers:=[]} W)
  (c:Code) (hc:sK 6 (mI Tryz.f78)=some c):c.wpIn Fence.wide 8 Tryz.prog Q {tmps:= #[.agg #[.string ⟨kd.toArray⟩,.slice p n cap],.int .i64 (i:Int),.pointer (some ⟨b2,0,none⟩),.pointer (some ⟨b3,0,none⟩),.pointer (some ⟨b4,0,none⟩),.int .i64 0,.int .i64 cn,.int .i64 0,undef,undef,undef,z11,z12,z13,z14,z15,z16,z17,z18,z19,z20,z21,z22,z23,z24,z25,z26,z27,z28,undef,undef,undef,undef,undef,undef,undef,undef,undef,undef,undef,undef,undef,undef,undef,undef,undef,undef,undef,undef,undef,undef,undef,undef,undef,undef,undef,undef,undef,undef,undef,undef,undef,undef,undef,undef,undef,undef,undef],defers:=[]} w1:=by
 have hn1:1<=8:=by decide
 have mixed:Tryz.prog.follows Departure.mixedOrders=true:=by kernel_rfl
 have hmk:=zps n (by omega);have hB3: ∀a b c,Below w1.heap.size w1 ((((w1.alloc a).alloc b).alloc c).drew):=fun a b c=>((((Below.refl _ w1).alloc (ZA _) _).alloc (by simp) _).alloc (by simp;omega) _).drew
 obtain⟨c20,c21⟩:=mH q2;have l2:b2<w1.heap.size:=(Zs.1 q2).1;have l2b:b2<w1.heap.size+1:=Nat.lt_succ_of_lt l2;have l2c:b2<w1.heap.size+1+1:=Nat.lt_succ_of_lt l2b;have hc2:some c=sK 6 (mI Tryz.f78):=hc.symm;have hc3:c=_:=YA (hc2.trans (show sK 6 (mI Tryz.f78)=some _ from rfl));subst hc3;clear hc hc2;have kp: ∀W,Below w1.heap.size w1 W->W.cell? ⟨b2,0,none⟩=some (.string ⟨kd.toArray⟩)/\W.cell? ⟨b2,1,none⟩=some (.slice p n cap):=fun W hb=>mH ((hb.block b2 l2).trans q2)
 have kp0:=kp _ (vP w1);have kp1:=fun a=>kp _ ((((Below.refl _ w1).alloc (ZA _) a)).drew)
 have kp2:=fun a b=>kp _ ((((Below.refl _ w1).alloc (ZA _) a).alloc (by simp) b).drew)
 have kp3:=fun a b c=>kp _ (hB3 a b c)
 refine wpIn_wide.2 ?_
 go_region_held3 (fun w'=>w'.cell? ⟨b2,0,none⟩=some (.string ⟨kd.toArray⟩)/\w'.cell? ⟨b2,1,none⟩=some (.slice p n cap)) (first|exact kp0|exact kp1 _|exact kp2 _ _|exact kp3 _ _ _|go_keep) (fail)
 all_goals first
  |exact hQ w1.heap.size (w1.heap.size+1) (w1.heap.size+1+1) _ _ _ _ _ _ _ _ _ _ _ _ (by omega) (by omega) (by omega) (by omega) (by omega) (by omega) (xQ w1 _ _ _).1 (xQ w1 _ _ _).2.1 (xQ w1 _ _ _).2.2 (hB3 _ _ _)
  |exact hQ w1.heap.size (w1.heap.size+1+1) (w1.heap.size+1) _ _ _ _ _ _ _ _ _ _ _ _ (by omega) (by omega) (by omega) (by omega) (by omega) (by omega) (xQ w1 _ _ _).1 (xQ w1 _ _ _).2.2 (xQ w1 _ _ _).2.1 (hB3 _ _ _)
  |exact hQ (w1.heap.size+1) w1.heap.size (w1.heap.size+1+1) _ _ _ _ _ _ _ _ _ _ _ _ (by omega) (by omega) (by omega) (by omega) (by omega) (by omega) (xQ w1 _ _ _).2.1 (xQ w1 _ _ _).1 (xQ w1 _ _ _).2.2 (hB3 _ _ _)
  |exact hQ (w1.heap.size+1) (w1.heap.size+1+1) w1.heap.size _ _ _ _ _ _ _ _ _ _ _ _ (by omega) (by omega) (by omega) (by omega) (by omega) (by omega) (xQ w1 _ _ _).2.1 (xQ w1 _ _ _).2.2 (xQ w1 _ _ _).1 (hB3 _ _ _)
  |exact hQ (w1.heap.size+1+1) w1.heap.size (w1.heap.size+1) _ _ _ _ _ _ _ _ _ _ _ _ (by omega) (by omega) (by omega) (by omega) (by omega) (by omega) (xQ w1 _ _ _).2.2 (xQ w1 _ _ _).1 (xQ w1 _ _ _).2.1 (hB3 _ _ _)
  |exact hQ (w1.heap.size+1+1) (w1.heap.size+1) w1.heap.size _ _ _ _ _ _ _ _ _ _ _ _ (by omega) (by omega) (by omega) (by omega) (by omega) (by omega) (xQ w1 _ _ _).2.2 (xQ w1 _ _ _).2.1 (xQ w1 _ _ _).1 (hB3 _ _ _)
end Go.Proofs
namespace Go
variable {n : Nat} {P : Program} {ops : Array Oper} {Q : Exit -> Act -> World -> Prop} {md : Region.Mode}
theorem Oper.wpIn_round {l:Nat} {o:Oper} (hd: ∀c,o.op≠.defer c) {a:Act} {w:World} {K:Act->World->Prop} (h:o.wp P a w K Q):o.wpIn (Fence.wide.inRound l) n P a w K Q:=by
 refine⟨fun _ _=>trivial,?_⟩;have e:Oper.semAt (Fence.wide.inRound l).round a.eval o=execOp a.eval o:=Oper.semAt_some l a.eval o hd;rw[e];unfold Oper.wp at h;generalize (execOp a.eval o).run P w=r at h;cases r with
 |ok x w'=>
  cases x with
  |value v=>exact h
  |skip=>exact h
  | «defer» d=>exact h
  |enter f args=>exact⟨fun q=>by simp[Fence.wide,Fence.inRound] at q,callsIn_wide.2 h⟩
  |row row args=>exact⟨fun q=>by simp[Fence.wide,Fence.inRound] at q,fun c cs _=>let ⟨v,w',r,s⟩:=h c cs;⟨v,w',r,stepsIn_wide.2 s⟩⟩
  |_=>exact h.elim
 |halt x w'=>cases x<;>exact h
theorem zpu {l i:Nat} (hL: ¬LetsOut Q) (hd: ∀(j:Nat) (o:Oper),ops[j]?=some o-> ∀c,o.op≠.defer c) {K K':Act->World->Prop} (hK: ∀a w,K a w->K' a w) {a:Act} {w:World} (h:wpOp P ops Q i K a w):wpOpIn (Fence.wide.inRound l) n P ops Q i K' a w:=by
 refine wpOpIn_mono hK ?_;unfold wpOp at h;unfold wpOpIn;split
 ·rename_i ho
  simp only[ho] at h;exact h
 ·rename_i o ho
  simp only[ho] at h;split
  ·rename_i hw
   simp only[hw,if_true] at h;exact Oper.wpIn_round (hd i o ho) (h.resolve_right fun q=>hL q.2)
  ·rename_i hw
   simp only[hw] at h;exact⟨fun _ _=>trivial,h⟩
theorem zjC {l:Nat} (hL: ¬LetsOut Q) (hd: ∀(j:Nat) (o:Oper),ops[j]?=some o-> ∀c,o.op≠.defer c): ∀(fuel:Nat) (listed:Array Bool) (a:Act) (w:World),wpAny P md ops Q fuel listed a w->wpAnyIn (Fence.wide.inRound l) n P md ops Q fuel listed a w
 |0,_,_,_,h=>h
 |fuel+1,_,_,_,h=>⟨h.1,fun i hi=>zpu hL hd (fun a' w' h'=>zjC hL hd fuel _ a' w' h') (h.2 i hi)⟩
def zbr (ops:Array Oper):Bool:=ops.toList.all fun o=>match o.op with| .defer _=>false|_=>true
theorem zpv (h:zbr ops=true): ∀(j:Nat) (o:Oper),ops[j]?=some o-> ∀c,o.op≠.defer c:=by
 intro j o ho c e;unfold zbr at h;rw[Zt] at h;have:=h o (by rw[<-YE] at ho;exact ZM ho);rw[e] at this;cases this
theorem zpw {l id:Nat} {S:World->Prop} {a:Act} {w:World} (hm:P.follows .mixedOrders=true) (hd:zbr ops=true) (hL: ¬LetsOut Q)
  (h:wpAnyH P .any ops Q S ops.size (YS ops.size false) a w.drew):(Code.region id ops true).wpIn (Fence.wide.inRound l) n P Q a w:=
 wpIn_region_any hm (zjC hL (zpv hd) _ _ _ _ (wpAny_of_held _ _ _ _ h))
end Go
namespace Go.Proofs
open Go.RowKit Go.Shelf Go.Abs Go.Wd Go.Wire Go.Ex
structure RB (b3 b8 Bx gn gt:Nat) (r:Int) (kd:Value) (n:Nat) (v1 v2:Value) (cN cT:Array Value) (W:World):Prop where
 h3:W.heap[b3]?=some (.cells #[.int .i64 r] 3 (0,0))
 h8:W.heap[b8]?=some (.cells #[kd,.slice (some ⟨gn,0,none⟩) n n,.slice (some ⟨gt,0,none⟩) n n] 53 (0,0))
 hx:W.heap[Bx]?=some (.cells #[v1,v2] 107 (0,0))
 hn:W.heap[gn]?=some (.cells cN 9 (0,0))
 ht:W.heap[gt]?=some (.cells cT 9 (0,0))
theorem RB.later {b3 b8 Bx gn gt:Nat} {r:Int} {kd:Value} {n:Nat} {v1 v2:Value} {cN cT:Array Value} {W W':World} (h:RB b3 b8 Bx gn gt r kd n v1 v2 cN cT W) (hb:Below W.heap.size W W'):RB b3 b8 Bx gn gt r kd n v1 v2 cN cT W':=
 ⟨(hb.block _ (Zs.1 h.h3).1).trans h.h3,(hb.block _ (Zs.1 h.h8).1).trans h.h8,(hb.block _ (Zs.1 h.hx).1).trans h.hx,(hb.block _ (Zs.1 h.hn).1).trans h.hn,(hb.block _ (Zs.1 h.ht).1).trans h.ht⟩
theorem RB.cells {b3 b8 Bx gn gt:Nat} {r:Int} {kd:Value} {n:Nat} {v1 v2:Value} {cN cT:Array Value} {W:World} (h:RB b3 b8 Bx gn gt r kd n v1 v2 cN cT W) {k:Nat} {u v:Value} (hu:cN[k]?=some u) (hv:cT[k]?=some v):
  W.cell? ⟨b3,0,none⟩=some (.int .i64 r)/\W.cell? ⟨b8,1,none⟩=some (.slice (some ⟨gn,0,none⟩) n n)/\W.cell? ⟨b8,2,none⟩=some (.slice (some ⟨gt,0,none⟩) n n)/\W.cell? ⟨Bx,0,none⟩=some v1/\W.cell? ⟨Bx,1,none⟩=some v2/\
   W.cell? ⟨gn,k,none⟩=some u/\W.cell? ⟨gt,k,none⟩=some v/\W.frozen? ⟨gn,k,none⟩=false/\W.frozen? ⟨gt,k,none⟩=false/\W.frozen? ⟨b3,0,none⟩=false:=by
 obtain⟨h1,h2,h3,h4,h5⟩:=h;refine⟨?_,?_,?_,?_,?_,?_,?_,?_,?_,?_⟩<;>simp[World.cell?,World.frozen?,h1,h2,h3,h4,h5,hu,hv]
def pC:Code->Option Code
 | .rangeFunc _ _ _ b=>some b
 | .seq a b=>match pC a with|some c=>some c|none=>pC b
 | .cond _ a b=>match pC a with|some c=>some c|none=>pC b
 | .block _ c=>pC c
 | .loop c=>pC c
 | .scope c=>pC c
 |_=>none
theorem zpx (w:World) (kd:Value) (cN cT0:Array Value) (u v:Value) (l n k r b3 b8 Bx gn gt n2 c2 S:Nat) (tx:Txt) (v1:ByteArray) (p2:Option Addr) (hk:k<n) (hS:0<S) (n1:gn≠gt) (m1:gn≠b3) (m2:gn≠b8) (m3:gn≠Bx) (m4:gt≠b3) (m5:gt≠b8) (m6:gt≠Bx) (y0 y1 y2 y4 y5 y6 y7 y11 y12 y13 y14 y15 y16 y17 y18 y19 y20 y21 y22 y23 y24 y25 y26 y27 y28 y31 y32 y33 y34 y35 y36 y37 y38 y39 y40 y41 y42 y43 y44 y45 y46:Value) (W:World) (fd:RB b3 b8 Bx gn gt (r:Int) kd n (.string v1) (.slice p2 n2 c2) cN cT0 W.drew) (hu:cN[k]?=some u) (hv:cT0[k]?=some v) (hBd:Below w.heap.size w W.drew)
  (k61: ∀W',Below w.heap.size w W'->Calls Tryz.prog 61 #[.agg #[.string v1,.slice p2 n2 c2]] W' fun e W''=>e=.returned (.int .i64 (S:Int))/\Below W'.heap.size W' W'')
  (k100: ∀W',Below w.heap.size w W'->Calls Tryz.prog 100 #[.agg #[.string v1,.slice p2 n2 c2],.int .i64 ((r % S:Nat):Int)] W' fun e W''=>e=.returned (.string ⟨tx.toArray⟩)/\Below W'.heap.size W' W'') (Q:Exit->Act->World->Prop) (hQp: ∀c a w,¬Q (.panic c) a w) (hQo: ¬LetsOut Q) (hQn: ∀(W5:World) (z47 z48 z49 z50 z51 z52 z53 z54 z55 z56 z57 z58 z59 z60 z61 z62:Value),RB b3 b8 Bx gn gt (r:Int) kd n (.string v1) (.slice p2 n2 c2) cN cT0 W5->Below w.heap.size w W5->Below W.heap.size W W5->Q .normal {tmps:= #[y0,y1,y2,.pointer (some ⟨b3,0,none⟩),y4,y5,y6,y7,.pointer (some ⟨b8,0,none⟩),.int .i64 (k:Int),.pointer (some ⟨Bx,0,none⟩),y11,y12,y13,y14,y15,y16,y17,y18,y19,y20,y21,y22,y23,y24,y25,y26,y27,y28,undef,undef,y31,y32,y33,y34,y35,y36,y37,y38,y39,y40,y41,y42,y43,y44,y45,y46,z47,z48,z49,z50,z51,z52,z53,z54,z55,z56,z57,z58,z59,z60,z61,z62,undef,undef,undef,undef,undef],defers:=[]} ((W5.setCell ⟨gn,k,none⟩ (.string v1)).setCell ⟨gt,k,none⟩ (.string ⟨tx.toArray⟩)))
  (bd cd:Code) (hbd:pC (mI Tryz.f78)=some bd) (hcd:sK 10 bd=some cd):cd.wpIn (Fence.wide.inRound l) 6 Tryz.prog Q {tmps:= #[y0,y1,y2,.pointer (some ⟨b3,0,none⟩),y4,y5,y6,y7,.pointer (some ⟨b8,0,none⟩),.int .i64 (k:Int),.pointer (some ⟨Bx,0,none⟩),y11,y12,y13,y14,y15,y16,y17,y18,y19,y20,y21,y22,y23,y24,y25,y26,y27,y28,undef,undef,y31,y32,y33,y34,y35,y36,y37,y38,y39,y40,y41,y42,y43,y44,y45,y46,undef,undef,undef,undef,undef,undef,undef,undef,undef,undef,undef,undef,undef,undef,undef,undef,undef,undef,undef,undef,undef],defers:=[]} W:=by
 obtain rfl:bd=_:=YA (hbd.symm.trans (show pC (mI Tryz.f78)=some _ from rfl));obtain rfl:cd=_:=YA (hcd.symm.trans (show sK 10 _=some _ from rfl));clear hbd hcd;have hki:(k:Int)<n:=by omega
 have cS: ∀W',RB b3 b8 Bx gn gt (r:Int) kd n (.string v1) (.slice p2 n2 c2) cN cT0 W'->(fun W=>W.cell? ⟨b3,0,none⟩=some (.int .i64 (r:Int))/\W.cell? ⟨b8,1,none⟩=some (.slice (some ⟨gn,0,none⟩) n n)/\W.cell? ⟨b8,2,none⟩=some (.slice (some ⟨gt,0,none⟩) n n)/\W.cell? ⟨Bx,0,none⟩=some (.string v1)/\W.cell? ⟨Bx,1,none⟩=some (.slice p2 n2 c2)) W':=fun W' h=>by
  obtain⟨e1,e2,e3,e4,e5,_⟩:=h.cells hu hv;exact⟨e1,e2,e3,e4,e5⟩
 have hS0:=cS _ fd;have hSn: ¬(S:Int)=0:=by omega
 have hSm: ¬S=0:=by omega
 have cT: ∀(W':World) (g:Nat) (x:Value),g≠b3->g≠b8->g≠Bx->(fun W=>W.cell? ⟨b3,0,none⟩=some (.int .i64 (r:Int))/\W.cell? ⟨b8,1,none⟩=some (.slice (some ⟨gn,0,none⟩) n n)/\W.cell? ⟨b8,2,none⟩=some (.slice (some ⟨gt,0,none⟩) n n)/\W.cell? ⟨Bx,0,none⟩=some (.string v1)/\W.cell? ⟨Bx,1,none⟩=some (.slice p2 n2 c2)) W'->(fun W=>W.cell? ⟨b3,0,none⟩=some (.int .i64 (r:Int))/\W.cell? ⟨b8,1,none⟩=some (.slice (some ⟨gn,0,none⟩) n n)/\W.cell? ⟨b8,2,none⟩=some (.slice (some ⟨gt,0,none⟩) n n)/\W.cell? ⟨Bx,0,none⟩=some (.string v1)/\W.cell? ⟨Bx,1,none⟩=some (.slice p2 n2 c2)) (W'.setCell ⟨g,k,none⟩ x):=fun W' g x g1 g2 g3 h=>by
  have ne: ∀b o,g≠b->(⟨g,k,none⟩:Addr)≠⟨b,o,none⟩:=fun b o hb e=>hb (by cases e;rfl)
  obtain⟨e1,e2,e3,e4,e5⟩:=h;exact⟨(World.cell?_setCell_other _ _ _ _ (ne _ _ g1)).trans e1,(World.cell?_setCell_other _ _ _ _ (ne _ _ g2)).trans e2,(World.cell?_setCell_other _ _ _ _ (ne _ _ g2)).trans e3,(World.cell?_setCell_other _ _ _ _ (ne _ _ g3)).trans e4,(World.cell?_setCell_other _ _ _ _ (ne _ _ g3)).trans e5⟩
 have hr1:(r:Int).tmod (S:Int)=((r % S:Nat):Int):=(XJ r S).symm;have hk0:(0:Int)<=k:=by omega
 refine zpw (S:=(fun W=>W.cell? ⟨b3,0,none⟩=some (.int .i64 (r:Int))/\W.cell? ⟨b8,1,none⟩=some (.slice (some ⟨gn,0,none⟩) n n)/\W.cell? ⟨b8,2,none⟩=some (.slice (some ⟨gt,0,none⟩) n n)/\W.cell? ⟨Bx,0,none⟩=some (.string v1)/\W.cell? ⟨Bx,1,none⟩=some (.slice p2 n2 c2))) (by kernel_rfl) (by kernel_rfl) hQo ?_;show wpAnyH _ _ _ _ _ 18 _ _ _;refine wpAnyH_take (i:=0) (v:=.pointer (some ⟨b8,1,none⟩)) rfl (by kernel_rfl) (by kernel_rfl) (by kernel_rfl) (fun c a w h=>absurd h (hQp _ _ _)) (.inl ⟨rfl,fun W hS=>?_⟩) hS0 ?_
 ·obtain⟨s1,s2,s3,s4,s5⟩:=hS
  go_simp
 simp only[Act.put,ZP,Z5,Z6];refine wpAnyH_take (i:=1) (v:=.slice (some ⟨gn,0,none⟩) n n) rfl (by kernel_rfl) (by kernel_rfl) (by kernel_rfl) (fun c a w h=>absurd h (hQp _ _ _)) (.inl ⟨rfl,fun W hS=>?_⟩) hS0 ?_
 ·obtain⟨s1,s2,s3,s4,s5⟩:=hS
  go_simp
 simp only[Act.put,ZP,Z5,Z6];refine wpAnyH_take (i:=2) (v:=.int .i64 (k:Int)) rfl (by kernel_rfl) (by kernel_rfl) (by kernel_rfl) (fun c a w h=>absurd h (hQp _ _ _)) (.inl ⟨rfl,fun W hS=>?_⟩) hS0 ?_
 ·obtain⟨s1,s2,s3,s4,s5⟩:=hS
  go_simp
 simp only[Act.put,ZP,Z5,Z6];refine wpAnyH_take (i:=3) (v:=.pointer (some ⟨b8,2,none⟩)) rfl (by kernel_rfl) (by kernel_rfl) (by kernel_rfl) (fun c a w h=>absurd h (hQp _ _ _)) (.inl ⟨rfl,fun W hS=>?_⟩) hS0 ?_
 ·obtain⟨s1,s2,s3,s4,s5⟩:=hS
  go_simp
 simp only[Act.put,ZP,Z5,Z6];refine wpAnyH_take (i:=4) (v:=.slice (some ⟨gt,0,none⟩) n n) rfl (by kernel_rfl) (by kernel_rfl) (by kernel_rfl) (fun c a w h=>absurd h (hQp _ _ _)) (.inl ⟨rfl,fun W hS=>?_⟩) hS0 ?_
 ·obtain⟨s1,s2,s3,s4,s5⟩:=hS
  go_simp
 simp only[Act.put,ZP,Z5,Z6];refine wpAnyH_take (i:=5) (v:=.int .i64 (k:Int)) rfl (by kernel_rfl) (by kernel_rfl) (by kernel_rfl) (fun c a w h=>absurd h (hQp _ _ _)) (.inl ⟨rfl,fun W hS=>?_⟩) hS0 ?_
 ·obtain⟨s1,s2,s3,s4,s5⟩:=hS
  go_simp
 simp only[Act.put,ZP,Z5,Z6];refine wpAnyH_take (i:=6) (v:=.pointer (some ⟨Bx,0,none⟩)) rfl (by kernel_rfl) (by kernel_rfl) (by kernel_rfl) (fun c a w h=>absurd h (hQp _ _ _)) (.inl ⟨rfl,fun W hS=>?_⟩) hS0 ?_
 ·obtain⟨s1,s2,s3,s4,s5⟩:=hS
  go_simp
 simp only[Act.put,ZP,Z5,Z6];refine wpAnyH_take (i:=7) (v:=.string v1) rfl (by kernel_rfl) (by kernel_rfl) (by kernel_rfl) (fun c a w h=>absurd h (hQp _ _ _)) (.inl ⟨rfl,fun W hS=>?_⟩) hS0 ?_
 ·obtain⟨s1,s2,s3,s4,s5⟩:=hS
  go_simp
 simp only[Act.put,ZP,Z5,Z6];refine wpAnyH_take (i:=8) (v:=.agg #[.string v1,.slice p2 n2 c2]) rfl (by kernel_rfl) (by kernel_rfl) (by kernel_rfl) (fun c a w h=>absurd h (hQp _ _ _)) (.inl ⟨rfl,fun W hS=>?_⟩) hS0 ?_
 ·obtain⟨s1,s2,s3,s4,s5⟩:=hS
  go_simp
 simp only[Act.put,ZP,Z5,Z6];refine wpAnyH_take (i:=9) (v:=.int .i64 (r:Int)) rfl (by kernel_rfl) (by kernel_rfl) (by kernel_rfl) (fun c a w h=>absurd h (hQp _ _ _)) (.inl ⟨rfl,fun W hS=>?_⟩) hS0 ?_
 ·obtain⟨s1,s2,s3,s4,s5⟩:=hS
  go_simp
 simp only[Act.put,ZP,Z5,Z6];refine wpAnyH_take (i:=10) (v:=.agg #[.string v1,.slice p2 n2 c2]) rfl (by kernel_rfl) (by kernel_rfl) (by kernel_rfl) (fun c a w h=>absurd h (hQp _ _ _)) (.inl ⟨rfl,fun W hS=>?_⟩) hS0 ?_
 ·obtain⟨s1,s2,s3,s4,s5⟩:=hS
  go_simp
 simp only[Act.put,ZP,Z5,Z6];refine wpAnyH_all (rs:=[11]) (by kernel_rfl) (by simp) fun i hi=>?_
 obtain rfl:=Z9.1 hi;refine Or.inl (?_:Oper.wp Tryz.prog _ _ _ _ _)
 go_wp2_with (go_at_call 61;refine(k61 _ hBd).mono ?_;rintro e W4 ⟨rfl,hb4⟩)
 have f4:=fd.later hb4;have hB4:=hBd.trans (hb4.mono hBd.size);have hS4:=cS _ f4;refine⟨hS4,?_⟩;refine wpAnyH_take (i:=12) (v:=.int .i64 ((r % S:Nat):Int)) rfl (by kernel_rfl) (by kernel_rfl) (by kernel_rfl) (fun c a w h=>absurd h (hQp _ _ _)) (.inl ⟨rfl,fun W hS=>?_⟩) hS4 ?_
 ·go_simp
 simp only[Act.put,ZP,Z5,Z6];refine wpAnyH_all (rs:=[13]) (by kernel_rfl) (by simp) fun i hi=>?_
 obtain rfl:=Z9.1 hi;refine Or.inl (?_:Oper.wp Tryz.prog _ _ _ _ _)
 go_wp2_with (go_at_call 100;refine(k100 _ hB4).mono ?_;rintro e W5 ⟨rfl,hb5⟩)
 have f5:=f4.later hb5;have hB5:=hB4.trans (hb5.mono hB4.size);have hS5:=cS _ f5;refine⟨hS5,?_⟩;refine wpAnyH_take (i:=14) (v:=.pointer (some ⟨gn,k,none⟩)) rfl (by kernel_rfl) (by kernel_rfl) (by kernel_rfl) (fun c a w h=>absurd h (hQp _ _ _)) (.inl ⟨rfl,fun W hS=>?_⟩) hS5 ?_
 ·go_simp
 simp only[Act.put,ZP,Z5,Z6];obtain⟨s1,s2,s3,s4,s5,s6,s7,s8,s9,s10⟩:=f5.cells hu hv;refine wpAnyH_all (rs:=[15]) (by kernel_rfl) (by simp) fun i hi=>?_
 obtain rfl:=Z9.1 hi;refine Or.inl (?_:Oper.wp Tryz.prog _ _ _ _ _)
 go_wp2_with fail
 have hS6:=cT _ gn (.string v1) m1 m2 m3 hS5;have z1:(W5.setCell ⟨gn,k,none⟩ (.string v1)).cell? ⟨gt,k,none⟩=some v:=(World.cell?_setCell_other _ _ _ _ (fun e=>n1 (by cases e;rfl))).trans s7;have z2:(W5.setCell ⟨gn,k,none⟩ (.string v1)).frozen? ⟨gt,k,none⟩=false:=(World.frozen?_setCell _ _ _ _).trans s9
 first|refine⟨hS6,?_⟩|skip
 refine wpAnyH_take (S:=(fun W=>W.cell? ⟨b3,0,none⟩=some (.int .i64 (r:Int))/\W.cell? ⟨b8,1,none⟩=some (.slice (some ⟨gn,0,none⟩) n n)/\W.cell? ⟨b8,2,none⟩=some (.slice (some ⟨gt,0,none⟩) n n)/\W.cell? ⟨Bx,0,none⟩=some (.string v1)/\W.cell? ⟨Bx,1,none⟩=some (.slice p2 n2 c2))) (i:=16) (v:=.pointer (some ⟨gt,k,none⟩)) rfl (by kernel_rfl) (by kernel_rfl) (by kernel_rfl) (fun c a w h=>absurd h (hQp _ _ _)) (.inl ⟨rfl,fun W hS=>?_⟩) hS6 ?_
 ·go_simp
 simp only[Act.put,ZP,Z5,Z6];refine wpAnyH_all (rs:=[17]) (by kernel_rfl) (by simp) fun i hi=>?_
 obtain rfl:=Z9.1 hi;refine Or.inl (?_:Oper.wp Tryz.prog _ _ _ _ _)
 go_wp2_with fail
 first|refine⟨cT _ gt _ m4 m5 m6 hS6,?_⟩|skip
 refine wpAnyH_done (S:=(fun W=>W.cell? ⟨b3,0,none⟩=some (.int .i64 (r:Int))/\W.cell? ⟨b8,1,none⟩=some (.slice (some ⟨gn,0,none⟩) n n)/\W.cell? ⟨b8,2,none⟩=some (.slice (some ⟨gt,0,none⟩) n n)/\W.cell? ⟨Bx,0,none⟩=some (.string v1)/\W.cell? ⟨Bx,1,none⟩=some (.slice p2 n2 c2))) (by kernel_rfl) ?_ _;exact hQn _ _ _ _ _ _ _ _ _ _ _ _ _ _ _ _ _ f5 hB5 ((vP W).trans (hb4.trans (hb5.mono hb4.size)))
attribute [local go_sem] Oper.semAt_some
def kG:Code->Code
 | .seq _ b=>b
 |c=>c
def KpR (N b3 gn gt:Nat) (A B:World):Prop:=A.heap.size<=B.heap.size/\ ∀j,j<N->j≠b3->j≠gn->j≠gt->B.heap[j]?=A.heap[j]?
structure RdI (fl:List Fld) (i:Nat) (w:World) (N b3 gn gt:Nat) (W0:World) (pre:List Nat) (W:World):Prop where
 box:W.heap[b3]?=some (.cells #[.int .i64 ((uC fl i pre).1:Int)] 3 (0,0))
 ns: ∃c,W.heap[gn]?=some (.cells c 9 (0,0))/\c.size=fl.length/\ ∀j,j<fl.length->c[j]?=some (tV (if j∈pre then(fl.getD j xF).name else[]))
 ts: ∃c,W.heap[gt]?=some (.cells c 9 (0,0))/\c.size=fl.length/\ ∀j,j<fl.length->c[j]?=some (tV ((uC fl i pre).2 j))
 kp:KpR N b3 gn gt W0 W
 bl:Below w.heap.size w W
theorem KpR.trans {N b3 gn gt:Nat} {A B C:World} (h:KpR N b3 gn gt A B) (k:KpR N b3 gn gt B C):KpR N b3 gn gt A C:=⟨ZX h.1 k.1,fun j h1 h2 h3 h4=>(k.2 j h1 h2 h3 h4).trans (h.2 j h1 h2 h3 h4)⟩
theorem KpR.grown {N b3 gn gt:Nat} {A B:World} {row:Option Nat} (hN:N<=A.heap.size) (hg:A.grownBy B row) (hr: ∀r,row=some r->N<=r):KpR N b3 gn gt A B:=
 ⟨hg.size,fun j hj _ _ _=>hg.block j (by omega) (fun e=>by have:=hr j e.symm;omega)⟩
theorem RdI.own {fl:List Fld} {i:Nat} {w W0:World} {N b3 gn gt:Nat} (h3:b3<N) (hn:gn<N) (ht:gt<N) (hw:w.heap.size<=N) (hW:N<=W0.heap.size): ∀(pre:List Nat) (A B:World) (row:Option Nat),RdI fl i w N b3 gn gt W0 pre A->A.grownBy B row->(∀r,row=some r->N<=r)->RdI fl i w N b3 gn gt W0 pre B:=by
 rintro pre A B row ⟨k1,⟨c1,k2,k3⟩,⟨c2,k4,k5⟩,k6,k7⟩ hg hr;have hsz:N<=A.heap.size:=ZX hW k6.1;have hb: ∀j,j<N->B.heap[j]?=A.heap[j]?:=fun j hj=>hg.block j (by omega) (fun e=>by have:=hr j e.symm;omega)
 exact⟨(hb _ h3).trans k1,⟨c1,(hb _ hn).trans k2,k3⟩,⟨c2,(hb _ ht).trans k4,k5⟩,k6.trans (KpR.grown hsz hg hr),k7.grown hg (ZX hw hsz) (fun r e=>by have:=hr r e;omega)⟩
theorem uI (w:World) (g i:Nat) (cur:Array Value) (t:TypeId) (fr:Nat×Nat) (v:Value) (hg:w.heap[g]?=some (.cells cur t fr)):(w.setCell ⟨g,i,none⟩ v).heap[g]?=some (.cells (cur.setIfInBounds i v) t fr):=by
 rw[setCell_eq_setRow w g i cur t fr v hg];exact setRow_heap w g cur _ t fr hg
theorem uV (w:World) (a:Addr) (v:Value) (k:Nat) (h:k≠a.block):(w.setCell a v).heap[k]?=w.heap[k]?:=Below.heap_setCell _ _ _ _ h
theorem zbs {w W:World} {r:List C} {cs:List Value} (h:yH w (yB w) r cs) (hb:Below w.heap.size w W):yH W (yB W) r cs:=⟨h.1,fun j c v hc hv=>uU (h.2 j c v hc hv) hb⟩
theorem zpy (fl:List Fld) (i:Nat) (w W2 W3 W5 X W6:World) (N b3 gn gt b8 Bx:Nat) (pre:List Nat) (k:Nat) (kd:Value) (F:Fld) (S r:Nat) {pf:Option Addr} {pn pc:Nat} (cN cT:Array Value) (aF:fl.getD k xF=F) (aS:yL F=S) (aR:(uC fl i pre).1=r)
  (aN:cN.size=fl.length/\(∀j,j<fl.length->cN[j]?=some (tV (if j∈pre then(fl.getD j xF).name else[])))/\cT.size=fl.length/\ ∀j,j<fl.length->cT[j]?=some (tV ((uC fl i pre).2 j)))
  (r10:KpR N b3 gn gt W2 W3) (h5:Below W3.heap.size W3 W5) (oX: ∀j,j≠gn->j≠gt->X.heap[j]?=W5.heap[j]?) (szX:X.heap.size=W5.heap.size)
  (f7:RB b3 b8 Bx gn gt (r:Int) kd fl.length (.string ⟨F.name.toArray⟩) (.slice pf pn pc) (cN.setIfInBounds k (.string ⟨F.name.toArray⟩)) (cT.setIfInBounds k (.string ⟨(textF F (r % S)).toArray⟩)) W6) (hB7:Below w.heap.size w W6) (hbd:Below X.heap.size X X.drew) (hb6:Below X.drew.heap.size X.drew W6)
  (l1:b3<N) (l2:gn<N) (l3:gt<N) (n4:b3≠gn) (n5:b3≠gt) (g3:w.heap.size<=b3) (hsz:N<=W3.heap.size) (hk:k<fl.length):
  KeepsFrom N W3 (W6.setCell ⟨b3,0,none⟩ (.int .i64 ((r/S:Nat):Int)))/\KpR N b3 gn gt W3 (W6.setCell ⟨b3,0,none⟩ (.int .i64 ((r/S:Nat):Int)))/\RdI fl i w N b3 gn gt W2 (pre++[k]) (W6.setCell ⟨b3,0,none⟩ (.int .i64 ((r/S:Nat):Int))):=by
 have h6:=hbd.trans hb6;have oY: ∀j,j≠b3->(W6.setCell ⟨b3,0,none⟩ (.int .i64 ((r/S:Nat):Int))).heap[j]?=W6.heap[j]?:=fun j hj=>uV _ _ _ _ hj
 have szY:(W6.setCell ⟨b3,0,none⟩ (.int .i64 ((r/S:Nat):Int))).heap.size=W6.heap.size:=by simp
 have s5:=h5.size;have s6:=h6.size;have all: ∀j,j<W3.heap.size->j≠b3->j≠gn->j≠gt->(W6.setCell ⟨b3,0,none⟩ (.int .i64 ((r/S:Nat):Int))).heap[j]?=W3.heap[j]?:=fun j hj h1 h2 h3=>
  (oY j h1).trans ((h6.block j (by omega)).trans ((oX j h2 h3).trans (h5.block j hj)))
 have hkp:KpR N b3 gn gt W3 (W6.setCell ⟨b3,0,none⟩ (.int .i64 ((r/S:Nat):Int))):=⟨by omega,fun j hj h1 h2 h3=>all j (by omega) h1 h2 h3⟩;refine⟨⟨by omega,fun j o hj ho _=>?_⟩,hkp,?_⟩
 ·have hlt:=(Zs.1 ho).1
  exact(all j hlt (by omega) (by omega) (by omega)).trans ho
 ·have hfs:=zjy fl i pre k
  rw[aF,aS,aR] at hfs;refine⟨?_,⟨_,(oY gn n4.symm).trans f7.hn,by simp[aN.1],fun j hj=>?_⟩,⟨_,(oY gt n5.symm).trans f7.ht,by simp[aN.2.2.1],fun j hj=>?_⟩,r10.trans hkp,hB7.setCell (p:=⟨b3,0,none⟩) g3 _⟩
  ·rw[uI W6 b3 0 _ 3 (0,0) _ f7.h3,hfs];rfl
  ·rw[Ys]
   by_cases e:k=j
   ·subst e
    rw[if_pos rfl,if_pos (by rw[aN.1];exact hk),if_pos (by simp),aF];rfl
   ·rw[if_neg e,aN.2.1 j hj]
    have:(j∈pre++[k]) ↔ j∈pre:=by simp[Ne.symm e]
    simp only[this]
  ·rw[Ys,hfs]
   by_cases e:k=j
   ·subst e
    rw[if_pos rfl,if_pos (by rw[aN.2.2.1];exact hk)];simp[tV]
   ·rw[if_neg e,aN.2.2.2 j hj]
    simp only[if_neg (Ne.symm e)]
theorem mJ {fn:Func} {p u:Tmp} {ty:TypeId} (h:fn.results= #[.cell p ty,.tmp u]) (tmps:Array Value) (w:World) {g:Nat} {t:TypeId} {cs:Array Value} {fr:Nat×Nat}
  (hp:tmps.getD p undef=.pointer (some ⟨g,0,none⟩)) (hg:w.heap[g]?=some (.cells cs t fr))
  {fs:Array Field} (hu:Tryz.prog.underlying ty=some (.struct fs)) (hi:(Tryz.prog.info? ty).map (·.size)=some cs.size):
  (results fn tmps).run Tryz.prog w=.ok (.tuple #[.agg cs,tmps.getD u undef]) w:=by
 have hp':tmps[p]?.getD undef=.pointer (some ⟨g,0,none⟩):=by simpa using hp
 simp[results,h,hp',asAddr,run_loadVar_row w g t ty cs fr _ hg hu rfl hi]
theorem uW {W:World} {b t:Nat} {a0 a1 a2:Value} (h:W.heap[b]?=some (.cells #[a0,a1,a2] t (0,0))):W.cell? ⟨b,0,none⟩=some a0/\W.cell? ⟨b,1,none⟩=some a1/\W.cell? ⟨b,2,none⟩=some a2:=by refine⟨?_,?_,?_⟩<;>simp[World.cell?,h]
theorem zpz (d:Dcm) (hd:DcmR d) (hs100: ∀f∈d.flds,∀w∈f.words,∀s∈w,s.length<=100) (i:Nat) (hi:i<=4096) (cn:Int) (w:World) (hG:yU (base w)) (p:Option Addr) (cap b o:Nat) (pf:Nat->Option Addr×Nat) (hf:FldAt w d.flds p b o (fvO d.flds pf)) (b2 b3 b4 b8 gn gt:Nat) (W:World)
  (g2:w.heap.size<=b2) (g3:w.heap.size<=b3) (g4:w.heap.size<=b4) (g8:w.heap.size<=b8) (gg:w.heap.size<=gn) (gh:w.heap.size<=gt) (n1:gn≠gt) (n2:gn≠b8) (n3:gt≠b8) (n4:b3≠gn) (n5:b3≠gt) (n6:b3≠b8) (n7:b2≠b3) (n8:b2≠gn) (n9:b2≠gt) (n10:b4≠b3) (n11:b4≠gn) (n12:b4≠gt)
  (q2:W.heap[b2]?=some (.cells #[.string ⟨d.kind.toArray⟩,.slice p d.flds.length cap] 58 (0,0))) (q3:W.heap[b3]?=some (.cells #[.int .i64 (i:Int)] 3 (0,0))) (q4:W.heap[b4]?=some (.cells #[.string ⟨#[]⟩,.slice none 0 0,.slice none 0 0] 53 (0,0)))
  (q8:W.heap[b8]?=some (.cells #[.string ⟨d.kind.toArray⟩,.slice (some ⟨gn,0,none⟩) d.flds.length d.flds.length,.slice (some ⟨gt,0,none⟩) d.flds.length d.flds.length] 53 (0,0)))
  (qn:W.heap[gn]?=some (.cells (mk0 d.flds.length) 9 (0,0))) (qt:W.heap[gt]?=some (.cells (mk0 d.flds.length) 9 (0,0))) (hB:Below w.heap.size w W) (z11 z12 z13 z14 z15 z16 z17 z18 z19 z20 z21 z22 z23 z24 z25 z26 z27 z28 z31 z32 z33 z34 z35 z36 z37 z38 z39 z40 z41:Value):
  Code.wpIn Fence.wide 8 Tryz.prog (kG (kG (kG (kG (kG (mI Tryz.f78)))))) (bodyPostM Fence.wide 8 Tryz.prog Tryz.f78 (fun e w'=> ∃gn gt,e=.returned (.tuple #[.agg #[.string ⟨d.kind.toArray⟩,.slice (some ⟨gn,0,none⟩) d.flds.length d.flds.length,.slice (some ⟨gt,0,none⟩) d.flds.length d.flds.length],.int .i64 0])/\Below w.heap.size w w'/\
   w.heap.size<=gn/\w.heap.size<=gt/\(∃c,w'.heap[gn]?=some (.cells c 9 (0,0)))/\(∃c,w'.heap[gt]?=some (.cells c 9 (0,0)))/\(∀j,j<d.flds.length->w'.cell? ⟨gn,j,none⟩=some (tV (d.flds.getD j xF).name)/\w'.cell? ⟨gt,j,none⟩=some (tV ((wM d.flds i).1.getD j [])))))
   {tmps:= #[.agg #[.string ⟨d.kind.toArray⟩,.slice p d.flds.length cap],.int .i64 (i:Int),.pointer (some ⟨b2,0,none⟩),.pointer (some ⟨b3,0,none⟩),.pointer (some ⟨b4,0,none⟩),.int .i64 0,.int .i64 cn,.int .i64 0,.pointer (some ⟨b8,0,none⟩),undef,undef,z11,z12,z13,z14,z15,z16,z17,z18,z19,z20,z21,z22,z23,z24,z25,z26,z27,z28,undef,undef,z31,z32,z33,z34,z35,z36,z37,z38,z39,z40,z41,undef,undef,undef,undef,undef,undef,undef,undef,undef,undef,undef,undef,undef,undef,undef,undef,undef,undef,undef,undef,undef,undef,undef,undef,undef,undef],defers:=[]} W:=by
 have hn1:1<=8:=by decide
 have hn12:=hd.fs;have hl2:b2<W.heap.size:=(Zs.1 q2).1;have hl3:b3<W.heap.size:=(Zs.1 q3).1;have hl4:b4<W.heap.size:=(Zs.1 q4).1;have hl8:b8<W.heap.size:=(Zs.1 q8).1;have hln:gn<W.heap.size:=(Zs.1 qn).1;have hlt:gt<W.heap.size:=(Zs.1 qt).1;obtain⟨c20,c21⟩:=mH q2;obtain⟨Q,hQ⟩: ∃Q,bodyPostM Fence.wide 8 Tryz.prog Tryz.f78 (fun e w'=> ∃gn gt,e=.returned (.tuple #[.agg #[.string ⟨d.kind.toArray⟩,.slice (some ⟨gn,0,none⟩) d.flds.length d.flds.length,.slice (some ⟨gt,0,none⟩) d.flds.length d.flds.length],.int .i64 0])/\Below w.heap.size w w'/\
   w.heap.size<=gn/\w.heap.size<=gt/\(∃c,w'.heap[gn]?=some (.cells c 9 (0,0)))/\(∃c,w'.heap[gt]?=some (.cells c 9 (0,0)))/\(∀j,j<d.flds.length->w'.cell? ⟨gn,j,none⟩=some (tV (d.flds.getD j xF).name)/\w'.cell? ⟨gt,j,none⟩=some (tV ((wM d.flds i).1.getD j []))))=Q:=⟨_,rfl⟩
 rw[hQ];dsimp only[kG,mI,Tryz.f78,Option.getD];have h112:=fun W'=>zpo (.slice p d.flds.length cap) rfl W'
 gi_wp2_with (refine⟨trivial,?_⟩;gi_at_call 112;refine(callsIn_wide.2 (h112 _)).mono ?_;rintro e W2 ⟨rfl,rfl⟩)
 obtain⟨W2,hW2⟩: ∃W2,W.alloc (.cells #[.slice p d.flds.length cap] 56)=W2:=⟨_,rfl⟩;have hN:W2.heap.size=W.heap.size+1:=by rw[<-hW2,World.size_alloc]
 have old: ∀j,j<W.heap.size->W2.heap[j]?=W.heap[j]?:=fun j hj=>by rw[<-hW2];exact Below.heap_alloc _ _ _ hj
 have hbs:W2.heap[W.heap.size]?=some (.cells #[.slice p d.flds.length cap] 56 (0,0)):=by rw[<-hW2];exact World.alloc_heap_new _ _
 have hB2:Below w.heap.size w W2:=by rw[<-hW2];exact hB.alloc hB.size _
 rw[hW2];have hwW:=hB.size;refine zi8 (α:=Ix d.flds.length) rfl (by decide) (gf:=154) (lb:= #[.pointer (some ⟨W.heap.size,0,none⟩)]) rfl trivial (enters_of Tryz.func154 (by kernel_rfl) rfl)
  (zoI 7 (by decide) W.heap.size d.flds.length cap (by omega) p b o (fvO d.flds pf) hf.o1 hf.o2 (fun h=>(hf.ad h).1) W2 (KpR W2.heap.size b3 gn gt) ⟨ZA _,fun _ _ _ _ _=>rfl⟩ (fun _ _ _=>KpR.trans) ?hbx ?hcl)
  (fun _ _ _=>KpR.trans) (fun A B row hs hg hr=>KpR.grown hs hg hr) (fun _=>rfl) (fun pre=>RdI d.flds i w W2.heap.size b3 gn gt W2 (pre.map fun x=>x.1)) (fun pre A B row hI hg hr=>RdI.own (by omega) (by omega) (by omega) hB2.size (ZA _) _ A B row hI hg fun r e=>(hr r e).1) ?h0
  (fun x a' W'=> ∃Bx,W2.heap.size<=Bx/\W'.heap[Bx]?=some (.cells #[(fvO d.flds pf x.1).1,(fvO d.flds pf x.1).2] 107 (0,0))/\a'={tmps:= #[.agg #[.string ⟨d.kind.toArray⟩,.slice p d.flds.length cap],.int .i64 (i:Int),.pointer (some ⟨b2,0,none⟩),.pointer (some ⟨b3,0,none⟩),.pointer (some ⟨b4,0,none⟩),.int .i64 0,.int .i64 cn,.int .i64 0,.pointer (some ⟨b8,0,none⟩),.int .i64 (x.1:Int),.pointer (some ⟨Bx,0,none⟩),z11,z12,z13,z14,z15,z16,z17,z18,z19,z20,z21,z22,z23,z24,z25,z26,z27,z28,undef,undef,z31,z32,z33,z34,z35,z36,z37,z38,z39,z40,z41,.pointer (some ⟨b2,1,none⟩),.slice p d.flds.length cap,.func (.func 154) #[] #[.pointer (some ⟨W.heap.size,0,none⟩)],.int .i64 (x.1:Int),.agg #[(fvO d.flds pf x.1).1,(fvO d.flds pf x.1).2],undef,undef,undef,undef,undef,undef,undef,undef,undef,undef,undef,undef,undef,undef,undef,undef,undef,undef,undef,undef,undef],defers:=[]}) ?hA ?assign ?body ?done
 case hbx=>
  intro A hA;have:=(hA.2 W.heap.size (by omega) (by omega) (by omega) (by omega)).trans hbs;exact rO this
 case hcl=>
  intro A hA k hk;obtain⟨_,hb⟩:=hf.ad (by omega);have hbl:A.heap[b]?=w.heap[b]?:=(hA.2 b (by omega) (by omega) (by omega) (by omega)).trans (hB2.block b hb);obtain⟨k1,k2⟩:=hf.cl k hk;exact⟨(World.cell?_of_block (w:=w) (a:=⟨b,o+k*2,none⟩) hbl).trans k1,(World.cell?_of_block (w:=w) (a:=⟨b,o+k*2+1,none⟩) hbl).trans k2⟩
 case h0=>
  exact⟨(old b3 hl3).trans q3,⟨_,(old gn hln).trans qn,zbq _,fun j hj=>by rw[zjB hj];simp⟩,⟨_,(old gt hlt).trans qt,zbq _,fun j hj=>by rw[zjB hj];simp[uC]⟩,⟨ZA _,fun _ _ _ _ _=>rfl⟩,hB2⟩
 case hA=>
  rintro x a' W' l ob ob' ⟨Bx,h1,h2,rfl⟩ hl ho hc;refine⟨Bx,h1,?_,rfl⟩;rw[World.putObj_heap_other (fun e=>?_)]
  ·exact h2
  ·subst e;rw[h2] at ho;cases ho;cases hc
 case assign=>
  intro l pre x W' K hI hsz hK;simp only[za3,fvO]
  gi_wp2
  have hb:=(Below.refl W'.heap.size W').alloc (ZA _) (.cells #[(fvO d.flds pf x.1).1,(fvO d.flds pf x.1).2] 107);have hg:=kA hb;exact hK _ _ ⟨W'.heap.size,hsz,World.alloc_heap_new W' _,rfl⟩ (RdI.own (by omega) (by omega) (by omega) hB2.size (ZA _) _ _ _ none hI hg (fun r e=>by cases e)) (KeepsFrom.of_grownBy hg (fun r e=>by cases e)) (KpR.grown hsz hg (fun r e=>by cases e)) (ZX hsz hg.size)
 case body=>
  rintro l pre x a' W3 ⟨Bx,hBx,hbx,rfl⟩ hI hlen hsz3;obtain⟨r3,⟨cN,r4,r5,r6⟩,⟨cT,r7,r8,r9⟩,r10,r11⟩:=hI;have hxk:=x.2;obtain⟨r,hr⟩: ∃r,(uC d.flds i (pre.map fun x=>x.1)).1=r:=⟨_,rfl⟩;have hri:r<=4096:=by rw[<-hr];exact ZX (zpn _ _ _) hi
  have hfm:d.flds.getD x.1 xF∈d.flds:=by simp[List.getD,hxk]
  have hfR:=hd.fld hfm;have hsp:=za1 hfR;have hsl:=iJ hfR;have hrp:=hf.rp x.1 hxk;have k61: ∀W',Below w.heap.size w W'->Calls Tryz.prog 61 #[.agg #[(fvO d.flds pf x.1).1,(fvO d.flds pf x.1).2]] W' fun e W''=>e=.returned (.int .i64 ((yL (d.flds.getD x.1 xF):Nat):Int))/\Below W'.heap.size W' W'':=fun W' hb=>(c61 _ hfR).intC (hG.later (wB hb)) (Z:=yB W') (fun _ h=>h) (dF (zbs hrp hb) (wI _ _))
  have k100: ∀q:Nat,q<=1000000-> ∀W',Below w.heap.size w W'->Calls Tryz.prog 100 #[.agg #[(fvO d.flds pf x.1).1,(fvO d.flds pf x.1).2],.int .i64 (q:Int)] W' fun e W''=>e=.returned (.string ⟨(textF (d.flds.getD x.1 xF) q).toArray⟩)/\Below W'.heap.size W' W'':=fun q hq W' hb=>(zpb _ hfR (hs100 _ hfm) q hq).strC (hG.later (wB hb)) (Z:=yB W') (fun _ h=>h) (dF (zbs hrp hb) (uA (.int _ _) (wI _ _)))
  rw[hr] at r3;have q8':=(r10.2 b8 (by omega) (by omega) (by omega) (by omega)).trans ((old b8 hl8).trans q8);have f3:RB b3 b8 Bx gn gt (r:Int) _ d.flds.length _ _ cN cT W3:=⟨r3,q8',hbx,r4,r7⟩;have fd:=f3.later (vP W3);have hBd:=r11.trans ((vP W3).mono r11.size);have hu:=r6 x.1 hxk;have hv:=r9 x.1 hxk;have hw1:1<=8-1-1:=by decide
  have mixed:Tryz.prog.follows Departure.mixedOrders=true:=by kernel_rfl
  simp only[fvO] at fd k61 k100⊢;generalize hF:d.flds.getD x.1 xF=F at*
  generalize hS:yL F=S at*
  have aF:Aside (d.flds.getD x.1 xF=F):=hF;have aS:Aside (yL F=S):=hS;have aR:Aside ((uC d.flds i (pre.map fun x=>x.1)).1=r):=hr;have aN:Aside (cN.size=d.flds.length/\(∀j,j<d.flds.length->cN[j]?=some (tV (if j∈pre.map (fun x=>x.1) then(d.flds.getD j xF).name else[])))/\cT.size=d.flds.length/\ ∀j,j<d.flds.length->cT[j]?=some (tV ((uC d.flds i (pre.map fun x=>x.1)).2 j))):=⟨r5,r6,r8,r9⟩;have hS0: ¬(S:Int)=0:=by omega
  have hr1:(r:Int).tmod (S:Int)=((r % S:Nat):Int):=(XJ r S).symm;have hr2:(r:Int).tdiv (S:Int)=((r/S:Nat):Int):=(XS r S).symm;have hq:=k100 (r % S) (by have:=Nat.mod_le r S;omega);have hki:(x.1:Int)<d.flds.length:=by omega
  obtain⟨e1,e2,e3,e4,e5,e6,e7,e8,e9,e10⟩:=f3.cells hu hv;obtain⟨y1,y2,y3,y4,y5,y6,y7,y8,y9,y10⟩:=fd.cells hu hv;have m2:=n2.symm;have m3:=n3.symm;have m4:=n4.symm;have m5:=n5.symm;have m6:=n6.symm;have m1:=n1.symm;have x1:gn≠Bx:=by omega
  have x2:gt≠Bx:=by omega
  have x3:=x1.symm;have x4:=x2.symm;clear hF hS hr r3 q8' hbx r4 r7
  gi_wp2
  refine zpx w _ cN cT _ _ l d.flds.length x.1 r b3 b8 Bx gn gt _ _ S _ _ _ hxk (by omega) n1 m4 n2 x1 m5 n3 x2 _ _ _ _ _ _ _ _ _ _ _ _ _ _ _ _ _ _ _ _ _ _ _ _ _ _ _ _ _ _ _ _ _ _ _ _ _ _ _ _ _ W3 fd hu hv hBd k61 hq _ (fun c a w h=>?hp) ?ho ?hn _ _ rfl rfl
  case hp=>exact h
  case ho=>rintro⟨a,W',h⟩;exact h
  case hn=>
   intro W5 _ _ _ _ _ _ _ _ _ _ _ _ _ _ _ _ f5 hB5 hs5;obtain⟨X,hX⟩: ∃X,(W5.setCell ⟨gn,x.1,none⟩ (.string ⟨F.name.toArray⟩)).setCell ⟨gt,x.1,none⟩ (.string ⟨(textF F (r % S)).toArray⟩)=X:=⟨_,rfl⟩;have gX1:=uI W5 gn x.1 cN 9 (0,0) (.string ⟨F.name.toArray⟩) f5.hn;have gX2:=uI (W5.setCell ⟨gn,x.1,none⟩ (.string ⟨F.name.toArray⟩)) gt x.1 cT 9 (0,0) (.string ⟨(textF F (r % S)).toArray⟩) ((uV _ _ _ _ m1).trans f5.ht);have oX: ∀j,j≠gn->j≠gt->X.heap[j]?=W5.heap[j]?:=fun j h1 h2=>by rw[<-hX];exact(uV _ _ _ _ h2).trans (uV _ _ _ _ h1)
   have f6:RB b3 b8 Bx gn gt (r:Int) (.string ⟨d.kind.toArray⟩) d.flds.length (.string ⟨F.name.toArray⟩) (.slice (pf x.1).1 F.words.length (pf x.1).2) (cN.setIfInBounds x.1 (.string ⟨F.name.toArray⟩)) (cT.setIfInBounds x.1 (.string ⟨(textF F (r % S)).toArray⟩)) X:=
    ⟨(oX _ n4 n5).trans f5.h3,(oX _ m2 m3).trans f5.h8,(oX _ x3 x4).trans f5.hx,by rw[<-hX];exact(uV _ _ _ _ n1).trans gX1,by rw[<-hX];exact gX2⟩
   have szX:X.heap.size=W5.heap.size:=by rw[<-hX];simp
   have hBX:Below w.heap.size w X:=by rw[<-hX];exact(hB5.setCell (p:=⟨gn,x.1,none⟩) gg _).setCell (p:=⟨gt,x.1,none⟩) gh _
   have fx:=f6.later (vP X);have hBXd:=hBX.trans ((vP X).mono hBX.size);have hu6:(cN.setIfInBounds x.1 (Value.string ⟨F.name.toArray⟩))[x.1]?=some (.string ⟨F.name.toArray⟩):=by rw[Array.getElem?_setIfInBounds_self_of_lt (by omega)]
   have hv6:(cT.setIfInBounds x.1 (Value.string ⟨(textF F (r % S)).toArray⟩))[x.1]?=some (.string ⟨(textF F (r % S)).toArray⟩):=by rw[Array.getElem?_setIfInBounds_self_of_lt (by omega)]
   obtain⟨a1,a2,a3,a4,a5,a6,a7,a8,a9,a10⟩:=f6.cells hu6 hv6;obtain⟨b1',b2',b3',b4',b5',b6',b7',b8',b9',b10'⟩:=fx.cells hu6 hv6;rw[hX];clear hX gX1 gX2;dsimp only
   gi_wp2
   gi_region_with_o (refine⟨trivial,?_⟩;gi_at_call 61;refine(CallsIn.inRound l (callsIn_wide.2 (k61 _ hBXd))).mono ?_;rintro e W6 ⟨rfl,hb6⟩;have f7:=fx.later hb6;have hB7:=hBXd.trans (hb6.mono hBXd.size);obtain⟨t1,t2,t3,t4,t5,t6,t7,t8,t9,t10⟩:=f7.cells hu6 hv6)
   all_goals
    have hqd:wrap64 ((r:Int)/(S:Int))=((r/S:Nat):Int):=by
     rw[<-X2];have hd0:=Xk r S;generalize r/S=dd at hd0;unfold wrap64;omega
    rw[hqd];have hh:KeepsFrom W2.heap.size W3 (W6.setCell ⟨b3,0,none⟩ (.int .i64 ((r/S:Nat):Int)))/\KpR W2.heap.size b3 gn gt W3 (W6.setCell ⟨b3,0,none⟩ (.int .i64 ((r/S:Nat):Int)))/\RdI d.flds i w W2.heap.size b3 gn gt W2 ((pre++[x]).map fun x=>x.1) (W6.setCell ⟨b3,0,none⟩ (.int .i64 ((r/S:Nat):Int))):=by
     rw[ZV];exact zpy d.flds i w W2 W3 W5 X W6 W2.heap.size b3 gn gt b8 Bx (pre.map fun x=>x.1) x.1 _ F S r cN cT aF.out aS.out aR.out aN.out r10 hs5 oX szX f7 hB7 (vP X) hb6 (by omega) (by omega) (by omega) n4 n5 g3 hsz3 hxk
    exact hh
 case done=>
  rintro D xs W3 hD hxs hI hK;obtain⟨r3,⟨cN,r4,r5,r6⟩,⟨cT,r7,r8,r9⟩,r10,r11⟩:=hI;have k8:=(r10.2 b8 (by omega) (by omega) (by omega) (by omega)).trans ((old b8 hl8).trans q8);have k4:=(r10.2 b4 (by omega) (by omega) (by omega) (by omega)).trans ((old b4 hl4).trans q4);obtain⟨e1,e2,e3⟩:=uW k8;obtain⟨e4,e5,e6⟩:=uW k4;have e7: ∀j,W3.frozen? ⟨b4,j,none⟩=false:=fun j=>by simp[World.frozen?,k4]
  have e8:=e7 0;have e9:=e7 1;have e10:=e7 2;refine(‹∀(a:Act) (w:World),Code.wpIn Fence.wide 8 Tryz.prog _ _ a w->_›) _ _ ?_
  gi_wp2
  rw[<-hQ];have w1':=uI W3 b4 0 _ 53 (0,0) (.string ⟨d.kind.toArray⟩) k4;have w2':=uI _ b4 1 _ 53 (0,0) (.slice (some ⟨gn,0,none⟩) d.flds.length d.flds.length) w1';have w3':=uI _ b4 2 _ 53 (0,0) (.slice (some ⟨gt,0,none⟩) d.flds.length d.flds.length) w2';have oY: ∀j,j≠b4->(((W3.setCell ⟨b4,0,none⟩ (.string ⟨d.kind.toArray⟩)).setCell ⟨b4,1,none⟩ (.slice (some ⟨gn,0,none⟩) d.flds.length d.flds.length)).setCell ⟨b4,2,none⟩ (.slice (some ⟨gt,0,none⟩) d.flds.length d.flds.length)).heap[j]?=W3.heap[j]?:=fun j hj=>(uV _ _ _ _ hj).trans ((uV _ _ _ _ hj).trans (uV _ _ _ _ hj))
  have hBY:Below w.heap.size w (((W3.setCell ⟨b4,0,none⟩ (.string ⟨d.kind.toArray⟩)).setCell ⟨b4,1,none⟩ (.slice (some ⟨gn,0,none⟩) d.flds.length d.flds.length)).setCell ⟨b4,2,none⟩ (.slice (some ⟨gt,0,none⟩) d.flds.length d.flds.length)):=((r11.setCell (p:=⟨b4,0,none⟩) g4 _).setCell (p:=⟨b4,1,none⟩) g4 _).setCell (p:=⟨b4,2,none⟩) g4 _;have hKY:=(oY D (by omega)).trans hK;generalize (((W3.setCell ⟨b4,0,none⟩ (.string ⟨d.kind.toArray⟩)).setCell ⟨b4,1,none⟩ (.slice (some ⟨gn,0,none⟩) d.flds.length d.flds.length)).setCell ⟨b4,2,none⟩ (.slice (some ⟨gt,0,none⟩) d.flds.length d.flds.length))=Y at w3' oY hBY hKY⊢;have hall:=zjA d.flds i d.flds.length (ZA _);rw[Nat.sub_self,List.drop_zero,<-List.range_eq_range'] at hall;have hxs':(xs.map fun x=>x.1)=(List.range d.flds.length).reverse:=hxs;rw[hxs'] at r6 r9;refine⟨by simp,.inl ⟨_,_,rfl,run_takeDeferred hKY,?_⟩⟩;refine⟨_,mJ rfl _ _ rfl ((World.putObj_heap_other (by omega)).trans w3') Tryz.underlying53 (by kernel_rfl),gn,gt,rfl,hBY.grown (grownBy_putObj' _ D _) hBY.size (fun k e=>by cases e;omega),gg,gh,⟨cN,(World.putObj_heap_other (by omega)).trans ((oY gn n11.symm).trans r4)⟩,⟨cT,(World.putObj_heap_other (by omega)).trans ((oY gt n12.symm).trans r7)⟩,fun j hj=>?_⟩;have hn':(Y.putObj D (.deferred none)).heap[gn]?=some (.cells cN 9 (0,0)):=(World.putObj_heap_other (by omega)).trans ((oY gn n11.symm).trans r4);have ht':(Y.putObj D (.deferred none)).heap[gt]?=some (.cells cT 9 (0,0)):=(World.putObj_heap_other (by omega)).trans ((oY gt n12.symm).trans r7);have s1:=r6 j hj;have s2:=r9 j hj;rw[if_pos (by simp[hj])] at s1;have hq:=hall.2 j hj;rw[Z4] at hq;rw[hq] at s2;constructor
  ·simp only[World.cell?,hn'];simpa using s1
  ·simp only[World.cell?,ht'];simpa using s2
end Go.Proofs
namespace Go.Ex
open Go.Lib Go.Wd Go.Wire Go.Abs
def rdE (d:Dcm) (i:Int):Int:=if (cntD d).2≠0 then(cntD d).2 else if i<0\/i>=(cntD d).1 then 4 else 0
def vW:Pln:=⟨[],[],[]⟩
def rdR (d:Dcm) (i:Int):Pln:=if rdE d i=0 then rdD d i.toNat else vW
theorem zpA {s:Txt} (h:uG s=true):s.length<=20:=by
 unfold uG at h;rw[Zp,Zp,decide_eq_true_eq,decide_eq_true_eq] at h;exact h.2.1
theorem zpB {d:Dcm} (hd:DcmS d) (h:xC d=0): ∀f∈d.flds,∀w∈f.words,∀s∈w,s.length<=20:=by
 intro f hf w hw s hs;obtain⟨k,hk,rfl⟩:=XP hf;have hr:=qV hd h;obtain⟨_,_,_,h4⟩:=za0 hk (hd.fl _ hf) (hr.fe k hk);exact zpA (Zt.1 (zaY (h4 w hw)).2.2.1 s hs)
theorem rP {d:Dcm} (h:(cntD d).2=0):xC d=0:=by
 unfold cntD at h;split at h
 ·assumption
 ·rename_i h2;exact absurd h h2
end Go.Ex
namespace Go.Proofs
open Go.RowKit Go.Shelf Go.Abs Go.Wd Go.Wire Go.Ex
attribute [local go_sem] Oper.semAt_some
theorem zbt {W:World} {b4:Nat} {a0 a1 a2 v0 v1 v2:Value} (q:W.heap[b4]?=some (.cells #[a0,a1,a2] 53 (0,0))):(((W.setCell ⟨b4,0,none⟩ v0).setCell ⟨b4,1,none⟩ v1).setCell ⟨b4,2,none⟩ v2).heap[b4]?=some (.cells #[v0,v1,v2] 53 (0,0)):=by
 have w1':=uI W b4 0 _ 53 (0,0) v0 q;have w2':=uI _ b4 1 _ 53 (0,0) v1 w1';exact uI _ b4 2 _ 53 (0,0) v2 w2'
theorem zpC (d:Dcm) (hd:DcmS d) (i:Int) (w:World) (hG:yU (base w)) (p:Option Addr) (cap b o:Nat) (fv:Nat->Value×Value) (hf:FldAt w d.flds p b o fv)
  (h77: ∀W,Below w.heap.size w W->Calls Tryz.prog 77 #[.agg #[.string ⟨d.kind.toArray⟩,.slice p d.flds.length cap]] W fun e W'=>e=.returned (.tuple #[.int .i64 (cntD d).1,.int .i64 (cntD d).2])/\Below W.heap.size W W'):
  Calls Tryz.prog 78 #[.agg #[.string ⟨d.kind.toArray⟩,.slice p d.flds.length cap],.int .i64 i] w fun e w'=>(rdE d i≠0/\e=.returned (.tuple #[.agg #[.string ⟨#[]⟩,.slice none 0 0,.slice none 0 0],.int .i64 (rdE d i)])/\Below w.heap.size w w')\/
   (rdE d i=0/\ ∃gn gt,e=.returned (.tuple #[.agg #[.string ⟨d.kind.toArray⟩,.slice (some ⟨gn,0,none⟩) d.flds.length d.flds.length,.slice (some ⟨gt,0,none⟩) d.flds.length d.flds.length],.int .i64 0])/\Below w.heap.size w w'/\
    w.heap.size<=gn/\w.heap.size<=gt/\(∃c,w'.heap[gn]?=some (.cells c 9 (0,0)))/\(∃c,w'.heap[gt]?=some (.cells c 9 (0,0)))/\(∀j,j<d.flds.length->w'.cell? ⟨gn,j,none⟩=some (tV (d.flds.getD j xF).name)/\w'.cell? ⟨gt,j,none⟩=some (tV ((wM d.flds i.toNat).1.getD j [])))):=by
 refine(callsIn_wide (n:=8)).1 ?_;have hn1:1<=8:=by decide
 have hB0: ∀a b c,Below w.heap.size w (((w.alloc a).alloc b).alloc c):=fun a b c=>(((Below.refl _ w).alloc (ZA _) _).alloc (by simp) _).alloc (by simp;omega) _
 have hcr:=iK (d:=d);obtain⟨cn,hcn⟩: ∃cn,(cntD d).1=cn:=⟨_,rfl⟩;obtain⟨ce,hce⟩: ∃ce,(cntD d).2=ce:=⟨_,rfl⟩;rw[hcn] at hcr;rw[hcn,hce] at h77;have hE:rdE d i=if ce≠0 then ce else if i<0\/i>=cn then 4 else 0:=by unfold rdE;rw[hcn,hce]
 by_cases h0:ce=0
 ·subst h0
  rw[if_neg (by simp)] at hE;by_cases hi0:i<0
  ·rw[if_pos (.inl hi0)] at hE
   rw[hE];refine callsIn_of_wp_marks Tryz.func78 rfl trivial ?_;simp only[Tryz.ntmps78,YJ,Zu,ZK,Zb,Xr,YV,YU,Y7,Y1,Z7,ZT]
   gi_wp2_with (refine⟨trivial,?_⟩;gi_at_call 77;refine(callsIn_wide.2 (h77 _ (hB0 _ _ _))).mono ?_;rintro e w1 ⟨rfl,hb1⟩;have q2:=(hb1.block w.heap.size (by simp only[World.size_alloc];omega)).trans (xQ w _ _ _).1;have q3:=(hb1.block (w.heap.size+1) (by simp only[World.size_alloc];omega)).trans (xQ w _ _ _).2.1;have q4:=(hb1.block (w.heap.size+1+1) (by simp only[World.size_alloc];omega)).trans (xQ w _ _ _).2.2;obtain⟨c20,c21⟩:=mH q2;have c30:=rO q3;obtain⟨c40,c41,c42⟩:=uW q4;have e7: ∀j,w1.frozen? ⟨w.heap.size+1+1,j,none⟩=false:=(fun j=>by simp[World.frozen?,q4]);have e8:=e7 0;have e9:=e7 1;have e10:=e7 2;have hB1:=(hB0 (.cells #[.string ⟨d.kind.toArray⟩,.slice p d.flds.length cap] 58) (.cells #[.int .i64 i] 3) (.cells #[.string ⟨#[]⟩,.slice none 0 0,.slice none 0 0] 53)).trans (hb1.mono (hB0 _ _ _).size))
   refine⟨_,mJ rfl _ _ rfl (zbt q4) Tryz.underlying53 (by kernel_rfl),.inl ⟨by decide,rfl,((hB1.setCell (p:=⟨w.heap.size+1+1,0,none⟩) (show w.heap.size<=w.heap.size+1+1 by omega) _).setCell (p:=⟨w.heap.size+1+1,1,none⟩) (show w.heap.size<=w.heap.size+1+1 by omega) _).setCell (p:=⟨w.heap.size+1+1,2,none⟩) (show w.heap.size<=w.heap.size+1+1 by omega) _⟩⟩
  by_cases hi1:i>=cn
  ·rw[if_pos (.inr hi1)] at hE
   rw[hE];refine callsIn_of_wp_marks Tryz.func78 rfl trivial ?_;simp only[Tryz.ntmps78,YJ,Zu,ZK,Zb,Xr,YV,YU,Y7,Y1,Z7,ZT]
   gi_wp2_with (refine⟨trivial,?_⟩;gi_at_call 77;refine(callsIn_wide.2 (h77 _ (hB0 _ _ _))).mono ?_;rintro e w1 ⟨rfl,hb1⟩;have q2:=(hb1.block w.heap.size (by simp only[World.size_alloc];omega)).trans (xQ w _ _ _).1;have q3:=(hb1.block (w.heap.size+1) (by simp only[World.size_alloc];omega)).trans (xQ w _ _ _).2.1;have q4:=(hb1.block (w.heap.size+1+1) (by simp only[World.size_alloc];omega)).trans (xQ w _ _ _).2.2;obtain⟨c20,c21⟩:=mH q2;have c30:=rO q3;obtain⟨c40,c41,c42⟩:=uW q4;have e7: ∀j,w1.frozen? ⟨w.heap.size+1+1,j,none⟩=false:=(fun j=>by simp[World.frozen?,q4]);have e8:=e7 0;have e9:=e7 1;have e10:=e7 2;have hB1:=(hB0 (.cells #[.string ⟨d.kind.toArray⟩,.slice p d.flds.length cap] 58) (.cells #[.int .i64 i] 3) (.cells #[.string ⟨#[]⟩,.slice none 0 0,.slice none 0 0] 53)).trans (hb1.mono (hB0 _ _ _).size))
   refine⟨_,mJ rfl _ _ rfl (zbt q4) Tryz.underlying53 (by kernel_rfl),.inl ⟨by decide,rfl,((hB1.setCell (p:=⟨w.heap.size+1+1,0,none⟩) (show w.heap.size<=w.heap.size+1+1 by omega) _).setCell (p:=⟨w.heap.size+1+1,1,none⟩) (show w.heap.size<=w.heap.size+1+1 by omega) _).setCell (p:=⟨w.heap.size+1+1,2,none⟩) (show w.heap.size<=w.heap.size+1+1 by omega) _⟩⟩
  rw[if_neg (by omega)] at hE;rw[hE];have hR:DcmR d:=qV hd (rP hce);have hsw: ∀f∈d.flds,∀w∈f.words,∀s∈w,s.length<=100:=fun f hf w hw s hs=>ZX (zpB hd (rP hce) f hf w hw s hs) (by decide)
  have hnf:=hR.fs;obtain⟨m,rfl⟩: ∃m:Nat,i=m:=⟨i.toNat,by omega⟩;obtain⟨pf,hf'⟩:=zpr hf;have ht:((m:Int)).toNat=m:=by simp
  rw[ht];refine CallsIn.mono (R:=fun e w'=> ∃gn gt,e=.returned (.tuple #[.agg #[.string ⟨d.kind.toArray⟩,.slice (some ⟨gn,0,none⟩) d.flds.length d.flds.length,.slice (some ⟨gt,0,none⟩) d.flds.length d.flds.length],.int .i64 0])/\Below w.heap.size w w'/\
    w.heap.size<=gn/\w.heap.size<=gt/\(∃c,w'.heap[gn]?=some (.cells c 9 (0,0)))/\(∃c,w'.heap[gt]?=some (.cells c 9 (0,0)))/\(∀j,j<d.flds.length->w'.cell? ⟨gn,j,none⟩=some (tV (d.flds.getD j xF).name)/\w'.cell? ⟨gt,j,none⟩=some (tV ((wM d.flds m).1.getD j [])))) ?_ fun e w' h=> .inr ⟨rfl,h⟩
  refine callsIn_of_wp_marks Tryz.func78 rfl trivial ?_;simp only[Tryz.ntmps78,YJ,Zu,ZK,Zb,Xr,YV,YU,Y7,Y1,Z7,ZT]
  gi_wp2_with (refine⟨trivial,?_⟩;gi_at_call 77;refine(callsIn_wide.2 (h77 _ (hB0 _ _ _))).mono ?_;rintro e w1 ⟨rfl,hb1⟩;have q2:=(hb1.block w.heap.size (by simp only[World.size_alloc];omega)).trans (xQ w _ _ _).1;have q3:=(hb1.block (w.heap.size+1) (by simp only[World.size_alloc];omega)).trans (xQ w _ _ _).2.1;have q4:=(hb1.block (w.heap.size+1+1) (by simp only[World.size_alloc];omega)).trans (xQ w _ _ _).2.2;obtain⟨c20,c21⟩:=mH q2;have c30:=rO q3;obtain⟨c40,c41,c42⟩:=uW q4;have e7: ∀j,w1.frozen? ⟨w.heap.size+1+1,j,none⟩=false:=(fun j=>by simp[World.frozen?,q4]);have e8:=e7 0;have e9:=e7 1;have e10:=e7 2;have hB1:=(hB0 (.cells #[.string ⟨d.kind.toArray⟩,.slice p d.flds.length cap] 58) (.cells #[.int .i64 (m:Int)] 3) (.cells #[.string ⟨#[]⟩,.slice none 0 0,.slice none 0 0] 53)).trans (hb1.mono (hB0 _ _ _).size))
  refine zpt d.kind p d.flds.length cap m w.heap.size (w.heap.size+1) (w.heap.size+1+1) cn (by omega) _ _ _ _ _ _ _ _ _ _ _ _ _ _ _ _ _ _ w1 q2 _ ?_ _ rfl;intro gn gt b8 u31 u32 u33 u34 u35 u36 u37 u38 u39 u40 u41 W n1 n2 n3 l1 l2 l3 g1 g2 g3 hbW;have hs1:w.heap.size+1+1<w1.heap.size:=(Zs.1 q4).1;refine(‹∀(a:Act) (w:World),Code.wpIn Fence.wide 8 Tryz.prog _ _ a w->_›) _ _ ?_;exact zpz d hR hsw m (by omega) cn w hG p cap b o pf hf' w.heap.size (w.heap.size+1) (w.heap.size+1+1) b8 gn gt W (by omega) (by omega) (by omega) (by omega) (by omega) (by omega) n1 n2 n3 (by omega) (by omega) (by omega) (by omega) (by omega) (by omega) (by omega) (by omega) (by omega)
   ((hbW.block _ (by omega)).trans q2) ((hbW.block _ (by omega)).trans q3) ((hbW.block _ (by omega)).trans q4) g3 g1 g2 (hB1.trans (hbW.mono hB1.size)) _ _ _ _ _ _ _ _ _ _ _ _ _ _ _ _ _ _ _ _ _ _ _ _ _ _ _ _ _
 ·rw[if_pos h0] at hE
  rw[hE];have h0':(ce==0)=false:=by simp[h0]
  have h0n:(ce !=0)=true:=by simp[h0]
  refine callsIn_of_wp_marks Tryz.func78 rfl trivial ?_;simp only[Tryz.ntmps78,YJ,Zu,ZK,Zb,Xr,YV,YU,Y7,Y1,Z7,ZT]
  gi_wp2_with (refine⟨trivial,?_⟩;gi_at_call 77;refine(callsIn_wide.2 (h77 _ (hB0 _ _ _))).mono ?_;rintro e w1 ⟨rfl,hb1⟩;have q2:=(hb1.block w.heap.size (by simp only[World.size_alloc];omega)).trans (xQ w _ _ _).1;have q3:=(hb1.block (w.heap.size+1) (by simp only[World.size_alloc];omega)).trans (xQ w _ _ _).2.1;have q4:=(hb1.block (w.heap.size+1+1) (by simp only[World.size_alloc];omega)).trans (xQ w _ _ _).2.2;obtain⟨c20,c21⟩:=mH q2;have c30:=rO q3;obtain⟨c40,c41,c42⟩:=uW q4;have e7: ∀j,w1.frozen? ⟨w.heap.size+1+1,j,none⟩=false:=(fun j=>by simp[World.frozen?,q4]);have e8:=e7 0;have e9:=e7 1;have e10:=e7 2;have hB1:=(hB0 (.cells #[.string ⟨d.kind.toArray⟩,.slice p d.flds.length cap] 58) (.cells #[.int .i64 i] 3) (.cells #[.string ⟨#[]⟩,.slice none 0 0,.slice none 0 0] 53)).trans (hb1.mono (hB0 _ _ _).size))
  refine⟨_,mJ rfl _ _ rfl (zbt q4) Tryz.underlying53 (by kernel_rfl),.inl ⟨h0,rfl,((hB1.setCell (p:=⟨w.heap.size+1+1,0,none⟩) (show w.heap.size<=w.heap.size+1+1 by omega) _).setCell (p:=⟨w.heap.size+1+1,1,none⟩) (show w.heap.size<=w.heap.size+1+1 by omega) _).setCell (p:=⟨w.heap.size+1+1,2,none⟩) (show w.heap.size<=w.heap.size+1+1 by omega) _⟩⟩
end Go.Proofs
namespace Go.Abs
open Go.Proofs Go.RowKit Go.Lib Go.Wd Go.Wire Go.Ex
theorem zjD {w w':World} {Z:Bk->Prop} {r:V} {v:Value} (hG:yU (base w)) (hk:xV w w') (hr: ∀n,r.reg n=(r,[])) (hp:zJ w' (fun b=>w.heap.size<=b.2/\b.2<w'.heap.size/\sZ w' b.2) (fun _=>none) (fun _=>none) r v) (hn: ∀τ,r.noRef τ=true):kV (base w) Z r v w':=by
 intro n;have e0:(zY n (r.reg n).2:Nat->Option O)=fun _=>none:=by
  funext τ;rw[hr];simp[zY]
 rw[e0,hr];refine⟨fun _=>none,hk,hG,fun τ b h=>absurd rfl h,fun τ τ' b h=>absurd rfl h,fun τ ob h=>(by cases h),fun s=>?_⟩;by_cases hs:s=0
 ·subst hs
  exact zJ.mono (fun _ _=>rfl) (fun b hb=>⟨.inr ⟨by have:=hb.1;simp;omega,hb.2.2⟩,hb.2.1,fun τ h=>absurd rfl h⟩) (τs:=fun _=>False) (fun τ hτ=>hτ.elim) (fun τ hτ=>absurd (show r.noRef τ=false from hτ) (by rw[hn τ];simp)) hp
 ·simp only[hs,if_false];trivial
theorem Spec.int2C {P:Program} {f:FuncId} {xs:List V} {k k':IntKind} {n m:Int} (h:Spec P f xs (fun r'=>r'=.tup [.int k n,.int k' m])) {W:World} (hG:yU (base W)) {Z:Bk->Prop} (hz: ∀b,Z b->b.2<W.heap.size) {vs:Array Value} (ha:wX W Z xs vs.toList):
  Calls P f vs W fun e W'=>e=.returned (.tuple #[.int k n,.int k' m])/\Below W.heap.size W W':=by
 refine(h.2 W Z vs hG hz ha).mono ?_;rintro e w' ⟨v,r',rfl,rfl,_,hrep⟩;obtain⟨κ,hi⟩:=hrep 0;have h0:=hi.tmps 0;obtain⟨us,hu,hl,hv⟩:=h0;have hu':v=.tuple us:=hu;subst hu';obtain⟨l⟩:=us
 match l,hl,hv with
 |[x,y],_,hv=>
  have h1:=vO hv.1.2;have h2:=vO hv.2.1.2;subst h1 h2;exact⟨rfl,dB hi.kept⟩
theorem zjE {w:World} {Z:Bk->Prop} {L:List Txt} {g:Nat} (hZ:Z (1,g)) (h2:L.length<=maxLen) (hc: ∀j,j<L.length->w.cell? ⟨g,j,none⟩=some (tV (L.getD j []))):
  PRep w Z (zF 1 (zK L)) (.slice (some ⟨g,0,none⟩) L.length L.length):=by
 by_cases h0:L=[]
 ·subst h0
  exact .emp 0 none ⟨g,0,none⟩ (by simp)
 have e:zF 1 (zK L)=.list 1 none (zK L):=by
  unfold zF;rw[if_neg];cases L with|nil=>exact absurd rfl h0|cons a L=>simp[zK]
 have e2:L.length=(zK L).length:=(zQ L).symm;have hat: ∀(i j:Nat) r c,(zK L)[i]?=some r->r[j]?=some c->j=0/\ ∃s,L[i]?=some s/\c=.str s:=fun i j r c hr hc=>by
  rw[zK,ZD] at hr;cases hs:L[i]? with
  |none=>rw[hs] at hr;cases hr
  |some s=>
   rw[hs] at hr;cases hr;cases j with
   |zero=>cases hc;exact⟨rfl,s,rfl,rfl⟩
   |succ j=>simp at hc
 rw[e];have key:PRep w Z (.list 1 none (zK L)) (.slice (some ⟨g,0,none⟩) (zK L).length L.length):=by
  refine .list g 0 L.length 1 none (zK L) (fun i _=>tV (L.getD i [])) (by simp) (by rw[zQ];exact ZA _) h2 (fun _=>hZ) (fun r hr=>by obtain⟨s,_,rfl⟩:=ZL.1 hr;rfl) (fun i j r c hr hcj=>?_) fun i j r c hr hcj=>?_
  ·obtain⟨rfl,s,hs,rfl⟩:=hat i j r c hr hcj
   rw[Y5,YC,Z4];exact hc i (Zw.1 hs).1
  ·obtain⟨rfl,s,hs,rfl⟩:=hat i j r c hr hcj
   have:L.getD i []=s:=by simp[List.getD,hs]
   rw[this];exact .str s
 rw[zQ] at key;exact key
theorem c78 (d:Dcm) (hd:DcmS d) (i:Int):Spec Tryz.prog 78 [.agg (zV d),.int .i64 i] (fun v=>v=.tup [.agg (zX (rdR d i)),.int .i64 (rdE d i)]):=by
 refine⟨rN (by kernel_rfl),fun w Z vs hG hz ha=>?_⟩;obtain⟨vl⟩:=vs
 match vl,ha with
 |[],ha=>exact absurd ha.1 (by simp)
 |[_],ha=>exact absurd ha.1 (by simp)
 |_::_::_::_,ha=>exact absurd ha.1 (by simp)
 |[v,v2],ha=>
  have e2:=vO (ha.2 1 _ v2 rfl rfl).2.2;subst e2;obtain⟨us,rfl,hrow⟩:=(ha.2 0 _ v rfl rfl).2;obtain⟨ul⟩:=us
  match ul,hrow with
  |[],hrow=>exact absurd hrow.1 (by simp[zV])
  |[_],hrow=>exact absurd hrow.1 (by simp[zV])
  |_::_::_::_,hrow=>exact absurd hrow.1 (by simp[zV])
  |[u0,u1],hrow=>
   have e0:=tM (hrow.2 0 (.str d.kind) u0 rfl rfl);subst e0;have h1:PRep w Z (zF 2 (d.flds.map zW)) u1:=hrow.2 1 _ u1 rfl rfl;obtain⟨p,cap,b,o,fv,rfl,hf⟩:=zpp hz h1;have hrow':yH w (yB w) (zV d) [.string ⟨d.kind.toArray⟩,.slice p d.flds.length cap]:=⟨hrow.1,fun j c v hc hv=>kB hz (hrow.2 j c v hc hv)⟩;refine(zpC d hd i w hG p cap b o fv hf fun W hb=>(c77 d hd).int2C (hG.later (wB hb)) (Z:=yB W) (fun _ h=>h) (dF (zbs hrow' hb) (wI _ _))).mono ?_;rintro e w' (⟨h0,rfl,hb⟩|⟨h0,gn,gt,rfl,hb,l1,l2,⟨cN,k1⟩,⟨cT,k2⟩,hc⟩)
   ·refine⟨_,_,rfl,rfl,fun _=>rfl,oO hG (wB hb) (fun _=>rfl) fun Z=>⟨_,rfl,rfl,⟨_,rfl,?_⟩,⟨rfl,.int _ _⟩,trivial⟩⟩
    unfold rdR;rw[if_neg h0];refine⟨rfl,fun j c v hc hv=>?_⟩
    match j with
    |0=>cases hc;cases hv;exact .str _
    |1=>cases hc;cases hv;exact .nil 0 none (by simp)
    |2=>cases hc;cases hv;exact .nil 0 none (by simp)
    |j+3=>simp[zX] at hc
   ·have hR:=qV hd (rP (d:=d) (by by_cases h:(cntD d).2=0;exact h;unfold rdE at h0;rw[if_pos h] at h0;exact h0))
    have hnf:=hR.fs;have ht:=zjz d.flds i.toNat;have sN:sZ w' gn:=fun cur e f h=>by rw[k1] at h;cases h;rfl
    have sT:sZ w' gt:=fun cur e f h=>by rw[k2] at h;cases h;rfl
    have zN:=(Zs.1 k1).1;have zT:=(Zs.1 k2).1;have hm:d.flds.length<=maxLen:=by unfold maxLen;omega
    refine⟨_,_,rfl,rfl,fun _=>rfl,zjD hG (wB hb) (fun _=>rfl) ⟨_,rfl,rfl,⟨_,rfl,?_⟩,⟨rfl,by rw[h0];exact .int _ _⟩,trivial⟩ (fun _=>rfl)⟩;unfold rdR;rw[if_pos h0];refine⟨rfl,fun j c v hc' hv=>?_⟩
    match j with
    |0=>cases hc';cases hv;exact .str _
    |1=>
     cases hc';cases hv;have:=zjE (w:=w') (Z:=fun b=>w.heap.size<=b.2/\b.2<w'.heap.size/\sZ w' b.2) (L:=d.flds.map Fld.name) (g:=gn) ⟨l1,zN,sN⟩ (by simp;exact hm) (fun j hj=>by
      rw[Ze] at hj
      have:=(hc j hj).1
      rw[this]
      simp[List.getD,hj])
     rw[Ze] at this;exact this
    |2=>
     cases hc';cases hv;have:=zjE (w:=w') (Z:=fun b=>w.heap.size<=b.2/\b.2<w'.heap.size/\sZ w' b.2) (L:=(wM d.flds i.toNat).1) (g:=gt) ⟨l2,zT,sT⟩ (by rw[ht];exact hm) (fun j hj=>by
      rw[ht] at hj
      exact(hc j hj).2)
     rw[ht] at this;exact this
    |j+3=>simp[zX] at hc'
end Go.Abs
namespace Go.Proofs
open Go.RowKit Go.Abs Go.Wd Go.Wire Go.Ex
theorem Tryz.m165demand (us:Array Value) (w:World):(method 369 165 (.agg us) "allonge/require.demand").run Tryz.prog w=.ok (203,.agg us) w:=by kernel_rfl
theorem Tryz.m165met (us:Array Value) (w:World):(method 369 165 (.agg us) "allonge/require.met").run Tryz.prog w=.ok (204,.agg us) w:=by kernel_rfl
theorem Tryz.m165named (us:Array Value) (w:World):(method 369 165 (.agg us) "allonge/require.named").run Tryz.prog w=.ok (205,.agg us) w:=by kernel_rfl
theorem Tryz.m165words (us:Array Value) (w:World):(method 369 165 (.agg us) "allonge/require.words").run Tryz.prog w=.ok (206,.agg us) w:=by kernel_rfl
theorem Tryz.m167demand (us:Array Value) (w:World):(method 369 167 (.agg us) "allonge/require.demand").run Tryz.prog w=.ok (211,.agg us) w:=by kernel_rfl
theorem Tryz.m167met (us:Array Value) (w:World):(method 369 167 (.agg us) "allonge/require.met").run Tryz.prog w=.ok (212,.agg us) w:=by kernel_rfl
theorem Tryz.m167named (us:Array Value) (w:World):(method 369 167 (.agg us) "allonge/require.named").run Tryz.prog w=.ok (213,.agg us) w:=by kernel_rfl
theorem Tryz.m167words (us:Array Value) (w:World):(method 369 167 (.agg us) "allonge/require.words").run Tryz.prog w=.ok (214,.agg us) w:=by kernel_rfl
theorem Tryz.m169demand (us:Array Value) (w:World):(method 369 169 (.agg us) "allonge/require.demand").run Tryz.prog w=.ok (221,.agg us) w:=by kernel_rfl
theorem Tryz.m169met (us:Array Value) (w:World):(method 369 169 (.agg us) "allonge/require.met").run Tryz.prog w=.ok (222,.agg us) w:=by kernel_rfl
theorem Tryz.m169named (us:Array Value) (w:World):(method 369 169 (.agg us) "allonge/require.named").run Tryz.prog w=.ok (223,.agg us) w:=by kernel_rfl
theorem Tryz.m169words (us:Array Value) (w:World):(method 369 169 (.agg us) "allonge/require.words").run Tryz.prog w=.ok (224,.agg us) w:=by kernel_rfl
theorem Tryz.m171demand (us:Array Value) (w:World):(method 369 171 (.agg us) "allonge/require.demand").run Tryz.prog w=.ok (226,.agg us) w:=by kernel_rfl
theorem Tryz.m171met (us:Array Value) (w:World):(method 369 171 (.agg us) "allonge/require.met").run Tryz.prog w=.ok (227,.agg us) w:=by kernel_rfl
theorem Tryz.m171named (us:Array Value) (w:World):(method 369 171 (.agg us) "allonge/require.named").run Tryz.prog w=.ok (228,.agg us) w:=by kernel_rfl
theorem Tryz.m171words (us:Array Value) (w:World):(method 369 171 (.agg us) "allonge/require.words").run Tryz.prog w=.ok (229,.agg us) w:=by kernel_rfl
def zjF (m:Dmd):Value:=.agg #[.int .i64 m.op,tV m.doc,tV m.fld,tV m.oth,tV m.sec,tV m.txt,.int .i64 m.lo,.int .i64 m.hi]
theorem zpD (m:Dmd) (l:List Pln) (hl:wU l) (w:World) (hG:yU (base w)) (v2:Value) (hv:PRep w (yB w) (zF 3 (l.map zX)) v2):
  Calls Tryz.prog 39 #[zjF m,v2] w fun ex w'=>ex=.returned (.bool (vE m l))/\Below w.heap.size w w':=by
 have hvo:=hv.oneCell;obtain⟨op,d,f,o,s,t,lo,hi⟩:=m;have k79:=zja op d f o s t lo hi;have hB0: ∀ob,Below w.heap.size w (w.alloc ob):=fun ob=>(Below.refl _ w).alloc (ZA _) _
 have k222: ∀W,Below w.heap.size w W->Calls Tryz.prog 222 #[.agg #[tV d,tV f,tV o,tV s],v2] W fun ex W'=>ex=.returned (.bool (agreesP d f o s l))/\Below W.heap.size W W':=fun W hb=>zpm d f o s l hl W (hG.later (wB hb)) v2 (uU hv hb)
 unfold zjF;simp only[];unfold tV at*
 by_cases h0:op=0
 ·subst h0
  have e:vE ⟨0,d,f,o,s,t,lo,hi⟩ l=kindP l d:=rfl;rw[e];have hc:clV 0 d f o s t lo hi=.iface 165 (.agg #[.string ⟨d.toArray⟩]):=rfl;have ho:okO 0=true:=rfl;rw[hc,ho] at k79;have hm:=Tryz.m165met;have kc: ∀W,Below w.heap.size w W->Calls Tryz.prog 204 #[.agg #[.string ⟨d.toArray⟩],v2] W fun ex W'=>ex=.returned (.bool (kindP l d))/\Below W.heap.size W W':=fun W hb=>(zoM d l hl.1).boolC (hG.later (wB hb)) (Z:=yB W) (fun _ h=>h) (uH (r:=[.str d]) (by simp[C.sc]) (uA (uU hv hb) (wI _ _)))
  generalize kindP l d=R at kc⊢;clear e
  go_enter Tryz.func39,Tryz.ntmps39
  go_wp2_with (first|(go_at_call 204;refine(kc _ hB1).mono ?_;rintro ex w2 ⟨rfl,hb2⟩)|(go_at_call 79;refine(k79 _).mono ?_;rintro ex w1 ⟨rfl,hb1⟩;have hB1:=(hB0 (.cells #[Value.int .i64 0,Value.string ⟨d.toArray⟩,Value.string ⟨f.toArray⟩,Value.string ⟨o.toArray⟩,Value.string ⟨s.toArray⟩,Value.string ⟨t.toArray⟩,Value.int .i64 lo,Value.int .i64 hi] 46)).trans (hb1.mono (hB0 (.cells #[Value.int .i64 0,Value.string ⟨d.toArray⟩,Value.string ⟨f.toArray⟩,Value.string ⟨o.toArray⟩,Value.string ⟨s.toArray⟩,Value.string ⟨t.toArray⟩,Value.int .i64 lo,Value.int .i64 hi] 46)).size)))
  go_ret
  exact⟨rfl,hB1.trans (hb2.mono hB1.size)⟩
 by_cases h1:op=1
 ·subst h1
  have e:vE ⟨1,d,f,o,s,t,lo,hi⟩ l=readsP d f t l:=rfl;rw[e];have hc:clV 1 d f o s t lo hi=.iface 167 (.agg #[.string ⟨d.toArray⟩,.string ⟨f.toArray⟩,.string ⟨t.toArray⟩]):=rfl;have ho:okO 1=true:=rfl;rw[hc,ho] at k79;have hm:=Tryz.m167met;have kc: ∀W,Below w.heap.size w W->Calls Tryz.prog 212 #[.agg #[.string ⟨d.toArray⟩,.string ⟨f.toArray⟩,.string ⟨t.toArray⟩],v2] W fun ex W'=>ex=.returned (.bool (readsP d f t l))/\Below W.heap.size W W':=fun W hb=>(zoP d f t l hl).boolC (hG.later (wB hb)) (Z:=yB W) (fun _ h=>h) (uH (r:=[.str d,.str f,.str t]) (by simp[C.sc]) (uA (uU hv hb) (wI _ _)))
  generalize readsP d f t l=R at kc⊢;clear e
  go_enter Tryz.func39,Tryz.ntmps39
  go_wp2_with (first|(go_at_call 212;refine(kc _ hB1).mono ?_;rintro ex w2 ⟨rfl,hb2⟩)|(go_at_call 79;refine(k79 _).mono ?_;rintro ex w1 ⟨rfl,hb1⟩;have hB1:=(hB0 (.cells #[Value.int .i64 1,Value.string ⟨d.toArray⟩,Value.string ⟨f.toArray⟩,Value.string ⟨o.toArray⟩,Value.string ⟨s.toArray⟩,Value.string ⟨t.toArray⟩,Value.int .i64 lo,Value.int .i64 hi] 46)).trans (hb1.mono (hB0 (.cells #[Value.int .i64 1,Value.string ⟨d.toArray⟩,Value.string ⟨f.toArray⟩,Value.string ⟨o.toArray⟩,Value.string ⟨s.toArray⟩,Value.string ⟨t.toArray⟩,Value.int .i64 lo,Value.int .i64 hi] 46)).size)))
  go_ret
  exact⟨rfl,hB1.trans (hb2.mono hB1.size)⟩
 by_cases h3:op=3
 ·subst h3
  have e:vE ⟨3,d,f,o,s,t,lo,hi⟩ l=agreesP d f o s l:=rfl;rw[e];have hc:clV 3 d f o s t lo hi=.iface 169 (.agg #[.string ⟨d.toArray⟩,.string ⟨f.toArray⟩,.string ⟨o.toArray⟩,.string ⟨s.toArray⟩]):=rfl;have ho:okO 3=true:=rfl;rw[hc,ho] at k79;have hm:=Tryz.m169met;have kc: ∀W,Below w.heap.size w W->Calls Tryz.prog 222 #[.agg #[.string ⟨d.toArray⟩,.string ⟨f.toArray⟩,.string ⟨o.toArray⟩,.string ⟨s.toArray⟩],v2] W fun ex W'=>ex=.returned (.bool (agreesP d f o s l))/\Below W.heap.size W W':=fun W hb=>k222 W hb
  generalize agreesP d f o s l=R at kc⊢;clear e
  go_enter Tryz.func39,Tryz.ntmps39
  go_wp2_with (first|(go_at_call 222;refine(kc _ hB1).mono ?_;rintro ex w2 ⟨rfl,hb2⟩)|(go_at_call 79;refine(k79 _).mono ?_;rintro ex w1 ⟨rfl,hb1⟩;have hB1:=(hB0 (.cells #[Value.int .i64 3,Value.string ⟨d.toArray⟩,Value.string ⟨f.toArray⟩,Value.string ⟨o.toArray⟩,Value.string ⟨s.toArray⟩,Value.string ⟨t.toArray⟩,Value.int .i64 lo,Value.int .i64 hi] 46)).trans (hb1.mono (hB0 (.cells #[Value.int .i64 3,Value.string ⟨d.toArray⟩,Value.string ⟨f.toArray⟩,Value.string ⟨o.toArray⟩,Value.string ⟨s.toArray⟩,Value.string ⟨t.toArray⟩,Value.int .i64 lo,Value.int .i64 hi] 46)).size)))
  go_ret
  exact⟨rfl,hB1.trans (hb2.mono hB1.size)⟩
 by_cases h2:op=2
 ·subst h2
  have e:vE ⟨2,d,f,o,s,t,lo,hi⟩ l=limP d f lo hi false l:=rfl;rw[e];have hc:clV 2 d f o s t lo hi=.iface 171 (.agg #[.string ⟨d.toArray⟩,.string ⟨f.toArray⟩,.int .i64 lo,.int .i64 hi,.bool false]):=rfl;have ho:okO 2=true:=rfl;rw[hc,ho] at k79;have hm:=Tryz.m171met;have kc: ∀W,Below w.heap.size w W->Calls Tryz.prog 227 #[.agg #[.string ⟨d.toArray⟩,.string ⟨f.toArray⟩,.int .i64 lo,.int .i64 hi,.bool false],v2] W fun ex W'=>ex=.returned (.bool (limP d f lo hi false l))/\Below W.heap.size W W':=fun W hb=>(zjg d f lo hi false l hl).boolC (hG.later (wB hb)) (Z:=yB W) (fun _ h=>h) (uH (r:=[.str d,.str f,.int .i64 lo,.int .i64 hi,.bool false]) (by simp[C.sc]) (uA (uU hv hb) (wI _ _)))
  generalize limP d f lo hi false l=R at kc⊢;clear e
  go_enter Tryz.func39,Tryz.ntmps39
  go_wp2_with (first|(go_at_call 227;refine(kc _ hB1).mono ?_;rintro ex w2 ⟨rfl,hb2⟩)|(go_at_call 79;refine(k79 _).mono ?_;rintro ex w1 ⟨rfl,hb1⟩;have hB1:=(hB0 (.cells #[Value.int .i64 2,Value.string ⟨d.toArray⟩,Value.string ⟨f.toArray⟩,Value.string ⟨o.toArray⟩,Value.string ⟨s.toArray⟩,Value.string ⟨t.toArray⟩,Value.int .i64 lo,Value.int .i64 hi] 46)).trans (hb1.mono (hB0 (.cells #[Value.int .i64 2,Value.string ⟨d.toArray⟩,Value.string ⟨f.toArray⟩,Value.string ⟨o.toArray⟩,Value.string ⟨s.toArray⟩,Value.string ⟨t.toArray⟩,Value.int .i64 lo,Value.int .i64 hi] 46)).size)))
  go_ret
  exact⟨rfl,hB1.trans (hb2.mono hB1.size)⟩
 by_cases h4:op=4
 ·subst h4
  have e:vE ⟨4,d,f,o,s,t,lo,hi⟩ l=limP d f lo hi true l:=rfl;rw[e];have hc:clV 4 d f o s t lo hi=.iface 171 (.agg #[.string ⟨d.toArray⟩,.string ⟨f.toArray⟩,.int .i64 lo,.int .i64 hi,.bool true]):=rfl;have ho:okO 4=true:=rfl;rw[hc,ho] at k79;have hm:=Tryz.m171met;have kc: ∀W,Below w.heap.size w W->Calls Tryz.prog 227 #[.agg #[.string ⟨d.toArray⟩,.string ⟨f.toArray⟩,.int .i64 lo,.int .i64 hi,.bool true],v2] W fun ex W'=>ex=.returned (.bool (limP d f lo hi true l))/\Below W.heap.size W W':=fun W hb=>(zjg d f lo hi true l hl).boolC (hG.later (wB hb)) (Z:=yB W) (fun _ h=>h) (uH (r:=[.str d,.str f,.int .i64 lo,.int .i64 hi,.bool true]) (by simp[C.sc]) (uA (uU hv hb) (wI _ _)))
  generalize limP d f lo hi true l=R at kc⊢;clear e
  go_enter Tryz.func39,Tryz.ntmps39
  go_wp2_with (first|(go_at_call 227;refine(kc _ hB1).mono ?_;rintro ex w2 ⟨rfl,hb2⟩)|(go_at_call 79;refine(k79 _).mono ?_;rintro ex w1 ⟨rfl,hb1⟩;have hB1:=(hB0 (.cells #[Value.int .i64 4,Value.string ⟨d.toArray⟩,Value.string ⟨f.toArray⟩,Value.string ⟨o.toArray⟩,Value.string ⟨s.toArray⟩,Value.string ⟨t.toArray⟩,Value.int .i64 lo,Value.int .i64 hi] 46)).trans (hb1.mono (hB0 (.cells #[Value.int .i64 4,Value.string ⟨d.toArray⟩,Value.string ⟨f.toArray⟩,Value.string ⟨o.toArray⟩,Value.string ⟨s.toArray⟩,Value.string ⟨t.toArray⟩,Value.int .i64 lo,Value.int .i64 hi] 46)).size)))
  go_ret
  exact⟨rfl,hB1.trans (hb2.mono hB1.size)⟩
 have e1:clV op d f o s t lo hi=.nilIface:=by unfold clV;rw[if_neg h0,if_neg h1,if_neg h3,if_neg h2,if_neg h4]
 have e2:okO op=false:=by unfold okO;simp[h0,h1,h2,h3,h4]
 have e3:vE ⟨op,d,f,o,s,t,lo,hi⟩ l=false:=by unfold vE;simp only[];rw[if_neg h0,if_neg h1,if_neg h2,if_neg h3,if_neg h4]
 rw[e1,e2] at k79;rw[e3];clear e1 e2 e3 k222
 go_enter Tryz.func39,Tryz.ntmps39
 go_wp2_with (go_at_call 79;refine(k79 _).mono ?_;rintro ex w1 ⟨rfl,hb1⟩;have hB1:=(hB0 (.cells #[Value.int .i64 op,Value.string ⟨d.toArray⟩,Value.string ⟨f.toArray⟩,Value.string ⟨o.toArray⟩,Value.string ⟨s.toArray⟩,Value.string ⟨t.toArray⟩,Value.int .i64 lo,Value.int .i64 hi] 46)).trans (hb1.mono (hB0 (.cells #[Value.int .i64 op,Value.string ⟨d.toArray⟩,Value.string ⟨f.toArray⟩,Value.string ⟨o.toArray⟩,Value.string ⟨s.toArray⟩,Value.string ⟨t.toArray⟩,Value.int .i64 lo,Value.int .i64 hi] 46)).size))
 go_ret
 exact⟨rfl,hB1⟩
end Go.Proofs
namespace Go.Abs
open Go.Proofs Go.RowKit Go.Lib Go.Wd Go.Wire Go.Ex
theorem zjG (m:Dmd): ∀c∈zM m,c.sc=true:=by simp[zM,C.sc]
theorem c39 (m:Dmd) (l:List Pln) (hl:wU l):Spec Tryz.prog 39 [.agg (zM m),lst 3 (l.map zX)] (fun v=>v=.bool (vE m l)):=by
 refine⟨rN (by kernel_rfl),fun w Z vs hG hz ha=>?_⟩;obtain⟨vl⟩:=vs
 match vl,ha with
 |[],ha=>exact absurd ha.1 (by simp)
 |[_],ha=>exact absurd ha.1 (by simp)
 |_::_::_::_,ha=>exact absurd ha.1 (by simp)
 |[v,v2],ha=>
  obtain⟨us,rfl,hrow⟩:=(ha.2 0 _ v rfl rfl).2;have h2:PRep w Z (zF 3 (l.map zX)) v2:=(ha.2 1 _ v2 rfl rfl).2.2;obtain⟨ul⟩:=us;have hu:ul=(zM m).map wR:=dE (zjG m) hrow;subst hu;refine(zpD m l hl w hG v2 (kB hz h2)).mono ?_;rintro e w' ⟨rfl,hb⟩;exact⟨_,_,rfl,rfl,fun _=>rfl,oO hG (wB hb) (fun _=>rfl) (fun _=>⟨rfl,.bool _⟩)⟩
theorem uJ (L:List Dmd):C.normRows (L.map zM)=L.map zM:=yK (fun m=>by simp only[zM,C.normRow,C.norm]) L
theorem kH {L:List Dmd} {i:Nat} (h:i<L.length):(L.map zM).getD i []=[.int .i64 (L.getD i yI).op,.str (L.getD i yI).doc,.str (L.getD i yI).fld,.str (L.getD i yI).oth,.str (L.getD i yI).sec,.str (L.getD i yI).txt,.int .i64 (L.getD i yI).lo,.int .i64 (L.getD i yI).hi]:=by simp[List.getD,h,zM]
def pD (L:List Dmd) (p:List Pln) (n:Nat):List Int:=((List.range n).filter fun i=> !vE (L.getD i yI) p).map fun(i:Nat)=>(i:Int)
theorem zjH (L:List Dmd) (p:List Pln) (n:Nat):pD L p (n+1)=pD L p n++if vE (L.getD n yI) p=true then[] else[(n:Int)]:=by
 unfold pD;rw[YY,Y6,ZV];congr 1;rw[Xn,XK];cases h:vE (L.getD n yI) p
 ·simp
 ·simp
theorem zbu (L:List Dmd) (p:List Pln) (n:Nat):(pD L p n).length<=n:=by
 unfold pD;rw[Ze];exact ZX (Yr _ _) (by simp)
def dV (L:List Dmd) (p:List Pln):List Int:=(failP L p).map fun(i:Nat)=>(i:Int)
theorem zjI (L:List Dmd) (p:List Pln):dV L p=pD L p L.length:=rfl
theorem c15 (L:List Dmd) (p:List Pln) (hL:L.length<=1000000) (hp:wU p):Spec Tryz.prog 15 [lst 8 (L.map zM),lst 3 (p.map zX)] (fun v=>v=lst 1 (zG (dV L p))):=by
 refine Spec.of_awlP hf15 okf15 (by simp) fun S hS=>?_
 rw[zjI] at hS;simp only[zB,Qs,bne_iff_ne,ne_eq,Zb,Zn,Za,Ze,Ψ15];rw[uu f15l16.eq_1];refine zO (fun x:Nat×Option Bool=>[(1,lst 3 (p.map zX)),(5,.k (.own 5)),(8,lst 8 (L.map zM)),(9,.int .i64 L.length),(10,.int .i64 x.1)]) (fun x=>[(5,.arr 3 1 x.2 (zG (pD L p x.1)))]) (fun x=>x.1<=L.length) (fun x=>L.length-x.1) (0,some true) rfl rfl (Zy _) ?_;rintro⟨i,nl⟩ hi;simp only[] at hi;have hfl:=zbu L p i;by_cases hlt:i<L.length
 ·have d1:(i:Int)<L.length:=by omega
  have c4:IntKind.i64.wrap ((i:Int)+1)=(i:Int)+1:=wrap_in (by omega) (by omega);have hat:=kH hlt;have hs:=zjH L p i;generalize L.getD i yI=m at hat hs;have g1:=c39 m p hp;unfold zM at g1;cases hm:vE m p with
  |true=>
   rw[hm] at g1;rw[hm,if_pos rfl,Zi] at hs;simp only[d1,hat,zB,Qs,bne_iff_ne,ne_eq,Zi,Zb,Zn,Za,Ze,Ψ15];refine zD g1 ?_ (ha:=by simp only[Zj,Zo,zC,V.norm,C.norm,zS sJ,C.normRow]<;>rfl);simp only[c4,Qs,Za,Ψ15];exact Next.intro (i+1,nl) rfl (by simp[hs];rfl) (by simp only;omega) (by simp only;omega)
  |false=>
   rw[hm] at g1;rw[hm,if_neg (by simp)] at hs;simp only[d1,hat,zB,Qs,bne_iff_ne,ne_eq,Zi,Zb,Zn,Za,Ze,Ψ15];refine zD g1 ?_ (ha:=by simp only[Zj,Zo,zC,V.norm,C.norm,zS sJ,C.normRow]<;>rfl);simp only[c4,yF,Qs,forall_eq,bne_iff_ne,ne_eq,ZB,Zn,Zd,ZN,Za,Zq,Ψ15];refine⟨by omega,by omega,Next.intro (i+1,some false) rfl (by simp[hs,eY];rfl) (by simp only;omega) (by simp only;omega)⟩
 ·have d1: ¬(i:Int)<L.length:=by omega
  obtain rfl:i=L.length:=by omega
  simp only[d1,Qs,ZJ,Za,Zq,Ψ15];refine hS _ ?_;simp only[V.fz,V.fzL,V.nrm,V.nrmL,qG (wD _)]
  try rfl
end Go.Abs
namespace Go.Ex
open Go.Lib Go.Wd Go.Wire Go.Abs
def lkI (m:Dmd) (p:Pln) (i n:Nat):List Plc:=((List.range n).filter (mG m p)).map fun(k:Nat)=>⟨(i:Int),(k:Int)⟩
theorem zpE (m:Dmd) (p:Pln) (i n:Nat):lkI m p i (n+1)=lkI m p i n++if mG m p n=true then[⟨(i:Int),(n:Int)⟩] else[]:=by
 unfold lkI;rw[YY,Y6,ZV,Xn,XK];congr 1;split<;>rfl
theorem zpF (m:Dmd) (p:Pln) (i n:Nat):(lkI m p i n).length<=n:=by
 unfold lkI;rw[Ze];exact ZX (Yr _ _) (by simp)
end Go.Ex
namespace Go.Abs
open Go.Proofs Go.RowKit Go.Lib Go.Wd Go.Wire Go.Ex
def uD (c:Plc):List C:=[.int .i64 c.doc,.int .i64 c.fld]
def pls (l:List Plc):List (List C):=l.map uD
theorem vB (l:List Plc):(pls l).length=l.length:=by simp[pls]
theorem zpG (l:List Plc) (a b:Int):pls l++[[.int .i64 a,.int .i64 b]]=pls (l++[⟨a,b⟩]):=by simp[pls,uD]
theorem tH (l:List Plc):C.normRows (pls l)=pls l:=yK (fun m=>by simp only[uD,C.normRow,C.norm]) l
theorem c16 (m:Dmd) (l:List Pln) (hl:wU l):Spec Tryz.prog 16 [.agg (zM m),lst 3 (l.map zX)] (fun v=>v=lst 2 (pls (looksP m l))):=by
 refine Spec.of_awlP hf16 okf16 (by simp) fun S hS=>?_
 have hlen:=hl.1;unfold zM;unfold looksP at hS;by_cases ho1:m.op<=0
 ·rw[if_pos (.inl ho1)] at hS
  simp only[ho1,Qs,bne_iff_ne,ne_eq,BEq.rfl,ZJ,Zb,Zn,Zd,Za,Zq,Ψ16];exact hS _ rfl
 by_cases ho2:m.op>=5
 ·rw[if_pos (.inr ho2)] at hS
  simp only[ho1,ho2,Qs,bne_iff_ne,ne_eq,BEq.rfl,ZJ,Zb,Zn,Zd,Za,Zq,Ψ16];exact hS _ rfl
 rw[if_neg (by omega)] at hS;simp only[ho1,ho2,zB,Qs,bne_iff_ne,ne_eq,Zb,Zn,Zd,Za,Ze,Ψ16];rw[uu f16l35.eq_1];refine zO (fun x:Nat×List Plc×Option Bool=>[(2,.k (.c (.ro [.int .i64 m.op,.str m.doc,.str m.fld,.str m.oth,.str m.sec,.str m.txt,.int .i64 m.lo,.int .i64 m.hi] 0))),(5,.k (.own 5)),(21,lst 3 (l.map zX)),(22,.int .i64 l.length),(23,.int .i64 x.1)]) (fun x=>[(5,.arr 64 2 x.2.2 (pls x.2.1))]) (fun x=>x.1<=l.length/\x.2.1.length<=x.1*1000000/\x.2.1++looksL m (l.drop x.1) x.1=looksL m l 0) (fun x=>l.length-x.1) (0,[],some true) rfl rfl ⟨Zy _,by simp,by simp⟩ ?_;rintro⟨i,L,nl⟩ ⟨hi,hL,hD⟩;simp only[] at hi hL hD;by_cases hlt:i<l.length
 ·have d1:(i:Int)<l.length:=by omega
  have c4:IntKind.i64.wrap ((i:Int)+1)=(i:Int)+1:=wrap_in (by omega) (by omega);have hat:=qW hlt;rw[Zx hlt,looksL,<-Z3] at hD;have hp:=hl.2 _ (Zv hlt);generalize l[i]=p at hD hat hp;have hns:=hp.ns;simp only[d1,hat,zQ,Qs,bne_iff_ne,ne_eq,Zi,Zb,Zn,Zd,Za,Ze,Ψ16];rw[uu f16l23.eq_1];refine zO (fun x:Nat×Option Bool=>[(2,.k (.c (.ro [.int .i64 m.op,.str m.doc,.str m.fld,.str m.oth,.str m.sec,.str m.txt,.int .i64 m.lo,.int .i64 m.hi] 0))),(5,.k (.own 5)),(6,.int .i64 i),(7,.k (.c (.ro [.str p.kind,zF 1 (zK p.names),zF 1 (zK p.texts)] 0))),(21,lst 3 (l.map zX)),(22,.int .i64 l.length),(23,.int .i64 i),(29,lst 1 (zK p.names)),(30,.int .i64 p.names.length),(31,.int .i64 x.1)]) (fun x=>[(5,.arr 64 2 x.2 (pls (L++lkI m p i x.1)))]) (fun x=>x.1<=p.names.length) (fun x=>p.names.length-x.1) (0,nl) rfl (by simp[lkI];rfl) (Zy _) ?_;rintro⟨k,nl2⟩ hk;simp only[] at hk;have hlk:=zpF m p i k;by_cases hkl:k<p.names.length
  ·have dk:(k:Int)<p.names.length:=by omega
   have ck:IntKind.i64.wrap ((k:Int)+1)=(k:Int)+1:=wrap_in (by omega) (by omega);have hs:=zpE m p i k;have hgd:p.names.getD k []=p.names[k]:=by simp[List.getD,hkl]
   have hlB:mG m p k=((decide (fstN (fun x=>decide (p.names[k]=x)) p.names 0=(k:Int))&&decide (k<p.texts.length))&&((decide (p.kind=m.doc)&&decide (p.names[k]=m.fld))||(decide (m.op=3)&&(decide (p.kind=m.oth)&&decide (p.names[k]=m.sec))))):=by unfold mG;rw[hgd]
   have g1:=c40 p.names p.names[k] (big hns);have hsk:=vU hkl;generalize p.names[k]=nm at hlB g1 hsk;generalize fstN (fun x=>decide (nm=x)) p.names 0=j at hlB g1;have bq: ∀a b:Txt,(a==b)=decide (a=b):=fun a b=>by rw[Ye];simp
   have e1:(j==(k:Int))=decide (j=(k:Int)):=rfl;have e3:=bq p.kind m.doc;have e4:=bq nm m.fld;have e5:(m.op==3)=decide (m.op=3):=rfl;have e6:=bq p.kind m.oth;have e7:=bq nm m.sec;have H2:(k:Int)<p.texts.length/\decide (k<p.texts.length)=true\/ ¬(k:Int)<p.texts.length/\decide (k<p.texts.length)=false:=by
    by_cases h:k<p.texts.length
    ·exact .inl ⟨by omega,by simp[h]⟩
    ·exact .inr ⟨by omega,by simp[h]⟩
   generalize decide (k<p.texts.length)=a2 at hlB H2;generalize decide (j=(k:Int))=a1 at hlB e1;generalize decide (p.kind=m.doc)=a3 at hlB e3;generalize decide (nm=m.fld)=a4 at hlB e4;generalize decide (m.op=3)=a5 at hlB e5;generalize decide (p.kind=m.oth)=a6 at hlB e6;generalize decide (nm=m.sec)=a7 at hlB e7;rw[hlB] at hs;have K1:a1=false\/a1=true:=by cases a1<;>simp
   have K3:a3=false\/(a3=true/\a4=false)\/(a3=true/\a4=true):=by cases a3<;>cases a4<;>simp
   have K5:a5=false\/(a5=true/\a6=false)\/(a5=true/\a6=true/\a7=false)\/(a5=true/\a6=true/\a7=true):=by cases a5<;>cases a6<;>cases a7<;>simp
   simp only[dk,zQ,hsk,Qs,Zb,Zd,Za,Ψ16];refine zD g1 ?_ (ha:=by simp only[Zj,Zo,zC,V.norm,C.norm,zI,yM]<;>rfl);rcases K1 with rfl|rfl
   ·have hs0:=hs
    simp only[ZF,if_neg Bool.false_ne_true,Zi] at hs0;rcases K3 with rfl|⟨rfl,rfl⟩|⟨rfl,rfl⟩
    all_goals rcases K5 with rfl|⟨rfl,rfl⟩|⟨rfl,rfl,rfl⟩|⟨rfl,rfl,rfl⟩
    all_goals simp only[e1,e3,e4,e5,e6,e7,ck,Qs,Zb,Zd,Za,Ψ16]
    all_goals exact Next.intro (k+1,nl2) rfl (by simp[hs0];rfl) (by simp only;omega) (by simp only;omega)
   rcases H2 with⟨d2,rfl⟩|⟨d2,rfl⟩
   rotate_left
   ·have hs0:=hs
    simp only[Yo,ZF,if_neg Bool.false_ne_true,Zi] at hs0;rcases K3 with rfl|⟨rfl,rfl⟩|⟨rfl,rfl⟩
    all_goals rcases K5 with rfl|⟨rfl,rfl⟩|⟨rfl,rfl,rfl⟩|⟨rfl,rfl,rfl⟩
    all_goals simp only[e1,d2,e3,e4,e5,e6,e7,ck,zQ,Qs,Zb,Zd,Za,Ψ16]
    all_goals exact Next.intro (k+1,nl2) rfl (by simp[hs0];rfl) (by simp only;omega) (by simp only;omega)
   have hlb:(L++lkI m p i k).length+1<=1000000000001:=by
    rw[Zr];have:i*1000000<=1000000*1000000:=ZY _ (by omega);have h2:L.length<=999999*1000000:=ZX hL (ZY _ (by omega));omega
   rcases K3 with rfl|⟨rfl,rfl⟩|⟨rfl,rfl⟩
   all_goals rcases K5 with rfl|⟨rfl,rfl⟩|⟨rfl,rfl,rfl⟩|⟨rfl,rfl,rfl⟩
   all_goals simp only[Yo,ZF,Y9,ZC,YQ,Yd,Xd,YI,if_neg Bool.false_ne_true,if_true,Zi] at hs
   all_goals simp only[e1,d2,e3,e4,e5,e6,e7,ck,zQ,vB,Qs,zaJ,forall_eq,bne_iff_ne,ne_eq,Zi,ZB,Zb,Zn,Zd,ZN,Za,Zq,Ψ16]
   all_goals first
    |exact Next.intro (k+1,nl2) rfl (by simp[hs];rfl) (by simp only;omega) (by simp only;omega)
    |exact⟨by omega,by omega,Next.intro (k+1,some false) rfl (by rw[hs,zpG,Z3];rfl) (by simp only;omega) (by simp only;omega)⟩
  ·obtain rfl:k=p.names.length:=by omega
   have dk: ¬(p.names.length:Int)<p.names.length:=by omega
   have hq:lkI m p i p.names.length=qH m p i:=rfl;rw[hq] at hlk;simp only[dk,zQ,c4,hq,Qs,reduceCtorEq,Za,Ψ16];exact Next.intro (i+1,L++qH m p i,nl2) rfl rfl ⟨by simp only;omega,by simp only[Zr];rw[Xw];omega,hD⟩ (by simp only;omega)
 ·have d1: ¬(i:Int)<l.length:=by omega
  rw[ZE (by omega),looksL,Zi] at hD;rw[<-hD] at hS;simp only[d1,Qs,ZJ,Za,Zq,Ψ16];refine hS _ ?_;simp only[V.fz,V.fzL,V.nrm,V.nrmL,tH,qG (tH _)]
  try rfl
end Go.Abs
namespace Go.Ex
open Go.Lib Go.Wd Go.Wire Go.Abs
theorem zjJ: ∀{l:List Dcm} {acc:List Int} {n:Nat},(vZ l acc n).2.2=0->(vZ l acc n).1=acc++l.map (fun d=>(cntD d).1)/\(∀d∈l,(cntD d).2=0)/\(n<=4096->(vZ l acc n).2.1<=4096)/\(vZ l acc n).2.1=(l.foldl (fun a d=>a*(cntD d).1.toNat) n:Nat)
 |[],acc,n,_=>by simp[vZ];omega
 |d::l,acc,n,h=>by
  rw[vZ] at h⊢;split at h
  ·cases h
  ·rename_i hd
   rw[if_neg hd];have h2:(cntD d).2=0:=by
    by_cases q:(cntD d).2=0
    ·exact q
    ·exact absurd (.inl q) hd
   have hc:=iK (d:=d);obtain⟨a1,a2,a3,a4⟩:=zjJ h;refine⟨by rw[a1];simp,fun x hx=>?_,fun hn=>a3 ?_,by rw[a4];rfl⟩
   ·rcases ZB.1 hx with rfl|hx
    ·exact h2
    ·exact a2 x hx
   ·have: ¬(n:Int)*(cntD d).1>4096:=fun q=>hd (.inr q)
    obtain⟨c,hc2⟩: ∃c:Nat,(cntD d).1=c:=⟨(cntD d).1.toNat,by omega⟩;rw[hc2] at this⊢;simp only[Ym];have e:((n*c:Nat):Int)=(n:Int)*c:=Yq n c;omega
structure CntOk (D:List Dcm):Prop where
 len:D.length<=8
 l:(cnts D).1=D.map fun d=>(cntD d).1
 e: ∀d∈D,(cntD d).2=0
 n:(cnts D).2.1=(yY D:Nat)
 le:yY D<=4096
 p:yY D=D.foldl (fun a d=>a*(cntD d).1.toNat) 1
theorem vQ {D:List Dcm} (h:(cnts D).2.2=0):CntOk D:=by
 unfold cnts at h;split at h
 ·cases h
 ·rename_i h8
  split at h
  ·rename_i hf
   have hc:cnts D=vZ D [] 1:=by unfold cnts;rw[if_neg h8,if_pos hf]
   obtain⟨a1,a2,a3,a4⟩:=zjJ h;have hn:(cnts D).2.1=(yY D:Nat):=by unfold yY;rw[hc,a4];simp
   refine⟨by omega,by rw[hc,a1];simp,a2,hn,?_,?_⟩
   ·have:=a3 (by decide);rw[<-hc,hn] at this;omega
   ·have:=a4;rw[<-hc,hn] at this;omega
  ·rename_i hf;exact absurd h hf
theorem zjK {d:Dcm} (hd:DcmS d) (h:(cntD d).2=0):1<=(cntD d).1:=by
 have h0:=rP h;have hR:=qV hd h0;unfold cntD at h⊢;rw[if_pos h0] at h⊢;have key: ∀(l:List Fld) (n:Nat),1<=n->(∀f∈l,1<=yL f)->(wY l n).2=0->1<=(wY l n).1:=by
  intro l
  induction l with
  |nil=>intro n hn _ _;simp only[wY];omega
  |cons f l ih=>
   intro n hn hf h;rw[wY] at h⊢;split at h
   ·cases h
   ·rename_i hq
    rw[if_neg hq];exact ih _ (XG hn (hf f (by simp))) (fun x hx=>hf x (ZH _ hx)) h
 exact key d.flds 1 (ZA _) (fun f hf=>za1 (hR.fld hf)) h
theorem zbv {d:Dcm} {q:Nat} (h:(cntD d).2=0) (hq:(q:Int)<(cntD d).1):rdE d q=0:=by
 unfold rdE;rw[if_neg (by simp[h]),if_neg (by omega)]
theorem zjL {d:Dcm} {q:Nat} (h:(cntD d).2=0) (hq:(q:Int)<(cntD d).1):rdR d q=rdD d q:=by
 unfold rdR;rw[if_pos (zbv h hq)];simp
theorem zjM: ∀(D:List Dcm) (cs:List Nat) (i:Nat),cs.length=D.length->(xU D cs i).1.length=D.length
 |[],[],_,_=>rfl
 |d::D,c::cs,i,h=>by rw[xU,Zu,zjM D cs i (by simpa using h),Zu]
 |[],_::_,_,h=>by simp at h
 |_::_,[],_,h=>by simp at h
theorem zjN: ∀(D:List Dcm) (cs:List Nat) (i:Nat),(xU D cs i).2<=i
 |d::D,c::cs,i=>by rw[xU];exact ZX (Xk _ _) (zjN D cs i)
 |[],_,_=>by simp[xU]
 |_::_,[],_=>by simp[xU]
theorem zpH {D:List Dcm} {cs:List Nat} {i k:Nat} (hk:k<D.length) (hc:k<cs.length):xU (D.drop k) (cs.drop k) i=(rdD D[k] ((xU (D.drop (k+1)) (cs.drop (k+1)) i).2 % cs.getD k 0)::(xU (D.drop (k+1)) (cs.drop (k+1)) i).1,(xU (D.drop (k+1)) (cs.drop (k+1)) i).2/cs.getD k 0):=by
 have e:cs.getD k 0=cs[k]:=by simp[List.getD,hc]
 rw[Zx hk,Zx hc,xU,e]
end Go.Ex
namespace Go.Abs
open Go.Proofs Go.RowKit Go.Lib Go.Wd Go.Wire Go.Ex
def xR (l:List Pln):List (List C):=l.map zX
theorem sA (l:List Pln):(xR l).length=l.length:=by simp[xR]
theorem pE (l:List Pln):C.normRows (xR l)=xR l:=yK sJ l
theorem c38 (D:List Dcm) (hD:uT D) (hok:CntOk D) (i:Nat) (hi:i<yY D):Spec Tryz.prog 38 [lst 2 (D.map zV),lst 1 (zG (cnts D).1),.int .i64 i] (fun v=>v=lst 3 (xR (rdsD D i))):=by
 refine Spec.of_awlP hf38 okf38 (by simp) fun S hS=>?_
 have h8:=hok.len;have hle:=hok.le;have hcl:(cnts D).1.length=D.length:=by rw[hok.l];simp
 simp only[zB,Qs,znL,oL,zn0,bne_iff_ne,ne_eq,Zb,Zn,Za,Ze,Ψ38];have w0:IntKind.i64.wrap ((D.length:Int)-1)=(D.length:Int)-1:=wrap_in (by omega) (by omega);rw[w0];refine⟨by omega,by omega,by omega,?_⟩;obtain⟨zr,hzr⟩: ∃zr,[C.str [],C.list 0 (some true) [],C.list 0 (some true) []]=zr:=⟨_,rfl⟩;rw[hzr];have hcs:(xO D).length=D.length:=by unfold xO;rw[Ze,hcl]
 rw[uu f38l13.eq_1];refine zO (fun k:Nat=>[(0,lst 2 (D.map zV)),(1,lst 1 (zG (cnts D).1)),(2,.int .i64 ((xU (D.drop k) ((xO D).drop k) i).2:Nat)),(7,.k (.own 11)),(8,.int .i64 ((k:Int)-1))]) (fun k=>[(11,.arr 53 3 (some false) ((List.replicate D.length zr).take k++xR (xU (D.drop k) ((xO D).drop k) i).1))]) (fun k=>k<=D.length) (fun k=>k) D.length (by rw[ZE (ZA _)];rfl) (by rw[ZE (ZA _)];simp[xU,xR];rfl) (ZA _) ?_;intro k hk;by_cases hk0:k=0
 ·subst hk0
  have d1: ¬((0:Nat):Int)-1>=0:=by omega
  simp only[d1,Qs,Yp,ZJ,Za,Int.reduceGE,Int.reduceSub,Zq,Ψ38];refine hS _ ?_;simp only[V.fz,V.fzL,V.nrm,V.nrmL,pE,qG (pE _)]
  try rfl
 ·obtain⟨m,rfl⟩: ∃m,k=m+1:=⟨k-1,by omega⟩
  have hm:m<D.length:=by omega
  have d1:(m:Int)>=0:=by omega
  have d2:(m:Int)<D.length:=by omega
  have hmc:m<(xO D).length:=by omega
  have hml:m<(cnts D).1.length:=by omega
  have e6:((m+1:Nat):Int)-1=(m:Int):=by omega
  have hst:=zpH (i:=i) hm hmc;have hat:=mC hm;have hce:=hok.e _ (Zv hm);have hds:=hD.2 _ (Zv hm);have hcp:=zjK hds hce;have hci:(cnts D).1[m]=(cntD D[m]).1:=by simp[hok.l]
  have hia:=zog hml;rw[hci] at hia;have hcn:((xO D).getD m 0:Int)=(cntD D[m]).1:=by
   unfold xO;simp only[List.getD,ZD,Zk hml,hci,YF,Xs];omega
  have hqle:=zjN (D.drop (m+1)) ((xO D).drop (m+1)) i;have hpl:=zjM (D.drop (m+1)) ((xO D).drop (m+1)) i (by rw[List.length_drop,List.length_drop,hcs]);obtain⟨q,hq⟩: ∃q,(xU (D.drop (m+1)) ((xO D).drop (m+1)) i).2=q:=⟨_,rfl⟩;obtain⟨L,hL⟩: ∃L,(xU (D.drop (m+1)) ((xO D).drop (m+1)) i).1=L:=⟨_,rfl⟩;rw[hq] at hqle;rw[hL] at hpl;rw[hq,hL,e6];obtain⟨c,hc⟩: ∃c,(xO D).getD m 0=c:=⟨_,rfl⟩;rw[hc] at hcn;rw[hq,hL,hc] at hst;generalize D[m]=d at hat hce hds hcp hia hcn hst;rw[<-hcn] at hia hcp;have hc0: ¬(c:Int)=0:=by omega
  have hmod:q % c<c:=XH _ (by omega);have hr1:(q:Int).tmod (c:Int)=((q % c:Nat):Int):=(XJ q c).symm;have hr2:(q:Int).tdiv (c:Int)=((q/c:Nat):Int):=(XS q c).symm;have g1:=c78 d hds ((q % c:Nat):Int);rw[zjL hce (by rw[<-hcn];omega),zbv hce (by rw[<-hcn];omega)] at g1;unfold zV zX at g1;simp only[d1,d2,hat,zB,hia,yF,hml,hc0,hr1,hr2,Qs,fX,zfb,jV,ne_eq,Za,Ze,Ψ38,vv f38r5o0.eq_1,vv f38r5o1.eq_1,vv f38r5o2.eq_1,vv f38r5o3.eq_1,vv f38r5o4.eq_1,vv f38r5o5.eq_1,vv f38r5o6.eq_1,vv f38r5o7.eq_1,vv f38r5o8.eq_1,vv f38r5o9.eq_1,vv f38r5o10.eq_1,vv f38r5o11.eq_1,vv f38r5o12.eq_1,vv f38r5o13.eq_1,vv f38r5o14.eq_1,vv f38r5o15.eq_1,vv f38r5o16.eq_1,vv f38r5o17.eq_1,zoe,Ψ38];have hrl:((List.replicate D.length zr).take (m+1)++xR L).length=D.length:=by rw[Zr,Yk,List.length_replicate,sA,hpl,List.length_drop];omega
  have w2:IntKind.i64.wrap ((q/c:Nat):Int)=((q/c:Nat):Int):=by
   have hdl:=Xk q c;generalize q/c=t at hdl;exact wrap_in (by omega) (by omega)
  have w3:IntKind.i64.wrap ((m:Int)-1)=(m:Int)-1:=wrap_in (by omega) (by omega);refine⟨by omega,yT g1 ?_ (ha:=by simp only[Zj,Zo,zC,V.norm,C.norm,C.normRow,zS wS]<;>rfl)⟩;simp only[d1,d2,hat,zB,hia,yF,hml,hc0,hr1,hr2,hrl,w2,w3,Qs,zei,zej,fX,zek,eB,eD,oL,jU,zf3,zf4,znY,znZ,eS,eT,eU,ne_eq,Zb,Za];have hset:((List.replicate D.length zr).take (m+1)++xR L).set m [C.str (rdD d (q % c)).kind,zF 1 (zK (rdD d (q % c)).names),zF 1 (zK (rdD d (q % c)).texts)]=(List.replicate D.length zr).take m++xR (rdD d (q % c)::L):=by
   rw[List.take_replicate,List.take_replicate,Y8 (by omega),Y8 (by omega),List.replicate_succ',Z3,List.set_append_right _ _ (by simp),List.length_replicate,Nat.sub_self];rfl
  refine⟨by omega,Next.intro m (by rw[hst];rfl) (by rw[hst,hset];rfl) (by omega) (by omega)⟩
end Go.Abs
namespace Go.Ex
open Go.Lib Go.Wd Go.Wire Go.Abs
def readE (D:List Dcm) (i:Int):Int:=if (cnts D).2.2≠0 then(cnts D).2.2 else if i<0\/i>=(cnts D).2.1 then 4 else 0
def readP' (D:List Dcm) (i:Int):List Pln:=if readE D i=0 then rdsD D i.toNat else[]
end Go.Ex
namespace Go.Abs
open Go.Proofs Go.RowKit Go.Lib Go.Wd Go.Wire Go.Ex
theorem c14 (D:List Dcm) (hD:uT D) (i:Int):Spec Tryz.prog 14 [lst 2 (D.map zV),.int .i64 i] (fun v=>v=.tup [lst 3 (xR (readP' D i)),.int .i64 (readE D i)]):=by
 refine Spec.of_awlP hf14 okf14 (by simp) fun S hS=>?_
 have g1:=c37 D hD;have hE:readE D i=if (cnts D).2.2≠0 then(cnts D).2.2 else if i<0\/i>=(cnts D).2.1 then 4 else 0:=rfl
 by_cases h0:(cnts D).2.2=0
 ·have hok:=vQ h0
  have hn:=hok.n;rw[if_neg (by simp[h0])] at hE;rw[h0] at g1;by_cases hi0:i<0
  ·rw[if_pos (.inl hi0)] at hE
   have hr:readP' D i=[]:=by unfold readP';rw[hE];rfl
   rw[hr,hE] at hS;simp only[Qs,Zb,Za,Ψ14];refine yP g1 ?_ (ha:=by simp only[Zj,Zo,zC,V.norm,C.norm,zS yN]<;>rfl);simp only[hi0,Qs,BEq.rfl,Zi,ZJ,Zb,Yf,Za,Yw,Zq,Ψ14];exact hS _ rfl
  by_cases hi1:i>=(cnts D).2.1
  ·rw[if_pos (.inr hi1)] at hE
   have hr:readP' D i=[]:=by unfold readP';rw[hE];rfl
   rw[hr,hE] at hS;simp only[Qs,Zb,Za,Ψ14];refine yP g1 ?_ (ha:=by simp only[Zj,Zo,zC,V.norm,C.norm,zS yN]<;>rfl);simp only[hi0,hi1,Qs,BEq.rfl,Zi,ZJ,Zb,Yf,Za,Yw,Zq,Ψ14];exact hS _ rfl
  ·rw[if_neg (by omega)] at hE
   have hr:readP' D i=rdsD D i.toNat:=by unfold readP';rw[if_pos hE]
   rw[hr,hE] at hS;obtain⟨m,rfl⟩: ∃m:Nat,i=m:=⟨i.toNat,by omega⟩;have g2:=c38 D hD hok m (by omega);simp only[Ym] at hS;simp only[Qs,Zb,Za,Ψ14];refine yP g1 ?_ (ha:=by simp only[Zj,Zo,zC,V.norm,C.norm,zS yN]<;>rfl);simp only[hi0,hi1,Qs,Zi,Zb,Yf,Za,Yw,Ψ14];refine yP g2 ?_ (ha:=by simp only[Zj,Zo,zC,V.norm,C.norm,zS yN,zI,wD]<;>rfl);simp only[Qs,Zi,Za];refine hS _ ?_;simp only[pE,V.fz,V.fzL,V.nrm,V.nrmL,Abs.K.fz,Abs.K.nrm,zI]
   try rfl
 ·rw[if_pos h0] at hE
  have hr:readP' D i=[]:=by unfold readP';rw[hE,if_neg h0]
  rw[hr,hE] at hS;have h1:((cnts D).2.2 !=0)=true:=by simp[h0]
  simp only[Qs,Zb,Za,Ψ14];refine yP g1 ?_ (ha:=by simp only[Zj,Zo,zC,V.norm,C.norm,zS yN]<;>rfl);simp only[h1,Qs,BEq.rfl,Zi,ZJ,Zb,Yf,Za,Zq,Ψ14];exact hS _ rfl
end Go.Abs
