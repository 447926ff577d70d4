/- A part of the proof; the last text states what is proved. -/
import Derived.Test.YtpmicgjdckeejaaGreatDoorP4
import Derived.Deep.OwnRows
import Derived.WalkKit
import Derived.RangeFuncWrites
import Derived.RangeFuncNested
import Derived.Below
import Derived.RangeFuncBox
import Derived.RangeFuncLeaves
import Derived.Shelf.Abstract
import Derived.OwnWalkIn
import Derived.TacticsInMore
import Derived.LoopNIn
import Derived.LoopIn
import Derived.Test.YtpmicgjdckeejaaGreatDoorProg
import Derived.BigCall
import Derived.Deep.LoopGhost
import Derived.Shelf.Strings.BuilderK
import Derived.Shelf.Strings.Builder2
import Derived.Shelf.Strings.Split
import Derived.Shelf.Strings.Builder1
import Derived.Deep.QuietTactic
import Derived.BigQuiet
set_option linter.unusedVariables false
set_option linter.unusedSimpArgs false
set_option maxRecDepth 100000
set_option maxHeartbeats 4000000
open Array renaming eq_empty_of_size_eq_zero → YK,getElem?_eq_some_iff → Zo,getElem?_modify → Xd,getElem?_push → YD,getElem?_setIfInBounds → Yi,getElem?_toList → Yr,replicate_succ → YH,replicate_zero → YG
open Bool renaming and_eq_true → Zp,and_false → YP,eq_false_iff → YS,eq_iff_iff → Yn,false_and → ZO,false_eq_true → Z3,false_or → YA,not_eq_true' → Xq,or_eq_true → Ye,true_and → ZJ,true_or → XA
open Eq renaming refl → ZG,trans → ZN
open Int renaming natCast_mul → Yo,reduceLE → Ym,reduceNeg → Xf,toNat_natCast → Yf
open List renaming all_cons → Ys,all_eq_false → Yx,all_eq_true → Zw,all_nil → Xa,any_eq_true → YO,append_assoc → Z9,append_nil → Zk,append_toArray → YM,cons_append → ZR,drop_eq_getElem_cons → ZE,drop_eq_nil_of_le → ZA,eq_nil_of_length_eq_zero → Yb,exists_mem_of_ne_nil → Xu,flatten_cons → YE,foldl_append → Xp,foldl_cons → YF,getD_eq_getElem?_getD → Zi,getElem?_append_left → ZC,getElem?_append_right → ZD,getElem?_drop → Yz,getElem?_eq_getElem → Zh,getElem?_eq_none → Y2,getElem?_eq_some_iff → Zr,getElem?_map → Zv,getElem?_take → Z2,getElem_mem → Zy,getElem_of_mem → Y5,length_append → Zu,length_cons → Zn,length_map → Zg,length_nil → ZF,length_pos_iff → Yd,length_take → Yt,map_append → ZW,map_cons → Zl,map_nil → Zq,map_take → Xm,mem_append → YI,mem_cons → ZH,mem_cons_of_mem → Zz,mem_cons_self → Yh,mem_filter → Yl,mem_map → ZS,mem_of_getElem? → ZI,mem_range → Yc,mem_singleton → ZX,nil_append → Ya,nodup_cons → ZV,not_mem_nil → Zx,pairwise_cons → XF,push_toArray → YR,range_succ → XI,size_toArray → Yv,take_length → YN,take_of_length_le → Z6,take_succ_eq_append_getElem → ZQ
open List.Pairwise renaming nil → Xx
open List.Perm renaming refl → Xb
open Nat renaming add_comm → YX,add_mul → Yp,add_zero → Yk,div_le_self → Xl,eq_of_testBit_eq → Xo,le_of_not_lt → Xh,le_refl → Zs,le_trans → ZY,lt_of_lt_of_le → ZL,lt_or_ge → YW,mod_eq_of_lt → Xs,mod_lt → Xj,mul_assoc → XC,mul_le_mul → Xz,mul_le_mul_right → ZT,mul_one → YL,one_shiftLeft → Xr,pow_le_pow_right → Yu,reduceAdd → Zd,reduceBEq → Za,reduceEqDiff → Zt,reduceLT → Z5,reduceLeDiff → Zm,reduceMul → Yg,reduceSub → Y3,sub_zero → XE,succ_mul → Xi,testBit_and → Xv,zero_add → ZU,zero_le → ZB,zero_testBit → YV
open Option renaming map_eq_some_iff → Zc,map_some → Yq
namespace Go.Abs
open Go.Proofs Go.RowKit Go.Lib Go.Wd Go.Wire Go.Ex
def zJ (l:List Txt):List (List C):=l.map fun s=>[.str s]
@[simp] theorem yB (l:List Txt):(zJ l).length=l.length:=by simp[zJ]
theorem uI {l:List Txt} {i:Nat} (h:i<l.length):(zJ l).getD i []=[.str l[i]]:=by simp[zJ,h]
@[simp] theorem wD (l:List Txt):C.normRows (zJ l)=zJ l:=zP (fun _=>rfl) l
theorem u8r (c:UInt8):(0:Int)<=(c.toNat:Int)/\(c.toNat:Int)<=255:=by
 have:=c.toNat_lt;omega
theorem wJ {S:V->Prop} {x y:Bool} (h:S (.bool x)) (e:y=true ↔ x=true):S (.k (.c (.bool y))):=by
 rw[Yn.2 e];exact h
theorem zg8 (c:UInt8):Spec Tryz.prog 125 [.int .u8 (c.toNat:Int)] (fun v=>v=.bool (letB c)):=by
 refine Spec.of_awlS hf125 okf125 (by simp) fun S hS=>?_
 unfold letB at hS;generalize c.toNat=a at hS;simp only[Qs,Za,Ψ125]
 repeat' (apply And.intro<;>intro _)
 all_goals (refine wJ hS ?_;simp only[Ye,decide_eq_true_eq,Z3,true_iff,false_iff];omega)
theorem zg9 (c:UInt8):Spec Tryz.prog 160 [.int .u8 (c.toNat:Int)] (fun v=>v=.bool (digB c)):=by
 refine Spec.of_awlS hf160 okf160 (by simp) fun S hS=>?_
 unfold digB at hS;generalize c.toNat=a at hS;simp only[Qs,Za,Ψ160]
 repeat' (apply And.intro<;>intro _)
 all_goals (refine wJ hS ?_;simp only[Ye,decide_eq_true_eq,Z3,true_iff,false_iff];omega)
theorem zlH (c:UInt8):Spec Tryz.prog 127 [.int .u8 (c.toNat:Int)] (fun v=>v=.bool (uU c)):=by
 refine Spec.of_awlS hf127 okf127 (by simp) fun S hS=>?_
 have g1:=zg8 c;have g2:=zg9 c;unfold uU at hS;have hb:((c.toNat:Int)==95)=decide (c.toNat=95):=by
  rw[Yn];simp only[beq_iff_eq,decide_eq_true_eq];omega
 generalize letB c=x at g1 hS;generalize digB c=y at g2 hS;cases x with
 |true=>
  simp only[Qs,Za,Ψ127];refine zF g1 ?_ (ha:=by rfl);simp only[Qs,Za];exact hS
 |false=>
  simp only[Qs,Za,Ψ127];refine zF g1 ?_ (ha:=by rfl);simp only[Qs,Za];refine zF g2 ?_ (ha:=by rfl);cases y with
  |true=>
   simp only[Qs,Za];exact hS
  |false=>
   simp only[hb,Qs,Za];exact hS
theorem cX {g:Nat} {p:UInt8->Bool} (hg: ∀c:UInt8,Spec Tryz.prog g [.int .u8 (c.toNat:Int)] (fun v=>v=.bool (p c))) (s:Txt) (hl:s.length<=9223372036854775807):Spec Tryz.prog 126 [.str s,.k (.c (.fn g []))] (fun v=>v=.int .i64 (spanN p s:Nat)):=by
 refine Spec.of_awlS hf126 okf126 (by simp) fun S hS=>?_
 simp only[Qs,Zd,Ψ126];rw[uu f126l9.eq_1];refine yA (fun i:Nat=>[(0,.str s),(1,.k (.c (.fn g []))),(5,.int .i64 i)]) (fun _=>[]) (fun i=>i<=s.length/\spanN p s=i+spanN p (s.drop i)) (fun i=>s.length-i) 0 rfl rfl ⟨ZB _,by simp⟩ ?_;rintro i ⟨hi,hD⟩;by_cases hlt:i<s.length
 ·have c1:(i:Int)<s.length:=by omega
  have c4:IntKind.i64.wrap ((i:Int)+1)=(i:Int)+1:=wrap_in (by omega) (by omega);have hgt:s.getD i 0=s[i]:=by rw[Zi,Zh hlt];rfl
  have gi:=hg s[i];rw[zlG hlt] at hD;simp only[c1,hgt,Qs,iM,Za,Ψ126];refine pC gi ?_ (ha:=by rfl);cases hp:p s[i] with
  |true=>
   rw[if_pos hp] at hD;simp only[c4,Qs,Za,Ψ126];exact Next.intro (i+1) rfl rfl ⟨by omega,by omega⟩ (by omega)
  |false=>
   rw[if_neg (by rw[hp];simp)] at hD;rw[hD] at hS;simp only[Qs,Za,Ψ126];exact hS
 ·have c1: ¬(i:Int)<s.length:=by omega
  rw[ZA (by omega)] at hD;rw[hD] at hS;simp only[c1,Qs,iM,Za,Ψ126];exact hS
theorem c92 (s:Txt) (hl:s.length<=9223372036854775807):Spec Tryz.prog 92 [.str s] (fun v=>v=.bool (nameP s)):=by
 refine Spec.of_awlS hf92 okf92 (by simp) fun S hS=>?_
 have g2:=cX zlH s hl;unfold nameP at hS;by_cases h0:s=[]
 ·rw[decide_eq_false (fun q=>q h0)] at hS
  have e2:(s !=[])=false:=by simp[h0]
  simp only[e2,Qs,Za,Ym,Ψ92];exact⟨fun _=>hS,fun q=>absurd h0 q⟩
 ·have hlen:0<s.length:=Yd.2 h0
  have q0:(0:Int)<s.length:=by omega
  rw[decide_eq_true h0,ZJ] at hS;generalize hc:s.getD 0 0=c at hS;have g1:=zg8 c;generalize letB c=x at g1 hS;have h20:((s.length:Int)<=20)=(s.length<=20):=by rw[eq_iff_iff];omega
  have hq:(((spanN uU s:Nat):Int)=s.length)=(spanN uU s=s.length):=by rw[eq_iff_iff];omega
  simp only[q0,hc,Int.toNat_zero,Qs,Za,Ym,Ψ92];refine⟨fun q=>absurd q h0,fun _=>?_⟩;refine zF g1 ?_ (ha:=by rfl);cases x with
  |false=>
   simp only[Qs,Za];exact hS
  |true=>
   rw[ZJ] at hS;simp only[Qs,Za];refine⟨fun q=>?_,fun q=>?_⟩
   ·refine zF g2 ?_ (ha:=by rfl)
    rw[decide_eq_true (h20▸q),ZJ] at hS;simp only[Qs,Za];refine wJ hS ?_;rw[beq_iff_eq,decide_eq_true_eq,hq]
   ·rw[decide_eq_false (fun z=>q (h20▸z))] at hS
    exact hS
end Go.Abs
namespace Go.Abs
open Go.Proofs Go.RowKit
theorem Spec.of_awlP {P:Program} {f:FuncId} {n:Nat} {c:AQ} {rs:List RX} {args:List V} {X:V} (hc:zH P f=some ⟨n,c.erase,rs⟩) (hok:c.ok=true) (hlen:args.length<=n)
  (h: ∀S:V->Prop,(∀r,r.fz.nrm=X->S r)->awl P c (endK rs S) (initT 0 args) []):Spec P f args (fun r=>r=X):=
 (Spec.of_awl hc hok hlen (h (fun r=>r.fz.nrm=X) fun _ h=>h)).plain.mono (by rintro r' ⟨r,h,rfl⟩;exact h)
theorem rH {P:Program} {f:FuncId} (h:(match P.funcs[f]? with|some fn=>fn.body.isSome&& !(fn.name== "runtime.NumGoroutine")|none=>false)=true):sB P f:=by
 unfold sB;cases hf:P.funcs[f]? with
 |none=>rw[hf] at h;simp at h
 |some fn=>rw[hf] at h;simp only[Zp,Xq] at h;exact⟨fn,rfl,h.1,h.2⟩
theorem xM {w w':World} (h:Below w.heap.size w w'):xG w w':=⟨h.os,h.tape,h.output,h.size,h.block⟩
theorem iU {w w':World} (h:xG w w'):Below w.heap.size w w':=⟨h.os,h.tape,h.output,h.size,h.block⟩
def C.sc:C->Bool
 | .int _ _=>true
 | .bool _=>true
 | .str _=>true
 |_=>false
def wE:C->Value
 | .int k n=> .int k n
 | .bool b=> .bool b
 | .str s=> .string ⟨s.toArray⟩
 |_=> .bool false
theorem cY {w:World} {Z:Bk->Prop} {c:C} {v:Value} (hc:c.sc=true) (h:PRep w Z c v):v=wE c:=by
 cases h<;>first|rfl|cases hc
theorem zha {w:World} {Z:Bk->Prop} {c:C} (hc:c.sc=true):PRep w Z c (wE c):=by
 cases c<;>first|exact .int _ _|exact .bool _|exact .str _|cases hc
theorem zlI {c:C} (hc:c.sc=true):(wE c).oneCell'=true:=(zha (w:=default) (Z:=fun _=>False) hc).oneCell
theorem zhb {α:Type} {sz:Nat} (h0:0<sz): ∀(rows:List (List α)) (k:Nat) (c:α),(∀r,r∈rows->r.length=sz)->rows.flatten[k]?=some c-> ∃i j r,rows[i]?=some r/\r[j]?=some c/\k=i*sz+j
 |[],k,c,_,h=>by simp at h
 |r::rows,k,c,hl,h=>by
  have hr:=hl r Yh;rw[YE] at h;by_cases hk:k<sz
  ·rw[ZC (by omega)] at h
   exact⟨0,k,r,rfl,h,by omega⟩
  ·rw[ZD (by omega)] at h
   obtain⟨i,j,r',h1,h2,h3⟩:=zhb h0 rows (k-r.length) c (fun r' hr'=>hl r' (Zz _ hr')) h;exact⟨i+1,j,r',h1,h2,by rw[Yp];omega⟩
theorem zhc {α:Type} {sz:Nat}: ∀(rows:List (List α)) (i j:Nat) (r:List α) (c:α),(∀r,r∈rows->r.length=sz)->rows[i]?=some r->r[j]?=some c->rows.flatten[i*sz+j]?=some c
 |[],i,j,r,c,_,h,_=>by simp at h
 |r0::rows,0,j,r,c,hl,h,hc=>by
  cases h;have hj:=(Zr.1 hc).1;rw[YE,Nat.zero_mul,ZU,ZC hj];exact hc
 |r0::rows,i+1,j,r,c,hl,h,hc=>by
  have hr:=hl r0 Yh;rw[YE,Yp,ZD (by omega),show i*sz+1*sz+j-r0.length=i*sz+j by omega];exact zhc rows i j r c (fun r' hr'=>hl r' (Zz _ hr')) h hc
theorem zhd {α:Type} {sz:Nat}: ∀(rows:List (List α)),(∀r,r∈rows->r.length=sz)->rows.flatten.length=rows.length*sz
 |[],_=>by simp
 |r0::rows,hl=>by
  rw[YE,Zu,zhd rows fun r' hr'=>hl r' (Zz _ hr'),hl r0 Yh,Zn,Yp];omega
def qA (rows:List (List C)):List Value:=rows.flatten.map wE
structure Plain (sz:Nat) (rows:List (List C)):Prop where
 pos:0<sz
 len: ∀r,r∈rows->r.length=sz
 sc: ∀r,r∈rows-> ∀c,c∈r->c.sc=true
theorem Plain.clen {sz:Nat} {rows:List (List C)} (h:Plain sz rows):(qA rows).length=rows.length*sz:=by
 rw[qA,Zg,zhd rows h.len]
theorem Plain.one {sz:Nat} {rows:List (List C)} (h:Plain sz rows): ∀u∈qA rows,u.oneCell'=true:=by
 intro u hu;obtain⟨c,hc,rfl⟩:=ZS.1 hu;obtain⟨r,hr,hcr⟩:=List.mem_flatten.1 hc;exact zlI (h.sc r hr c hcr)
theorem Plain.at {sz:Nat} {rows:List (List C)} (h:Plain sz rows) {i j:Nat} {r:List C} {c:C} (hr:rows[i]?=some r) (hc:r[j]?=some c):(qA rows)[i*sz+j]?=some (wE c)/\c.sc=true:=by
 refine⟨?_,h.sc r (ZI hr) c (ZI hc)⟩;rw[qA,Zv,zhc rows i j r c h.len hr hc];rfl
theorem Plain.slice {sz:Nat} {rows:List (List C)} (h:Plain sz rows) {w:World} {Z:Bk->Prop} {v:Value} (hv:PRep w Z (zC sz rows) v):
  ∃p cap,v=.slice p rows.length cap/\(0<rows.length-> ∃b o,p=some ⟨b,o,none⟩/\ ∀j u,(qA rows)[j]?=some u->w.cell? ⟨b,o+j,none⟩=some u)/\(0<rows.length->rows.length<=cap):=by
 unfold zC at hv;by_cases h0:rows=[]
 ·subst h0
  have h':PRep w Z (.list 0 none []) v:=hv;generalize hc:C.list 0 none []=c at h';cases h' with
  |nil=>exact⟨none,0,rfl,fun hk=>absurd hk (by simp),fun hk=>absurd hk (by simp)⟩
  |emp _ _ a=>exact⟨some a,0,rfl,fun hk=>absurd hk (by simp),fun hk=>absurd hk (by simp)⟩
  |list b o cap sz nl rws val=>
   injection hc with _ _ hr
   subst hr;exact⟨some ⟨b,o,none⟩,cap,rfl,fun hk=>absurd hk (by simp),fun hk=>absurd hk (by simp)⟩
  |_=>cases hc
 ·have e:(if rows.isEmpty=true then 0 else sz)=sz:=by cases rows<;>simp_all
  rw[e] at hv;generalize hc:C.list sz none rows=c at hv;cases hv with
  |nil=>injection hc with _ _ hr;exact absurd hr h0
  |emp=>injection hc with _ _ hr;exact absurd hr h0
  |list b o cap sz nl rws val h1 h2 h3 h4 h5 h6 h7=>
   injection hc with hs _ hr
   subst hs hr;refine⟨some ⟨b,o,none⟩,cap,rfl,fun _=>⟨b,o,rfl,fun k u hu=>?_⟩,fun _=>h2⟩;rw[qA,Zv] at hu;obtain⟨c,hc,rfl⟩:=Zc.1 hu;obtain⟨i,j,r,g1,g2,rfl⟩:=zhb h.pos rows k c h.len hc;rw[h6 i j r c g1 g2,cY (h.sc r (ZI g1) c (ZI g2)) (h7 i j r c g1 g2)]
  |_=>cases hc
structure Row (w w':World) (e sz:Nat) (rows:List (List C)) (g:Nat) (cap:Nat):Prop where
 fresh:w.heap.size<=g
 ex: ∃cur,w'.heap[g]?=some (.cells cur e (0,0))/\cur.size=cap*sz/\ ∀(i j:Nat) r c,rows[i]?=some r->r[j]?=some c-> ∃v,cur[i*sz+j]?=some v/\ ∀Z,PRep w' Z c v
 pos:0<sz
 le:rows.length<=cap
 max:cap<=maxLen
 len: ∀r,r∈rows->r.length=sz
theorem Row.orep {w w':World} {e sz:Nat} {rows:List (List C)} {g cap:Nat} (h:Row w w' e sz rows g cap) {Z:Bk->Prop} {κ:Kap} {o:Nat->Option O} {τ:Nat} (hκ:κ τ=some g):xA w' Z κ o τ (.arr e sz none rows):=by
 obtain⟨cur,h1,h2,h3⟩:=h.ex;exact .inr ⟨g,cur,cap,hκ,h1,h.pos,h2,h.le,h.max,by simp,h.len,fun i j r c hr hc=>by obtain⟨v,hv,hp⟩:=h3 i j r c hr hc;exact⟨v,hv,hp _⟩⟩
theorem tb1 {n τ:Nat} {a x:O} (h:zS n [a] τ=some x):τ=n/\x=a:=by
 unfold zS at h;split at h
 ·rename_i hle
  obtain⟨k,rfl⟩: ∃k,τ=n+k:=⟨τ-n,by omega⟩;rw[Nat.add_sub_cancel_left] at h
  match k,h with
  |0,h=>simp at h;exact⟨rfl,h.symm⟩
  |k+1,h=>simp at h
 ·cases h
theorem zpU {n τ:Nat} {a:O} (h:zS n [a] τ≠none):τ=n:=by
 cases e:zS n [a] τ with
 |none=>exact absurd e h
 |some x=>exact(tb1 e).1
abbrev zpV (w w':World) (e sz:Nat) (rows:List (List C)) (v:Value):Prop:=(v=.slice none 0 0/\rows=[])\/ ∃g cap,v=.slice (some ⟨g,0,none⟩) rows.length cap/\Row w w' e sz rows g cap
theorem zpA {w w':World} {Z:Bk->Prop} {e sz:Nat} {rows:List (List C)} {v:Value} (hG:yI (base w)) (hk:xG w w') (h:zpV w w' e sz rows v):mN (base w) Z (.k (.newl e sz none rows)) v w':=by
 intro n;obtain⟨k,hk1,hk2⟩: ∃k:Option Nat,((k=none/\v=.slice none 0 0/\rows=[])\/ ∃g cap,k=some g/\v=.slice (some ⟨g,0,none⟩) rows.length cap/\Row w w' e sz rows g cap)/\(∀b,k=some b->w.heap.size<=b/\b<w'.heap.size):=by
  rcases h with⟨a,b⟩|⟨g,cap,a,b⟩
  ·exact⟨none,.inl ⟨rfl,a,b⟩,fun _ h=>by cases h⟩
  ·obtain⟨cur,hc,_⟩:=b.ex
   exact⟨some g,.inr ⟨g,cap,rfl,a,b⟩,fun _ h=>by cases h;exact⟨b.fresh,xV hc⟩⟩
 refine⟨fun _=>k,hk,hG,fun τ b ho h=>?_,fun τ τ' b ho ho' h h'=>?_,fun τ ob h=>?_,fun s=>?_⟩
 ·have:=hk2 b h
  exact⟨Nat.not_lt.2 this.1,this.2⟩
 ·exact(zpU ho).trans (zpU ho').symm
 ·obtain⟨rfl,rfl⟩:=tb1 h
  rcases hk1 with⟨a,b,c⟩|⟨g,cap,a,b,c⟩
  ·exact .inl ⟨a,c,by simp⟩
  ·exact c.orep a
 ·by_cases hs:s=0
  ·subst hs
   simp only[if_true];refine⟨by rcases hk1 with⟨_,rfl,_⟩|⟨_,_,_,rfl,_⟩<;>rfl,fun e' sz' nl' rows' h=>?_⟩;obtain⟨_,h2⟩:=tb1 h;cases h2;rcases hk1 with⟨a,b,c⟩|⟨g,cap,a,b,c⟩
   ·exact .inl ⟨a,b⟩
   ·obtain⟨cur,hc,hz,_⟩:=c.ex
    exact .inr ⟨g,cur,cap,a,hc,hz,b⟩
  ·simp only[hs,if_false];trivial
theorem zpB {w w':World} {e sz n:Nat} {rows:List (List C)} {v:Value} (h:Plain sz rows) (hw:w'.ownsRow w.heap.size e sz v n (qA rows)) (hn:n=rows.length):zpV w w' e sz rows v:=by
 subst hn;rcases hw.2 with⟨h1,h2⟩|⟨g2,cap,cur,h1,h2,h3,h4,h5,h6,h7⟩
 ·exact .inl ⟨h1,Yb h2⟩
 ·refine .inr ⟨g2,cap,h1,h2,⟨cur,h3,h6,fun i j r c hr hc=>⟨wE c,?_,fun Z=>zha (h.at hr hc).2⟩⟩,h.pos,h4,h5,h.len⟩
  have:=(h.at hr hc).1;rw[<-h7,Z2] at this;split at this
  ·simpa using this
  ·cases this
theorem zlJ (l:List Int):Plain 1 (zM l):=by
 refine⟨by decide,fun r hr=>?_,fun r hr c hc=>?_⟩<;>obtain⟨s,_,rfl⟩:=ZS.1 hr
 ·rfl
 ·simp at hc;subst hc;rfl
end Go.Abs
set_option maxRecDepth 100000
set_option maxHeartbeats 4000000
namespace Go.Proofs
open Go.Shelf Go.RowKit Go.Lib Go.Wd Go.Wire Go.Ex
def vV (r:Nat):Bool:=decide (r<33)||decide (r>126)
theorem zlK (r:Nat) (W:World):FnGives Tryz.prog 98 #[] #[encR r] (.bool (vV r)) W:=by
 show Calls Tryz.prog 98 #[.int .i32 (r:Int)] W _;by_cases h1:r<33
 ·have c1:(r:Int)<33:=by omega
  have e:vV r=true:=by simp[vV,h1]
  rw[e]
  go_enter Tryz.func98,Tryz.ntmps98
  go_wp2
  go_ret
  exact⟨rfl,0,rfl⟩
 ·have c1: ¬(r:Int)<33:=by omega
  by_cases h2:r>126
  ·have c2:(r:Int)>126:=by omega
   have e:vV r=true:=by simp[vV,h1,h2]
   rw[e]
   go_enter Tryz.func98,Tryz.ntmps98
   go_wp2
   go_ret
   exact⟨rfl,0,rfl⟩
  ·have c2: ¬(r:Int)>126:=by omega
   have e:vV r=false:=by simp[vV,h1,h2]
   rw[e]
   go_enter Tryz.func98,Tryz.ntmps98
   go_wp2
   go_ret
   exact⟨rfl,0,rfl⟩
theorem zlL (s:ByteArray) (i:Nat) (h:(s.get! i).toNat<128):Utf8.decode s i=((s.get! i).toNat,1):=by
 unfold Utf8.decode;simp only[Yk];rw[if_pos h]
theorem zlM (s:ByteArray) (i:Nat) (h: ¬(s.get! i).toNat<128):128<=(Utf8.decode s i).1:=by
 unfold Utf8.decode Utf8.runeError;simp only[Yk,Zp,decide_eq_true_eq]
 repeat' split
 all_goals simp only
 all_goals omega
theorem zlN (s:Txt) (i:Nat) (h:i<s.length):(⟨s.toArray⟩:ByteArray).get! i=s[i]:=by
 show(s.toArray)[i]! =s[i];simp[h]
theorem zhe (s:Txt): ∀(f pos:Nat),s.length-pos<=f->(Lib.idxFuncFrom vV true ⟨s.toArray⟩ f pos<0 ↔ (s.drop pos).all vL=true)
 |0,pos,h=>by
  rw[ZA (by omega)];simp[Lib.idxFuncFrom]
 |f+1,pos,h=>by
  unfold Lib.idxFuncFrom;have hs:(⟨s.toArray⟩:ByteArray).size=s.length:=rfl;rw[hs];by_cases hp:pos<s.length
  ·rw[if_pos hp,ZE hp,Ys,Zp]
   have hg:=zlN s pos hp;by_cases h8:(s[pos]).toNat<128
   ·rw[zlL _ _ (by rw[hg];exact h8),hg]
    by_cases hb:vV (s[pos]).toNat=true
    ·rw[if_pos hb]
     have: ¬vL s[pos]=true:=fun q=>by
      unfold vL at q;unfold vV at hb;rw[decide_eq_true_eq] at q;rw[Ye,decide_eq_true_eq,decide_eq_true_eq] at hb;omega
     exact⟨fun q=>absurd q (by omega),fun q=>absurd q.1 this⟩
    ·rw[if_neg hb]
     have:vL s[pos]=true:=by
      unfold vL;unfold vV at hb;rw[Ye,decide_eq_true_eq,decide_eq_true_eq] at hb;rw[decide_eq_true_eq];omega
     rw[zhe s f (pos+1) (by omega)];exact⟨fun q=>⟨this,q⟩,fun q=>q.2⟩
   ·have hd:=zlM ⟨s.toArray⟩ pos (by rw[hg];exact h8)
    have hb:vV (Utf8.decode ⟨s.toArray⟩ pos).1=true:=by
     unfold vV;rw[Ye,decide_eq_true_eq,decide_eq_true_eq];omega
    rw[if_pos hb];have: ¬vL s[pos]=true:=fun q=>by
     unfold vL at q;rw[decide_eq_true_eq] at q;omega
    exact⟨fun q=>absurd q (by omega),fun q=>absurd q.1 this⟩
  ·rw[if_neg hp,ZA (by omega)]
   simp
end Go.Proofs
namespace Go.Abs
open Go.Proofs Go.RowKit Go.Lib Go.Wd Go.Wire Go.Ex
def sigI (s:Txt):Int:=Lib.idxFunc vV true ⟨s.toArray⟩
theorem zlO (s:Txt):sigI s<0 ↔ s.all vL=true:=zhe s s.length 0 (by omega)
theorem c97 (s:Txt):Spec Tryz.prog 97 [.str s,.k (.c (.fn 98 []))] (fun v=>v=.int .i64 (sigI s)):=by
 refine⟨rH (by kernel_rfl),fun w Z vs hG hz ha=>?_⟩;obtain⟨vl⟩:=vs
 match vl,ha with
 |[],ha=>exact absurd ha.1 (by simp)
 |[_],ha=>exact absurd ha.1 (by simp)
 |_::_::_::_,ha=>exact absurd ha.1 (by simp)
 |[v,v2],ha=>
  have e1:=uQ (ha.2 0 _ v rfl rfl).2.2;subst e1;have h2:PRep w Z (.fn 98 []) v2:=(ha.2 1 _ v2 rfl rfl).2.2;obtain⟨lb,rfl,hlb⟩: ∃lb:Array Value,v2=.func (.func 98) #[] lb/\lb.size=0:=by
   cases h2 with
   |fn _ _ vs _ hs _ _=>exact⟨vs,rfl,hs⟩
  obtain rfl:lb= #[]:=YK hlb;refine(Any.strings_IndexFunc Tryz.laysIdxF 98 #[] (enters_of Tryz.func98 (by kernel_rfl) rfl) vV ⟨s.toArray⟩ w (fun W x _=>zlK x W)).mono ?_;rintro e w' ⟨rfl,hb⟩;exact⟨_,_,rfl,rfl,fun _=>rfl,oG hG (xM hb) (fun _=>rfl) (fun _=>⟨rfl,.int _ _⟩)⟩
theorem c59 (s:Txt):Spec Tryz.prog 59 [.str s] (fun v=>v=.bool (vM s)):=by
 refine Spec.of_awlS hf59 okf59 (by simp) fun S hS=>?_
 have g:=c97 s;have hn:=zlO s;generalize sigI s=k at g hn;unfold vM at hS;simp only[Qs,Za,Ψ59];refine⟨fun q=>?_,fun q=>⟨fun h20=>?_,fun h20=>?_⟩⟩
 ·rw[decide_eq_false (fun z=>z q)] at hS;exact hS
 ·refine zF g ?_ (ha:=by rfl)
  rw[decide_eq_true q,decide_eq_true (by omega),ZJ,ZJ] at hS;simp only[Qs,Za];exact wJ hS (by rw[decide_eq_true_eq,hn])
 ·rw[decide_eq_true q,decide_eq_false (by omega)] at hS;exact hS
end Go.Abs
set_option maxRecDepth 100000
set_option maxHeartbeats 4000000
namespace Go.Abs
open Go.Proofs Go.RowKit Go.Lib Go.Wd Go.Wire Go.Ex
theorem zlP (s:Txt) (hl:s.length<=9223372036854775807):Spec Tryz.prog 129 [.str s] (fun v=>v=.bool (!vM s)):=by
 refine Spec.of_awlS hf129 okf129 (by simp) fun S hS=>?_
 simp only[Qs,Za,Ψ129];refine zF (c59 s) ?_ (ha:=by rfl);simp only[Qs];exact hS
theorem c58 (s:Txt):Spec Tryz.prog 58 [.str s] (fun v=>v=.bool (!vM s)):=by
 refine Spec.of_awlS hf58 okf58 (by simp) fun S hS=>?_
 simp only[Qs,Za,Ψ58];refine zF (c59 s) ?_ (ha:=by rfl);simp only[Qs];exact hS
def fstN {α:Type} (p:α->Bool):List α->Nat->Int
 |[],_=> -1
 |x::l,i=>if p x=true then(i:Int) else fstN p l (i+1)
theorem oJ {α:Type} {p:α->Bool} {l:List α} {i:Nat} (h:i<l.length):fstN p (l.drop i) i=if p l[i]=true then(i:Int) else fstN p (l.drop (i+1)) (i+1):=by
 rw[ZE h,fstN]
theorem pE {α:Type} {p:α->Bool}: ∀(l:List α) (i:Nat),fstN p l i>=0 ↔ l.any p=true
 |[],i=>by simp[fstN]
 |x::l,i=>by
  rw[fstN,List.any_cons];by_cases h:p x=true
  ·rw[if_pos h,h];simp
  ·rw[if_neg h,pE l (i+1)];simp[h]
theorem c96 {g:Nat} {p:Txt->Bool} (l:List Txt) (hg: ∀s∈l,Spec Tryz.prog g [.str s] (fun v=>v=.bool (p s))) (hl:l.length<=9223372036854775807):Spec Tryz.prog 96 [lst 1 (zJ l),.k (.c (.fn g []))] (fun v=>v=.int .i64 (fstN p l 0)):=by
 refine Spec.of_awlS hf96 okf96 (by simp) fun S hS=>?_
 simp only[yB,Qs,Zd,Za,Ψ96];rw[uu f96l17.eq_1];refine yA (fun i:Nat=>[(0,lst 1 (zJ l)),(1,.k (.c (.fn g []))),(7,.int .i64 l.length),(8,.int .i64 i)]) (fun _=>[]) (fun i=>i<=l.length/\fstN p (l.drop i) i=fstN p l 0) (fun i=>l.length-i) 0 rfl rfl ⟨ZB _,by simp⟩ ?_;rintro i ⟨hi,hD⟩;by_cases hlt:i<l.length
 ·have c1:(i:Int)<l.length:=by omega
  have c4:IntKind.i64.wrap ((i:Int)+1)=(i:Int)+1:=wrap_in (by omega) (by omega);have gi:=hg l[i] (Zy hlt);rw[oJ hlt] at hD;simp only[c1,yB,uI hlt,Qs,Za,Ψ96];refine pC gi ?_ (ha:=by rfl);cases hp:p l[i] with
  |true=>
   rw[if_pos hp] at hD;rw[<-hD] at hS;simp only[Qs,Za,Ψ96];exact hS
  |false=>
   rw[if_neg (by rw[hp];simp)] at hD;simp only[c4,Qs,Za,Ψ96];exact Next.intro (i+1) rfl rfl ⟨by omega,hD⟩ (by omega)
 ·have c1: ¬(i:Int)<l.length:=by omega
  rw[ZA (by omega)] at hD;rw[<-hD] at hS;simp only[c1,Qs,Xf,Za,Ψ96];exact hS
theorem c57 {g:Nat} {p:Txt->Bool} (l:List Txt) (hg: ∀s∈l,Spec Tryz.prog g [.str s] (fun v=>v=.bool (p s))) (hl:l.length<=9223372036854775807):Spec Tryz.prog 57 [lst 1 (zJ l),.k (.c (.fn g []))] (fun v=>v=.bool (l.any p)):=by
 refine Spec.of_awlS hf57 okf57 (by simp) fun S hS=>?_
 have g1:=c96 l hg hl;have hp:=pE (p:=p) l 0;generalize fstN p l 0=x at g1 hp;simp only[Qs,Zd,Za,Ψ57];refine zF g1 ?_ (ha:=by simp only[Zl,Zq,zB,V.norm,zO,C.norm,wD]<;>rfl);simp only[Qs];refine wJ hS ?_;rw[decide_eq_true_eq];exact hp
theorem c40 (l:List Txt) (s:Txt) (hl:l.length<=9223372036854775807):Spec Tryz.prog 40 [lst 1 (zJ l),.str s] (fun v=>v=.int .i64 (fstN (fun x=>decide (s=x)) l 0)):=by
 refine Spec.of_awlS hf40 okf40 (by simp) fun S hS=>?_
 simp only[yB,Qs,Zd,Za,Ψ40];rw[uu f40l17.eq_1];refine yA (fun i:Nat=>[(0,lst 1 (zJ l)),(1,.str s),(7,.int .i64 l.length),(8,.int .i64 i)]) (fun _=>[]) (fun i=>i<=l.length/\fstN (fun x=>decide (s=x)) (l.drop i) i=fstN (fun x=>decide (s=x)) l 0) (fun i=>l.length-i) 0 rfl rfl ⟨ZB _,by simp⟩ ?_;rintro i ⟨hi,hD⟩;by_cases hlt:i<l.length
 ·have c1:(i:Int)<l.length:=by omega
  have c4:IntKind.i64.wrap ((i:Int)+1)=(i:Int)+1:=wrap_in (by omega) (by omega);rw[oJ hlt] at hD;by_cases he:s=l[i]
  ·have e1:(s==l[i])=true:=by simpa using he
   rw[if_pos (decide_eq_true he)] at hD;rw[<-hD] at hS;simp only[c1,e1,yB,uI hlt,Qs,Za,Ψ40];exact hS
  ·have e1:(s==l[i])=false:=by simpa using he
   rw[if_neg (by rw[decide_eq_false he];simp)] at hD;simp only[c1,c4,e1,yB,uI hlt,Qs,Za,Ψ40];exact Next.intro (i+1) rfl rfl ⟨by omega,hD⟩ (by omega)
 ·have c1: ¬(i:Int)<l.length:=by omega
  rw[ZA (by omega)] at hD;rw[<-hD] at hS;simp only[c1,Qs,Xf,Za,Ψ40];exact hS
theorem zlQ (l:List Txt) (s:Txt) (hl:l.length<=9223372036854775807):Spec Tryz.prog 130 [lst 1 (zJ l),.str s] (fun v=>v=.bool (decide (s∈l))):=by
 refine Spec.of_awlS hf130 okf130 (by simp) fun S hS=>?_
 have g1:=c40 l s hl;have hp:=pE (p:=fun x=>decide (s=x)) l 0;generalize fstN (fun x=>decide (s=x)) l 0=x at g1 hp;simp only[Qs,Zd,Za,Ψ130];refine zF g1 ?_ (ha:=by simp only[Zl,Zq,zB,V.norm,zO,C.norm,wD]<;>rfl);simp only[Qs];refine wJ hS ?_;rw[decide_eq_true_eq,decide_eq_true_eq,hp,YO];simp
theorem zlR (l:List Txt) (i:Nat):(zJ l).take i=zJ (l.take i):=by simp[zJ,Xm]
theorem cZ (l:List Txt) (i:Nat):rZ l (i+1)=(rZ l i||decide (l.getD i []∈l.take i)):=rfl
theorem zhf (l:List Txt): ∀{i j:Nat},i<=j->rZ l i=true->rZ l j=true:=fun{i j} h=>by
 induction h with
 |refl=>exact id
 |step _ ih=>intro q;rw[cZ,ih q];rfl
theorem c95 (l:List Txt) (hw: ∀s∈l,s.length<=9223372036854775807) (hl:l.length<=9223372036854775807):Spec Tryz.prog 95 [.agg [zC 1 (zJ l)]] (fun v=>v=.int .i64 (wI l)):=by
 refine Spec.of_awlS hf95 okf95 (by simp) fun S hS=>?_
 unfold wI at hS;by_cases h4:l.length>4
 ·rw[if_pos h4] at hS
  have c1:(l.length:Int)>4:=by omega
  simp only[yB,c1,Qs,Za,Ψ95];exact hS
 rw[if_neg h4] at hS;have c1: ¬(l.length:Int)>4:=by omega
 by_cases h0:l=[]
 ·rw[if_pos h0] at hS
  have c2:((l.length:Int)==0)=true:=by simp[h0]
  simp only[yB,c1,c2,Qs,Za,Ψ95];exact hS
 rw[if_neg h0] at hS;have c2:((l.length:Int)==0)=false:=by
  have:=Yd.2 h0;exact beq_false_of_ne (by omega)
 have g1:=c57 (g:=129) (p:=fun s=> !vM s) l (fun s hs=>zlP s (hw s hs)) hl;by_cases hv:l.all vM=true
 ·have ha:(l.any fun s=> !vM s)=false:=by
   rw[List.any_eq_false];intro x hx;have:=Zw.1 hv x hx;simp[this]
  rw[if_pos hv] at hS;rw[ha] at g1;simp only[yB,c1,c2,Qs,Za,Ψ95];refine zF g1 ?_ (ha:=by simp only[Zl,Zq,zB,V.norm,zO,C.norm,wD]<;>rfl);simp only[yB,Qs,Za,Ψ95];rw[uu f95l17.eq_1];refine yA (fun i:Nat=>[(3,lst 1 (zJ l)),(19,.int .i64 l.length),(20,.int .i64 i)]) (fun _=>[]) (fun i=>i<=l.length/\rZ l i=false) (fun i=>l.length-i) 0 rfl rfl ⟨ZB _,rfl⟩ ?_;rintro i ⟨hi,hD⟩;by_cases hlt:i<l.length
  ·have d1:(i:Int)<l.length:=by omega
   have c4:IntKind.i64.wrap ((i:Int)+1)=(i:Int)+1:=wrap_in (by omega) (by omega);have gc:=zlQ (l.take i) l[i] (by rw[Yt];omega);have hgd:l.getD i []=l[i]:=by rw[Zi,Zh hlt];rfl
   have hsu:=cZ l i;rw[hD,hgd,YA] at hsu;simp only[d1,c4,yB,uI hlt,zlR,Qs,zcZ,zeg,lO,Za,Ym,Ψ95];refine⟨by omega,?_⟩;refine rG gc ?_ (ha:=by simp only[Zl,Zq,zB,V.norm,C.norm,wD]<;>rfl);by_cases hm:l[i]∈l.take i
   ·rw[decide_eq_true hm] at hsu
    rw[if_pos (zhf l (by omega:i+1<=l.length) hsu)] at hS;simp only[decide_eq_true hm,Qs,Ψ95];exact hS
   ·rw[decide_eq_false hm] at hsu
    simp only[decide_eq_false hm,c4,Qs,Za,Ψ95];exact Next.intro (i+1) rfl rfl ⟨by omega,hsu⟩ (by omega)
  ·have d1: ¬(i:Int)<l.length:=by omega
   obtain rfl:i=l.length:=by omega
   rw[if_neg (by rw[hD];simp)] at hS;simp only[d1,Qs,Za,Ψ95];exact hS
 ·have ha:(l.any fun s=> !vM s)=true:=by
   rw[YO];obtain⟨x,hx,hq⟩:=Yx.1 (YS.2 hv);exact⟨x,hx,by simpa using hq⟩
  rw[if_neg hv] at hS;rw[ha] at g1;simp only[yB,c1,c2,Qs,Za,Ψ95];refine zF g1 ?_ (ha:=by simp only[Zl,Zq,zB,V.norm,zO,C.norm,wD]<;>rfl);simp only[Qs,Ψ95];exact hS
def xX (w:List Txt):List C:=[zC 1 (zJ w)]
def zR (f:Fld):List C:=[.str f.name,zC 1 (f.words.map xX)]
def zV (d:Dcm):List C:=[.str d.kind,zC 2 (d.flds.map zR)]
@[simp] theorem oK (w:List Txt):C.normRow (xX w)=xX w:=by simp only[xX,C.normRow,zO,wD]
@[simp] theorem wO (f:Fld):C.normRow (zR f)=zR f:=by
  simp only[zR,C.normRow,yG oK];rfl
@[simp] theorem yU (d:Dcm):C.normRow (zV d)=zV d:=by
  simp only[zV,C.normRow,yG wO];rfl
theorem lX {l:List (List Txt)} {i:Nat} (h:i<l.length):(l.map xX).getD i []=[zC 1 (zJ l[i])]:=by simp[xX,h]
theorem oL {l:List Fld} {i:Nat} (h:i<l.length):(l.map zR).getD i []=[.str l[i].name,zC 1 (l[i].words.map xX)]:=by simp[zR,h]
structure FldS (f:Fld):Prop where
 nm:f.name.length<=9223372036854775807
 ws:f.words.length<=9223372036854775807
 sp: ∀w∈f.words,w.length<=9223372036854775807/\ ∀s∈w,s.length<=9223372036854775807
structure DcmS (d:Dcm):Prop where
 kd:d.kind.length<=9223372036854775807
 fs:d.flds.length<=9223372036854775807
 fl: ∀f∈d.flds,FldS f
theorem c94 (f g:Fld):Spec Tryz.prog 94 [.agg (zR g),.k (.c (.ro (zR f) 0))] (fun v=>v=.bool (decide (g.name=f.name))):=by
 refine Spec.of_awlS hf94 okf94 (by simp) fun S hS=>?_
 unfold zR;simp only[Qs,Zd,Zm,Za,Ψ94];refine wJ hS ?_;simp
theorem zlS (f:Fld) (l:List Fld) (hl:l.length<=9223372036854775807):Spec Tryz.prog 128 [lst 2 (l.map zR),.k (.c (.fn 94 [.ro (zR f) 0]))] (fun v=>v=.int .i64 (fstN (fun g=>decide (g.name=f.name)) l 0)):=by
 refine Spec.of_awlS hf128 okf128 (by simp) fun S hS=>?_
 simp only[zI,Qs,Zd,Za,Zg,Ψ128];rw[uu f128l17.eq_1];refine yA (fun i:Nat=>[(0,lst 2 (l.map zR)),(1,.k (.c (.fn 94 [.ro (zR f) 0]))),(7,.int .i64 l.length),(8,.int .i64 i)]) (fun _=>[]) (fun i=>i<=l.length/\fstN (fun g=>decide (g.name=f.name)) (l.drop i) i=fstN (fun g=>decide (g.name=f.name)) l 0) (fun i=>l.length-i) 0 rfl rfl ⟨ZB _,by simp⟩ ?_;rintro i ⟨hi,hD⟩;by_cases hlt:i<l.length
 ·have c1:(i:Int)<l.length:=by omega
  have c4:IntKind.i64.wrap ((i:Int)+1)=(i:Int)+1:=wrap_in (by omega) (by omega);have gi:=c94 f l[i];rw[oJ hlt] at hD;simp only[c1,zI,oL hlt,Qs,Za,Zg,Ψ128];refine pC gi ?_ (ha:=by simp only[Zl,Zq,ZR,Ya,zB,V.norm,C.norm,wO,zR,C.normRow,yG oK]<;>rfl);by_cases he:l[i].name=f.name
  ·rw[if_pos (decide_eq_true he)] at hD
   rw[<-hD] at hS;simp only[decide_eq_true he,Qs,Za,Ψ128];exact hS
  ·rw[if_neg (by rw[decide_eq_false he];simp)] at hD
   simp only[decide_eq_false he,c4,Qs,Za,Ψ128];exact Next.intro (i+1) rfl rfl ⟨by omega,hD⟩ (by omega)
 ·have c1: ¬(i:Int)<l.length:=by omega
  rw[ZA (by omega)] at hD;rw[<-hD] at hS;simp only[c1,Qs,Xf,Za,Ψ128];exact hS
theorem c93 (f:Fld) (l:List Fld) (hl:l.length<=9223372036854775807):Spec Tryz.prog 93 [lst 2 (l.map zR),.k (.c (.fn 94 [.ro (zR f) 0]))] (fun v=>v=.bool (l.any fun g=>decide (g.name=f.name))):=by
 refine Spec.of_awlS hf93 okf93 (by simp) fun S hS=>?_
 have g1:=zlS f l hl;have hp:=pE (p:=fun g:Fld=>decide (g.name=f.name)) l 0;generalize fstN (fun g:Fld=>decide (g.name=f.name)) l 0=x at g1 hp;simp only[Qs,Zd,Za,Ψ93];refine zF g1 ?_ (ha:=by simp only[Zl,Zq,zB,V.norm,C.norm,yG wO,C.normRow,wO]<;>rfl);simp only[Qs];exact wJ hS (by rw[decide_eq_true_eq];exact hp)
end Go.Abs
set_option maxRecDepth 100000
set_option maxHeartbeats 8000000
namespace Go.Abs
open Go.Proofs Go.RowKit Go.Lib Go.Wd Go.Wire Go.Ex
theorem nW {f:Nat->Int} {n i:Nat} (h:i<n):xL f (n-i) i=if f i=0 then xL f (n-(i+1)) (i+1) else f i:=by
 obtain⟨k,hk⟩: ∃k,n-i=k+1:=⟨n-i-1,by omega⟩;rw[hk,show n-(i+1)=k by omega,xL]
theorem bB (l:List Fld) (i:Nat):(l.map zR).take i=(l.take i).map zR:=by simp[Xm]
theorem c55 (d:Dcm) (hd:DcmS d):Spec Tryz.prog 55 [.agg (zV d)] (fun v=>v=.int .i64 (docE d)):=by
 refine Spec.of_awlS hf55 okf55 (by simp) fun S hS=>?_
 have g1:=c92 d.kind hd.kd;have hfs:=hd.fs;unfold docE at hS;unfold zV;cases hk:nameP d.kind with
 |false=>
  rw[hk] at g1;rw[if_neg (by rw[hk];simp)] at hS;simp only[Qs,Zd,Zm,Za,Ψ55];refine zF g1 ?_ (ha:=by rfl);simp only[Qs,Ψ55];exact hS
 |true=>
  rw[hk] at g1;rw[if_pos hk] at hS;by_cases h12:d.flds.length>12
  ·rw[if_pos h12] at hS
   have c1:(d.flds.length:Int)>12:=by omega
   simp only[Qs,Zd,Zm,Za,Ψ55];refine zF g1 ?_ (ha:=by rfl);simp only[zI,c1,Qs,Zd,Za,Zg,Ψ55];exact hS
  ·rw[if_neg h12] at hS
   have c1: ¬(d.flds.length:Int)>12:=by omega
   simp only[Qs,Zd,Zm,Za,Ψ55];refine zF g1 ?_ (ha:=by rfl);simp only[zI,c1,Qs,Zd,Za,Zg,Ψ55];rw[uu f55l49.eq_1];refine yA (fun i:Nat=>[(1,.k (.c (.ro [.str d.kind,zC 2 (d.flds.map zR)] 0))),(17,lst 2 (d.flds.map zR)),(18,.int .i64 d.flds.length),(19,.int .i64 i)]) (fun _=>[]) (fun i=>i<=d.flds.length/\xL (wN d.flds) (d.flds.length-i) i=xL (wN d.flds) d.flds.length 0) (fun i=>d.flds.length-i) 0 rfl rfl ⟨ZB _,rfl⟩ ?_;rintro i ⟨hi,hD⟩;by_cases hlt:i<d.flds.length
   ·have d1:(i:Int)<d.flds.length:=by omega
    have c4:IntKind.i64.wrap ((i:Int)+1)=(i:Int)+1:=wrap_in (by omega) (by omega);rw[nW hlt] at hD;have hat:=oL hlt;have hgd:d.flds.getD i yT=d.flds[i]:=by rw[Zi,Zh hlt];rfl
    have hf:=hd.fl _ (Zy hlt);have hE:wN d.flds i=(if nameP d.flds[i].name=true then(if (d.flds.take i).any (fun g=>decide (g.name=d.flds[i].name))=true then 5 else if d.flds[i].words.length>8 then 6 else xL (fun k=>wI (d.flds[i].words.getD k [])) d.flds[i].words.length 0) else 2):=by
     unfold wN;simp only[hgd]
    generalize d.flds[i]=f at hat hf hE;have g2:=c92 f.name hf.nm;have g3:=c93 f (d.flds.take i) (by rw[Yt];omega);have hbad: ∀e:Int,wN d.flds i=e->e≠0->S (.int .i64 e):=fun e h1 h2=>by
     rw[h1,if_neg h2] at hD;rw[<-hD] at hS;exact hS
    cases hn:nameP f.name with
    |false=>
     rw[hn] at g2;rw[if_neg (by rw[hn];simp)] at hE;simp only[d1,hat,zI,Qs,Zk,Zd,Zm,Za,Zg,Ψ55];refine zF g2 ?_ (ha:=by rfl);simp only[Qs,Ψ55];exact hbad 2 hE (by decide)
    |true=>
     rw[hn] at g2;rw[if_pos hn] at hE;rw[show zR f=[.str f.name,zC 1 (f.words.map xX)] from rfl] at g3;cases ht:(d.flds.take i).any (fun g=>decide (g.name=f.name)) with
     |true=>
      rw[ht] at g3;rw[if_pos ht] at hE;simp only[d1,hat,zI,Qs,Zk,Zd,Zm,Za,Zg,Ψ55];refine zF g2 ?_ (ha:=by rfl);simp only[bB,zI,Qs,lF,zeg,lO,Zd,Za,Zg,Ym,zgK,zgL,zgM,zgN,zgO,Ψ55];refine⟨by omega,?_⟩;refine zF g3 ?_ (ha:=by simp only[Zl,Zq,zB,V.norm,C.norm,C.normRow,yG wO,yG oK,zP wO]<;>rfl);simp only[Qs,Ψ55];exact hbad 5 hE (by decide)
     |false=>
      rw[ht] at g3;rw[if_neg (by rw[ht];simp)] at hE;by_cases h8:f.words.length>8
      ·rw[if_pos h8] at hE
       have d2:(f.words.length:Int)>8:=by omega
       simp only[d1,hat,zI,Qs,Zk,Zd,Zm,Za,Zg,Ψ55];refine zF g2 ?_ (ha:=by rfl);simp only[bB,zI,Qs,lF,zeg,lO,Zd,Za,Zg,Ym,zgK,zgL,zgM,zgN,zgO,Ψ55];refine⟨by omega,?_⟩;refine zF g3 ?_ (ha:=by simp only[Zl,Zq,zB,V.norm,C.norm,C.normRow,yG wO,yG oK,zP wO]<;>rfl);simp only[zI,d2,Qs,Zd,Za,Zg,Ψ55];exact hbad 6 hE (by decide)
      ·rw[if_neg h8] at hE
       have d2: ¬(f.words.length:Int)>8:=by omega
       simp only[d1,hat,zI,Qs,Zk,Zd,Zm,Za,Zg,Ψ55];refine zF g2 ?_ (ha:=by rfl);simp only[bB,zI,Qs,lF,zeg,lO,Zd,Za,Zg,Ym,zgK,zgL,zgM,zgN,zgO,Ψ55];refine⟨by omega,?_⟩;refine zF g3 ?_ (ha:=by simp only[Zl,Zq,zB,V.norm,C.norm,C.normRow,yG wO,yG oK,zP wO]<;>rfl);simp only[zI,d2,Qs,Zd,Za,Zg,Ψ55];rw[uu f55l20.eq_1];refine yA (fun k:Nat=>[(1,.k (.c (.ro [.str d.kind,zC 2 (d.flds.map zR)] 0))),(17,lst 2 (d.flds.map zR)),(18,.int .i64 d.flds.length),(19,.int .i64 i),(42,lst 1 (f.words.map xX)),(43,.int .i64 f.words.length),(44,.int .i64 k)]) (fun _=>[]) (fun k=>k<=f.words.length/\xL (fun k=>wI (f.words.getD k [])) (f.words.length-k) k=wN d.flds i) (fun k=>f.words.length-k) 0 rfl rfl ⟨ZB _,hE.symm⟩ ?_;rintro k ⟨hk2,hD3⟩;by_cases hlk:k<f.words.length
       ·have d3:(k:Int)<f.words.length:=by omega
        have c5:IntKind.i64.wrap ((k:Int)+1)=(k:Int)+1:=wrap_in (by omega) (by omega);have haw:=lX hlk;have hwg:f.words.getD k []=f.words[k]:=by rw[Zi,Zh hlk];rfl
        have hws:=hf.sp _ (Zy hlk);rw[nW hlk,hwg] at hD3;generalize f.words[k]=w at haw hws hD3;have g4:=c95 w hws.2 hws.1;simp only[d3,haw,zI,Qs,Zk,Za,Zg,Ψ55];refine zF g4 ?_ (ha:=by simp only[Zl,Zq,zB,V.norm,C.norm,C.normRow,zO,wD]<;>rfl);by_cases hw0:wI w=0
        ·have w0:(wI w !=0)=false:=by simp[hw0]
         rw[if_pos hw0] at hD3;simp only[w0,c5,Qs,Za,Ψ55];exact Next.intro (k+1) rfl rfl ⟨by omega,hD3⟩ (by omega)
        ·have w0:(wI w !=0)=true:=by simp[hw0]
         rw[if_neg hw0] at hD3;simp only[w0,Qs,Za,Ψ55];exact hbad (wI w) hD3.symm hw0
       ·have d3: ¬(k:Int)<f.words.length:=by omega
        rw[show f.words.length-k=0 by omega] at hD3;have hz:wN d.flds i=0:=hD3.symm;rw[if_pos hz] at hD;simp only[d3,c4,Qs,reduceCtorEq,Zt,Za,Ψ55];exact Next.intro (i+1) rfl rfl ⟨by omega,hD⟩ (by omega)
   ·have d1: ¬(i:Int)<d.flds.length:=by omega
    rw[show d.flds.length-i=0 by omega] at hD;have hD2:0=xL (wN d.flds) d.flds.length 0:=hD;rw[<-hD2] at hS;simp only[d1,Qs,Za,Ψ55];exact hS
end Go.Abs
set_option maxRecDepth 100000
set_option maxHeartbeats 4000000
namespace Go.Ex
open Go.Lib Go.Wd Go.Wire
theorem zlT {c:UInt8} (h:letB c=true):uU c=true:=by unfold uU;rw[h];rfl
theorem zlU (s:Txt):nameP s=(decide (s≠[])&&(decide (s.length<=20)&&(letB (s.getD 0 0)&&(s.drop 1).all uU))):=by
 unfold nameP;cases s with
 |nil=>rfl
 |cons c t=>
  have e:decide (spanN uU (c::t)=(c::t).length)=(c::t).all uU:=by rw[Yn,decide_eq_true_eq,cW]
  rw[e];simp only[List.getD_cons_zero,List.drop_one,List.tail_cons,Ys];cases h:letB c with
  |false=>simp
  |true=>rw[zlT h];simp
theorem zlV (c:UInt8):vL c=true ↔ 33<=c.toNat/\c.toNat<=126:=by unfold vL;rw[decide_eq_true_eq]
end Go.Ex
namespace Go.Abs
open Go.Proofs Go.RowKit Go.Lib Go.Wd Go.Wire Go.Ex
theorem zhg (c:UInt8):Spec Tryz.prog 113 [.int .u8 (c.toNat:Int)] (fun v=>v=.bool (letB c)):=by
 refine Spec.of_awlS hf113 okf113 (by simp) fun S hS=>?_
 unfold letB at hS;generalize c.toNat=a at hS;simp only[Qs,Za,Ψ113]
 repeat' (apply And.intro<;>intro _)
 all_goals (refine wJ hS ?_;simp only[Ye,decide_eq_true_eq,Z3,true_iff,false_iff];omega)
theorem zlW (c:UInt8):Spec Tryz.prog 114 [.int .u8 (c.toNat:Int)] (fun v=>v=.bool (digB c)):=by
 refine Spec.of_awlS hf114 okf114 (by simp) fun S hS=>?_
 unfold digB at hS;generalize c.toNat=a at hS;simp only[Qs,Za,Ψ114]
 repeat' (apply And.intro<;>intro _)
 all_goals (refine wJ hS ?_;simp only[Ye,decide_eq_true_eq,Z3,true_iff,false_iff];omega)
theorem zhh {s:Txt} {i:Nat} (h:i<s.length):s.getD i 0=s[i]:=by rw[Zi,Zh h];rfl
theorem c80 (s:Txt) (hl:s.length<=9223372036854775807):Spec Tryz.prog 80 [.str s] (fun v=>v=.bool (nameP s)):=by
 refine Spec.of_awlS hf80 okf80 (by simp) fun S hS=>?_
 rw[zlU] at hS;by_cases h0:s=[]
 ·subst h0
  simp only[ZF,Int.natCast_zero,Qs,Za,Int.reduceLT,Ψ80];exact hS
 have hp:0<s.length:=Yd.2 h0;rw[decide_eq_true h0,ZJ] at hS;have c1: ¬(s.length:Int)<1:=by omega
 by_cases h20:s.length<=20
 ·rw[decide_eq_true h20,ZJ] at hS
  have c2: ¬(s.length:Int)>20:=by omega
  have c3:(0:Int)<s.length:=by omega
  have g0:=zhg (s.getD 0 0);simp only[c1,c2,c3,Int.toNat_zero,Qs,Za,Ym,Ψ80];refine zF g0 ?_ (ha:=by rfl);cases hb:letB (s.getD 0 0) with
  |false=>
   rw[hb] at hS;simp only[Qs,Za,Ψ80];exact hS
  |true=>
   rw[hb,ZJ] at hS;simp only[Qs,Za,Ψ80];rw[uu f80l15.eq_1];refine yA (fun i:Nat=>[(0,.str s),(3,.int .i64 i)]) (fun _=>[]) (fun i=>1<=i/\i<=s.length/\(s.drop i).all uU=(s.drop 1).all uU) (fun i=>s.length-i) 1 rfl rfl ⟨Zs _,hp,rfl⟩ ?_;rintro i ⟨hi1,hi,hD⟩;by_cases hlt:i<s.length
   ·have d1:(i:Int)<s.length:=by omega
    have c4:IntKind.i64.wrap ((i:Int)+1)=(i:Int)+1:=wrap_in (by omega) (by omega);have hgt:=zhh hlt;have g1:=zhg s[i];have g2:=zlW s[i];rw[ZE hlt,Ys] at hD;have hI:uU s[i]=(letB s[i]||(digB s[i]||decide (s[i].toNat=95))):=rfl;have hu:((s[i].toNat:Int) !=95)= !decide (s[i].toNat=95):=by
     rw[Yn,bne_iff_ne,Xq,decide_eq_false_iff_not];omega
    rw[hI] at hD;generalize s[i]=c at hgt g1 g2 hD hu;simp only[d1,hgt,Qs,Za,Ψ80];refine zF g1 ?_ (ha:=by rfl);cases x1:letB c with
    |true=>
     rw[x1,XA,ZJ] at hD;simp only[c4,Qs,Za,Ψ80];exact Next.intro (i+1) rfl rfl ⟨by omega,by omega,hD⟩ (by omega)
    |false=>
     rw[x1,YA] at hD;simp only[d1,hgt,Qs,Za];refine zF g2 ?_ (ha:=by rfl);cases x2:digB c with
     |true=>
      rw[x2,XA,ZJ] at hD;simp only[c4,Qs,Za,Ψ80];exact Next.intro (i+1) rfl rfl ⟨by omega,by omega,hD⟩ (by omega)
     |false=>
      rw[x2,YA] at hD;cases x3:decide (c.toNat=95) with
      |true=>
       rw[x3,ZJ] at hD;rw[x3] at hu;simp only[d1,hgt,hu,c4,Bool.not_true,Qs,Za,Ψ80];exact Next.intro (i+1) rfl rfl ⟨by omega,by omega,hD⟩ (by omega)
      |false=>
       rw[x3,ZO] at hD;rw[x3] at hu;rw[<-hD] at hS;simp only[d1,hgt,hu,Bool.not_false,Qs,Za,Ψ80];exact hS
   ·have d1: ¬(i:Int)<s.length:=by omega
    rw[ZA (by omega)] at hD;rw[<-hD] at hS;simp only[d1,Qs,Za,Ψ80];exact hS
 ·rw[decide_eq_false h20,ZO] at hS
  have c2:(s.length:Int)>20:=by omega
  simp only[c1,c2,Qs,Za,Ψ80];exact hS
theorem zlX (s:Txt) (hl:s.length<=9223372036854775807):Spec Tryz.prog 115 [.str s] (fun v=>v=.bool (vM s)):=by
 refine Spec.of_awlS hf115 okf115 (by simp) fun S hS=>?_
 unfold vM at hS;simp only[Qs,Ψ115];rw[uu f115l15.eq_1];refine yA (fun i:Nat=>[(0,.str s),(3,.int .i64 i)]) (fun _=>[]) (fun i=>i<=s.length/\(s.drop i).all vL=s.all vL) (fun i=>s.length-i) 0 rfl rfl ⟨ZB _,rfl⟩ ?_;rintro i ⟨hi,hD⟩;by_cases hlt:i<s.length
 ·have d1:(i:Int)<s.length:=by omega
  have c4:IntKind.i64.wrap ((i:Int)+1)=(i:Int)+1:=wrap_in (by omega) (by omega);have hgt:=zhh hlt;rw[ZE hlt,Ys] at hD;have hI:=zlV s[i];generalize s[i]=c at hgt hD hI;by_cases h1:(c.toNat:Int)<33
  ·have hf:vL c=false:=by rw[YS];intro h;have:=hI.1 h;omega
   rw[hf,ZO] at hD;rw[<-hD,YP,YP] at hS;simp only[d1,h1,hgt,Qs,Za,Ψ115];exact hS
  ·by_cases h2:(c.toNat:Int)>126
   ·have hf:vL c=false:=by rw[YS];intro h;have:=hI.1 h;omega
    rw[hf,ZO] at hD;rw[<-hD,YP,YP] at hS;simp only[d1,h1,h2,hgt,Qs,Za,Ψ115];exact hS
   ·have hf:vL c=true:=hI.2 (by omega)
    rw[hf,ZJ] at hD;simp only[d1,h1,h2,c4,hgt,Qs,Za,Ψ115];exact Next.intro (i+1) rfl rfl ⟨by omega,hD⟩ (by omega)
 ·have d1: ¬(i:Int)<s.length:=by omega
  rw[ZA (by omega)] at hD;rw[<-hD,Xa,Bool.and_true] at hS;by_cases h0:s=[]
  ·have c1: ¬(s.length:Int)>=1:=by rw[h0];decide
   rw[decide_eq_false (fun q=>q h0)] at hS;simp only[d1,c1,Qs,Za,Ψ115];exact hS
  ·have hp:0<s.length:=Yd.2 h0
   rw[decide_eq_true h0,ZJ] at hS;have c1:(s.length:Int)>=1:=by omega
   by_cases h20:s.length<=20
   ·have c2:(s.length:Int)<=20:=by omega
    rw[decide_eq_true h20] at hS;simp only[d1,c1,c2,Qs,Za,Ψ115];exact hS
   ·have c2: ¬(s.length:Int)<=20:=by omega
    rw[decide_eq_false h20] at hS;simp only[d1,c1,c2,Qs,Za,Ψ115];exact hS
end Go.Abs
set_option maxRecDepth 100000
set_option maxHeartbeats 8000000
namespace Go.Abs
open Go.Proofs Go.RowKit Go.Lib Go.Wd Go.Wire Go.Ex
def uV (l:List (List Txt)):Nat:=(l.map List.length).foldl (· * ·) 1
theorem iV {l:List (List Txt)} {i:Nat} (h:i<l.length):uV (l.take (i+1))=uV (l.take i)*l[i].length:=by
 unfold uV;rw[List.take_add_one,Zh h,Option.toList_some,ZW,Xp];rfl
theorem iW {l:List (List Txt)} (h8:l.length<=8) (h4: ∀w∈l,w.length<=4): ∀i,i<=l.length->uV (l.take i)<=4 ^ i
 |0,_=>by simp[uV]
 |i+1,h=>by
  rw[iV (by omega),Nat.pow_succ];exact Xz (iW h8 h4 i (by omega)) (h4 _ (Zy _))
structure FldR (f:Fld):Prop where
 s:FldS f
 ws:f.words.length<=8
 sp: ∀w∈f.words,1<=w.length/\w.length<=4
theorem bC {l:List Txt} (h:wI l=0):1<=l.length/\l.length<=4/\l.all vM=true/\rZ l l.length=false:=by
 unfold wI at h;split at h
 ·cases h
 split at h
 ·cases h
 rename_i h4 h0;split at h
 ·split at h
  ·cases h
  ·rename_i hv ht
   exact⟨Yd.2 h0,by omega,hv,by simpa using ht⟩
 ·cases h
theorem bD {f:Nat->Int}: ∀{n i:Nat},xL f n i=0-> ∀k,k<n->f (i+k)=0
 |0,_,_,k,hk=>absurd hk (Nat.not_lt_zero _)
 |n+1,i,h,k,hk=>by
  rw[xL] at h;split at h
  ·rename_i h0
   cases k with
   |zero=>exact h0
   |succ k=>rw[show i+(k+1)=i+1+k by omega];exact bD h k (by omega)
  ·rename_i h0;exact absurd h h0
structure DcmR (d:Dcm):Prop where
 s:DcmS d
 kd:nameP d.kind=true
 fs:d.flds.length<=12
 fe: ∀i,i<d.flds.length->wN d.flds i=0
theorem oM {d:Dcm} (hs:DcmS d) (h:docE d=0):DcmR d:=by
 unfold docE at h;split at h
 ·rename_i hk
  split at h
  ·cases h
  ·rename_i h12
   exact⟨hs,hk,by omega,fun i hi=>by have:=bD h i hi;rwa [ZU] at this⟩
 ·cases h
theorem bE {l:List Fld} {i:Nat} (hi:i<l.length) (hs:FldS l[i]) (h:wN l i=0):FldR l[i]/\nameP l[i].name=true/\(l.take i).any (fun g=>decide (g.name=l[i].name))=false/\ ∀w∈l[i].words,wI w=0:=by
 have hgd:l.getD i yT=l[i]:=by rw[Zi,Zh hi];rfl
 unfold wN at h;simp only[hgd] at h;split at h
 ·rename_i hn
  split at h
  ·cases h
  rename_i ht;split at h
  ·cases h
  rename_i h8;have hw: ∀w∈l[i].words,wI w=0:=fun w hw=>by
   obtain⟨k,hk,rfl⟩:=Y5 hw;have:=bD h k hk;simp only[ZU] at this
   rwa [Zi,Zh hk] at this
  exact⟨⟨hs,by omega,fun w hm=>⟨(bC (hw w hm)).1,(bC (hw w hm)).2.1⟩⟩,hn,by simpa using ht,hw⟩
 ·cases h
theorem DcmR.fld {d:Dcm} (h:DcmR d) {f:Fld} (hf:f∈d.flds):FldR f:=by
 obtain⟨i,hi,rfl⟩:=Y5 hf;exact(bE hi (h.s.fl _ hf) (h.fe i hi)).1
theorem bF {f:Fld} (hf:FldR f):yQ f<=65536:=by
 have:=iW hf.ws (fun w hw=>(hf.sp w hw).2) f.words.length (Zs _);rw[YN] at this;have h2:4 ^ f.words.length<=4 ^ 8:=Yu (by decide) hf.ws;unfold yQ;exact ZY this (ZY h2 (by decide))
theorem zhi {f:Fld} (hf:FldR f):1<=yQ f:=by
 have: ∀i,i<=f.words.length->1<=uV (f.words.take i):=fun i=>by
  induction i with
  |zero=>intro _;simp[uV]
  |succ i ih=>
   intro h;rw[iV (by omega)];exact Nat.mul_pos (ih (by omega)) (hf.sp _ (Zy _)).1
 have:=this f.words.length (Zs _)
 rwa [YN] at this
theorem c61 (f:Fld) (hf:FldR f):Spec Tryz.prog 61 [.agg (zR f)] (fun v=>v=.int .i64 (yQ f:Nat)):=by
 refine Spec.of_awlS hf61 okf61 (by simp) fun S hS=>?_
 have h8:=hf.ws;unfold zR;simp only[zI,Qs,Zd,Za,Zg,Ψ61];rw[uu f61l13.eq_1];refine yA (fun i:Nat=>[(3,.int .i64 (uV (f.words.take i):Nat)),(7,lst 1 (f.words.map xX)),(8,.int .i64 f.words.length),(9,.int .i64 i)]) (fun _=>[]) (fun i=>i<=f.words.length) (fun i=>f.words.length-i) 0 rfl rfl (ZB _) ?_;intro i hi;by_cases hlt:i<f.words.length
 ·have c1:(i:Int)<f.words.length:=by omega
  have c4:IntKind.i64.wrap ((i:Int)+1)=(i:Int)+1:=wrap_in (by omega) (by omega);have hp:=iW hf.ws (fun w hw=>(hf.sp w hw).2) (i+1) (by omega);have hq:4 ^ (i+1)<=4 ^ 8:=Yu (by decide) (by omega);have hpt:=iV hlt;have hws:=lX hlt;generalize f.words[i]=w at hpt hws;have c5:IntKind.i64.wrap (((uV (f.words.take i):Nat):Int)*(w.length:Int))=((uV (f.words.take (i+1)):Nat):Int):=by
   have h4:(4:Nat) ^ 8=65536:=by decide
   rw[hpt,wrap_in]
   ·exact(Yo _ _).symm
   ·rw[<-Yo];omega
   ·rw[<-Yo,<-hpt];omega
  simp only[c1,c4,c5,hws,zI,yB,Qs,Zk,Za,Zg,Ψ61];exact Next.intro (i+1) rfl rfl (by omega) (by omega)
 ·have c1: ¬(i:Int)<f.words.length:=by omega
  rw[Z6 (by omega)];simp only[c1,Qs,Za,Ψ61];exact hS
theorem c77 (d:Dcm) (hd:DcmS d):Spec Tryz.prog 77 [.agg (zV d)] (fun v=>v=.tup [.int .i64 (cntD d).1,.int .i64 (cntD d).2]):=by
 refine Spec.of_awlP hf77 okf77 (by simp) fun S hS=>?_
 have g1:=c55 d hd;have hn:[C.str d.kind,zC 2 (d.flds.map zR)]=zV d:=rfl;unfold cntD at hS;by_cases h0:docE d=0
 ·rw[if_pos h0] at hS
  have hR:=oM hd h0;have hfs:=hR.fs;have w0:(docE d !=0)=false:=by simp[h0]
  rw[<-hn] at g1⊢;simp only[Qs,Zd,Za,Ψ77];refine zF g1 ?_ (ha:=by simp only[Zl,Zq,zB,V.norm,C.norm,C.normRow,yG wO]<;>rfl);simp only[w0,zI,Qs,Zd,Za,Zg,Ψ77];rw[uu f77l19.eq_1];refine yA (fun x:Nat×Nat=>[(5,.int .i64 (x.2:Nat)),(14,lst 2 (d.flds.map zR)),(15,.int .i64 d.flds.length),(16,.int .i64 x.1)]) (fun _=>[]) (fun x=>x.1<=d.flds.length/\x.2<=4096/\vD (d.flds.drop x.1) x.2=vD d.flds 1) (fun x=>d.flds.length-x.1) (0,1) rfl rfl ⟨ZB _,by decide,rfl⟩ ?_;rintro⟨i,n⟩ ⟨hi,hn4,hD⟩;simp only[] at hi hn4 hD;by_cases hlt:i<d.flds.length
  ·have c1:(i:Int)<d.flds.length:=by omega
   have c4:IntKind.i64.wrap ((i:Int)+1)=(i:Int)+1:=wrap_in (by omega) (by omega);have hf:=hR.fld (Zy hlt);rw[ZE hlt,vD] at hD;have hat:=oL hlt;generalize d.flds[i]=f at hf hD hat;have g2:=c61 f hf;have hsz:=bF hf;rw[show zR f=[.str f.name,zC 1 (f.words.map xX)] from rfl] at g2;have hmul:n*yQ f<=4096*65536:=Xz hn4 hsz;have c5:IntKind.i64.wrap ((n:Int)*((yQ f:Nat):Int))=((n*yQ f:Nat):Int):=by
    rw[Yo,wrap_in]
    ·rw[<-Yo];omega
    ·rw[<-Yo];omega
   simp only[c1,hat,zI,Qs,Zk,Zd,Za,Zg,Ψ77];refine zF g2 ?_ (ha:=by simp only[Zl,Zq,zB,V.norm,C.norm,C.normRow,yG oK]<;>rfl);by_cases hbig:n*yQ f>4096
   ·have c6:((n*yQ f:Nat):Int)>4096:=by omega
    rw[if_pos hbig] at hD;rw[<-hD] at hS;simp only[c5,c6,Qs,Zk,Za,Ψ77];exact hS _ rfl
   ·have c6: ¬((n*yQ f:Nat):Int)>4096:=by omega
    rw[if_neg hbig] at hD;simp only[c4,c5,c6,Qs,Za,Ψ77];exact Next.intro (i+1,n*yQ f) rfl rfl ⟨by simp only;omega,by simp only;omega,hD⟩ (by simp only;omega)
  ·have c1: ¬(i:Int)<d.flds.length:=by omega
   rw[ZA (by omega),vD] at hD;rw[<-hD] at hS;simp only[c1,Qs,Zk,Za,Ψ77];exact hS _ rfl
 ·rw[if_neg h0] at hS
  have w0:(docE d !=0)=true:=by simp[h0]
  rw[<-hn] at g1⊢;simp only[Qs,Zd,Za,Ψ77];refine zF g1 ?_ (ha:=by simp only[Zl,Zq,zB,V.norm,C.norm,C.normRow,yG wO]<;>rfl);simp only[w0,Qs,Zk,Za,Ψ77];exact hS _ rfl
theorem c56 (d:Dcm) (hd:DcmS d) (k:Int):Spec Tryz.prog 56 [.agg (zV d),.int .i64 k] (fun v=>v=.bool (decide (docE d=0/\0<=k/\k<d.flds.length))):=by
 refine Spec.of_awlS hf56 okf56 (by simp) fun S hS=>?_
 have g1:=c55 d hd;have hn:[C.str d.kind,zC 2 (d.flds.map zR)]=zV d:=rfl;rw[<-hn] at g1⊢;generalize docE d=e at g1 hS;simp only[Qs,Zd,Za,Ψ56];refine zF g1 ?_ (ha:=by simp only[Zl,Zq,zB,V.norm,C.norm,C.normRow,yG wO]<;>rfl);simp only[zI,Qs,Zd,Za,Zg]
 repeat' (apply And.intro<;>intro _)
 all_goals (refine wJ hS ?_;simp only[decide_eq_true_eq,Z3,false_iff];omega)
theorem nX {l:List Dcm} {i:Nat} (h:i<l.length):(l.map zV).getD i []=[.str l[i].kind,zC 2 (l[i].flds.map zR)]:=by simp[zV,h]
def wK:List Dcm->List Int->Nat->List Int×Int×Int
 |[],l,n=>(l,(n:Int),0)
 |d::r,l,n=>if (cntD d).2≠0\/(n:Int)*(cntD d).1>4096 then([],0,6) else wK r (l++[(cntD d).1]) (n*(cntD d).1.toNat)
def cnts (l:List Dcm):List Int×Int×Int:=if l.length>8 then([],0,6) else if xL (fun i=>docE (l.getD i ⟨[],[]⟩)) l.length 0=0 then wK l [] 1 else([],0,xL (fun i=>docE (l.getD i ⟨[],[]⟩)) l.length 0)
def sP (l:List Dcm):Prop:=l.length<=9223372036854775807/\ ∀d∈l,DcmS d
def zpa:Dcm:=⟨[],[]⟩
theorem iX {d:Dcm}:0<=(cntD d).1/\(cntD d).1<=4096:=by
 unfold cntD;split
 ·have: ∀(l:List Fld) (n:Nat),n<=4096->0<=(vD l n).1/\(vD l n).1<=4096:=fun l=>by
   induction l with
   |nil=>intro n h;simp only[vD];omega
   |cons f l ih=>
    intro n h;rw[vD];split
    ·simp
    ·exact ih _ (by omega)
  exact this d.flds 1 (by decide)
 ·simp
theorem qB {rows:List (List C)} (h:C.normRows rows=rows) (sz:Nat) (e:TypeId):(Abs.K.newl e sz none rows).fz.nrm=.c (zC sz rows):=by
 simp[Abs.K.fz,Abs.K.nrm,C.norm,h,zC]
theorem c37 (l:List Dcm) (hl:sP l):Spec Tryz.prog 37 [lst 2 (l.map zV)] (fun v=>v=.tup [lst 1 (zM (cnts l).1),.int .i64 (cnts l).2.1,.int .i64 (cnts l).2.2]):=by
 refine Spec.of_awlP hf37 okf37 (by simp) fun S hS=>?_
 have hlen:=hl.1;unfold cnts at hS;by_cases h8:l.length>8
 ·rw[if_pos h8] at hS
  have c1:(l.length:Int)>8:=by omega
  simp only[zI,c1,Qs,BEq.rfl,Zk,ZV,Za,Zg,Zx,Ψ37];exact hS _ rfl
 ·rw[if_neg h8] at hS
  have c1: ¬(l.length:Int)>8:=by omega
  simp only[zI,c1,Qs,Za,Zg,Ψ37];rw[uu f37l46.eq_1];refine yA (fun i:Nat=>[(0,lst 2 (l.map zV)),(17,lst 2 (l.map zV)),(18,.int .i64 l.length),(19,.int .i64 i)]) (fun _=>[]) (fun i=>i<=l.length/\xL (fun i=>docE (l.getD i ⟨[],[]⟩)) (l.length-i) i=xL (fun i=>docE (l.getD i ⟨[],[]⟩)) l.length 0) (fun i=>l.length-i) 0 rfl rfl ⟨ZB _,rfl⟩ ?_;rintro i ⟨hi,hD⟩;by_cases hlt:i<l.length
  ·have d1:(i:Int)<l.length:=by omega
   have c4:IntKind.i64.wrap ((i:Int)+1)=(i:Int)+1:=wrap_in (by omega) (by omega);have hgd:l.getD i ⟨[],[]⟩=l[i]:=by rw[Zi,Zh hlt];rfl
   rw[nW hlt,hgd] at hD;have g1:=c55 _ (hl.2 _ (Zy hlt));have hat:=nX hlt;generalize l[i]=d at hD g1 hat;rw[show zV d=[.str d.kind,zC 2 (d.flds.map zR)] from rfl] at g1;simp only[d1,hat,zI,Qs,Zk,Zd,Za,Zg,Ψ37];refine zF g1 ?_ (ha:=by simp only[Zl,Zq,zB,V.norm,C.norm,C.normRow,yG wO]<;>rfl);by_cases h0:docE d=0
   ·have w0:(docE d !=0)=false:=by simp[h0]
    rw[if_pos h0] at hD;simp only[w0,c4,Qs,Za,Ψ37];exact Next.intro (i+1) rfl rfl ⟨by omega,hD⟩ (by omega)
   ·have w0:(docE d !=0)=true:=by simp[h0]
    rw[if_neg h0] at hD;rw[<-hD,if_neg h0] at hS;simp only[w0,Qs,Zk,ZV,Za,Zx,Ψ37];exact hS _ rfl
  ·have d1: ¬(i:Int)<l.length:=by omega
   rw[show l.length-i=0 by omega] at hD;have hz:xL (fun i=>docE (l.getD i ⟨[],[]⟩)) l.length 0=0:=hD.symm;rw[if_pos hz] at hS;simp only[d1,zI,Qs,Za,Zg,Ψ37];rw[uu f37l21.eq_1];refine yA (fun x:Nat×List Int×Nat×Option Bool=>[(8,.int .i64 (x.2.2.1:Nat)),(9,.k (.own 9)),(29,lst 2 (l.map zV)),(30,.int .i64 l.length),(31,.int .i64 x.1)]) (fun x=>[(9,.arr 3 1 x.2.2.2 (zM x.2.1))]) (fun x=>x.1<=l.length/\x.2.1.length=x.1/\x.2.2.1<=4096/\wK (l.drop x.1) x.2.1 x.2.2.1=wK l [] 1) (fun x=>l.length-x.1) (0,[],1,some true) rfl rfl ⟨ZB _,rfl,by decide,rfl⟩ ?_;rintro⟨i,L,n,nl⟩ ⟨hi,hL,hn,hD⟩;simp only[] at hi hL hn hD;by_cases hlt:i<l.length
   ·have d1:(i:Int)<l.length:=by omega
    have c4:IntKind.i64.wrap ((i:Int)+1)=(i:Int)+1:=wrap_in (by omega) (by omega);have g1:=c77 _ (hl.2 _ (Zy hlt));have hat:=nX hlt;rw[ZE hlt,wK] at hD;have hr:=iX (d:=l[i]);generalize l[i]=d at hD g1 hat hr;rw[show zV d=[.str d.kind,zC 2 (d.flds.map zR)] from rfl] at g1;generalize cntD d=c at hD g1 hr;obtain⟨cn,ce⟩:=c;simp only[] at hD g1 hr;have hmul:0<=(n:Int)*cn/\(n:Int)*cn<=4096*4096:=⟨Int.mul_nonneg (by omega) hr.1,Int.mul_le_mul (by omega) hr.2 hr.1 (by omega)⟩;have c5:IntKind.i64.wrap ((n:Int)*cn)=(n:Int)*cn:=wrap_in (by omega) (by omega);simp only[d1,hat,zI,Qs,bne_iff_ne,ne_eq,Zk,Zd,Zt,Za,Zg,Ψ37];refine zF g1 ?_ (ha:=by simp only[Zl,Zq,zB,V.norm,C.norm,C.normRow,yG wO]<;>rfl);by_cases h0:ce=0
    ·have w0:(ce !=0)=false:=by simp[h0]
     by_cases hbig:(n:Int)*cn>4096
     ·rw[if_pos (.inr hbig)] at hD
      rw[<-hD] at hS;simp only[w0,c5,hbig,Qs,bne_iff_ne,ne_eq,Zk,ZV,Zt,Za,Zx,Ψ37];exact hS _ rfl
     ·rw[if_neg (fun q=>q.elim (fun z=>z h0) hbig)] at hD
      have e1:((n*cn.toNat:Nat):Int)=(n:Int)*cn:=by rw[Yo,Int.toNat_of_nonneg hr.1]
      simp only[w0,c4,c5,hbig,yL,Qs,ze3,forall_eq,bne_iff_ne,ne_eq,ZH,Zt,Zm,Z5,Za,Zx,Ψ37];refine⟨by omega,by omega,Next.intro (i+1,L++[cn],n*cn.toNat,some false) (by simp only[e1];rfl) (by simp[zM];rfl) ⟨by simp only;omega,by simp[hL],by simp only;omega,hD⟩ (by simp only;omega)⟩
    ·have w0:(ce !=0)=true:=by simp[h0]
     rw[if_pos (.inl h0)] at hD;rw[<-hD] at hS;simp only[w0,Qs,zeS,bne_iff_ne,ne_eq,Zk,ZV,Zt,Za,Zx,Ψ37];exact hS _ rfl
   ·have d1: ¬(i:Int)<l.length:=by omega
    rw[ZA (by omega),wK] at hD;rw[<-hD] at hS;simp only[d1,Qs,Zk,ZV,Za,Zx,Ψ37];refine hS _ ?_;simp only[V.fz,V.fzL,V.nrm,V.nrmL,qB (vC L)];rfl
theorem c13 (l:List Dcm) (hl:sP l):Spec Tryz.prog 13 [lst 2 (l.map zV)] (fun v=>v=.tup [.int .i64 (cnts l).2.1,.int .i64 (cnts l).2.2]):=by
 refine Spec.of_awlP hf13 okf13 (by simp) fun S hS=>?_
 have g:=c37 l hl;generalize cnts l=c at g hS;simp only[Qs,Za,Ψ13];refine xI g ?_ (ha:=by simp only[Zl,Zq,zB,V.norm,C.norm,yG yU]<;>rfl);simp only[Qs,Zk,Zd,Yg,Za,Ψ13];exact hS _ rfl
end Go.Abs
set_option maxRecDepth 100000
set_option maxHeartbeats 4000000
namespace Go.Abs
open Go.Proofs Go.RowKit Go.Lib Go.Wd Go.Wire Go.Ex
theorem c81 (l:List Txt) (hw: ∀s∈l,s.length<=9223372036854775807) (hl:l.length<=9223372036854775807):Spec Tryz.prog 81 [lst 1 (zJ l)] (fun v=>v=.int .i64 (wI l)):=by
 refine Spec.of_awlS hf81 okf81 (by simp) fun S hS=>?_
 unfold wI at hS;by_cases h4:l.length>4
 ·rw[if_pos h4] at hS
  have c1:(l.length:Int)>4:=by omega
  simp only[yB,c1,Qs,Za,Ψ81];exact hS
 rw[if_neg h4] at hS;have c1: ¬(l.length:Int)>4:=by omega
 by_cases h0:l=[]
 ·rw[if_pos h0] at hS
  have c2:((l.length:Int)==0)=true:=by simp[h0]
  simp only[yB,c1,c2,Qs,Za,Ψ81];exact hS
 rw[if_neg h0] at hS;have c2:((l.length:Int)==0)=false:=by
  have:=Yd.2 h0;exact beq_false_of_ne (by omega)
 simp only[yB,c1,c2,Qs,Za,Ψ81];rw[uu f81l43.eq_1];refine yA (fun i:Nat=>[(0,lst 1 (zJ l)),(3,.int .i64 i)]) (fun _=>[]) (fun i=>i<=l.length/\(l.drop i).all vM=l.all vM) (fun i=>l.length-i) 0 rfl rfl ⟨ZB _,rfl⟩ ?_;rintro i ⟨hi,hD⟩;by_cases hlt:i<l.length
 ·have d1:(i:Int)<l.length:=by omega
  have c4:IntKind.i64.wrap ((i:Int)+1)=(i:Int)+1:=wrap_in (by omega) (by omega);have hat:=uI hlt;have g1:=zlX l[i] (hw _ (Zy hlt));rw[ZE hlt,Ys] at hD;generalize l[i]=s at hat g1 hD;simp only[d1,hat,yB,Qs,Za,Ψ81];refine zF g1 ?_ (ha:=by rfl);cases hv:vM s with
  |true=>
   rw[hv,ZJ] at hD;simp only[c4,Qs,Za,Ψ81];exact Next.intro (i+1) rfl rfl ⟨by omega,hD⟩ (by omega)
  |false=>
   rw[hv,ZO] at hD;rw[<-hD,if_neg (by simp)] at hS;simp only[Qs,Ψ81];exact hS
 ·have d1: ¬(i:Int)<l.length:=by omega
  rw[ZA (by omega)] at hD;rw[<-hD,Xa,if_pos rfl] at hS;clear hD;simp only[d1,yB,Qs,Za,Ψ81];rw[uu f81l26.eq_1];refine yA (fun i:Nat=>[(0,lst 1 (zJ l)),(4,.int .i64 i)]) (fun _=>[]) (fun i=>i<=l.length/\rZ l i=false) (fun i=>l.length-i) 0 rfl rfl ⟨ZB _,rfl⟩ ?_;rintro i ⟨hi,hD⟩;by_cases hlt:i<l.length
  ·have d1:(i:Int)<l.length:=by omega
   have c4:IntKind.i64.wrap ((i:Int)+1)=(i:Int)+1:=wrap_in (by omega) (by omega);have hgd:l.getD i []=l[i]:=by rw[Zi,Zh hlt];rfl
   have hsu:=cZ l i;have hat:=uI hlt;rw[hD,hgd,YA] at hsu;simp only[d1,yB,Qs,Za,Ψ81];rw[uu f81l16.eq_1];refine yA (fun j:Nat=>[(0,lst 1 (zJ l)),(4,.int .i64 i),(5,.int .i64 j)]) (fun _=>[]) (fun j=>j<=i/\l[i] ∉ l.take j) (fun j=>i-j) 0 rfl rfl ⟨ZB _,by simp⟩ ?_;rintro j ⟨hj,hN⟩;by_cases hji:j<i
   ·have d2:(j:Int)<i:=by omega
    have d3:(j:Int)<l.length:=by omega
    have c5:IntKind.i64.wrap ((j:Int)+1)=(j:Int)+1:=wrap_in (by omega) (by omega);have hjl:j<l.length:=by omega
    have haj:=uI hjl;have htk:l.take (j+1)=l.take j++[l[j]]:=ZQ hjl;have hin:l[j]∈l.take i:=by
     rw[List.mem_take_iff_getElem];exact⟨j,by omega,rfl⟩
    generalize l[i]=a at hat hsu hN;generalize l[j]=b at haj htk hin;by_cases hab:a=b
    ·have e1:(a==b)=true:=by simp[hab]
     rw[hab,decide_eq_true hin] at hsu;rw[if_pos (zhf l (by omega:i+1<=l.length) hsu)] at hS;simp only[d1,d2,d3,e1,hat,haj,yB,Qs,Za,Ψ81];exact hS
    ·have e1:(a==b)=false:=by simp[hab]
     simp only[d1,d2,d3,e1,hat,haj,c5,yB,Qs,Za,Ψ81];exact Next.intro (j+1) rfl rfl ⟨by omega,by rw[htk];simp[hN,hab]⟩ (by omega)
   ·have d2: ¬(j:Int)<i:=by omega
    obtain rfl:j=i:=by omega
    rw[decide_eq_false hN] at hsu;simp only[d2,c4,Qs,Zt,Za,Ψ81];exact Next.intro (j+1) rfl rfl ⟨by omega,hsu⟩ (by omega)
  ·have d1: ¬(i:Int)<l.length:=by omega
   obtain rfl:i=l.length:=by omega
   rw[if_neg (by rw[hD];simp)] at hS;simp only[d1,yB,Qs,Za,Ψ81];exact hS
end Go.Abs
set_option maxRecDepth 100000
set_option maxHeartbeats 8000000
namespace Go.Abs
open Go.Proofs Go.RowKit Go.Lib Go.Wd Go.Wire Go.Ex
theorem c82 (f:Fld) (hf:FldR f):Spec Tryz.prog 82 [.agg (zR f)] (fun v=>v=.int .i64 (yQ f:Nat)):=by
 refine Spec.of_awlS hf82 okf82 (by simp) fun S hS=>?_
 have h8:=hf.ws;unfold zR;simp only[zI,Qs,Za,Ψ82];rw[uu f82l11.eq_1];refine yA (fun i:Nat=>[(1,.k (.c (.ro [.str f.name,zC 1 (f.words.map xX)] 0))),(3,.int .i64 (uV (f.words.take i):Nat)),(4,.int .i64 i)]) (fun _=>[]) (fun i=>i<=f.words.length) (fun i=>f.words.length-i) 0 rfl rfl (ZB _) ?_;intro i hi;by_cases hlt:i<f.words.length
 ·have c1:(i:Int)<f.words.length:=by omega
  have c4:IntKind.i64.wrap ((i:Int)+1)=(i:Int)+1:=wrap_in (by omega) (by omega);have hp:=iW hf.ws (fun w hw=>(hf.sp w hw).2) (i+1) (by omega);have hq:4 ^ (i+1)<=4 ^ 8:=Yu (by decide) (by omega);have hpt:=iV hlt;have hws:=lX hlt;generalize f.words[i]=w at hpt hws;have c5:IntKind.i64.wrap (((uV (f.words.take i):Nat):Int)*(w.length:Int))=((uV (f.words.take (i+1)):Nat):Int):=by
   have h4:(4:Nat) ^ 8=65536:=by decide
   rw[hpt,wrap_in]
   ·exact(Yo _ _).symm
   ·rw[<-Yo];omega
   ·rw[<-Yo,<-hpt];omega
  simp only[c1,c4,c5,hws,zI,yB,Qs,Zd,Za,Zg,Ψ82];exact Next.intro (i+1) rfl rfl (by omega) (by omega)
 ·have c1: ¬(i:Int)<f.words.length:=by omega
  rw[Z6 (by omega)];simp only[c1,zI,Qs,Zd,Za,Zg,Ψ82];exact hS
theorem zlY {α:Type} {p:α->Bool} {l:List α} {j:Nat} (h:j<l.length):(l.take (j+1)).any p=((l.take j).any p||p l[j]):=by
 rw[ZQ h,List.any_append];simp
theorem c41 (d:Dcm) (hd:DcmS d):Spec Tryz.prog 41 [.agg (zV d)] (fun v=>v=.int .i64 (docE d)):=by
 refine Spec.of_awlS hf41 okf41 (by simp) fun S hS=>?_
 have g1:=c80 d.kind hd.kd;have hfs:=hd.fs;unfold docE at hS;unfold zV;cases hk:nameP d.kind with
 |false=>
  rw[hk] at g1;rw[if_neg (by rw[hk];simp)] at hS;simp only[Qs,Zd,Zm,Za,Ψ41];refine zF g1 ?_ (ha:=by rfl);simp only[Qs,Ψ41];exact hS
 |true=>
  rw[hk] at g1;rw[if_pos hk] at hS;by_cases h12:d.flds.length>12
  ·rw[if_pos h12] at hS
   have c1:(d.flds.length:Int)>12:=by omega
   simp only[Qs,Zd,Zm,Za,Ψ41];refine zF g1 ?_ (ha:=by rfl);simp only[zI,c1,Qs,Zd,Za,Zg,Ψ41];exact hS
  ·rw[if_neg h12] at hS
   have c1: ¬(d.flds.length:Int)>12:=by omega
   simp only[Qs,Zd,Zm,Za,Ψ41];refine zF g1 ?_ (ha:=by rfl);simp only[zI,c1,Qs,Zd,Za,Zg,Ψ41];rw[uu f41l59.eq_1];refine yA (fun i:Nat=>[(1,.k (.c (.ro [.str d.kind,zC 2 (d.flds.map zR)] 0))),(3,.int .i64 i)]) (fun _=>[]) (fun i=>i<=d.flds.length/\xL (wN d.flds) (d.flds.length-i) i=xL (wN d.flds) d.flds.length 0) (fun i=>d.flds.length-i) 0 rfl rfl ⟨ZB _,rfl⟩ ?_;rintro i ⟨hi,hD⟩;by_cases hlt:i<d.flds.length
   ·have d1:(i:Int)<d.flds.length:=by omega
    have c4:IntKind.i64.wrap ((i:Int)+1)=(i:Int)+1:=wrap_in (by omega) (by omega);rw[nW hlt] at hD;have hat:=oL hlt;have hgd:d.flds.getD i yT=d.flds[i]:=by rw[Zi,Zh hlt];rfl
    have hf:=hd.fl _ (Zy hlt);have hE:wN d.flds i=(if nameP d.flds[i].name=true then(if (d.flds.take i).any (fun g=>decide (g.name=d.flds[i].name))=true then 5 else if d.flds[i].words.length>8 then 6 else xL (fun k=>wI (d.flds[i].words.getD k [])) d.flds[i].words.length 0) else 2):=by
     unfold wN;simp only[hgd]
    generalize d.flds[i]=f at hat hf hE;have g2:=c80 f.name hf.nm;have hbad: ∀e:Int,wN d.flds i=e->e≠0->S (.int .i64 e):=fun e h1 h2=>by
     rw[h1,if_neg h2] at hD;rw[<-hD] at hS;exact hS
    cases hn:nameP f.name with
    |false=>
     rw[hn] at g2;rw[if_neg (by rw[hn];simp)] at hE;simp only[d1,hat,zI,Qs,Zk,Zd,Zm,Za,Zg,Ψ41];refine zF g2 ?_ (ha:=by rfl);simp only[Qs,Ψ41];exact hbad 2 hE (by decide)
    |true=>
     rw[hn] at g2;rw[if_pos hn] at hE;simp only[d1,hat,zI,Qs,Zk,Zd,Zm,Za,Zg,Ψ41];refine zF g2 ?_ (ha:=by rfl);simp only[Qs,Ψ41];rw[uu f41l40.eq_1];refine yA (fun j:Nat=>[(1,.k (.c (.ro [.str d.kind,zC 2 (d.flds.map zR)] 0))),(3,.int .i64 i),(4,.k (.c (.ro [.str f.name,zC 1 (f.words.map xX)] 0))),(5,.int .i64 j)]) (fun _=>[]) (fun j=>j<=i/\(d.flds.take j).any (fun g=>decide (g.name=f.name))=false) (fun j=>i-j) 0 rfl rfl ⟨ZB _,rfl⟩ ?_;rintro j ⟨hj,hN⟩;by_cases hji:j<i
     ·have d2:(j:Int)<i:=by omega
      have d3:(j:Int)<d.flds.length:=by omega
      have c5:IntKind.i64.wrap ((j:Int)+1)=(j:Int)+1:=wrap_in (by omega) (by omega);have hjl:j<d.flds.length:=by omega
      have haj:=oL hjl;have hat2:=zlY (p:=fun g:Fld=>decide (g.name=f.name)) hjl;rw[hN,YA] at hat2;have hmono:d.flds[j].name=f.name->(d.flds.take i).any (fun g=>decide (g.name=f.name))=true:=fun h=>by
       rw[YO];exact⟨d.flds[j],by rw[List.mem_take_iff_getElem];exact⟨j,by omega,rfl⟩,decide_eq_true h⟩
      generalize d.flds[j]=g at haj hat2 hmono;by_cases hab:g.name=f.name
      ·have e1:(g.name==f.name)=true:=by simp[hab]
       rw[if_pos (hmono hab)] at hE;simp only[d2,d3,e1,haj,zI,Qs,Zd,Zm,Za,Zg,Ψ41];exact hbad 5 hE (by decide)
      ·have e1:(g.name==f.name)=false:=by simp[hab]
       rw[decide_eq_false hab] at hat2;simp only[d2,d3,e1,haj,c5,zI,Qs,Zd,Zm,Za,Zg,Ψ41];exact Next.intro (j+1) rfl rfl ⟨by omega,hat2⟩ (by omega)
     ·have d2: ¬(j:Int)<i:=by omega
      obtain rfl:j=i:=by omega
      rw[if_neg (by rw[hN];simp)] at hE;by_cases h8:f.words.length>8
      ·rw[if_pos h8] at hE
       have e8:(f.words.length:Int)>8:=by omega
       simp only[d2,e8,zI,Qs,reduceCtorEq,Zd,Za,Zg,Ψ41];exact hbad 6 hE (by decide)
      ·rw[if_neg h8] at hE
       have e8: ¬(f.words.length:Int)>8:=by omega
       simp only[d2,e8,zI,Qs,reduceCtorEq,Zd,Za,Zg,Ψ41];rw[uu f41l18.eq_1];refine yA (fun k:Nat=>[(1,.k (.c (.ro [.str d.kind,zC 2 (d.flds.map zR)] 0))),(3,.int .i64 j),(4,.k (.c (.ro [.str f.name,zC 1 (f.words.map xX)] 0))),(6,.int .i64 k)]) (fun _=>[]) (fun k=>k<=f.words.length/\xL (fun k=>wI (f.words.getD k [])) (f.words.length-k) k=wN d.flds j) (fun k=>f.words.length-k) 0 rfl rfl ⟨ZB _,hE.symm⟩ ?_;rintro k ⟨hk2,hD3⟩;by_cases hlk:k<f.words.length
       ·have d3:(k:Int)<f.words.length:=by omega
        have c5:IntKind.i64.wrap ((k:Int)+1)=(k:Int)+1:=wrap_in (by omega) (by omega);have haw:=lX hlk;have hwg:f.words.getD k []=f.words[k]:=by rw[Zi,Zh hlk];rfl
        have hws:=hf.sp _ (Zy hlk);rw[nW hlk,hwg] at hD3;generalize f.words[k]=w at haw hws hD3;have g4:=c81 w hws.2 hws.1;simp only[d3,haw,zI,Qs,Zd,Za,Zg,Ψ41];refine zF g4 ?_ (ha:=by simp only[Zl,Zq,zB,V.norm,C.norm,C.normRow,zO,wD]<;>rfl);by_cases hw0:wI w=0
        ·have w0:(wI w !=0)=false:=by simp[hw0]
         rw[if_pos hw0] at hD3;simp only[w0,c5,Qs,Za,Ψ41];exact Next.intro (k+1) rfl rfl ⟨by omega,hD3⟩ (by omega)
        ·have w0:(wI w !=0)=true:=by simp[hw0]
         rw[if_neg hw0] at hD3;simp only[w0,Qs,Za,Ψ41];exact hbad (wI w) hD3.symm hw0
       ·have d3: ¬(k:Int)<f.words.length:=by omega
        rw[show f.words.length-k=0 by omega] at hD3;have hz:wN d.flds j=0:=hD3.symm;rw[if_pos hz] at hD;simp only[d3,c4,zI,Qs,reduceCtorEq,Zd,Zt,Za,Zg,Ψ41];exact Next.intro (j+1) rfl rfl ⟨by omega,hD⟩ (by omega)
   ·have d1: ¬(i:Int)<d.flds.length:=by omega
    rw[show d.flds.length-i=0 by omega] at hD;have hD2:0=xL (wN d.flds) d.flds.length 0:=hD;rw[<-hD2] at hS;simp only[d1,zI,Qs,Zd,Za,Zg,Ψ41];exact hS
theorem c42 (d:Dcm) (hd:DcmS d):Spec Tryz.prog 42 [.agg (zV d)] (fun v=>v=.tup [.int .i64 (cntD d).1,.int .i64 (cntD d).2]):=by
 refine Spec.of_awlP hf42 okf42 (by simp) fun S hS=>?_
 have g1:=c41 d hd;have hn:[C.str d.kind,zC 2 (d.flds.map zR)]=zV d:=rfl;unfold cntD at hS;by_cases h0:docE d=0
 ·rw[if_pos h0] at hS
  have hR:=oM hd h0;have hfs:=hR.fs;have w0:(docE d !=0)=false:=by simp[h0]
  rw[<-hn] at g1⊢;simp only[Qs,Zd,Za,Ψ42];refine zF g1 ?_ (ha:=by simp only[Zl,Zq,zB,V.norm,C.norm,C.normRow,yG wO]<;>rfl);simp only[w0,zI,Qs,Ψ42];rw[uu f42l17.eq_1];refine yA (fun x:Nat×Nat=>[(1,.k (.c (.ro [.str d.kind,zC 2 (d.flds.map zR)] 0))),(5,.int .i64 (x.2:Nat)),(6,.int .i64 x.1)]) (fun _=>[]) (fun x=>x.1<=d.flds.length/\x.2<=4096/\vD (d.flds.drop x.1) x.2=vD d.flds 1) (fun x=>d.flds.length-x.1) (0,1) rfl rfl ⟨ZB _,by simp only;decide,rfl⟩ ?_;rintro⟨i,n⟩ ⟨hi,hn4,hD⟩;simp only[] at hi hn4 hD;by_cases hlt:i<d.flds.length
  ·have c1:(i:Int)<d.flds.length:=by omega
   have c4:IntKind.i64.wrap ((i:Int)+1)=(i:Int)+1:=wrap_in (by omega) (by omega);have hf:=hR.fld (Zy hlt);rw[ZE hlt,vD] at hD;have hat:=oL hlt;generalize d.flds[i]=f at hf hD hat;have g2:=c82 f hf;have hsz:=bF hf;rw[show zR f=[.str f.name,zC 1 (f.words.map xX)] from rfl] at g2;have hmul:n*yQ f<=4096*65536:=Xz hn4 hsz;have c5:IntKind.i64.wrap ((n:Int)*((yQ f:Nat):Int))=((n*yQ f:Nat):Int):=by
    rw[Yo,wrap_in]
    ·rw[<-Yo];omega
    ·rw[<-Yo];omega
   simp only[c1,hat,zI,Qs,Zd,Za,Zg,Ψ42];refine zF g2 ?_ (ha:=by simp only[Zl,Zq,zB,V.norm,C.norm,C.normRow,yG oK]<;>rfl);by_cases hbig:n*yQ f>4096
   ·have c6:((n*yQ f:Nat):Int)>4096:=by omega
    rw[if_pos hbig] at hD;rw[<-hD] at hS;simp only[c5,c6,Qs,Zk,Za,Ψ42];exact hS _ rfl
   ·have c6: ¬((n*yQ f:Nat):Int)>4096:=by omega
    rw[if_neg hbig] at hD;simp only[c4,c5,c6,Qs,Za,Ψ42];exact Next.intro (i+1,n*yQ f) rfl rfl ⟨by simp only;omega,by simp only;omega,hD⟩ (by simp only;omega)
  ·have c1: ¬(i:Int)<d.flds.length:=by omega
   rw[ZA (by omega),vD] at hD;rw[<-hD] at hS;simp only[c1,zI,Qs,Zk,Zd,Za,Zg,Ψ42];exact hS _ rfl
 ·rw[if_neg h0] at hS
  have w0:(docE d !=0)=true:=by simp[h0]
  rw[<-hn] at g1⊢;simp only[Qs,Zd,Za,Ψ42];refine zF g1 ?_ (ha:=by simp only[Zl,Zq,zB,V.norm,C.norm,C.normRow,yG wO]<;>rfl);simp only[w0,Qs,Zk,Za,Ψ42];exact hS _ rfl
end Go.Abs
set_option maxRecDepth 10000
namespace Go
open Go.RowKit
def bG {α:Type} (F:Fence) (n:Nat) (P:Program) (g:Nat) (lb:Array Value) (encs:α->Array Value) (Kp:World->World->Prop) (S:List α->Prop) (N:Nat) (w:World):Prop:=
 ∀(l:Nat) (J:List α->World->Prop) (W:World),Kp w W->(∀pre W1 W2,J pre W1->Below W1.heap.size W1 W2->J pre W2)->
  (∀pre x W1,J pre W1->pre.length<N->YieldAt F (n-1) P l (encs x) W1 fun e W'=>e=.returned (.bool true)/\J (pre++[x]) W'/\Kp W1 W')->
  J [] W->
  CallsIn F n P g (#[.func (.yield l) #[] #[]]++lb) W fun e W'=>(∃v,e=.returned v)/\ ∃xs,S xs/\J xs W'
def zlZ {α:Type} (B:Nat) (Kp:World->World->Prop) (I:List α->World->Prop) (xs:List α) (W:World):Exit->Act->World->Prop
 | .normal,_,W'=>KeepsFrom B W W'/\Kp W W'/\I xs W'
 |_,_,_=>False
theorem nY {W W':World} (hb:Below W.heap.size W W'):W.grownBy W' none:=⟨hb.os,hb.tape,hb.output,hb.size,fun k hk _=>hb.block k hk⟩
variable {F : Fence} {n : Nat} {P : Program}
theorem zhj {α:Type} {g:Operand} {ps:Array Tmp} {assign body:Code} {Q:Exit->Act->World->Prop} {a:Act} {w:World}
  (hro:F.round=none) (h1:1<=n) {gf:Nat} {lb:Array Value} (hg:a.eval g=.func (.func gf) #[] lb) (hFg:F.fn gf) (eg: ∀args w,(callFunc gf args).run P w=.ok (.enter gf args) w)
  {encs:α->Array Value} {Kp:World->World->Prop} {S:List α->Prop} {N:Nat} (hseq:bG F (n-1) P gf lb encs Kp S N w)
  (hKt: ∀A B C:World,Kp A B->Kp B C->Kp A C) (hKb: ∀(W W':World) (row:Option Nat),w.heap.size<=W.heap.size->W.grownBy W' row->(∀r,row=some r->w.heap.size<=r)->Kp W W') (hps: ∀x,(encs x).size=ps.size)
  (I:List α->World->Prop) (hI:OwnFrom w.heap.size I) (h0:I [] w) (Ax:α->Act->World->Prop) (hA: ∀x a' W l o o',Ax x a' W->w.heap.size<=l->W.heap[l]?=some o->o.isCells=false->Ax x a' (W.putObj l o'))
  (hassign: ∀(l:Nat) (pre:List α) (x:α) (W:World) (K:Act->World->Prop),I pre W->w.heap.size<=W.heap.size->(∀a' W',Ax x a' W'->I pre W'->KeepsFrom w.heap.size W W'->Kp W W'->w.heap.size<=W'.heap.size->K a' W')->
   assign.wpIn (F.inRound l) (n-1-1) P (Exit.then K (fun _ _ _=>False)) {tmps:=(ps.zip (encs x)).foldl (fun t (p,v)=>t.setIfInBounds p v) a.tmps,defers:=[]} W)
  (hbody: ∀(l:Nat) (pre:List α) (x:α) (a':Act) (W:World),Ax x a' W->I pre W->pre.length<N->w.heap.size<=W.heap.size->body.wpIn (F.inRound l) (n-1-1) P (zlZ w.heap.size Kp I (pre++[x]) W) a' W)
  (hdone: ∀(D:Nat) (xs:List α) (W:World),w.heap.size<=D->S xs->I xs W->W.heap[D]?=some (.deferred (some []))->Q .normal {a with defers:={target:=.collected D,args:= #[]}::a.defers} W):
  (Code.rangeFunc g ps assign body).wpIn F n P Q a w:=by
 refine wpIn_rangeFunc ?_;intro fn hfn;rw[hro];obtain⟨rec,hrec⟩: ∃rec:LoopState->Option Code->Loop,rec=fun st pe=>{state:=st,pending:=pe,fn,tmps:=a.tmps,params:=ps,assign,body,defers:=w.heap.size}:=⟨_,rfl⟩
 obtain⟨W1,hW1⟩: ∃W1,(w.alloc (.deferred (some []))).alloc (.loop (rec .ready none))=W1:=⟨_,rfl⟩;have hL1:W1.heap[w.heap.size+1]?=some (.loop (rec .ready none)):=by
  rw[<-hW1];have:=World.alloc_heap_new (w.alloc (.deferred (some []))) (.loop (rec .ready none));rwa [World.size_alloc] at this
 have hK1:W1.heap[w.heap.size]?=some (.deferred (some [])):=by
  rw[<-hW1];exact(Below.heap_alloc _ _ _ (by simp)).trans (World.alloc_heap_new w _)
 have hI1:I [] W1:=by rw[<-hW1];exact hI.alloc _ (hI.alloc _ h0)
 have hg1:w.grownBy W1 none:=by rw[<-hW1];exact nY (((Below.refl _ w).alloc (Zs _) _).alloc (by simp) _)
 have hk1:Kp w W1:=hKb w W1 none (Zs _) hg1 (fun r e=>by cases e);have hs1:w.heap.size+1<W1.heap.size:=(Zo.1 hL1).1;refine⟨w.heap.size+1,[{target:=.collected w.heap.size,args:= #[]}],W1,{target:=.fn (.func gf) lb,args:= #[.func (.yield (w.heap.size+1)) #[] #[]]},W1,gf,
  #[.func (.yield (w.heap.size+1)) #[] #[]]++lb,W1,?_,?_,?_,?_,fun _=>h1,?_⟩
 ·rw[<-hW1,hrec];exact run_enterLoop_outer _ _ _ _ _
 ·simp only[resolve,hg]
  simp[go_sem]
 ·intro f' hf';simp[Target.leads] at hf';subst hf';exact hFg
 ·simp[invoke,go_sem,eg]
 ·refine(hseq (w.heap.size+1)
   (fun pre W=>I pre W/\W.heap[w.heap.size+1]?=some (.loop (rec .ready none))/\W.heap[w.heap.size]?=some (.deferred (some [])))
   W1 hk1
   (fun pre A B hs hb=>⟨hI pre A B none hs.1 (nY hb) (fun r e=>by cases e),(hb.block _ (Zo.1 hs.2.1).1).trans hs.2.1,(hb.block _ (Zo.1 hs.2.2).1).trans hs.2.2⟩)
   ?_ ⟨hI1,hL1,hK1⟩).mono ?_
  ·rintro pre x W ⟨hi,hl,hk⟩ hlen
   have hlt:w.heap.size+1<W.heap.size:=(Zo.1 hl).1;have hy:=run_yield (P:=P) (args:=encs x) hl (by rw[hrec];exact hps x);rw[hrec] at hy;refine⟨fn,_,assign,body,hy,roundIn_of_wpIn hfn (hassign _ pre x W _ hi (by omega) ?_)⟩;intro a' W2 hAx hI2 hk2' hkp2 hsz2;have hl0:=hk2'.same _ _ (by omega) hl rfl;have hk0:=hk2'.same _ _ (Zs _) hk rfl;have hlt2:w.heap.size+1<W2.heap.size:=(Zo.1 hl0).1;refine⟨_,run_beginRound hl0 (by rw[hrec]),?_⟩;have hl2:(W2.putObj (w.heap.size+1) (.loop {rec .ready none with state:=.busy})).heap[w.heap.size+1]?=some (.loop {rec .ready none with state:=.busy}):=World.putObj_heap_same hlt2;have hk2:(W2.putObj (w.heap.size+1) (.loop {rec .ready none with state:=.busy})).heap[w.heap.size]?=some (.deferred (some [])):=(World.putObj_heap_other (by omega)).trans hk0;have hI3:I pre (W2.putObj (w.heap.size+1) (.loop {rec .ready none with state:=.busy})):=hI.putObj _ hI2 (by omega) hl0 rfl;have hg2:=grownBy_putObj' W2 (w.heap.size+1) (.loop {rec .ready none with state:=.busy});have hw2:Kp W2 (W2.putObj (w.heap.size+1) (.loop {rec .ready none with state:=.busy})):=hKb _ _ (some (w.heap.size+1)) (by omega) hg2 (fun r e=>by cases e;omega);refine wpIn_mono (hbody _ pre x a' (W2.putObj (w.heap.size+1) (.loop {rec .ready none with state:=.busy})) (hA _ _ _ _ _ _ hAx (by omega) hl0 rfl) hI3 hlen (by have:=hg2.size;omega)) ?_;rintro e a3 W3 hp;cases e with
   |normal=>
    obtain⟨hk4,hkp4,hi4⟩:=hp;have hkk:=hk4;have hl3:=hkk.same _ _ (by omega) hl2 rfl;have hr:=run_endRound (P:=P) none hl3;rw[hrec] at hr hl3;refine⟨_,_,hr,rfl,⟨hI.putObj _ hi4 (by omega) (hkk.same _ _ (by omega) hl2 rfl) rfl,?_,(World.putObj_heap_other (by omega)).trans (hkk.same _ _ (by omega) hk2 rfl)⟩,?_⟩
    ·rw[hrec];exact World.putObj_heap_same (Zo.1 hl3).1
    ·exact hKt _ _ _ (hKt _ _ _ hkp2 hw2) (hKt _ _ _ hkp4 (hKb _ _ (some (w.heap.size+1)) (by have:=(Zo.1 hl3).1;omega) (grownBy_putObj' _ _ _) (fun r e=>by cases e;omega)))
   |ret=>exact hp.elim
   |exit id=>exact hp.elim
   |goto t=>exact hp.elim
   |panic ch=>exact hp.elim
   |outgrown=>exact hp.elim
  ·rintro e W2 ⟨⟨v,rfl⟩,xs,hS,hi,hl,hk⟩
   exact⟨none,_,by have:=run_endLoop (P:=P) hl (by rw[hrec];simp);rw[hrec] at this;exact this,hdone _ xs _ (Zs _) hS (hI.putObj _ hi (by omega) hl rfl) ((World.putObj_heap_other (by omega)).trans hk)⟩
end Go
set_option maxRecDepth 100000
set_option maxHeartbeats 1000000
namespace Go.Abs
open Go.Proofs Go.RowKit
abbrev zW (W:World):Bk->Prop:=fun b=>b.2<W.heap.size
theorem zl0 {Z:Bk->Prop} {w W:World} (hz: ∀b,Z b->b.2<w.heap.size) (hb:Below w.heap.size w W):yV Z w W:=fun b h=>hb.block b.2 (hz b h)
theorem vW {w W:World} {c:C} {v:Value} (h:PRep w (zW w) c v) (hb:Below w.heap.size w W):PRep W (zW W) c v:=
 h.mono (zl0 (fun _ h=>h) hb) fun _ h=>ZL h hb.size
theorem nZ {w:World} {Z:Bk->Prop} {c:C} {v:Value} (hz: ∀b,Z b->b.2<w.heap.size) (h:PRep w Z c v):PRep w (zW w) c v:=h.mono (fun _ _=>rfl) hz
theorem iY {w:World} {Z:Bk->Prop} {r:List C} {cs:List Value} (hr: ∀c∈r,c.sc=true) (h:yD w Z r cs):cs=r.map wE:=by
 apply List.ext_getElem?;intro j;rw[Zv];cases hj:r[j]? with
 |none=>
  rw[List.getElem?_eq_none_iff] at hj;rw[Y2 (by rw[h.1];exact hj)];rfl
 |some c=>
  have hlt:j<cs.length:=by rw[h.1];exact(Zr.1 hj).1
  have h1:cs[j]?=some cs[j]:=by simp[hlt]
  rw[h1,cY (hr c (ZI hj)) (h.2 j c _ hj h1)];rfl
theorem zl1 {w:World} {Z:Bk->Prop} {r:List C} (hr: ∀c∈r,c.sc=true):yD w Z r (r.map wE):=by
 refine⟨by simp,fun j c v hc hv=>?_⟩;rw[Zv,hc] at hv;cases hv;exact zha (hr c (ZI hc))
theorem xS (w:World) (Z:Bk->Prop):wH w Z [] []:=⟨rfl,fun j x v h=>by simp at h⟩
theorem zhk {w:World} {Z:Bk->Prop} {x:V} {xs:List V} {v:Value} {vs:List Value} (hx:x.isPure=true) (hv:zD w Z (fun _=>none) (fun _=>none) x v) (h:wH w Z xs vs):wH w Z (x::xs) (v::vs):=by
 refine⟨by simp[h.1],fun j y u hy hu=>?_⟩;cases j with
 |zero=>cases hy;cases hu;exact⟨hx,hv⟩
 |succ j=>exact h.2 j y u (by simpa using hy) (by simpa using hu)
theorem vH {w:World} {Z:Bk->Prop} {c:C} {xs:List V} {v:Value} {vs:List Value} (hv:PRep w Z c v) (h:wH w Z xs vs):wH w Z (.k (.c c)::xs) (v::vs):=zhk rfl ⟨hv.oneCell,hv⟩ h
theorem iZ {w:World} {Z:Bk->Prop} {r:List C} {xs:List V} {us:Array Value} {vs:List Value} (hv:yD w Z r us.toList) (h:wH w Z xs vs):wH w Z (.agg r::xs) (.agg us::vs):=zhk rfl ⟨us,rfl,hv⟩ h
theorem vN {w:World} {Z:Bk->Prop} {r:List C} {xs:List V} {vs:List Value} (hr: ∀c∈r,c.sc=true) (h:wH w Z xs vs):wH w Z (.agg r::xs) (.agg (r.map wE).toArray::vs):=iZ (zl1 hr) h
theorem Spec.pureC {P:Program} {f:FuncId} {xs:List V} {r:V} (h:Spec P f xs (fun r'=>r'=r)) (hp:r.isPure=true) (hr: ∀n,r.reg n=(r,[])) {W:World} (hG:yI (base W)) {Z:Bk->Prop} (hz: ∀b,Z b->b.2<W.heap.size) {vs:Array Value} (ha:wH W Z xs vs.toList):
  Calls P f vs W fun e W'=> ∃v,e=.returned v/\Below W.heap.size W W'/\zD W' (zW W') (fun _=>none) (fun _=>none) r v:=by
 refine(h.2 W Z vs hG hz ha).mono ?_;rintro e w' ⟨v,r',rfl,rfl,hnr,hrep⟩;obtain⟨κ,hi⟩:=hrep 0;have h0:=hi.tmps 0;simp only[if_pos,hr] at h0;refine⟨v,rfl,iU hi.kept,?_⟩;have h1:=zD.pure_any (κ':=fun _=>none) (o':=fun _=>none) hp h0;exact zD.mono (fun _ _=>rfl) (fun b hb=>hb.2.1) (τs:=fun _=>False) (fun τ hτ=>hτ.elim) (fun τ hτ=>by rw[hnr τ] at hτ;cases hτ) h1
theorem Spec.boolC {P:Program} {f:FuncId} {xs:List V} {b:Bool} (h:Spec P f xs (fun r'=>r'=.bool b)) {W:World} (hG:yI (base W)) {Z:Bk->Prop} (hz: ∀b,Z b->b.2<W.heap.size) {vs:Array Value} (ha:wH W Z xs vs.toList):
  Calls P f vs W fun e W'=>e=.returned (.bool b)/\Below W.heap.size W W':=by
 refine(h.pureC rfl (fun _=>rfl) hG hz ha).mono ?_;rintro e w' ⟨v,rfl,hb,hv⟩;rw[qR hv.2];exact⟨rfl,hb⟩
theorem Spec.strC {P:Program} {f:FuncId} {xs:List V} {s:List UInt8} (h:Spec P f xs (fun r'=>r'=.str s)) {W:World} (hG:yI (base W)) {Z:Bk->Prop} (hz: ∀b,Z b->b.2<W.heap.size) {vs:Array Value} (ha:wH W Z xs vs.toList):
  Calls P f vs W fun e W'=>e=.returned (.string ⟨s.toArray⟩)/\Below W.heap.size W W':=by
 refine(h.pureC rfl (fun _=>rfl) hG hz ha).mono ?_;rintro e w' ⟨v,rfl,hb,hv⟩;rw[uQ hv.2];exact⟨rfl,hb⟩
theorem Spec.intC {P:Program} {f:FuncId} {xs:List V} {k:IntKind} {n:Int} (h:Spec P f xs (fun r'=>r'=.int k n)) {W:World} (hG:yI (base W)) {Z:Bk->Prop} (hz: ∀b,Z b->b.2<W.heap.size) {vs:Array Value} (ha:wH W Z xs vs.toList):
  Calls P f vs W fun e W'=>e=.returned (.int k n)/\Below W.heap.size W W':=by
 refine(h.pureC rfl (fun _=>rfl) hG hz ha).mono ?_;rintro e w' ⟨v,rfl,hb,hv⟩;rw[vB hv.2];exact⟨rfl,hb⟩
theorem Spec.listC {P:Program} {f:FuncId} {xs:List V} {c:C} (h:Spec P f xs (fun r'=>r'=.k (.c c))) {W:World} (hG:yI (base W)) {Z:Bk->Prop} (hz: ∀b,Z b->b.2<W.heap.size) {vs:Array Value} (ha:wH W Z xs vs.toList):
  Calls P f vs W fun e W'=> ∃v,e=.returned v/\Below W.heap.size W W'/\PRep W' (zW W') c v:=by
 refine(h.pureC rfl (fun _=>rfl) hG hz ha).mono ?_;rintro e w' ⟨v,rfl,hb,hv⟩;exact⟨v,rfl,hb,hv.2⟩
theorem Spec.aggC {P:Program} {f:FuncId} {xs:List V} {r:List C} (hr: ∀c∈r,c.sc=true) (h:Spec P f xs (fun r'=>r'=.agg r)) {W:World} (hG:yI (base W)) {Z:Bk->Prop} (hz: ∀b,Z b->b.2<W.heap.size) {vs:Array Value} (ha:wH W Z xs vs.toList):
  Calls P f vs W fun e W'=>e=.returned (.agg (r.map wE).toArray)/\Below W.heap.size W W':=by
 refine(h.pureC rfl (fun _=>rfl) hG hz ha).mono ?_;rintro e w' ⟨v,rfl,hb,cs,rfl,hv⟩;have h1:=iY hr hv;obtain⟨cl⟩:=cs;have h2:cl=r.map wE:=h1;subst h2;exact⟨rfl,hb⟩
theorem zl2 {rows:List (List C)} {sz:Nat} (hs: ∀r∈rows,r.length=sz) {cur:Array Value} (hc: ∀(i j:Nat) r c,rows[i]?=some r->r[j]?=some c->cur[i*sz+j]?=some (wE c)):cur.toList.take (rows.length*sz)=(rows.flatten.map wE):=by
 have key: ∀(rows:List (List C)) (q:Nat),(∀r∈rows,r.length=sz)->(∀(i j:Nat) r c,rows[i]?=some r->r[j]?=some c->cur[q+(i*sz+j)]?=some (wE c))->(cur.toList.drop q).take (rows.length*sz)=rows.flatten.map wE:=by
  intro rows
  induction rows with
  |nil=>intro q _ _;simp
  |cons r rows ih=>
   intro q h1 h2;have hr:=h1 r (by simp);have h3:=ih (q+sz) (fun x hx=>h1 x (Zz _ hx)) fun i j r' c hi hj=>by
    have:=h2 (i+1) j r' c (by simpa using hi) hj;rw[show q+((i+1)*sz+j)=q+sz+(i*sz+j) by rw[Xi];omega] at this;exact this
   rw[Zn,Xi,YX,List.take_add,List.drop_drop,h3,YE,ZW];congr 1;apply List.ext_getElem?;intro j;rw[Z2,Yz,Zv];by_cases hj:j<sz
   ·rw[if_pos hj]
    have hj':j<r.length:=by omega
    rw[Zh hj',Yq,Yr];have:=h2 0 j r r[j] rfl (Zh hj')
    rwa [Nat.zero_mul,ZU] at this
   ·rw[if_neg hj,Y2 (by omega)];rfl
 have:=key rows 0 hs (by simpa using hc);simpa using this
theorem Spec.newB {P:Program} {f:FuncId} {xs:List V} {e sz:Nat} {rows:List (List C)} {b:Bool} (hsc: ∀r∈rows,∀c∈r,c.sc=true) (hln: ∀r∈rows,r.length=sz) (h:Spec P f xs (fun r'=>r'=.tup [.k (.newl e sz none rows),.bool b])) {W:World} (hG:yI (base W)) {Z:Bk->Prop} (hz: ∀b,Z b->b.2<W.heap.size) {vs:Array Value} (ha:wH W Z xs vs.toList):
  Calls P f vs W fun ex W'=> ∃v,ex=.returned (.tuple #[v,.bool b])/\Below W.heap.size W W'/\W'.ownsRow W.heap.size e sz v rows.length (rows.flatten.map wE):=by
 refine(h.2 W Z vs hG hz ha).mono ?_;rintro ex w' ⟨v,r',rfl,rfl,_,hrep⟩;obtain⟨κ,hi⟩:=hrep 0;have h0:=hi.tmps 0;have ho:=hi.objs 0 (.arr e sz none rows) rfl;have hw:=hi.own 0;have hlen:(rows.flatten.map wE).length=rows.length*sz:=by rw[Zg];exact zhd rows hln
 obtain⟨us,hu,hl,hv⟩:=h0;have hu':v=.tuple us:=hu;subst hu';obtain⟨l⟩:=us
 match l,hl,hv with
 |[x,y],_,hv=>
  obtain⟨hx,hy,_⟩:=hv;have hyb:=qR hy.2;subst hyb;refine⟨x,rfl,iU hi.kept,hlen,?_⟩;have hx2:=hx.2 e sz none rows rfl;rcases ho with⟨h1,h2,_⟩|⟨g,cur,cap,h1,h2,h3,h4,h5,h6,_,h8,h9⟩
  ·rcases hx2 with⟨_,h3⟩|⟨g,cur,cap,h3,_⟩
   ·exact .inl ⟨h3,by rw[h2];rfl⟩
   ·rw[h1] at h3;cases h3
  ·rcases hx2 with⟨h,_⟩|⟨g',cur',cap',k1,k2,k3,k4⟩
   ·rw[h1] at h;cases h
   ·rw[h1] at k1;cases k1
    rw[h2] at k2;cases k2;obtain rfl:cap=cap':=by
     have:=h4.symm.trans k3;exact Nat.eq_of_mul_eq_mul_right h3 this
    have hg:=(hw g (by simp[zS,V.reg,V.regL]) h1);refine .inr ⟨g,cap,cur,k4,Xh hg.1,h2,h5,h6,h4,zl2 h8 fun i j r c hr hc=>?_⟩;obtain⟨u,hu,hp⟩:=h9 i j r c hr hc;rw[hu,cY (hsc r (ZI hr) c (ZI hc)) hp]
end Go.Abs
set_option maxRecDepth 100000
set_option maxHeartbeats 4000000
namespace Go.Proofs
open Go.RowKit Go.Shelf Go.Abs
attribute [local go_sem] Oper.semAt_some
abbrev Ix (m:Nat):Type:={k:Nat//k<m}
def bI (m:Nat) (fv:Nat->Value×Value) (x:Ix m):Array Value:= #[.int .i64 (x.1:Int),.agg #[(fv x.1).1,(fv x.1).2]]
def zl3 (m:Nat) (xs:List (Ix m)):Prop:=xs.map (fun x=>x.1)=(List.range m).reverse
theorem zl4 {m k:Nat} {pre:List (Ix m)} (hk:k+1<=m) (h:pre.map (fun x=>x.1)++(List.range (k+1)).reverse=(List.range m).reverse):(pre++[(⟨k,hk⟩:Ix m)]).map (fun x=>x.1)++(List.range k).reverse=(List.range m).reverse:=by
 rw[<-h,XI,List.reverse_append];simp
theorem zl5 (n:Nat) (hn:3<=n) (bs m cap:Nat) (hm:m<=1000000) (p:Option Addr) (b o:Nat) (fv:Nat->Value×Value) (hf1: ∀k,(fv k).1.oneCell'=true) (hf2: ∀k,(fv k).2.oneCell'=true) (hp:0<m->p=some ⟨b,o,none⟩) (w:World) (Kp:World->World->Prop) (hKr:Kp w w) (hKt: ∀A B C,Kp A B->Kp B C->Kp A C)
  (hbx: ∀W,Kp w W->W.cell? ⟨bs,0,none⟩=some (.slice p m cap)) (hcl: ∀W,Kp w W-> ∀k,k<m->W.cell? ⟨b,o+k*2,none⟩=some (fv k).1/\W.cell? ⟨b,o+k*2+1,none⟩=some (fv k).2):
  bG Fence.wide n Tryz.prog 154 #[.pointer (some ⟨bs,0,none⟩)] (bI m fv) Kp (zl3 m) m w:=by
 intro l J W hW hJ hY h0;have h1n:1<=n:=by omega
 have mixed:Tryz.prog.follows Departure.mixedOrders=true:=by kernel_rfl
 have hb0:=hbx W hW;refine callsIn_of_wp Tryz.func154 rfl trivial ?_ rfl;simp only[Tryz.ntmps154,Yv,Zn,ZF,Zd,Y3,YH,YG,YR,YM,Ya,ZR];have hw0:IntKind.i64.wrap ((m:Int)-1)=(m:Int)-1:=wrap_in (by omega) (by omega)
 gi_wp2
 gi_loopw [3] (fun q wr=> ∃(k:Nat) (pre:List (Ix m)),k<=m/\q=.int .i64 ((k:Int)-1)/\pre.map (fun x=>x.1)++(List.range k).reverse=(List.range m).reverse/\pre.length+k=m/\J pre wr/\Kp w wr)
  (fun q wr=>match q with| .int _ z=>(z+1).toNat|_=>0)
 case atStart=>exact⟨m,[],Zs _,rfl,by simp,by simp,h0,hW⟩
 case round=>
  obtain⟨k,pre,hk,rfl,hpre,hlen,hJ,hKp⟩:=hrel;by_cases h0k:k=0
  ·subst h0k
   have hle: ¬((0:Nat):Int)-1>=0:=by omega
   gi_wp2
   go_end0
   refine⟨⟨_,rfl⟩,pre,?_,hJ⟩;show _=_;rw[<-hpre];simp
  ·obtain⟨q,rfl⟩: ∃q,k=q+1:=⟨k-1,by omega⟩
   obtain rfl:=hp (by omega);have e6:((q+1:Nat):Int)-1=(q:Int):=by omega
   have hge:(q:Int)>=0:=by omega
   have hqm:(q:Int)<m:=by omega
   have hb1:=hbx wr hKp;obtain⟨hc1,hc2⟩:=hcl wr hKp q (by omega);have ho1:=hf1 q;have ho2:=hf2 q;have hw1:IntKind.i64.wrap ((q:Int)-1)=(q:Int)-1:=wrap_in (by omega) (by omega);obtain⟨fn,tmps,assign,body,hy,hR⟩:=hY pre ⟨q,by omega⟩ wr hJ (by omega);simp only[bI] at hy;rw[e6];clear hbx hcl hY
   gi_wp2
   refine hR.mono ?_;rintro e W3 ⟨rfl,hJ3,hk3⟩
   gi_wp2
   go_roundw
   case rel=>exact⟨q,pre++[⟨q,by omega⟩],by omega,rfl,zl4 (by omega) hpre,by rw[Zu];simp only[Zn,ZF];omega,hJ3,hKt _ _ _ hKp hk3⟩
   case measure=>simp only[];omega
end Go.Proofs
set_option maxRecDepth 100000
set_option maxHeartbeats 4000000
namespace Go.Proofs
open Go.RowKit Go.Wd Go.Wire
def tV (s:Txt):Value:=.string ⟨s.toArray⟩
def clV (op:Int) (d f o s t:Txt) (lo hi:Int):Value:=
 if op=0 then .iface 165 (.agg #[tV d]) else if op=1 then .iface 167 (.agg #[tV d,tV f,tV t]) else if op=3 then .iface 169 (.agg #[tV d,tV f,tV o,tV s])
 else if op=2 then .iface 171 (.agg #[tV d,tV f,.int .i64 lo,.int .i64 hi,.bool false]) else if op=4 then .iface 171 (.agg #[tV d,tV f,.int .i64 lo,.int .i64 hi,.bool true]) else .nilIface
def okO (op:Int):Bool:=decide (op=0)||(decide (op=1)||(decide (op=3)||(decide (op=2)||decide (op=4))))
theorem mA (w:World) (o1 o2:Obj):Below w.heap.size w ((w.alloc o1).alloc o2):=((Below.refl _ w).alloc (Zs _) _).alloc (by simp) _
theorem zhl (op:Int) (d f o s t:Txt) (lo hi:Int) (w:World):Calls Tryz.prog 79 #[.agg #[.int .i64 op,tV d,tV f,tV o,tV s,tV t,.int .i64 lo,.int .i64 hi]] w fun e w'=>e=.returned (.tuple #[clV op d f o s t lo hi,.bool (okO op)])/\Below w.heap.size w w':=by
 unfold tV;by_cases h0:op=0
 ·subst h0
  go_enter Tryz.func79,Tryz.ntmps79
  go_wp2
  go_ret2
  exact⟨rfl,mA w _ _⟩
 by_cases h1:op=1
 ·subst h1
  go_enter Tryz.func79,Tryz.ntmps79
  go_wp2
  go_ret2
  exact⟨rfl,mA w _ _⟩
 by_cases h3:op=3
 ·subst h3
  go_enter Tryz.func79,Tryz.ntmps79
  go_wp2
  go_ret2
  exact⟨rfl,mA w _ _⟩
 by_cases h2:op=2
 ·subst h2
  go_enter Tryz.func79,Tryz.ntmps79
  go_wp2
  go_ret2
  exact⟨rfl,mA w _ _⟩
 by_cases h4:op=4
 ·subst h4
  go_enter Tryz.func79,Tryz.ntmps79
  go_wp2
  go_ret2
  exact⟨rfl,mA w _ _⟩
 have e1:clV op d f o s t lo hi=.nilIface:=by unfold clV;rw[if_neg h0,if_neg h1,if_neg h3,if_neg h2,if_neg h4]
 have e2:okO op=false:=by unfold okO;simp[h0,h1,h2,h3,h4]
 rw[e1,e2]
 go_enter Tryz.func79,Tryz.ntmps79
 go_wp2
 go_ret2
 exact⟨rfl,mA w _ _⟩
end Go.Proofs
set_option maxRecDepth 100000
set_option maxHeartbeats 8000000
namespace Go.Ex
open Go.Lib Go.Wd Go.Wire Go.Abs
def fldsF (d f:Txt):List Pln->List Txt->List Txt×Bool
 |[],acc=>(acc,true)
 |p::l,acc=>if p.kind=d then(if fstN (fun x=>decide (f=x)) p.names 0<0\/fstN (fun x=>decide (f=x)) p.names 0>=p.texts.length then([],false) else fldsF d f l (acc++[p.texts.getD (fstN (fun x=>decide (f=x)) p.names 0).toNat []])) else fldsF d f l acc
structure PlnS (p:Pln):Prop where
 kd:p.kind.length<=1000000
 ns:p.names.length<=1000000
 ts:p.texts.length<=1000000
 tx: ∀s∈p.texts,s.length<=1000000
def vE (l:List Pln):Prop:=l.length<=1000000/\ ∀p∈l,PlnS p
def kindP (l:List Pln) (s:Txt):Bool:=l.any fun p=>decide (p.kind=s)
end Go.Ex
namespace Go.Abs
open Go.Proofs Go.RowKit Go.Lib Go.Wd Go.Wire Go.Ex
def yM (p:Pln):List C:=[.str p.kind,zC 1 (zJ p.names),zC 1 (zJ p.texts)]
@[simp] theorem sQ (p:Pln):C.normRow (yM p)=yM p:=by simp only[yM,C.normRow,C.norm,zO,wD]
theorem zpl {l:List Pln} {i:Nat} (h:i<l.length):(l.map yM).getD i []=[.str l[i].kind,zC 1 (zJ l[i].names),zC 1 (zJ l[i].texts)]:=by simp[yM,h]
theorem zl6 (s:Txt) (p:Pln):Spec Tryz.prog 209 [.agg (yM p),.k (.c (.ro [.str s] 0))] (fun v=>v=.bool (decide (p.kind=s))):=by
 refine Spec.of_awlS hf209 okf209 (by simp) fun S hS=>?_
 unfold yM;simp only[Qs,Zd,Zm,Za,Ψ209];refine wJ hS ?_;simp
theorem zl7 (s:Txt) (l:List Pln) (hl:l.length<=1000000):Spec Tryz.prog 210 [lst 3 (l.map yM),.k (.c (.fn 209 [.ro [.str s] 0]))] (fun v=>v=.int .i64 (fstN (fun p:Pln=>decide (p.kind=s)) l 0)):=by
 refine Spec.of_awlS hf210 okf210 (by simp) fun S hS=>?_
 simp only[zI,Qs,Zd,Za,Zg,Ψ210];rw[uu f210l17.eq_1];refine yA (fun i:Nat=>[(0,lst 3 (l.map yM)),(1,.k (.c (.fn 209 [.ro [.str s] 0]))),(7,.int .i64 l.length),(8,.int .i64 i)]) (fun _=>[]) (fun i=>i<=l.length/\fstN (fun p:Pln=>decide (p.kind=s)) (l.drop i) i=fstN (fun p:Pln=>decide (p.kind=s)) l 0) (fun i=>l.length-i) 0 rfl rfl ⟨ZB _,by simp⟩ ?_;rintro i ⟨hi,hD⟩;by_cases hlt:i<l.length
 ·have c1:(i:Int)<l.length:=by omega
  have c4:IntKind.i64.wrap ((i:Int)+1)=(i:Int)+1:=wrap_in (by omega) (by omega);have gi:=zl6 s l[i];rw[oJ hlt] at hD;simp only[c1,zI,zpl hlt,Qs,Za,Zg,Ψ210];refine pC gi ?_ (ha:=by simp only[Zl,Zq,ZR,Ya,zB,V.norm,C.norm,yM,C.normRow,zO,wD]<;>rfl);by_cases he:l[i].kind=s
  ·rw[if_pos (decide_eq_true he)] at hD
   rw[<-hD] at hS;simp only[decide_eq_true he,Qs,Za,Ψ210];exact hS
  ·rw[if_neg (by rw[decide_eq_false he];simp)] at hD
   simp only[decide_eq_false he,c4,Qs,Za,Ψ210];exact Next.intro (i+1) rfl rfl ⟨by omega,hD⟩ (by omega)
 ·have c1: ¬(i:Int)<l.length:=by omega
  rw[ZA (by omega)] at hD;rw[<-hD] at hS;simp only[c1,Qs,Xf,Za,Ψ210];exact hS
theorem zl8 (s:Txt) (l:List Pln) (hl:l.length<=1000000):Spec Tryz.prog 208 [lst 3 (l.map yM),.k (.c (.fn 209 [.ro [.str s] 0]))] (fun v=>v=.bool (kindP l s)):=by
 refine Spec.of_awlS hf208 okf208 (by simp) fun S hS=>?_
 have g1:=zl7 s l hl;have hp:=pE (p:=fun p:Pln=>decide (p.kind=s)) l 0;generalize fstN (fun p:Pln=>decide (p.kind=s)) l 0=x at g1 hp;simp only[Qs,Zd,Za,Ψ208];refine zF g1 ?_ (ha:=by simp only[Zl,Zq,zB,V.norm,C.norm,yG sQ,C.normRow]<;>rfl);simp only[Qs];exact wJ hS (by rw[decide_eq_true_eq];exact hp)
theorem zhm (s:Txt) (l:List Pln) (hl:l.length<=1000000):Spec Tryz.prog 207 [lst 3 (l.map yM),.str s] (fun v=>v=.bool (kindP l s)):=by
 refine Spec.of_awlS hf207 okf207 (by simp) fun S hS=>?_
 have g1:=zl8 s l hl;generalize kindP l s=x at g1 hS;simp only[Qs,zes,Zd,Za,zgK,zgL,zgM,zgN,zgO,Ψ207];refine zF g1 ?_ (ha:=by simp only[Zl,Zq,zB,V.norm,C.norm,yG sQ,C.normRow]<;>rfl);simp only[Qs];exact hS
theorem zl9 (s:Txt) (l:List Pln) (hl:l.length<=1000000):Spec Tryz.prog 204 [.agg [.str s],lst 3 (l.map yM)] (fun v=>v=.bool (kindP l s)):=by
 refine Spec.of_awlS hf204 okf204 (by simp) fun S hS=>?_
 have g1:=zhm s l hl;generalize kindP l s=x at g1 hS;simp only[Qs,Zd,Za,Ψ204];refine zF g1 ?_ (ha:=by simp only[Zl,Zq,zB,V.norm,C.norm,yG sQ,C.normRow]<;>rfl);simp only[Qs];exact hS
theorem zhn (d f:Txt) (l:List Pln) (hl:vE l):Spec Tryz.prog 215 [lst 3 (l.map yM),.agg [.str d,.str f]] (fun v=>v=.tup [lst 1 (zJ (fldsF d f l []).1),.bool (fldsF d f l []).2]):=by
 refine Spec.of_awlP hf215 okf215 (by simp) fun S hS=>?_
 have hlen:=hl.1;simp only[zI,Qs,bne_iff_ne,ne_eq,Zd,Zt,Za,Zg,Ψ215];rw[uu f215l25.eq_1];refine yA (fun x:Nat×List Txt×Option Bool=>[(3,.k (.c (.ro [.str d,.str f] 0))),(6,.k (.own 6)),(10,lst 3 (l.map yM)),(11,.int .i64 l.length),(12,.int .i64 x.1)]) (fun x=>[(6,.arr 9 1 x.2.2 (zJ x.2.1))]) (fun x=>x.1<=l.length/\x.2.1.length<=x.1/\fldsF d f (l.drop x.1) x.2.1=fldsF d f l []) (fun x=>l.length-x.1) (0,[],some true) rfl rfl ⟨ZB _,by decide,rfl⟩ ?_;rintro⟨i,L,nl⟩ ⟨hi,hL,hD⟩;simp only[] at hi hL hD;by_cases hlt:i<l.length
 ·have d1:(i:Int)<l.length:=by omega
  have c4:IntKind.i64.wrap ((i:Int)+1)=(i:Int)+1:=wrap_in (by omega) (by omega);have hat:=zpl hlt;rw[ZE hlt,fldsF] at hD;have hp:=hl.2 _ (Zy hlt);generalize l[i]=p at hD hat hp;have g1:=c40 p.names f (big hp.ns);by_cases hk:p.kind=d
  ·rw[if_pos hk] at hD
   generalize fstN (fun x=>decide (f=x)) p.names 0=j at hD g1;by_cases hj:j<0\/j>=p.texts.length
   ·rw[if_pos hj] at hD
    rw[<-hD] at hS;by_cases hj0:j<0
    ·simp only[d1,hat,hk,zI,Qs,bne_iff_ne,ne_eq,BEq.rfl,Zk,Zd,Zt,Zm,Za,Zg,Ψ215]
     refine zF g1 ?_ (ha:=by simp only[Zl,Zq,zB,V.norm,C.norm,zO,wD]<;>rfl);simp only[hj0,yB,Qs,zeS,bne_iff_ne,ne_eq,Zk,ZV,Zt,Za,Zx,Ψ215];exact hS _ rfl
    ·have hj1:j>=p.texts.length:=hj.resolve_left hj0
     simp only[d1,hat,hk,zI,Qs,bne_iff_ne,ne_eq,BEq.rfl,Zk,Zd,Zt,Zm,Za,Zg,Ψ215];refine zF g1 ?_ (ha:=by simp only[Zl,Zq,zB,V.norm,C.norm,zO,wD]<;>rfl);simp only[hj0,hj1,yB,Qs,bne_iff_ne,ne_eq,Zk,ZV,Zd,Zt,Za,Zx,Ψ215];exact hS _ rfl
   ·rw[if_neg hj] at hD
    obtain⟨m,rfl⟩: ∃m:Nat,j=m:=⟨j.toNat,by omega⟩;have hj0: ¬(m:Int)<0:=by omega
    have hj1: ¬(m:Int)>=p.texts.length:=by omega
    have hm:m<p.texts.length:=by omega
    have hgd:p.texts.getD (m:Int).toNat []=p.texts[m]:=by simp[List.getD,hm]
    rw[hgd] at hD;simp only[d1,hat,hk,zI,Qs,bne_iff_ne,ne_eq,BEq.rfl,Zk,Zd,Zt,Zm,Za,Zg,Ψ215];refine zF g1 ?_ (ha:=by simp only[Zl,Zq,zB,V.norm,C.norm,zO,wD]<;>rfl);simp only[hj0,hj1,yB,uI hm,c4,Qs,forall_eq,bne_iff_ne,ne_eq,ZH,Zd,Zt,Zm,Z5,Za,Zx,Ψ215];refine⟨by omega,by omega,by omega,Next.intro (i+1,L++[p.texts[m]],some false) rfl (by simp[zJ];rfl) ⟨by simp only;omega,by simp;omega,hD⟩ (by simp only;omega)⟩
  ·rw[if_neg hk] at hD
   simp only[d1,hat,hk,c4,zI,Qs,forall_const,bne_iff_ne,ne_eq,Zk,Zd,Zt,Zm,Za,Zg,Ψ215];exact Next.intro (i+1,L,nl) rfl rfl ⟨by simp only;omega,by simp only;omega,hD⟩ (by simp only;omega)
 ·have d1: ¬(i:Int)<l.length:=by omega
  rw[ZA (by omega),fldsF] at hD;rw[<-hD] at hS;simp only[d1,Qs,Zk,ZV,Za,Zx,Ψ215];refine hS _ ?_;simp only[V.fz,V.fzL,V.nrm,V.nrmL,wD,qB (wD L)];rfl
end Go.Abs
set_option maxRecDepth 100000
set_option maxHeartbeats 8000000
namespace Go.Abs
open Go.Proofs Go.RowKit Go.Lib Go.Wd Go.Wire Go.Ex
theorem zma {g:Nat} {c:C} (hcn:c.norm=c) {p:Txt->Bool} (l:List Txt) (hg: ∀s∈l,Spec Tryz.prog g [.str s,.k (.c c)] (fun v=>v=.bool (p s))) (hl:l.length<=3000000):Spec Tryz.prog 96 [lst 1 (zJ l),.k (.c (.fn g [c]))] (fun v=>v=.int .i64 (fstN p l 0)):=by
 refine Spec.of_awlS hf96 okf96 (by simp) fun S hS=>?_
 simp only[yB,Qs,Zd,Za,Ψ96];rw[uu f96l17.eq_1];refine yA (fun i:Nat=>[(0,lst 1 (zJ l)),(1,.k (.c (.fn g [c]))),(7,.int .i64 l.length),(8,.int .i64 i)]) (fun _=>[]) (fun i=>i<=l.length/\fstN p (l.drop i) i=fstN p l 0) (fun i=>l.length-i) 0 rfl rfl ⟨ZB _,by simp⟩ ?_;rintro i ⟨hi,hD⟩;by_cases hlt:i<l.length
 ·have c1:(i:Int)<l.length:=by omega
  have c4:IntKind.i64.wrap ((i:Int)+1)=(i:Int)+1:=wrap_in (by omega) (by omega);have gi:=hg l[i] (Zy hlt);rw[oJ hlt] at hD;simp only[c1,yB,uI hlt,Qs,Za,Ψ96];refine pC gi ?_ (ha:=by simp only[Zl,Zq,ZR,Ya,zB,V.norm,C.norm,hcn]<;>rfl);cases hp:p l[i] with
  |true=>
   rw[if_pos hp] at hD;rw[<-hD] at hS;simp only[Qs,Za,Ψ96];exact hS
  |false=>
   rw[if_neg (by rw[hp];simp)] at hD;simp only[c4,Qs,Za,Ψ96];exact Next.intro (i+1) rfl rfl ⟨by omega,hD⟩ (by omega)
 ·have c1: ¬(i:Int)<l.length:=by omega
  rw[ZA (by omega)] at hD;rw[<-hD] at hS;simp only[c1,Qs,Xf,Za,Ψ96];exact hS
theorem zho {g:Nat} {c:C} (hcn:c.norm=c) {p:Txt->Bool} (l:List Txt) (hg: ∀s∈l,Spec Tryz.prog g [.str s,.k (.c c)] (fun v=>v=.bool (p s))) (hl:l.length<=3000000):Spec Tryz.prog 57 [lst 1 (zJ l),.k (.c (.fn g [c]))] (fun v=>v=.bool (l.any p)):=by
 refine Spec.of_awlS hf57 okf57 (by simp) fun S hS=>?_
 have g1:=zma hcn l hg hl;have hp:=pE (p:=p) l 0;generalize fstN p l 0=x at g1 hp;simp only[Qs,Zd,Za,Ψ57];refine zF g1 ?_ (ha:=by simp only[Zl,Zq,zB,V.norm,zO,C.norm,C.normRow,hcn,wD]<;>rfl);simp only[Qs];refine wJ hS ?_;rw[decide_eq_true_eq];exact hp
theorem zmb (d f t s:Txt):Spec Tryz.prog 216 [.str s,.k (.c (.ro [.str d,.str f,.str t] 0))] (fun v=>v=.bool (!decide (s=t))):=by
 refine Spec.of_awlS hf216 okf216 (by simp) fun S hS=>?_
 simp only[Qs,Zd,Za,Ψ216];refine wJ hS ?_;simp
theorem mB (d f:Txt): ∀(l:List Pln) (acc:List Txt),(fldsF d f l acc).1.length<=acc.length+l.length
 |[],acc=>by simp[fldsF]
 |p::l,acc=>by
  rw[fldsF];split
  ·split
   ·simp
   ·have:=mB d f l (acc++[p.texts.getD (fstN (fun x=>decide (f=x)) p.names 0).toNat []])
    simp only[Zu,Zn,ZF] at this⊢;omega
  ·have:=mB d f l acc
   simp only[Zn];omega
def readsP (d f t:Txt) (l:List Pln):Bool:=(fldsF d f l []).2&& !(fldsF d f l []).1.any fun s=> !decide (s=t)
theorem zmc (d f t:Txt) (l:List Pln) (hl:vE l):Spec Tryz.prog 212 [.agg [.str d,.str f,.str t],lst 3 (l.map yM)] (fun v=>v=.bool (readsP d f t l)):=by
 refine Spec.of_awlS hf212 okf212 (by simp) fun S hS=>?_
 have g1:=zhn d f l hl;have hn:=mB d f l [];have h1:=hl.1;unfold readsP at hS;generalize fldsF d f l []=r at g1 hn hS;obtain⟨L,b⟩:=r;simp only[] at g1 hn hS;have g2:=zho (c:=.ro [.str d,.str f,.str t] 0) rfl L (fun s _=>zmb d f t s) (by simp only[ZF] at hn;omega);simp only[Qs,Zd,Zm,Za,Ψ212];refine xI g1 ?_ (ha:=by simp only[Zl,Zq,zB,V.norm,C.norm,yG sQ,C.normRow]<;>rfl);cases b with
 |false=>
  simp only[Qs,zcr,Zk,Zd,Yg,Za,Ψ212];exact hS
 |true=>
  simp only[Qs,zcr,Zk,Zd,Yg,Za,zgK,zgL,zgM,zgN,zgO,Ψ212];refine zF g2 ?_ (ha:=by simp only[Zl,Zq,zB,V.norm,zO,C.norm,C.normRow,wD]<;>rfl);simp only[Qs,Za];exact hS
end Go.Abs
set_option maxRecDepth 100000
set_option maxHeartbeats 8000000
namespace Go.Ex
open Go.Lib Go.Wd Go.Wire Go.Abs
def digsV (s:Txt):Nat:=s.foldl (fun a c=>10*a+(c.toNat-48)) 0
theorem zhp {s:Txt} {i:Nat} (h:i<s.length):digsV (s.take (i+1))=10*digsV (s.take i)+(s[i].toNat-48):=by
 unfold digsV;rw[List.take_add_one,Zh h,Option.toList_some,Xp];rfl
theorem zhq {c:UInt8} (h:digB c=true):48<=c.toNat/\c.toNat<=57:=by simpa [digB] using h
theorem zhr {s:Txt} (h:s.all digB=true): ∀i,i<=s.length->digsV (s.take i)<10 ^ i
 |0,_=>by simp[digsV]
 |i+1,hi=>by
  rw[zhp (by omega),Nat.pow_succ];have h1:=zhr h i (by omega);have h2:=zhq (Zw.1 h _ (Zy (n:=i) (by omega)));omega
def numV (s:Txt):Int×Bool:=
 if s=[] then(0,false) else if spanN digB s≠s.length then(0,false) else if s.getD 0 0=48/\s≠[48] then(0,false) else if s.length>13 then(0,false)
 else if digsV s>1099511627776 then(0,false) else((digsV s:Nat),true)
theorem zmd (s:Txt):0<=(numV s).1/\(numV s).1<=1099511627776:=by
 unfold numV
 repeat' split
 all_goals simp only[]
 all_goals omega
end Go.Ex
namespace Go.Abs
open Go.Proofs Go.RowKit Go.Lib Go.Wd Go.Wire Go.Ex
theorem zme (s:Txt) (hl:s.length<=1000000):Spec Tryz.prog 230 [.str s] (fun v=>v=.tup [.int .i64 (numV s).1,.bool (numV s).2]):=by
 refine Spec.of_awlP hf230 okf230 (by simp) fun S hS=>?_
 have g1:=cX zg9 s (big hl);by_cases h0:s=[]
 ·subst h0
  simp only[Qs,BEq.rfl,Zk,Za,Ψ230];exact hS _ rfl
 have hn:numV s=if spanN digB s≠s.length then((0:Int),false) else if s.getD 0 0=48/\s≠[48] then(0,false) else if s.length>13 then(0,false) else if digsV s>1099511627776 then(0,false) else(((digsV s:Nat):Int),true):=by
  rw[numV,if_neg h0]
 rw[hn] at hS;by_cases hsp:spanN digB s=s.length
 ·rw[if_neg (fun q=>q hsp)] at hS
  have hall:=cW.1 hsp;rw[hsp] at g1;have hpos:=Yd.2 h0;have hi0:(0:Int)<s.length:=by omega
  generalize hc:s.getD 0 0=c at hS;have e48:c=48 ↔ ((c.toNat:Nat):Int)=48:=by
   rw[<-UInt8.toNat_inj];show c.toNat=48 ↔ _;omega
  by_cases hz:c=48/\s≠[48]
  ·rw[if_pos hz] at hS
   obtain⟨z1,z2⟩:=hz;have z3:=e48.1 z1;simp only[h0,Qs,forall_const,Zk,Za,Ψ230];refine zF g1 ?_ (ha:=by rfl);simp only[h0,hi0,hc,z3,z2,Int.toNat_zero,Qs,forall_const,BEq.rfl,Zk,Za,Ym,Ψ230];exact hS _ rfl
  ·rw[if_neg hz] at hS
   have z:(((c.toNat:Nat):Int)=48)=False/\((0:Nat)=0)=True\/(((c.toNat:Nat):Int)=48)=True/\(s=[48])=True:=by
    by_cases z1:c=48
    ·exact .inr ⟨eq_true (e48.1 z1),eq_true (Classical.byContradiction fun q=>hz ⟨z1,q⟩)⟩
    ·exact .inl ⟨eq_false fun q=>z1 (e48.2 q),eq_true rfl⟩
   rcases z with⟨z3,z4⟩|⟨z3,z4⟩
   all_goals
    simp only[h0,Qs,forall_const,Zk,Za,Ψ230];refine zF g1 ?_ (ha:=by rfl);by_cases h13:s.length>13
    ·rw[if_pos h13] at hS
     have d1:(s.length:Int)>13:=by omega
     simp only[h0,hi0,hc,z3,z4,d1,Int.toNat_zero,Qs,forall_const,Zk,Za,Ym,Ψ230];exact hS _ rfl
    ·rw[if_neg h13] at hS
     have d1: ¬(s.length:Int)>13:=by omega
     simp only[h0,hi0,hc,z3,z4,d1,Int.toNat_zero,Qs,forall_const,Zk,Za,Ym,Ψ230];rw[uu f230l19.eq_1];refine yA (fun i:Nat=>[(0,.str s),(4,.int .i64 (digsV (s.take i):Nat)),(30,.int .i64 s.length),(31,.int .i64 i)]) (fun _=>[]) (fun i=>i<=s.length) (fun i=>s.length-i) 0 rfl rfl (ZB _) ?_;intro i hi;by_cases hlt:i<s.length
     ·have e1:(i:Int)<s.length:=by omega
      have c4:IntKind.i64.wrap ((i:Int)+1)=(i:Int)+1:=wrap_in (by omega) (by omega);have hd:=zhq (Zw.1 hall _ (Zy hlt));have ht:=zhp hlt;have hb:=zhr hall (i+1) (by omega);have hb2:10 ^ (i+1)<=10 ^ 13:=Yu (by decide) (by omega);have hb3:(10:Nat) ^ 13=10000000000000:=by decide
      have hg:s.getD i 0=s[i]:=by rw[Zi,Zh hlt];rfl
      generalize s[i]=x at hd ht hg;generalize hT:digsV (s.take (i+1))=T at ht hb;generalize digsV (s.take i)=T0 at ht;have c5:IntKind.u8.wrap (((x.toNat:Nat):Int)-48)=((x.toNat:Nat):Int)-48:=by
       unfold IntKind.wrap;simp[IntKind.signed,IntKind.bits];omega
      have c6:IntKind.i64.wrap (((x.toNat:Nat):Int)-48)=((x.toNat:Nat):Int)-48:=wrap_in (by omega) (by omega);have c7:IntKind.i64.wrap (10*(T0:Int))=10*(T0:Int):=wrap_in (by omega) (by omega);have c8:IntKind.i64.wrap (10*(T0:Int)+(((x.toNat:Nat):Int)-48))=(T:Int):=by
       rw[wrap_in (by omega) (by omega)];omega
      simp only[e1,c4,hg,c5,c6,c7,c8,Yf,Qs,zcJ,zdH,zdV,Za,Ψ230];exact Next.intro (i+1) (by rw[hT];rfl) rfl (by omega) (by omega)
     ·have e1: ¬(i:Int)<s.length:=by omega
      rw[Z6 (by omega)];by_cases hbig:digsV s>1099511627776
      ·rw[if_pos hbig] at hS
       have e2:((digsV s:Nat):Int)>1099511627776:=by omega
       simp only[e1,e2,Qs,Zk,Za,Ψ230];exact hS _ rfl
      ·rw[if_neg hbig] at hS
       have e2: ¬((digsV s:Nat):Int)>1099511627776:=by omega
       simp only[e1,e2,Qs,Zk,Za,Ψ230];exact hS _ rfl
 ·rw[if_pos hsp] at hS
  have hsi: ¬((spanN digB s:Nat):Int)=s.length:=by omega
  simp only[h0,Qs,forall_const,Zk,Za,Ψ230];refine zF g1 ?_ (ha:=by rfl);simp only[h0,hsi,Qs,forall_const,Zk,Za,Ym,Ψ230];exact hS _ rfl
end Go.Abs
set_option maxRecDepth 100000
set_option maxHeartbeats 8000000
namespace Go.Ex
open Go.Lib Go.Wd Go.Wire Go.Abs
def mC (lo hi:Int) (sum:Bool):List Txt->Int->Option Int
 |[],a=>some a
 |s::r,a=>if (numV s).2=true then(if sum=false/\((numV s).1<lo\/(numV s).1>hi) then none else mC lo hi sum r (a+(numV s).1)) else none
def limP (d f:Txt) (lo hi:Int) (sum:Bool) (l:List Pln):Bool:=
 match mC lo hi sum (fldsF d f l []).1 0 with
 |none=>false
 |some a=>(fldsF d f l []).2&&(!sum||(decide (a>=lo)&&decide (a<=hi)))
end Go.Ex
namespace Go.Abs
open Go.Proofs Go.RowKit Go.Lib Go.Wd Go.Wire Go.Ex
theorem bJ (d f:Txt): ∀(l:List Pln) (acc:List Txt),(∀p∈l,PlnS p)->(∀s∈acc,s.length<=1000000)-> ∀s∈(fldsF d f l acc).1,s.length<=1000000
 |[],acc,_,ha=>ha
 |p::l,acc,hp,ha=>by
  rw[fldsF];split
  ·split
   ·intro s hs;cases hs
   ·refine bJ d f l _ (fun q hq=>hp q (Zz _ hq)) fun s hs=>?_
    rcases YI.1 hs with h|h
    ·exact ha s h
    ·rw[ZX.1 h,Zi]
     cases hg:p.texts[(fstN (fun x=>decide (f=x)) p.names 0).toNat]? with
     |none=>simp
     |some t=>exact(hp p (by simp)).tx t (ZI hg)
  ·exact bJ d f l acc (fun q hq=>hp q (Zz _ hq)) ha
theorem zhs (d f:Txt) (lo hi:Int) (sum:Bool) (l:List Pln) (hl:vE l):Spec Tryz.prog 227 [.agg [.str d,.str f,.int .i64 lo,.int .i64 hi,.bool sum],lst 3 (l.map yM)] (fun v=>v=.bool (limP d f lo hi sum l)):=by
 refine Spec.of_awlS hf227 okf227 (by simp) fun S hS=>?_
 have g1:=zhn d f l hl;have hn:=mB d f l [];have hm:=bJ d f l [] hl.2 (by simp);have h1:=hl.1;unfold limP at hS;generalize fldsF d f l []=r at g1 hn hm hS;obtain⟨L,b⟩:=r;simp only[ZF,ZU] at g1 hn hm hS;simp only[Qs,Zd,Zm,Za,Ψ227];refine xI g1 ?_ (ha:=by simp only[Zl,Zq,zB,V.norm,C.norm,yG sQ,C.normRow]<;>rfl);simp only[yB,Qs,Zk,Zd,Yg,Za,Ψ227];rw[uu f227l21.eq_1];refine yA (fun x:Nat×Nat=>[(2,.k (.c (.ro [.str d,.str f,.int .i64 lo,.int .i64 hi,.bool sum] 0))),(6,.bool b),(7,.int .i64 (x.2:Nat)),(19,lst 1 (zJ L)),(20,.int .i64 L.length),(21,.int .i64 x.1)]) (fun _=>[]) (fun x=>x.1<=L.length/\x.2<=x.1*1099511627776/\mC lo hi sum (L.drop x.1) (x.2:Nat)=mC lo hi sum L 0) (fun x=>L.length-x.1) (0,0) rfl rfl ⟨ZB _,by decide,rfl⟩ ?_;rintro⟨i,a⟩ ⟨hi',ha,hD⟩;simp only[] at hi' ha hD;by_cases hlt:i<L.length
 ·have d1:(i:Int)<L.length:=by omega
  have c4:IntKind.i64.wrap ((i:Int)+1)=(i:Int)+1:=wrap_in (by omega) (by omega);rw[ZE hlt,mC] at hD;have g2:=zme L[i] (hm _ (Zy hlt));have hr:=zmd L[i];have hat:=uI hlt;generalize L[i]=s at hD g2 hr hat;generalize numV s=nv at hD g2 hr;obtain⟨n,is⟩:=nv;simp only[] at hD g2 hr;obtain⟨m,rfl⟩: ∃m:Nat,n=m:=⟨n.toNat,by omega⟩;have c5:IntKind.i64.wrap ((a:Int)+(m:Int))=((a+m:Nat):Int):=by
   rw[wrap_in (by omega) (by omega)];omega
  cases is with
  |false=>
   rw[if_neg (by decide)] at hD;rw[<-hD] at hS;simp only[d1,hat,yB,Qs,Za,Ψ227];refine zF g2 ?_ (ha:=by rfl);simp only[Qs,Za,Ψ227];exact hS
  |true=>
   rw[if_pos rfl] at hD;cases sum with
   |true=>
    rw[if_neg (by simp)] at hD;simp only[d1,hat,yB,Qs,Za,Ψ227];refine zF g2 ?_ (ha:=by rfl);simp only[c4,c5,Qs,Zd,Za,Ψ227];exact Next.intro (i+1,a+m) rfl rfl ⟨by simp only;omega,by simp only;omega,by simpa using hD⟩ (by simp only;omega)
   |false=>
    by_cases q1:(m:Int)<lo
    ·rw[if_pos ⟨rfl,.inl q1⟩] at hD
     rw[<-hD] at hS;simp only[d1,hat,yB,Qs,Za,Ψ227];refine zF g2 ?_ (ha:=by rfl);simp only[c4,c5,q1,Qs,Zd,Zm,Za,Ψ227];exact hS
    ·by_cases q2:(m:Int)>hi
     ·rw[if_pos ⟨rfl,.inr q2⟩] at hD
      rw[<-hD] at hS;simp only[d1,hat,yB,Qs,Za,Ψ227];refine zF g2 ?_ (ha:=by rfl);simp only[c4,c5,q1,q2,Qs,Zd,Zm,Za,Ψ227];exact hS
     ·rw[if_neg (fun q=>q.2.elim q1 q2)] at hD
      simp only[d1,hat,yB,Qs,Za,Ψ227];refine zF g2 ?_ (ha:=by rfl);simp only[c4,c5,q1,q2,Qs,Zd,Zm,Za,Ψ227];exact Next.intro (i+1,a+m) rfl rfl ⟨by simp only;omega,by simp only;omega,by simpa using hD⟩ (by simp only;omega)
 ·have d1: ¬(i:Int)<L.length:=by omega
  rw[ZA (by omega),mC] at hD;rw[<-hD] at hS;simp only[] at hS;cases b with
  |false=>
   simp only[d1,Qs,Za,Ψ227];exact hS
  |true=>
   cases sum with
   |false=>
    simp only[d1,Qs,Zd,Za,Ψ227];exact hS
   |true=>
    by_cases q1:(a:Int)>=lo
    ·by_cases q2:(a:Int)<=hi
     ·simp only[d1,q1,q2,Qs,Zd,Zm,Za,Ψ227]
      simpa [q1,q2] using hS
     ·simp only[d1,q1,q2,Qs,Zd,Zm,Za,Ψ227]
      simpa [q1,q2] using hS
    ·simp only[d1,q1,Qs,Zd,Zm,Za,Ψ227]
     simpa [q1] using hS
end Go.Abs
set_option maxRecDepth 100000
set_option maxHeartbeats 8000000
namespace Go.Abs
open Go.Proofs Go.RowKit Go.Lib Go.Wd Go.Wire Go.Ex
def zQ (d:Dmd):List C:=[.int .i64 d.op,.str d.doc,.str d.fld,.str d.oth,.str d.sec,.str d.txt,.int .i64 d.lo,.int .i64 d.hi]
theorem gA (d f:Txt) (hd:d.length<=1000000) (hf:f.length<=1000000):Spec Tryz.prog 201 [.agg [.str d,.str f]] (fun v=>v=.bool (nameP d&&nameP f)):=by
 refine Spec.of_awlS hf201 okf201 (by simp) fun S hS=>?_
 have g1:=c92 d (big hd);have g2:=c92 f (big hf);generalize nameP d=x at g1 hS;generalize nameP f=y at g2 hS;simp only[Qs,Zd,Zm,Za,Ψ201];refine zF g1 ?_ (ha:=by rfl);cases x with
 |false=>
  simp only[Qs,Za];exact hS
 |true=>
  simp only[Qs,Zd,Za];refine zF g2 ?_ (ha:=by rfl);simp only[Qs,Za];exact hS
def wF:Txt:=[32,46,32]
theorem gB (d f:Txt) (hd:d.length<=1000000) (hf:f.length<=1000000):Spec Tryz.prog 202 [.agg [.str d,.str f]] (fun v=>v=.str (d++wF++f)):=by
 refine Spec.of_awlS hf202 okf202 (by simp) fun S hS=>?_
 simp only[Qs,lG,Zd,Zm,Za,Ψ202];exact⟨by omega,by simp only[Zu,Zn,ZF];omega,hS⟩
theorem zmf (d:Txt) (hd:d.length<=1000000):Spec Tryz.prog 205 [.agg [.str d]] (fun v=>v=.bool (nameP d)):=by
 refine Spec.of_awlS hf205 okf205 (by simp) fun S hS=>?_
 have g1:=c92 d (big hd);generalize nameP d=x at g1 hS;simp only[Qs,Za,Ψ205];refine zF g1 ?_ (ha:=by rfl);simp only[Qs];exact hS
theorem zmg (d:Txt):Spec Tryz.prog 203 [.agg [.str d]] (fun v=>v=.agg (zQ ⟨0,d,[],[],[],[],0,0⟩)):=by
 refine Spec.of_awlS hf203 okf203 (by simp) fun S hS=>?_
 simp only[Qs,bne_iff_ne,ne_eq,Zk,Zd,Zt,Zm,Z5,Za,Ψ203];exact hS
theorem zmh (d f t:Txt):Spec Tryz.prog 211 [.agg [.str d,.str f,.str t]] (fun v=>v=.agg (zQ ⟨1,d,f,[],[],t,0,0⟩)):=by
 refine Spec.of_awlS hf211 okf211 (by simp) fun S hS=>?_
 simp only[Qs,bne_iff_ne,ne_eq,Zk,Zd,Zt,Zm,Z5,Za,Ψ211];exact hS
theorem zmi (d f e g:Txt):Spec Tryz.prog 221 [.agg [.str d,.str f,.str e,.str g]] (fun v=>v=.agg (zQ ⟨3,d,f,e,g,[],0,0⟩)):=by
 refine Spec.of_awlS hf221 okf221 (by simp) fun S hS=>?_
 simp only[Qs,bne_iff_ne,ne_eq,Zk,Zd,Zt,Zm,Z5,Za,Ψ221];exact hS
theorem zht (d f:Txt) (lo hi:Int) (sum:Bool):Spec Tryz.prog 226 [.agg [.str d,.str f,.int .i64 lo,.int .i64 hi,.bool sum]] (fun v=>v=.agg (zQ ⟨if sum=true then 4 else 2,d,f,[],[],[],lo,hi⟩)):=by
 refine Spec.of_awlS hf226 okf226 (by simp) fun S hS=>?_
 cases sum with
 |true=>
  simp only[Qs,zlg,zlk,bne_iff_ne,ne_eq,Zk,Zd,Zt,Zm,Z5,Za,Ψ226];exact hS
 |false=>
  simp only[Qs,bne_iff_ne,ne_eq,Zk,Zd,Zt,Zm,Z5,Za,Ψ226];exact hS
theorem zmj (d f e g:Txt) (hd:d.length<=1000000) (hf:f.length<=1000000) (he:e.length<=1000000) (hg:g.length<=1000000):Spec Tryz.prog 223 [.agg [.str d,.str f,.str e,.str g]] (fun v=>v=.bool ((nameP d&&nameP f)&&(nameP e&&nameP g))):=by
 refine Spec.of_awlS hf223 okf223 (by simp) fun S hS=>?_
 have g1:=gA d f hd hf;have g2:=gA e g he hg;generalize (nameP d&&nameP f)=x at g1 hS;generalize (nameP e&&nameP g)=y at g2 hS;simp only[Qs,Zd,Zm,Za,Ψ223];refine zF g1 ?_ (ha:=by rfl);cases x with
 |false=>
  simp only[Qs,Za];exact hS
 |true=>
  simp only[Qs,Zd,Za];refine zF g2 ?_ (ha:=by rfl);simp only[Qs,Za];exact hS
theorem zhu (d f:Txt) (lo hi:Int) (sum:Bool) (hd:d.length<=1000000) (hf:f.length<=1000000):Spec Tryz.prog 228 [.agg [.str d,.str f,.int .i64 lo,.int .i64 hi,.bool sum]] (fun v=>v=.bool ((nameP d&&nameP f)&&(decide (lo>=0)&&(decide (lo<=hi)&&decide (hi<=1099511627776))))):=by
 refine Spec.of_awlS hf228 okf228 (by simp) fun S hS=>?_
 have g1:=gA d f hd hf;generalize (nameP d&&nameP f)=x at g1 hS;simp only[Qs,Zd,Zm,Za,Ψ228];refine zF g1 ?_ (ha:=by rfl);cases x with
 |false=>
  simp only[Qs,Za];exact hS
 |true=>
  by_cases q1:lo>=0
  ·by_cases q2:lo<=hi
   ·by_cases q3:hi<=1099511627776
    ·simp only[q1,q2,q3,Qs,Zd,Zm,Za]
     simpa [q1,q2,q3] using hS
    ·simp only[q1,q2,q3,Qs,Zd,Zm,Za]
     simpa [q1,q2,q3] using hS
   ·simp only[q1,q2,Qs,Zd,Zm,Za]
    simpa [q1,q2] using hS
  ·simp only[q1,Qs,Zd,Zm,Za]
   simpa [q1] using hS
theorem zmk (c:UInt8):Spec Tryz.prog 218 [.int .u8 (c.toNat:Int)] (fun v=>v=.bool (nV c)):=by
 refine Spec.of_awlS hf218 okf218 (by simp) fun S hS=>?_
 unfold nV at hS;have h1:=u8r c;by_cases q1:((c.toNat:Nat):Int)>=32
 ·by_cases q2:((c.toNat:Nat):Int)<=126
  ·simp only[q1,q2,Qs,Za,Ψ218]
   refine wJ hS ?_;rw[decide_eq_true_eq];simp only[true_iff];omega
  ·simp only[q1,q2,Qs,Za,Ψ218]
   refine wJ hS ?_;rw[decide_eq_true_eq];simp only[Z3,false_iff];omega
 ·simp only[q1,Qs,Za,Ψ218]
  refine wJ hS ?_;rw[decide_eq_true_eq];simp only[Z3,false_iff];omega
theorem zml (d f:Txt) (l:List Pln) (hl:vE l):Spec Tryz.prog 215 [lst 3 (l.map yM),.agg [.str d,.str f]] (fun v=>v=.tup [.k (.newl 9 1 none (zJ (fldsF d f l []).1)),.bool (fldsF d f l []).2]):=by
 refine Spec.of_awlS hf215 okf215 (by simp) fun S hS=>?_
 have hlen:=hl.1;simp only[zI,Qs,bne_iff_ne,ne_eq,Zd,Zt,Za,Zg,Ψ215];rw[uu f215l25.eq_1];refine yA (fun x:Nat×List Txt×Option Bool=>[(3,.k (.c (.ro [.str d,.str f] 0))),(6,.k (.own 6)),(10,lst 3 (l.map yM)),(11,.int .i64 l.length),(12,.int .i64 x.1)]) (fun x=>[(6,.arr 9 1 x.2.2 (zJ x.2.1))]) (fun x=>x.1<=l.length/\x.2.1.length<=x.1/\fldsF d f (l.drop x.1) x.2.1=fldsF d f l []) (fun x=>l.length-x.1) (0,[],some true) rfl rfl ⟨ZB _,by decide,rfl⟩ ?_;rintro⟨i,L,nl⟩ ⟨hi,hL,hD⟩;simp only[] at hi hL hD;by_cases hlt:i<l.length
 ·have d1:(i:Int)<l.length:=by omega
  have c4:IntKind.i64.wrap ((i:Int)+1)=(i:Int)+1:=wrap_in (by omega) (by omega);have hat:=zpl hlt;rw[ZE hlt,fldsF] at hD;have hp:=hl.2 _ (Zy hlt);generalize l[i]=p at hD hat hp;have g1:=c40 p.names f (big hp.ns);by_cases hk:p.kind=d
  ·rw[if_pos hk] at hD
   generalize fstN (fun x=>decide (f=x)) p.names 0=j at hD g1;by_cases hj:j<0\/j>=p.texts.length
   ·rw[if_pos hj] at hD
    rw[<-hD] at hS;by_cases hj0:j<0
    ·simp only[d1,hat,hk,zI,Qs,bne_iff_ne,ne_eq,BEq.rfl,Zk,Zd,Zt,Zm,Za,Zg,Ψ215]
     refine zF g1 ?_ (ha:=by simp only[Zl,Zq,zB,V.norm,C.norm,zO,wD]<;>rfl);simp only[hj0,yB,Qs,zeS,bne_iff_ne,ne_eq,Zk,ZV,Zt,Za,Zx,Ψ215];exact hS
    ·have hj1:j>=p.texts.length:=hj.resolve_left hj0
     simp only[d1,hat,hk,zI,Qs,bne_iff_ne,ne_eq,BEq.rfl,Zk,Zd,Zt,Zm,Za,Zg,Ψ215];refine zF g1 ?_ (ha:=by simp only[Zl,Zq,zB,V.norm,C.norm,zO,wD]<;>rfl);simp only[hj0,hj1,yB,Qs,bne_iff_ne,ne_eq,Zk,ZV,Zd,Zt,Za,Zx,Ψ215];exact hS
   ·rw[if_neg hj] at hD
    obtain⟨m,rfl⟩: ∃m:Nat,j=m:=⟨j.toNat,by omega⟩;have hj0: ¬(m:Int)<0:=by omega
    have hj1: ¬(m:Int)>=p.texts.length:=by omega
    have hm:m<p.texts.length:=by omega
    have hgd:p.texts.getD (m:Int).toNat []=p.texts[m]:=by simp[List.getD,hm]
    rw[hgd] at hD;simp only[d1,hat,hk,zI,Qs,bne_iff_ne,ne_eq,BEq.rfl,Zk,Zd,Zt,Zm,Za,Zg,Ψ215];refine zF g1 ?_ (ha:=by simp only[Zl,Zq,zB,V.norm,C.norm,zO,wD]<;>rfl);simp only[hj0,hj1,yB,uI hm,c4,Qs,forall_eq,bne_iff_ne,ne_eq,ZH,Zd,Zt,Zm,Z5,Za,Zx,Ψ215];refine⟨by omega,by omega,by omega,Next.intro (i+1,L++[p.texts[m]],some false) rfl (by simp[zJ];rfl) ⟨by simp only;omega,by simp;omega,hD⟩ (by simp only;omega)⟩
  ·rw[if_neg hk] at hD
   simp only[d1,hat,hk,c4,zI,Qs,forall_const,bne_iff_ne,ne_eq,Zk,Zd,Zt,Zm,Za,Zg,Ψ215];exact Next.intro (i+1,L,nl) rfl rfl ⟨by simp only;omega,by simp only;omega,hD⟩ (by simp only;omega)
 ·have d1: ¬(i:Int)<l.length:=by omega
  rw[ZA (by omega),fldsF] at hD;rw[<-hD] at hS;simp only[d1,Qs,Zk,ZV,Za,Zx,Ψ215];simpa only[wD] using hS
end Go.Abs
set_option maxRecDepth 100000
namespace Go.Proofs
open Go.Shelf Go.RowKit
def Tryz.laysString_ren:Go.Shelf.Ren:=
 {
  f:=fun x=>
   match x with
   |169=>134
   |n=>n,
  t:=fun x=>
   match x with
   |70=>185
   |9=>9
   |0=>0
   |72=>188
   |37=>186
   |127=>214
   |3=>3
   |5=>5
   |n=>n,
  g:=fun n=>n}
theorem Tryz.laysString:Lays.n169 Tryz.prog Tryz.laysString_ren:=
 {mixed:=by kernel_rfl,f169:=ZN Tryz.func134 (congrArg some (ZG (Body.n169 Tryz.laysString_ren))),
  t0:=Tryz.underlying0,a0:=Tryz.isAgg0,z0:=Tryz.sizeOf0,v0:=Tryz.zeroValue0,t3:=Tryz.underlying3,
  a3:=Tryz.isAgg3,z3:=Tryz.sizeOf3,v3:=Tryz.zeroValue3,t9:=Tryz.underlying9,a9:=Tryz.isAgg9,
  z9:=Tryz.sizeOf9,v9:=Tryz.zeroValue9,t37:=Tryz.underlying186,a37:=Tryz.isAgg186,z37:=Tryz.sizeOf186,
  v37:=Tryz.zeroValue186,t70:=Tryz.underlying185,a70:=Tryz.isAgg185,z70:=Tryz.sizeOf185,
  v70:=Tryz.zeroValue185,t72:=Tryz.underlying188,a72:=Tryz.isAgg188,z72:=Tryz.sizeOf188,
  v72:=Tryz.zeroValue188,t127:=Tryz.underlying214,a127:=Tryz.isAgg214,z127:=Tryz.sizeOf214,
  v127:=Tryz.zeroValue214}
def Tryz.laysGrow_ren:Go.Shelf.Ren:=
 {
  f:=fun x=>
   match x with
   |241=>162
   |277=>176
   |n=>n,
  t:=fun x=>
   match x with
   |70=>185
   |3=>3
   |0=>0
   |72=>188
   |37=>186
   |5=>5
   |n=>n,
  g:=fun n=>n}
theorem Tryz.laysGrow:Lays.n241 Tryz.prog Tryz.laysGrow_ren:=
 {mixed:=by kernel_rfl,f241:=ZN Tryz.func162 (congrArg some (ZG (Body.n241 Tryz.laysGrow_ren))),
  f277:=ZN Tryz.func176 (congrArg some (ZG (Body.n277 Tryz.laysGrow_ren))),t0:=Tryz.underlying0,
  a0:=Tryz.isAgg0,z0:=Tryz.sizeOf0,v0:=Tryz.zeroValue0,t3:=Tryz.underlying3,a3:=Tryz.isAgg3,
  z3:=Tryz.sizeOf3,v3:=Tryz.zeroValue3,t37:=Tryz.underlying186,a37:=Tryz.isAgg186,z37:=Tryz.sizeOf186,
  v37:=Tryz.zeroValue186,t70:=Tryz.underlying185,a70:=Tryz.isAgg185,z70:=Tryz.sizeOf185,
  v70:=Tryz.zeroValue185,t72:=Tryz.underlying188,a72:=Tryz.isAgg188,z72:=Tryz.sizeOf188,
  v72:=Tryz.zeroValue188}
def Tryz.laysSplit_ren:Go.Shelf.Ren:=
 {
  f:=fun x=>
   match x with
   |146=>91
   |221=>124
   |268=>157
   |138=>158
   |143=>159
   |195=>171
   |197=>172
   |218=>173
   |219=>174
   |260=>179
   |217=>180
   |225=>181
   |224=>182
   |267=>183
   |266=>184
   |314=>185
   |n=>n,
  t:=fun x=>
   match x with
   |9=>9
   |31=>51
   |3=>3
   |4=>4
   |0=>0
   |105=>224
   |21=>21
   |5=>5
   |46=>71
   |119=>234
   |139=>237
   |138=>236
   |146=>238
   |51=>152
   |n=>n,
  g:=fun x=>
   match x with
   |1=>2
   |3=>3
   |4=>4
   |n=>n}
theorem Tryz.laysSplit:Lays.n146 Tryz.prog Tryz.laysSplit_ren:=
 {mixed:=by kernel_rfl,f138:=ZN Tryz.func158 (congrArg some (ZG (Body.n138 Tryz.laysSplit_ren))),
  f143:=ZN Tryz.func159 (congrArg some (ZG (Body.n143 Tryz.laysSplit_ren))),
  f146:=ZN Tryz.func91 (congrArg some (ZG (Body.n146 Tryz.laysSplit_ren))),
  f195:=ZN Tryz.func171 (congrArg some (ZG (Body.n195 Tryz.laysSplit_ren))),
  f197:=ZN Tryz.func172 (congrArg some (ZG (Body.n197 Tryz.laysSplit_ren))),
  f217:=ZN Tryz.func180 (congrArg some (ZG (Body.n217 Tryz.laysSplit_ren))),
  f218:=ZN Tryz.func173 (congrArg some (ZG (Body.n218 Tryz.laysSplit_ren))),
  f219:=ZN Tryz.func174 (congrArg some (ZG (Body.n219 Tryz.laysSplit_ren))),
  f221:=ZN Tryz.func124 (congrArg some (ZG (Body.n221 Tryz.laysSplit_ren))),
  f224:=ZN Tryz.func182 (congrArg some (ZG (Body.n224 Tryz.laysSplit_ren))),
  f225:=ZN Tryz.func181 (congrArg some (ZG (Body.n225 Tryz.laysSplit_ren))),
  f260:=ZN Tryz.func179 (congrArg some (ZG (Body.n260 Tryz.laysSplit_ren))),
  f266:=ZN Tryz.func184 (congrArg some (ZG (Body.n266 Tryz.laysSplit_ren))),
  f267:=ZN Tryz.func183 (congrArg some (ZG (Body.n267 Tryz.laysSplit_ren))),
  f268:=ZN Tryz.func157 (congrArg some (ZG (Body.n268 Tryz.laysSplit_ren))),
  f314:=ZN Tryz.func185 (congrArg some (ZG (Body.n314 Tryz.laysSplit_ren))),t0:=Tryz.underlying0,
  a0:=Tryz.isAgg0,z0:=Tryz.sizeOf0,v0:=Tryz.zeroValue0,t3:=Tryz.underlying3,a3:=Tryz.isAgg3,
  z3:=Tryz.sizeOf3,v3:=Tryz.zeroValue3,t4:=Tryz.underlying4,a4:=Tryz.isAgg4,z4:=Tryz.sizeOf4,
  v4:=Tryz.zeroValue4,t5:=Tryz.underlying5,a5:=Tryz.isAgg5,z5:=Tryz.sizeOf5,v5:=Tryz.zeroValue5,
  t9:=Tryz.underlying9,a9:=Tryz.isAgg9,z9:=Tryz.sizeOf9,v9:=Tryz.zeroValue9,t21:=Tryz.underlying21,
  a21:=Tryz.isAgg21,z21:=Tryz.sizeOf21,v21:=Tryz.zeroValue21,t31:=Tryz.underlying51,a31:=Tryz.isAgg51,
  z31:=Tryz.sizeOf51,v31:=Tryz.zeroValue51,t46:=Tryz.underlying71,a46:=Tryz.isAgg71,z46:=Tryz.sizeOf71,
  v46:=Tryz.zeroValue71,t51:=Tryz.underlying152,a51:=Tryz.isAgg152,z51:=Tryz.sizeOf152,
  v51:=Tryz.zeroValue152,t105:=Tryz.underlying224,a105:=Tryz.isAgg224,z105:=Tryz.sizeOf224,
  v105:=Tryz.zeroValue224,t119:=Tryz.underlying234,a119:=Tryz.isAgg234,z119:=Tryz.sizeOf234,
  t138:=Tryz.underlying236,a138:=Tryz.isAgg236,z138:=Tryz.sizeOf236,v138:=Tryz.zeroValue236,
  t139:=Tryz.underlying237,a139:=Tryz.isAgg237,z139:=Tryz.sizeOf237,v139:=Tryz.zeroValue237,
  t146:=Tryz.underlying238,a146:=Tryz.isAgg238,z146:=Tryz.sizeOf238,v146:=Tryz.zeroValue238,
  g1:=by kernel_rfl,g3:=by kernel_rfl,
  g4:=by kernel_rfl}
end Go.Proofs
set_option maxRecDepth 100000
set_option maxHeartbeats 4000000
namespace Go.Proofs
open Go.Shelf Go.RowKit Go.Lib
theorem Tryz.bx169:Builder.Extra Tryz.prog Tryz.laysString_ren where
 sizeBuilder:=by kernel_rfl
 liesBuilder:=by kernel_rfl
 t5:=Tryz.underlying5
 a5:=Tryz.isAgg5
 z5:=Tryz.sizeOf5
 v5:=Tryz.zeroValue5
 infoByte:=by kernel_rfl
 cellsByte:=by kernel_rfl
 sizeByte:=by kernel_rfl
 neB5:=by decide
theorem zmm (b:Nat) (w:World) (h0:w.cell? ⟨b,0,none⟩=some (.pointer (some ⟨b,0,none⟩))):
  Calls Tryz.prog 161 #[.pointer (some ⟨b,0,none⟩)] w fun e w'=>e=.returned (.tuple #[])/\w'=w:=by
 obtain⟨j,hj,_⟩:=Zc.1 Tryz.bx169.sizeBuilder
 go_enter Tryz.func161,Tryz.ntmps161
 go_wp2
 rw[Lib.run_neq_ptr_same w _ Tryz.underlying185 hj]
 go_wp2
 go_end0
 exact⟨rfl,rfl⟩
theorem zhv (b:Nat) (w:World) (h0:w.cell? ⟨b,0,none⟩=some (.pointer none)) (hsh:w.shape? b=some (188,2)) (hfz:w.frozen? ⟨b,0,none⟩=false):
  Calls Tryz.prog 161 #[.pointer (some ⟨b,0,none⟩)] w fun e w'=>e=.returned (.tuple #[])/\w'=w.setCell ⟨b,0,none⟩ (.pointer (some ⟨b,0,none⟩)):=by
 obtain⟨j,hj,hjs⟩:=Zc.1 Tryz.bx169.sizeBuilder
 go_enter Tryz.func161,Tryz.ntmps161
 go_wp2
 rw[Lib.run_to_unsafe w ⟨b,0,none⟩ Tryz.underlying185 Tryz.underlying227 hj (by rw[hjs];decide) hsh (Nat.zero_lt_succ 1)];simp only[Result.andThen];rw[Oper.upon_value]
 go_wp2
 rw[run_callFunc_extern Tryz.func175 (by kernel_rfl) (by kernel_rfl) (by kernel_rfl) (e:=Extern.AbiNoEscape.same) (by kernel_rfl)];rw[Lib.run_noEscape];simp only[Result.andThen];rw[Oper.upon_value]
 go_wp2
 rw[Lib.run_from_unsafe w ⟨b,0,none⟩ Tryz.underlying227 Tryz.underlying185 hj hsh Tryz.bx169.liesBuilder];simp only[Result.andThen];rw[Oper.upon_value]
 go_wp2
 go_end0
 exact⟨rfl,rfl⟩
theorem zhw (B b:Nat) (bs:List Value) (w:World) (h:Lib.IsBuilderF 188 5 B b bs w):
  Calls Tryz.prog 161 #[.pointer (some ⟨b,0,none⟩)] w fun e w'=>e=.returned (.tuple #[])/\Lib.BuilderAtF 188 5 B b (.pointer (some ⟨b,0,none⟩)) bs w'/\Below B w w':=by
 rcases h with h|h
 ·refine(zhv b w h.cell0 h.shape h.frozen0).mono ?_
  rintro e w' ⟨rfl,rfl⟩;exact⟨rfl,h.used _,(Below.refl B w).setCell (p:=⟨b,0,none⟩) h.1 _⟩
 ·refine(zmm b w h.cell0).mono ?_
  rintro e w' ⟨rfl,rfl⟩;exact⟨rfl,h,Below.refl B _⟩
theorem zmn (B b:Nat) (bs:List Value) (s:ByteArray) (w:World) (h:Lib.IsBuilderF 188 5 B b bs w) (hlen:bs.length+s.size<=140737488355328) (hBw:B<=w.heap.size):
  Calls Tryz.prog 133 #[.pointer (some ⟨b,0,none⟩),.string s] w fun e w'=>e=.returned (.tuple #[.int .i64 s.size,.nilIface])/\Lib.IsBuilderF 188 5 B b (bs++Lib.strCells s) w'/\Below B w w':=by
 obtain⟨i0,hi,hz0,hz1,hz2⟩:=info_parts Tryz.bx169.infoByte
 go_enter Tryz.func133,Tryz.ntmps133
 go_wp2_with (go_at_call 161;refine(zhw B b bs _ h).mono ?_)
 rintro e w1 ⟨rfl,h1,hb1⟩;obtain⟨hB,v,hbk,hown,hne⟩:=h1;have c0:w1.cell? ⟨b,0,none⟩=some (.pointer (some ⟨b,0,none⟩)):=by rw[Lib.cell_of_heap hbk];rfl
 have c1:w1.cell? ⟨b,1,none⟩=some v:=by rw[Lib.cell_of_heap hbk];rfl
 go_wp2_with (at_builtin;refine Lib.wpList_append_own_stringF _ rfl _ _ 186 9 rfl B 5 i0 Tryz.underlying186 Tryz.underlying9 hi hz0 hz1 hz2 _ _ _ rfl hown s rfl ?c3 ?c4 ?c5 ?_)
 case c3=>unfold maxLen;omega
 case c4=>omega
 case c5=>have:=hb1.size;omega
 intro v' w2 hown' hgrow _;have hlt:b<w1.heap.size:=by
  rcases YW b w1.heap.size with h'|h'
  ·exact h'
  ·simp[Array.getElem?_eq_none h'] at hbk
 have hb2:w2.heap[b]?=some (.cells #[.pointer (some ⟨b,0,none⟩),v] 188 (0,0)):=by
  rw[hgrow.block b hlt (fun e=>hne e.symm)];exact hbk
 have d0:w2.cell? ⟨b,0,none⟩=some (.pointer (some ⟨b,0,none⟩)):=by rw[Lib.cell_of_heap hb2];rfl
 have d1:w2.cell? ⟨b,1,none⟩=some v:=by rw[Lib.cell_of_heap hb2];rfl
 have f1:w2.frozen? ⟨b,1,none⟩=false:=Lib.frozen_of_heap hb2 1;obtain⟨ao,n',cap,rfl⟩: ∃ao n' cap,v'=.slice ao n' cap:=by
  rcases hown'.2 with⟨hv,_⟩|⟨g,cap,cur,fz,hv,_⟩
  ·exact⟨_,_,_,hv⟩
  ·exact⟨_,_,_,hv⟩
 go_wp2
 go_ret2
 refine⟨rfl,.inr ?_,?_⟩
 ·exact Lib.BuilderAtF.put (T:=188) (e:=5) hB hb2 (bs':=bs++Lib.strCells s) (by simpa [Lib.strCells_length] using hown') (by decide)
 ·exact(hb1.grown hgrow (by have:=hb1.size;omega) (fun k hk=>(hown.lt k hk).1)).setCell (p:=⟨b,1,none⟩) hB _
theorem Tryz.bxg:Builder.Extra Tryz.prog Tryz.laysGrow_ren where
 sizeBuilder:=by kernel_rfl
 liesBuilder:=by kernel_rfl
 t5:=Tryz.underlying5
 a5:=Tryz.isAgg5
 z5:=Tryz.sizeOf5
 v5:=Tryz.zeroValue5
 infoByte:=by kernel_rfl
 cellsByte:=by kernel_rfl
 sizeByte:=by kernel_rfl
 neB5:=by decide
theorem zhx (B b:Nat) (l:List UInt8) (w:World) (h:Lib.IsBuilderF 188 5 B b (Lib.byteCells l) w) (hBw:B<=w.heap.size):
  Calls Tryz.prog 134 #[.pointer (some ⟨b,0,none⟩)] w fun e w'=>e=.returned (.string ⟨l.toArray⟩)/\Lib.IsBuilderF 188 5 B b (Lib.byteCells l) w'/\Below B w w':=
 (Any.Builder_String_any_k Tryz.laysString Tryz.bx169 B b l w h hBw).mono fun _ _ h=>⟨h.1,h.2.1,h.2.2.1⟩
theorem zmo (B b n:Nat) (w:World) (hB:B<=b) (hbk:w.heap[b]?=some (.cells #[.pointer (some ⟨b,0,none⟩),.slice none 0 0] 188 (0,0))) (hBw:B<=w.heap.size) (hn:n<=281474976710656):
  Calls Tryz.prog 162 #[.pointer (some ⟨b,0,none⟩),.int .i64 n] w fun e w'=>e=.returned (.tuple #[])/\(Lib.BuilderAt 188 5 B b (.pointer (some ⟨b,0,none⟩)) [] w'/\Below B w w'):=Any.Builder_grow_fresh Tryz.laysGrow Tryz.bxg B b n w hB hbk hBw hn
theorem zmp (B b n:Nat) (w:World) (hB:B<=b) (hbk:w.heap[b]?=some (.cells #[.pointer none,.slice none 0 0] 188 (0,0))) (hBw:B<=w.heap.size) (hn:n<=281474976710656):
  Calls Tryz.prog 132 #[.pointer (some ⟨b,0,none⟩),.int .i64 n] w fun e w'=>e=.returned (.tuple #[])/\(Lib.IsBuilderF 188 5 B b [] w'/\Below B w w'):=by
 have hbk1:(w.setCell ⟨b,0,none⟩ (.pointer (some ⟨b,0,none⟩))).heap[b]?=some (.cells #[.pointer (some ⟨b,0,none⟩),.slice none 0 0] 188 (0,0)):=by
  simp[World.setCell,Xd,hbk]
 have c1:(w.setCell ⟨b,0,none⟩ (.pointer (some ⟨b,0,none⟩))).cell? ⟨b,1,none⟩=some (.slice none 0 0):=by rw[Lib.cell_of_heap hbk1];rfl
 have hb1:Below B w (w.setCell ⟨b,0,none⟩ (.pointer (some ⟨b,0,none⟩))):=(Below.refl B w).setCell (p:=⟨b,0,none⟩) hB _
 go_enter Tryz.func132,Tryz.ntmps132
 have hU:Lib.BuilderAt 188 5 B b (.pointer (some ⟨b,0,none⟩)) [] (w.setCell ⟨b,0,none⟩ (.pointer (some ⟨b,0,none⟩))):=⟨hB,.slice none 0 0,hbk1,World.ownsRow_nil _ _ _ _,by simp[Value.ownBlock]⟩;have c1':(w.setCell ⟨b,0,none⟩ (.pointer (some ⟨b,0,none⟩))).drew.cell? ⟨b,1,none⟩=some (.slice none 0 0):=c1
 go_wp2_with (go_at_call 161;refine(zhv b w (by rw[Lib.cell_of_heap hbk];rfl) (by simp[World.shape?,hbk]) (Lib.frozen_of_heap hbk 0)).mono ?_;rintro e w' ⟨rfl,rfl⟩)
 go_region
 all_goals go_wp2_with (go_at_call 162;refine(zmo B b n (w.setCell ⟨b,0,none⟩ (.pointer (some ⟨b,0,none⟩))).drew hB hbk1 (by simpa [World.setCell,World.drew,-World.drew_eq] using hBw) hn).mono ?_;rintro e w' ⟨rfl,h1,h2⟩)
 all_goals first
  |(go_end0;exact⟨rfl,.of (.inr h1),hb1.drew.trans h2⟩)
  |(go_end0;exact⟨rfl,.of (.inr hU.drew),hb1.drew⟩)
end Go.Proofs
set_option maxRecDepth 100000
set_option maxHeartbeats 8000000
namespace Go.Proofs
open Go.Shelf Go.RowKit Go.Lib
abbrev vI:=List UInt8
def joinS (sep:vI):List vI->vI
 |[]=>[]
 |[w]=>w
 |w::v::r=>w++(sep++joinS sep (v::r))
theorem zhy (sep:vI): ∀(l:List vI) (x:vI),l≠[]->joinS sep (l++[x])=joinS sep l++(sep++x)
 |[],_,h=>absurd rfl h
 |[w],x,_=>rfl
 |w::v::r,x,_=>by
  have ih:=zhy sep (v::r) x (by simp);rw[ZR] at ih;rw[ZR,ZR,joinS,ih,joinS];simp
def yY:List vI->Nat
 |[]=>0
 |w::r=>w.length+yY r
theorem zhz (a b:List vI):yY (a++b)=yY a+yY b:=by
 induction a with
 |nil=>simp[yY]
 |cons w r ih=>simp only[ZR,yY,ih];omega
theorem gC (sep:vI): ∀l:List vI,(joinS sep l).length<=yY l+sep.length*l.length
 |[]=>by simp[joinS]
 |[w]=>by simp[joinS,yY]
 |w::v::r=>by
  have ih:=gC sep (v::r);simp only[joinS,yY,Zu,Zn] at ih⊢;rw[Nat.mul_add,YL] at ih⊢;rw[Nat.mul_add,YL];omega
theorem bK {l:List vI} {k:Nat} (h:k<l.length):l.take (k+1)=l.take k++[l.getD k []]:=by
 rw[ZQ h];simp[List.getD,h]
theorem zmq {l:List vI} {k:Nat} (h:k<l.length):yY (l.take (k+1))=yY (l.take k)+(l.getD k []).length:=by
 rw[bK h,zhz];simp[yY]
theorem bL (l:List vI) (k:Nat):yY (l.take k)<=yY l:=by
 have:=zhz (l.take k) (l.drop k);rw[List.take_append_drop] at this;omega
theorem zmr {l:List vI} (sep:vI) {j:Nat} (h:j+1<l.length):joinS sep (l.take (j+1+1))=joinS sep (l.take (j+1))++(sep++l.getD (j+1) []):=by
 rw[bK h,zhy];intro e;rw[List.take_eq_nil_iff] at e;rcases e with e|e
 ·omega
 ·subst e;simp at h
theorem bM (B b:Nat) (l x:List UInt8) (w:World) (h:Lib.IsBuilderF 188 5 B b (Lib.byteCells l) w) (hlen:l.length+x.length<=140737488355328) (hBw:B<=w.heap.size):
  Calls Tryz.prog 133 #[.pointer (some ⟨b,0,none⟩),.string ⟨x.toArray⟩] w fun e w'=>e=.returned (.tuple #[.int .i64 x.length,.nilIface])/\Lib.IsBuilderF 188 5 B b (Lib.byteCells (l++x)) w'/\Below B w w':=by
 have hsz:(⟨x.toArray⟩:ByteArray).size=x.length:=by show x.toArray.size=_;simp
 refine(zmn B b (Lib.byteCells l) ⟨x.toArray⟩ w h (by rw[Lib.byteCells_length,hsz];exact hlen) hBw).mono ?_;rintro e w' ⟨rfl,h1,h2⟩;exact⟨by rw[hsz],by rw[Lib.byteCells_append];exact h1,h2⟩
theorem zhA (l:List vI) (sep:vI) (cap b o:Nat) (w:World) (hb0:b<w.heap.size) (hp: ∀k,k<l.length->w.cell? ⟨b,o+k,none⟩=some (.string ⟨(l.getD k []).toArray⟩)) (h2:2<=l.length) (hn:l.length<=1000) (hcap:l.length<=cap) (hs0:0<sep.length) (hs:sep.length<=100) (hlen:yY l<=1000000):
  Calls Tryz.prog 101 #[.slice (some ⟨b,o,none⟩) l.length cap,.string ⟨sep.toArray⟩] w fun e w'=>e=.returned (.string ⟨(joinS sep l).toArray⟩)/\Below w.heap.size w w':=by
 obtain⟨n,hN⟩: ∃n,l.length=n:=⟨_,rfl⟩;have hN':Aside (l.length=n):=hN;rw[hN] at hp h2 hn hcap⊢;clear hN;have hpA:Aside (∀k,k<n->w.cell? ⟨b,o+k,none⟩=some (.string ⟨(l.getD k []).toArray⟩)):=hp;clear hp;have i0: ¬(n:Int)=0:=by omega
 have i1: ¬(n:Int)=1:=by omega
 have hsz:(⟨sep.toArray⟩:ByteArray).size=sep.length:=by show sep.toArray.size=_;simp
 have hsp:(sep.length:Int)>0:=by omega
 obtain⟨M,hM⟩: ∃M:Nat,sep.length*(n-1)=M:=⟨_,rfl⟩;have hMb:M<=100*1000:=by rw[<-hM];exact Xz hs (by omega)
 have w1:IntKind.i64.wrap ((n:Int)-1)=(n:Int)-1:=Go.Abs.wrap_in (by omega) (by omega);have hq:100<(9223372036854775807:Int)/((n:Int)-1)/\(9223372036854775807:Int)/((n:Int)-1)<=9223372036854775807:=by
  refine⟨?_,Int.ediv_le_self _ (by decide)⟩;have:(101:Int)<=9223372036854775807/((n:Int)-1):=by
   rw[Int.le_ediv_iff_mul_le (by omega)];omega
  omega
 have w2:IntKind.i64.wrap ((9223372036854775807:Int).tdiv ((n:Int)-1))=9223372036854775807/((n:Int)-1):=by
  rw[Int.tdiv_eq_ediv_of_nonneg (by decide)];exact Go.Abs.wrap_in (by omega) (by omega)
 have hng0: ¬(sep.length:Int)>=9223372036854775807/((n:Int)-1):=by omega
 have w3:IntKind.i64.wrap ((sep.length:Int)*((n:Int)-1))=(M:Int):=by
  rw[show(sep.length:Int)*((n:Int)-1)=(M:Int) by rw[<-hM];push_cast;rw[Int.ofNat_sub (by omega)];rfl];exact Go.Abs.wrap_in (by omega) (by omega)
 have w4:IntKind.i64.wrap (M:Int)=(M:Int):=Go.Abs.wrap_in (by omega) (by omega);clear hM hq
 go_enter Tryz.func101,Tryz.ntmps101
 go_wp2
 go_loopg [5,41] n (fun g t i wr=>wr=w/\ ∃k:Nat,k<=n/\g=n-k/\i=.int .i64 k/\t=.int .i64 ((M+yY (l.take k):Nat):Int))
 case atStart=>exact⟨rfl,0,ZB _,rfl,rfl,by simp[yY]⟩
 case round=>
  obtain⟨rfl,k,hk,rfl,rfl,rfl⟩:=hrel;by_cases hlt:k<n
  ·have hc:=hpA.out k hlt
   have hkn:(k:Int)<n:=by omega
   have hst:=zmq (l:=l) (k:=k) (by rw[hN'.out];exact hlt);have hle:=bL l (k+1);generalize l.getD k []=x at hc hst;obtain⟨T,hT⟩: ∃T,M+yY (l.take k)=T:=⟨_,rfl⟩;have hT2:Aside (M+yY (l.take (k+1))=T+x.length):=show _=_ by rw[hst];omega
   have hTb:T+x.length<=1100000:=by omega
   rw[hT];clear hst hle hT;have hszx:(⟨x.toArray⟩:ByteArray).size=x.length:=by show x.toArray.size=_;simp
   have hw2:IntKind.i64.wrap (9223372036854775807-(T:Int))=9223372036854775807-(T:Int):=Go.Abs.wrap_in (by omega) (by omega);have hw3:IntKind.i64.wrap ((T:Int)+x.length)=((T+x.length:Nat):Int):=by rw[Go.Abs.wrap_in (by omega) (by omega)];omega
   have hwr:IntKind.i64.wrap ((k:Int)+1)=((k+1:Nat):Int):=by rw[Go.Abs.wrap_in (by omega) (by omega)];omega
   have hng: ¬(x.length:Int)>9223372036854775807-(T:Int):=by omega
   go_wp2
   go_roundg (n-(k+1))
   case measure=>omega
   case rel=>
    refine⟨rfl,k+1,by omega,rfl,by go_num,?_⟩;rw[hT2.out,Int.natCast_add]
  ·obtain rfl:k=n:=by omega
   rename World=>w0
   have c0:=hpA.out 0 (by omega);rw[Yk] at c0;obtain⟨T,hT⟩: ∃T,M+yY (l.take k)=T:=⟨_,rfl⟩;have hTb:T<=1100000:=by have:=bL l k;omega
   rw[hT];have hJ: ∀j,(joinS sep (l.take j)).length<=1100000:=fun j=>by
    have h1:=gC sep (l.take j);have h2:=bL l j;have h3:sep.length*(l.take j).length<=100*1000:=Xz hs (by rw[Yt,hN'.out];omega);omega
   have e01:Aside (joinS sep (l.take (0+1))=l.getD 0 []):=show _=_ by rw[bK (by rw[hN'.out];omega)];rfl
   have hx0:=hJ (0+1);rw[e01.out] at hx0;obtain⟨x0,hx0'⟩: ∃x,l.getD 0 []=x:=⟨_,rfl⟩;rw[hx0'] at c0 hx0 e01;clear hT hx0';have hg1:(w0.alloc (.cells #[.pointer none,.slice none 0 0] 188)).heap[w0.heap.size]?=some (.cells #[.pointer none,.slice none 0 0] 188 (0,0)):=Go.Abs.alloc_get w0 _;have hb2:Below w0.heap.size w0 (w0.alloc (.cells #[.pointer none,.slice none 0 0] 188)):=(Below.refl _ w0).alloc (Zs _) _;have hb4of: ∀w2,Below w0.heap.size (w0.alloc (.cells #[.pointer none,.slice none 0 0] 188)) w2->w2.cell? ⟨b,o,none⟩=some (.string ⟨x0.toArray⟩):=fun w2 h=>((hb2.trans h).cell (p:=⟨b,o,none⟩) hb0).trans c0
   go_wp2_with (first|(go_at_call 132;refine(zmp w0.heap.size w0.heap.size T _ (Zs _) hg1 hb2.size (by omega)).mono ?_;rintro e w2 ⟨rfl,hI2,hb3⟩;have c0':=hb4of w2 hb3)|(go_at_call 133;refine(bM w0.heap.size w0.heap.size [] x0 _ hI2 (by rw[ZF];omega) (hb2.trans hb3).size).mono ?_;rintro e w3 ⟨rfl,hI3,hb5⟩))
   have hb6:=(hb2.trans hb3).trans hb5;rw[Ya,<-e01.out] at hI3
   go_loopg [65] (k-1) (fun g i w0'=>Below w0.heap.size w0 w0'/\ ∃j:Nat,j+1<=k/\g=k-1-j/\i=.int .i64 j/\Lib.IsBuilderF 188 5 w0.heap.size w0.heap.size (Lib.byteCells (joinS sep (l.take (j+1)))) w0')
   case atStart=>exact⟨hb6,0,by omega,rfl,rfl,hI3⟩
   case round=>
    obtain⟨hbx,j,hj,rfl,rfl,hIx⟩:=hrel;by_cases hlt2:j+1<k
    ·have hkn:(j:Int)<k-1:=by omega
     have hkn2:(j:Int)<((k-1:Nat):Int):=by omega
     have hkn3:j<k-1:=by omega
     have cj0:=hpA.out (j+1) hlt2;rw[show o+(j+1)=o+1+j by omega] at cj0;have cj:=(hbx.cell (p:=⟨b,o+1+j,none⟩) hb0).trans cj0;have hwr:IntKind.i64.wrap ((j:Int)+1)=((j+1:Nat):Int):=by rw[Go.Abs.wrap_in (by omega) (by omega)];omega
     have hE:Aside (joinS sep (l.take (j+1+1))=joinS sep (l.take (j+1))++(sep++l.getD (j+1) [])):=zmr sep (by rw[hN'.out];exact hlt2);have hl2:=hJ (j+1+1);rw[hE.out] at hl2;generalize l.getD (j+1) []=x at cj cj0 hE hl2;generalize joinS sep (l.take (j+1))=A at hIx hE hl2;simp only[Zu] at hl2
     go_wp2_with (first|(go_at_call 133;refine(bM w0.heap.size w0.heap.size (A++sep) x _ hI5 (by rw[Zu];omega) (hbx.trans hb7).size).mono ?_;rintro e w6 ⟨rfl,hI6,hb8⟩)|(go_at_call 133;refine(bM w0.heap.size w0.heap.size A sep _ hIx (by omega) hbx.size).mono ?_;rintro e w5 ⟨rfl,hI5,hb7⟩))
     rw[Z9,<-hE.out] at hI6
     go_roundg (k-1-(j+1))
     case measure=>omega
     case rel=>exact⟨(hbx.trans hb7).trans hb8,j+1,by omega,rfl,by go_num,hI6⟩
    ·obtain rfl:j+1=k:=by omega
     have hge: ¬(j:Int)<((j+1:Nat):Int)-1:=by omega
     have hge2: ¬(j:Int)<((j+1-1:Nat):Int):=by omega
     have hE:Aside (joinS sep (l.take (j+1))=joinS sep l):=show _=_ by rw[Z6 (by rw[hN'.out];exact Zs _)]
     go_wp2_with (go_at_call 134;refine(zhx w0.heap.size w0.heap.size (joinS sep (l.take (j+1))) _ hIx hbx.size).mono ?_;rintro e w6 ⟨rfl,hI6,hb8⟩)
     go_ret
     exact⟨by rw[hE.out];rfl,hbx.trans hb8⟩
theorem bN (cap:Nat) (ao:Option Addr) (sep:ByteArray) (w:World):
  Calls Tryz.prog 101 #[.slice ao 0 cap,.string sep] w fun e w'=>e=.returned (.string ⟨#[]⟩)/\Below w.heap.size w w':=by
 go_enter Tryz.func101,Tryz.ntmps101
 go_wp2
 go_ret
 exact⟨rfl,Below.refl _ _⟩
theorem zhB (cap b o:Nat) (s sep:ByteArray) (w:World) (hc:w.cell? ⟨b,o,none⟩=some (.string s)) (hcap:1<=cap):
  Calls Tryz.prog 101 #[.slice (some ⟨b,o,none⟩) 1 cap,.string sep] w fun e w'=>e=.returned (.string s)/\Below w.heap.size w w':=by
 go_enter Tryz.func101,Tryz.ntmps101
 go_wp2
 go_ret
 exact⟨rfl,Below.refl _ _⟩
end Go.Proofs
set_option maxRecDepth 100000
set_option maxHeartbeats 8000000
namespace Go.Ex
open Go.Lib Go.Wd Go.Wire
def pick:List (List Txt)->Nat->List Txt×Nat
 |[],i=>([],i)
 |w::ws,i=>(w.getD ((pick ws i).2 % w.length) []::(pick ws i).1,(pick ws i).2/w.length)
theorem bO: ∀(W:List (List Txt)) (i:Nat),(pick W i).1.length=W.length
 |[],_=>rfl
 |w::W,i=>by rw[pick,Zn,bO W i,Zn]
theorem zhC {W:List (List Txt)} {i B:Nat} (h: ∀x∈W,1<=x.length/\ ∀s∈x,s.length<=B): ∀s∈(pick W i).1,s.length<=B:=by
 induction W with
 |nil=>intro s hs;simp[pick] at hs
 |cons w W ih=>
  intro s hs;rw[pick,ZH] at hs;rcases hs with rfl|hs
  ·have hw:=h w (by simp)
   have hm:(pick W i).2 % w.length<w.length:=Xj _ (by omega);rw[Zi,Zh hm];exact hw.2 _ (Zy hm)
  ·exact ih (fun x hx=>h x (Zz _ hx)) s hs
theorem zhD: ∀(W:List (List Txt)) (i:Nat),(pick W i).2<=i
 |[],_=>Zs _
 |w::W,i=>by rw[pick];exact ZY (Xl _ _) (zhD W i)
def vX (f:Fld) (i:Nat):Txt:=oI 32 (pick f.words i).1
def stX (W:List (List Txt)) (i k j:Nat):Txt:=if k<=j then(pick (W.drop k) i).1.getD (j-k) [] else[]
theorem zms {W:List (List Txt)} {i k:Nat} (h:k<W.length) (j:Nat):stX W i k j=if j=k then W[k].getD ((pick (W.drop (k+1)) i).2 % W[k].length) [] else stX W i (k+1) j:=by
 unfold stX;rw[ZE h,pick];by_cases h1:j=k
 ·subst h1;simp
 ·rw[if_neg h1]
  by_cases h2:k<=j
  ·rw[if_pos h2,if_pos (by omega)]
   obtain⟨d,hd⟩: ∃d,j-k=d+1:=⟨j-k-1,by omega⟩;rw[hd,show j-(k+1)=d by omega];rfl
  ·rw[if_neg h2,if_neg (by omega)]
end Go.Ex
namespace Go.Proofs
open Go.Shelf Go.RowKit Go.Lib Go.Abs Go.Ex Go.Wire Go.Wd
abbrev sV (s:Txt):Value:=.string ⟨s.toArray⟩
def qC (w:World) (g:Nat) (st:Nat->Txt):Prop:= ∃cur:Array Value,w.heap[g]?=some (.cells cur 184 (0,0))/\cur.size=8/\ ∀j,j<8->cur[j]?=some (sV (st j))
theorem qC.cell {w:World} {g:Nat} {st:Nat->Txt} (h:qC w g st) {j:Nat} (hj:j<8):w.cell? ⟨g,j,none⟩=some (sV (st j)):=by
 obtain⟨cur,h1,_,h2⟩:=h;simp only[World.cell?,h1];exact h2 j hj
theorem qC.frozen {w:World} {g:Nat} {st:Nat->Txt} (h:qC w g st) {j:Nat}:w.frozen? ⟨g,j,none⟩=false:=by
 obtain⟨cur,h1,_,h2⟩:=h;simp[World.frozen?,h1]
theorem qC.set {w:World} {g:Nat} {st st':Nat->Txt} (h:qC w g st) {j:Nat} (hj:j<8) (s:Txt) (hst: ∀i,i<8->st' i=if i=j then s else st i):qC (w.setCell ⟨g,j,none⟩ (sV s)) g st':=by
 obtain⟨cur,h1,hs,h2⟩:=h;refine⟨cur.setIfInBounds j (sV s),by simp[World.setCell,Xd,h1],by simp[hs],fun i hi=>?_⟩;rw[Yi,hst i hi];by_cases e:j=i
 ·subst e
  simp[hs,hj]
 ·rw[if_neg e,if_neg (fun q=>e q.symm)]
  exact h2 i hi
theorem bP: ∀l:List Txt,joinS [32] l=oI 32 l
 |[]=>rfl
 |[w]=>rfl
 |w::v::r=>by rw[joinS,bP (v::r),oI];rfl
theorem zhE {B:Nat}: ∀{l:List Txt},(∀s∈l,s.length<=B)->yY l<=B*l.length
 |[],_=>by simp[yY]
 |a::l,h=>by
  have h1:=h a (by simp);have h2:=zhE (l:=l) fun s hs=>h s (Zz _ hs)
  simp only[yY,Zn,Nat.mul_succ];omega
theorem zmt (w:World) (o1 o2:Obj):((w.alloc o1).alloc o2).heap[w.heap.size]?=some o1/\((w.alloc o1).alloc o2).heap[w.heap.size+1]?=some o2:=by
 have h:((w.alloc o1).alloc o2).heap=(w.heap.push o1).push o2:=rfl;rw[h];constructor
 ·rw[YD,if_neg (by rw[Array.size_push];omega),YD,if_pos rfl]
 ·rw[YD,if_pos (by rw[Array.size_push])]
theorem zmu (nm:ByteArray) (W:List (List Txt)) (p:Option Addr) (b o cap:Nat) (hn:W.length<=8) (hp:0<W.length->p=some ⟨b,o,none⟩) (bk ok cp:Nat->Nat) (w:World)
  (hk: ∀k,k<W.length->w.cell? ⟨b,o+k,none⟩=some (.slice (some ⟨bk k,ok k,none⟩) (W.getD k []).length (cp k))) (hl: ∀x∈W,1<=x.length/\x.length<=4/\ ∀s∈x,s.length<=100)
  (ht: ∀k j,k<W.length->j<(W.getD k []).length->w.cell? ⟨bk k,ok k+j,none⟩=some (sV ((W.getD k []).getD j []))) (i:Nat) (hi:i<=1000000):
  Calls Tryz.prog 100 #[.agg #[.string nm,.slice p W.length cap],.int .i64 i] w fun e w'=>e=.returned (sV (oI 32 (pick W i).1))/\Below w.heap.size w w':=by
 obtain⟨n,hN⟩: ∃n,W.length=n:=⟨_,rfl⟩;have hN':Aside (W.length=n):=hN;rw[hN] at hk ht hn hp⊢
 go_enter Tryz.func100,Tryz.ntmps100
 go_wp2
 have hst: ∀j,stX W i n j=[]:=fun j=>by
  unfold stX;rw[ZA (by rw[hN'.out];exact Zs _)];split<;>rfl
 have hA:=zmt w (Obj.cells #[Value.string nm,Value.slice p n cap] 107) (Obj.cells #[Value.string {data:= #[]},Value.string {data:= #[]},Value.string {data:= #[]},Value.string {data:= #[]},Value.string {data:= #[]},Value.string {data:= #[]},Value.string {data:= #[]},Value.string {data:= #[]}] 184);have hB0:Below w.heap.size w ((w.alloc (Obj.cells #[Value.string nm,Value.slice p n cap] 107)).alloc (Obj.cells #[Value.string {data:= #[]},Value.string {data:= #[]},Value.string {data:= #[]},Value.string {data:= #[]},Value.string {data:= #[]},Value.string {data:= #[]},Value.string {data:= #[]},Value.string {data:= #[]}] 184)):=((Below.refl _ w).alloc (Zs _) _).alloc (by simp) _;generalize ((w.alloc (Obj.cells #[Value.string nm,Value.slice p n cap] 107)).alloc (Obj.cells #[Value.string {data:= #[]},Value.string {data:= #[]},Value.string {data:= #[]},Value.string {data:= #[]},Value.string {data:= #[]},Value.string {data:= #[]},Value.string {data:= #[]},Value.string {data:= #[]}] 184))=wA at hA hB0⊢;have hbx0:wA.cell? ⟨w.heap.size,1,none⟩=some (.slice p n cap):=by simp only[World.cell?,hA.1];rfl
 have hH0:qC wA (w.heap.size+1) (stX W i n):=⟨_,hA.2,rfl,fun j hj=>by
  rw[hst]
  match j,hj with
  |0,_=>rfl
  |1,_=>rfl
  |2,_=>rfl
  |3,_=>rfl
  |4,_=>rfl
  |5,_=>rfl
  |6,_=>rfl
  |7,_=>rfl⟩
 have hp0:(pick (W.drop n) i).2=i:=by rw[ZA (by rw[hN'.out];exact Zs _)];rfl
 clear hA hst
 go_loopg [1,6] n (fun g x t wr=> ∃k:Nat,k<=n/\k=g/\x=.int .i64 ((pick (W.drop k) i).2:Nat)/\t=.int .i64 ((k:Int)-1)/\wr.cell? ⟨w.heap.size,1,none⟩=some (.slice p n cap)/\qC wr (w.heap.size+1) (stX W i k)/\Below w.heap.size w wr)
 case atStart=>exact⟨n,Zs _,rfl,by rw[hp0],rfl,hbx0,hH0,hB0⟩
 case round=>
  obtain⟨k,hkn,rfl,rfl,rfl,hbx,hH,hb⟩:=hrel;by_cases h0:k=0
  ·subst h0
   have hle: ¬((0:Nat):Int)-1>=0:=by omega
   have hpl:=bO W i;have hcs: ∀j,j<n->wr.cell? ⟨w.heap.size+1,j,none⟩=some (sV ((pick W i).1.getD j [])):=fun j hj=>by
    have h1:=hH.cell (j:=j) (by omega);rw[h1];unfold stX;rw[if_pos (ZB _),List.drop_zero,XE]
   have hsm: ∀s∈(pick W i).1,s.length<=100:=fun s hs=>zhC (fun x hx=>⟨(hl x hx).1,(hl x hx).2.2⟩) s hs
   have hbk:=(World.block_lt_of_cell? _ _ hbx);have hwn:w.heap.size<=wr.heap.size:=hb.size;rw[hN'.out] at hpl;obtain⟨T,hT⟩: ∃T,(pick W i).1=T:=⟨_,rfl⟩;rw[hT] at hpl hcs hsm;clear hH hbx0 hH0 hB0 hk ht hl hp;have hJoin:Calls Tryz.prog 101 #[.slice (some ⟨w.heap.size+1,0,none⟩) n 8,.string ⟨#[32]⟩] wr fun e w'=>e=.returned (sV (oI 32 T))/\Below wr.heap.size wr w':=by
    have hsum:yY T<=100*T.length:=zhE hsm;rcases YW n 2 with h2|h2
    ·rcases YW n 1 with h1|h1
     ·obtain rfl:n=0:=by omega
      obtain rfl:=Yb hpl;exact bN 8 _ _ wr
     ·obtain rfl:n=1:=by omega
      obtain⟨t,rfl⟩:=List.length_eq_one_iff.1 hpl;exact zhB 8 _ 0 _ _ wr (hcs 0 (by omega)) (by decide)
    ·have:=zhA T [32] 8 (w.heap.size+1) 0 wr (by have:=World.block_lt_of_cell? _ _ (hcs 0 (by omega));exact this) (fun k hk=>by rw[ZU];exact hcs k (by omega)) (by omega) (by omega) (by omega) (by decide) (by decide) (by omega)
     rw[hpl] at this;rw[<-bP];exact this
   have hal:Tryz.prog.arrayLen 184=8:=by kernel_rfl
   have hn8:(n:Int)<=Tryz.prog.arrayLen 184:=by rw[hal];omega
   have hn0:(0:Int)<=n:=by omega
   have hsl:(Instr.sliceAt 184 (.pointer (some ⟨w.heap.size+1,0,none⟩)) none (some (.int .i64 n)) none).run Tryz.prog wr=.ok (.slice (some ⟨w.heap.size+1,0,none⟩) n 8) wr:=by
    rw[run_sliceAt_array_h wr 184 ⟨w.heap.size+1,0,none⟩ (by kernel_rfl) .i64 n hn0 hn8,hal];rw[show Tryz.prog.elem 184=9 by kernel_rfl,Tryz.sizeOf9];rfl
   go_wp2_with (go_at_call 101;refine hJoin.mono ?_;rintro e w' ⟨rfl,hb2⟩)
   go_ret
   rw[hT];exact⟨rfl,hb.trans (hb2.mono hwn)⟩
  ·obtain⟨m,rfl⟩: ∃m,k=m+1:=⟨k-1,by omega⟩
   obtain rfl:=hp (by omega);clear hp;have hm:m<n:=hkn;have hge:((m+1:Nat):Int)-1>=0:=by omega
   have hmw:m<W.length:=by rw[hN'.out];exact hm
   have hgd:W.getD m []=W[m]:=by rw[Zi,Zh hmw];rfl
   have hlm:=hl _ (Zy hmw);have hbb:=World.block_lt_of_cell? _ _ (hk m hm);have hc1:=(hb.cell (p:=⟨b,o+m,none⟩) hbb).trans (hk m hm);have hw1:IntKind.i64.wrap ((m:Int)-1)=(m:Int)-1:=Go.Abs.wrap_in (by omega) (by omega);have e6:((m+1:Nat):Int)-1=(m:Int):=by omega
   have hm8:m<8:=by omega
   have hst:=fun j=>zms (i:=i) hmw j
   have hpk:(pick (W.drop m) i).2=(pick (W.drop (m+1)) i).2/W[m].length:=by rw[ZE hmw,pick]
   have hqle:=zhD (W.drop (m+1)) i;have htm:=ht m;rw[hgd] at hc1 htm;generalize W[m]=wd at hlm hst hpk hc1 htm;obtain⟨q,hq⟩: ∃q,(pick (W.drop (m+1)) i).2=q:=⟨_,rfl⟩;rw[hq] at hst hpk hqle⊢;rw[e6];obtain⟨L,hL⟩: ∃L,wd.length=L:=⟨_,rfl⟩;rw[hL] at hlm hst hpk hc1 htm;have hL0: ¬(L:Int)=0:=by omega
   have hmod:q % L<L:=Xj _ (by omega);have hr1:(q:Int).tmod (L:Int)=((q % L:Nat):Int):=(Int.ofNat_tmod q L).symm;have hr2:(q:Int).tdiv (L:Int)=((q/L:Nat):Int):=(Int.ofNat_tdiv q L).symm;have hc2:=htm (q % L) hm hmod;have hbb2:=World.block_lt_of_cell? _ _ hc2;have hc3:=(hb.cell (p:=⟨bk m,ok m+q % L,none⟩) hbb2).trans hc2;have hc4:=hH.cell hm8;have hf4:=hH.frozen (j:=m);have hset:=hH.set (st':=stX W i m) hm8 (wd.getD (q % L) []) (fun j _=>hst j);have hmod':((q % L:Nat):Int)<L:=by omega
   have hmi:(m:Int)<n:=by omega
   have hm8i:(m:Int)<8:=by omega
   generalize hJ:q % L=J at hr1 hc3 hset hmod';clear hc2 hst htm hk ht hgd hl hH hB0 hH0 hbx0 hlm hmod;have hne:(⟨w.heap.size+1,m,none⟩:Addr)≠⟨w.heap.size,1,none⟩:=fun e=>by
    have:=congrArg Addr.block e;simp at this
   have hbx2:(wr.setCell ⟨w.heap.size+1,m,none⟩ (sV (wd.getD J []))).cell? ⟨w.heap.size,1,none⟩=some (.slice (some ⟨b,o,none⟩) n cap):=by
    have:=World.cell?_setCell_other wr _ _ (sV (wd.getD J [])) hne;rw[this];exact hbx
   have hqd:wrap64 ((q:Int)/(L:Int))=(q:Int)/(L:Int):=by
    rw[<-Int.natCast_ediv];have hd:=Xl q L;generalize q/L=d at hd;unfold wrap64;omega
   go_wp2
   go_roundg m
   case rel=>exact⟨m,by omega,rfl,by rw[hpk,Int.natCast_ediv],rfl,hbx2,hset,hb.setCell (by simp) _⟩
   case measure=>omega
end Go.Proofs
set_option maxRecDepth 100000
set_option maxHeartbeats 4000000
namespace Go.Abs
open Go.Proofs Go.RowKit Go.Lib Go.Wd Go.Wire Go.Ex
theorem zmv (l:List Txt):Plain 1 (zJ l):=by
 refine⟨by decide,fun r hr=>?_,fun r hr c hc=>?_⟩
 ·obtain⟨s,_,rfl⟩:=ZS.1 hr;rfl
 ·obtain⟨s,_,rfl⟩:=ZS.1 hr
  rw[ZX.1 hc];rfl
theorem zmw (l:List Txt):qA (zJ l)=l.map fun s=>Value.string ⟨s.toArray⟩:=by
 rw[qA,zJ]
 induction l with
 |nil=>rfl
 |cons a l ih=>simp only[Zl,YE,ZW,ih];rfl
theorem zmx {w:World} {Z:Bk->Prop} {l:List Txt} (hl:l≠[]) {v:Value} (h:PRep w Z (zC 1 (zJ l)) v):
  ∃b o cap,v=.slice (some ⟨b,o,none⟩) l.length cap/\ ∀j,j<l.length->w.cell? ⟨b,o+j,none⟩=some (sV (l.getD j [])):=by
 obtain⟨p,k,rfl,q,m⟩:=(zmv l).slice h;have hpos:0<(zJ l).length:=by rw[yB];exact Yd.2 hl
 obtain⟨b,o,rfl,g⟩:=q hpos;refine⟨b,o,k,by rw[yB],fun j hj=>?_⟩;refine g j _ ?_;rw[zmw,Zv,Zh hj];simp[List.getD,hj]
theorem zmy {w:World} {Z:Bk->Prop} {W:List (List Txt)} (hW: ∀x∈W,x≠[]) {v:Value} (h:PRep w Z (zC 1 (W.map xX)) v):
  ∃p cap b o,∃bk ok cp:Nat->Nat,v=.slice p W.length cap/\(0<W.length->p=some ⟨b,o,none⟩)/\
   (∀k,k<W.length->w.cell? ⟨b,o+k,none⟩=some (.slice (some ⟨bk k,ok k,none⟩) (W.getD k []).length (cp k)))/\
   ∀k j,k<W.length->j<(W.getD k []).length->w.cell? ⟨bk k,ok k+j,none⟩=some (sV ((W.getD k []).getD j [])):=by
 by_cases h0:W=[]
 ·subst h0
  have h':PRep w Z (.list 0 none []) v:=h;cases h' with
  |nil=>exact⟨none,0,0,0,fun _=>0,fun _=>0,fun _=>0,rfl,fun q=>absurd q (by simp),fun k q=>absurd q (by simp),fun k j q=>absurd q (by simp)⟩
  |emp _ _ a _=>exact⟨some a,0,0,0,fun _=>0,fun _=>0,fun _=>0,rfl,fun q=>absurd q (by simp),fun k q=>absurd q (by simp),fun k j q=>absurd q (by simp)⟩
  |list b o cap _ _ _ _ _ _ _ _ _ _ _=>exact⟨some ⟨b,o,none⟩,cap,0,0,fun _=>0,fun _=>0,fun _=>0,rfl,fun q=>absurd q (by simp),fun k q=>absurd q (by simp),fun k j q=>absurd q (by simp)⟩
 ·have hne:(W.map xX).isEmpty=false:=by cases W<;>simp_all
  unfold zC at h;rw[hne,if_neg (by simp)] at h;have hpos:=Yd.2 h0;generalize hrw:W.map xX=rows at h;cases h with
  |nil=>simp at hrw;exact absurd hrw h0
  |emp _ _ a _=>simp at hrw;exact absurd hrw h0
  |list b o cap _ _ _ val h1 h2 h3 h4 h5 h6 h7=>
   subst hrw;have hat: ∀k,k<W.length->(W.map xX)[k]?=some [zC 1 (zJ (W.getD k []))]:=fun k hk=>by
    rw[Zv,Zh hk,Zi,Zh hk];rfl
   have key: ∀k,∃bk ok cp,k<W.length->w.cell? ⟨b,o+k,none⟩=some (.slice (some ⟨bk,ok,none⟩) (W.getD k []).length cp)/\ ∀j,j<(W.getD k []).length->w.cell? ⟨bk,ok+j,none⟩=some (sV ((W.getD k []).getD j [])):=fun k=>by
    by_cases hk:k<W.length
    ·have hm:W.getD k []≠[]:=by
      rw[Zi,Zh hk];exact hW _ (Zy hk)
     have hv:=h7 k 0 _ _ (hat k hk) rfl;obtain⟨bk,ok,cp,e,hc⟩:=zmx hm hv;have hcell:=h6 k 0 _ _ (hat k hk) rfl;rw[YL,Yk,e] at hcell;exact⟨bk,ok,cp,fun _=>⟨hcell,hc⟩⟩
    ·exact⟨0,0,0,fun q=>absurd q hk⟩
   have hlen:(W.map xX).length=W.length:=Zg ..;exact⟨some ⟨b,o,none⟩,cap,b,o,fun k=>(key k).choose,fun k=>(key k).choose_spec.choose,fun k=>(key k).choose_spec.choose_spec.choose,by rw[hlen],fun _=>rfl,
    fun k hk=>((key k).choose_spec.choose_spec.choose_spec hk).1,fun k j hk hj=>((key k).choose_spec.choose_spec.choose_spec hk).2 j hj⟩
theorem zmz (f:Fld) (hf:FldR f) (hs: ∀w∈f.words,∀s∈w,s.length<=100) (i:Nat) (hi:i<=1000000):Spec Tryz.prog 100 [.agg (zR f),.int .i64 (i:Int)] (fun v=>v=.str (vX f i)):=by
 refine⟨rH (by kernel_rfl),fun w Z vs hG hz ha=>?_⟩;obtain⟨vl⟩:=vs
 match vl,ha with
 |[],ha=>exact absurd ha.1 (by simp)
 |[_],ha=>exact absurd ha.1 (by simp)
 |_::_::_::_,ha=>exact absurd ha.1 (by simp)
 |[v,v2],ha=>
  have e2:=vB (ha.2 1 _ v2 rfl rfl).2.2;subst e2;obtain⟨us,rfl,hrow⟩:=(ha.2 0 _ v rfl rfl).2;obtain⟨ul⟩:=us
  match ul,hrow with
  |[],hrow=>exact absurd hrow.1 (by simp[zR])
  |[_],hrow=>exact absurd hrow.1 (by simp[zR])
  |_::_::_::_,hrow=>exact absurd hrow.1 (by simp[zR])
  |[u0,u1],hrow=>
   have e0:=uQ (hrow.2 0 (.str f.name) u0 rfl rfl);subst e0;have h1:PRep w Z (zC 1 (f.words.map xX)) u1:=hrow.2 1 _ u1 rfl rfl;obtain⟨p,cap,b,o,bk,ok,cp,rfl,hp,hk,ht⟩:=zmy (fun x hx=>List.ne_nil_of_length_pos (hf.sp x hx).1) h1;refine(zmu ⟨f.name.toArray⟩ f.words p b o cap hf.ws hp bk ok cp w hk (fun x hx=>⟨(hf.sp x hx).1,(hf.sp x hx).2,hs x hx⟩) ht i hi).mono ?_;rintro e w' ⟨rfl,hb⟩;exact⟨_,_,rfl,rfl,fun _=>rfl,oG hG (xM hb) (fun _=>rfl) (fun _=>⟨rfl,.str _⟩)⟩
end Go.Abs
namespace Go.Ex
def bitsN (s:Nat):List Nat:=(List.range 10).filter fun k=>s.testBit k
theorem uW {s k:Nat} (h:s<1024):k∈bitsN s ↔ s.testBit k=true:=by
 unfold bitsN;rw[Yl,Yc];refine⟨fun h=>h.2,fun q=>⟨?_,q⟩⟩;rcases YW k 10 with h1|h1
 ·exact h1
 ·rw[Nat.testBit_lt_two_pow (ZL h (show 1024<=2 ^ k from Yu (n:=2) (by decide) h1))] at q;cases q
def andN (a b:Nat):Nat:=a ^^^ (a&&&b)
theorem rI (a b k:Nat):(andN a b).testBit k=(a.testBit k&& !b.testBit k):=by
 unfold andN;rw[Nat.testBit_xor,Xv];cases a.testBit k<;>cases b.testBit k<;>rfl
theorem oN (k j:Nat):(1<<<k).testBit j=decide (k=j):=by
 rw[Xr,Nat.testBit_two_pow]
theorem zhF {a b:Nat}:a&&&b=0 ↔ ∀k,a.testBit k=true->b.testBit k=false:=by
 constructor
 ·intro h k ha
  have:=Xv a b k;rw[h,YV,ha,ZJ] at this;exact this.symm
 ·intro h
  apply Xo;intro k;rw[YV,Xv];cases ha:a.testBit k with
  |true=>rw[h k ha];rfl
  |false=>rfl
def hitP (F:List Nat) (s:Nat):Bool:=F.all fun f=>f&&&s !=0
theorem rJ {F:List Nat} {s:Nat}:hitP F s=true ↔ ∀f∈F,∃k,f.testBit k=true/\s.testBit k=true:=by
 unfold hitP;rw[Zw];refine⟨fun h f hf=>?_,fun h f hf=>?_⟩
 ·have h1:=h f hf
  rw[bne_iff_ne,ne_eq,zhF] at h1;by_cases hk: ∃k,f.testBit k=true/\s.testBit k=true
  ·exact hk
  ·exact absurd (fun k hf=>by cases hs:s.testBit k with|false=>rfl|true=>exact absurd ⟨k,hf,hs⟩ hk) h1
 ·obtain⟨k,h1,h2⟩:=h f hf
  rw[bne_iff_ne,ne_eq,zhF];intro h3;rw[h3 k h1] at h2;cases h2
def wP (F:List Nat) (s:Nat):Bool:=hitP F s&&(bitsN s).all fun k=> !hitP F (andN s (1<<<k))
theorem oO {F:List Nat} {s:Nat} (h:s<1024):wP F s=true ↔ hitP F s=true/\ ∀k,s.testBit k=true->hitP F (andN s (1<<<k))=false:=by
 unfold wP;rw[Zp,Zw];refine and_congr Iff.rfl ⟨fun h1 k hk=>?_,fun h1 k hk=>?_⟩
 ·have:=h1 k ((uW h).2 hk);simpa using this
 ·have:=h1 k ((uW h).1 hk);simpa using this
def vY (D:Nat):Nat->Nat->List Nat
 |0,_=>[]
 |n+1,p=>if p=0 then[] else p::vY D n ((p-1)&&&D)
def bQ (D:Nat):List Nat:=((List.range 256).filter fun p=>p !=0&&p&&&D==p).reverse
theorem zhG: ∀D,D<256->vY D 256 D=bQ D:=by decide+kernel
theorem zhH {D p:Nat} (hD:D<256):p∈bQ D ↔ p≠0/\p&&&D=p:=by
 unfold bQ;rw[List.mem_reverse,Yl,Yc,Zp,bne_iff_ne,beq_iff_eq];refine⟨fun h=>h.2,fun h=>⟨?_,h⟩⟩;have:=Nat.and_le_right (n:=p) (m:=D);omega
theorem zhI {D p:Nat}:p&&&D=p ↔ ∀k,p.testBit k=true->D.testBit k=true:=by
 constructor
 ·intro h k hk
  rw[<-h,Xv,Zp] at hk;exact hk.2
 ·intro h
  apply Xo;intro k;rw[Xv];cases hp:p.testBit k with
  |true=>rw[h k hp];rfl
  |false=>rfl
def xC:List Nat->List Nat->List Nat
 |[],acc=>acc
 |f::F,acc=>xC F (if f∈acc then acc else acc++[f])
theorem gD: ∀(F acc:List Nat) (x:Nat),x∈xC F acc ↔ x∈F\/x∈acc
 |[],acc,x=>by simp[xC]
 |f::F,acc,x=>by
  rw[xC,gD F];split
  ·rename_i h
   rw[ZH];constructor
   ·rintro(h1|h1)
    ·exact .inl (.inr h1)
    ·exact .inr h1
   ·rintro((rfl|h1)|h1)
    ·exact .inr h
    ·exact .inl h1
    ·exact .inr h1
  ·simp only[YI,ZH,Zx,or_false]
   constructor
   ·rintro(h1|h1|h1)
    ·exact .inl (.inr h1)
    ·exact .inr h1
    ·exact .inl (.inl h1)
   ·rintro((h1|h1)|h1)
    ·exact .inr (.inr h1)
    ·exact .inl h1
    ·exact .inr (.inl h1)
theorem zmA (F:List Nat) (p:Nat->Bool):(xC F []).all p=F.all p:=by
 rw[Yn,Zw,Zw];refine⟨fun h x hx=>h x ((gD F [] x).2 (.inl hx)),fun h x hx=>h x ?_⟩;rcases(gD F [] x).1 hx with h|h
 ·exact h
 ·cases h
structure Vw where
 sets:List Nat
 never:Nat
 doubt:Nat
def pF (m:Nat) (F:List Nat):Vw:=⟨xC F [],F.foldl (· &&& ·) (2 ^ m-1),andN (F.foldl (· ||| ·) 0) (F.foldl (· &&& ·) (2 ^ m-1))⟩
theorem gE: ∀(F:List Nat) (a k:Nat),(F.foldl (· &&& ·) a).testBit k=(a.testBit k&&F.all (·.testBit k))
 |[],a,k=>by simp
 |f::F,a,k=>by rw[YF,gE F,Xv,Ys,Bool.and_assoc]
theorem lY: ∀(F:List Nat) (a k:Nat),(F.foldl (· ||| ·) a).testBit k=(a.testBit k||F.any (·.testBit k))
 |[],a,k=>by simp
 |f::F,a,k=>by rw[YF,lY F,Nat.testBit_or,List.any_cons,Bool.or_assoc]
theorem xT {m s:Nat}:s<2 ^ m ↔ ∀k,s.testBit k=true->k<m:=by
 constructor
 ·intro h k hk
  rcases YW k m with h1|h1
  ·exact h1
  ·rw[Nat.testBit_lt_two_pow (ZL h (Yu (n:=2) (by decide) h1))] at hk;cases hk
 ·intro h
  apply Nat.lt_pow_two_of_testBit;intro i hi;cases q:s.testBit i with
  |false=>rfl
  |true=>exact absurd (h i q) (by omega)
theorem zmB {m:Nat} {F:List Nat}:(pF m F).never<2 ^ m:=xT.2 fun k hk=>by
 have h:(F.foldl (· &&& ·) (2 ^ m-1)).testBit k=true:=hk;rw[gE,Zp,Nat.testBit_two_pow_sub_one,decide_eq_true_eq] at h;exact h.1
theorem lZ {m:Nat} {F:List Nat} (hF: ∀f∈F,f<2 ^ m):(pF m F).doubt<2 ^ m:=xT.2 fun k hk=>by
 have h:(andN (F.foldl (· ||| ·) 0) (F.foldl (· &&& ·) (2 ^ m-1))).testBit k=true:=hk;rw[rI,Zp,lY,YV,YA,YO] at h;obtain⟨⟨f,hf,h1⟩,_⟩:=h;exact xT.1 (hF f hf) k h1
theorem bS {m:Nat} {F:List Nat} (h0:F≠[]) (hF: ∀f∈F,f<2 ^ m) (k:Nat):(pF m F).never.testBit k=true ↔ ∀f∈F,f.testBit k=true:=by
 show(F.foldl (· &&& ·) (2 ^ m-1)).testBit k=true ↔ _;rw[gE,Zp,Zw,Nat.testBit_two_pow_sub_one,decide_eq_true_eq];refine⟨fun h=>h.2,fun h=>⟨?_,h⟩⟩;obtain⟨f,hf⟩:=Xu F h0;exact xT.1 (hF f hf) k (h f hf)
theorem zmC {m:Nat} {F:List Nat} (h0:F≠[]) (hF: ∀f∈F,f<2 ^ m) (k:Nat):(pF m F).doubt.testBit k=true ↔ (∃f∈F,f.testBit k=true)/\ ∃f∈F,f.testBit k=false:=by
 show(andN (F.foldl (· ||| ·) 0) (pF m F).never).testBit k=true ↔ _;rw[rI,Zp,lY,YV,YA,YO];refine and_congr Iff.rfl ?_;rw[Xq,YS,ne_eq,bS h0 hF];constructor
 ·intro h
  by_cases hx: ∃f∈F,f.testBit k=false
  ·exact hx
  ·exact absurd (fun f hf=>by cases q:f.testBit k with|true=>rfl|false=>exact absurd ⟨f,hf,q⟩ hx) h
 ·rintro⟨f,hf,h1⟩ h
  rw[h f hf] at h1;cases h1
def conflP (v:Vw):List Nat:=((List.range 64).filter fun k=>v.never.testBit k).map (fun k=>1<<<k)++(vY v.doubt 256 v.doubt).filter (wP v.sets)
theorem zmD (F:List Nat):wP (xC F [])=wP F:=by
 have h:hitP (xC F [])=hitP F:=funext fun s=>by unfold hitP;exact zmA F _
 funext s;unfold wP;rw[h]
theorem bT {m:Nat} {F:List Nat} (hm:m<=8) (h0:F≠[]) (hF: ∀f∈F,f<2 ^ m) (s:Nat):s∈conflP (pF m F) ↔ s<2 ^ m/\wP F s=true:=by
 have h256:2 ^ m<=256:=(Yu (n:=2) (by decide) hm:2 ^ m<=2 ^ 8);have hd:=lZ hF;unfold conflP;rw[YI,ZS,zhG _ (by omega),Yl,zhH (by omega),show(pF m F).sets=xC F [] from rfl,zmD];have hb: ∀{k j:Nat},(1<<<k).testBit j=true ↔ k=j:=fun{k j}=>by rw[oN,decide_eq_true_eq]
 constructor
 ·rintro(⟨k,hk,rfl⟩|⟨⟨hn,hs⟩,hc⟩)
  ·rw[Yl,bS h0 hF] at hk
   obtain⟨f,hf⟩:=Xu F h0;have hkm:k<m:=xT.1 (hF f hf) k (hk.2 f hf);have hlt:1<<<k<2 ^ m:=xT.2 fun j hj=>by rw[hb] at hj;omega
   refine⟨hlt,(oO (by omega)).2 ⟨rJ.2 fun f hf=>⟨k,hk.2 f hf,hb.2 rfl⟩,fun j hj=>?_⟩⟩;rw[hb] at hj;subst hj;rw[YS];intro hh;obtain⟨f,hf⟩:=Xu F h0;obtain⟨i,_,hi⟩:=rJ.1 hh f hf;rw[rI] at hi;cases hx:(1<<<k).testBit i<;>simp[hx] at hi
  ·refine⟨xT.2 fun k hk=>xT.1 hd k (zhI.1 hs k hk),hc⟩
 ·rintro⟨hs,hc⟩
  have hc2:=(oO (by omega)).1 hc;by_cases hx: ∃k,s.testBit k=true/\ ∀f∈F,f.testBit k=true
  ·left
   obtain⟨k,hk,hall⟩:=hx;refine⟨k,?_,?_⟩
   ·rw[Yl,bS h0 hF,Yc]
    exact⟨by have:=xT.1 hs k hk;omega,hall⟩
   ·apply Xo
    intro j;rw[oN];by_cases hj:k=j
    ·subst hj;rw[hk];simp
    ·rw[decide_eq_false hj]
     cases q:s.testBit j with
     |false=>rfl
     |true=>
      exfalso;have:=hc2.2 j q;rw[YS] at this;exact this (rJ.2 fun f hf=>⟨k,hall f hf,by rw[rI,hk,oN,decide_eq_false (fun e=>hj e.symm)];rfl⟩)
  ·right
   refine⟨⟨?_,zhI.2 fun k hk=>?_⟩,hc⟩
   ·rintro rfl
    obtain⟨f,hf⟩:=Xu F h0;obtain⟨k,_,h2⟩:=rJ.1 hc2.1 f hf;rw[YV] at h2;cases h2
   ·rw[zmC h0 hF]
    refine⟨?_,?_⟩
    ·by_cases hy: ∃f∈F,f.testBit k=true
     ·exact hy
     ·exfalso
      have:=hc2.2 k hk;rw[YS] at this;refine this (rJ.2 fun f hf=>?_);obtain⟨j,h1,h2⟩:=rJ.1 hc2.1 f hf;refine⟨j,h1,?_⟩;rw[rI,h2,oN];have:k≠j:=by rintro rfl;exact hy ⟨f,hf,h1⟩
      rw[decide_eq_false this];rfl
    ·by_cases hy: ∃f∈F,f.testBit k=false
     ·exact hy
     ·exact absurd ⟨k,hk,fun f hf=>by cases q:f.testBit k with|true=>rfl|false=>exact absurd ⟨f,hf,q⟩ hy⟩ hx
def zo7:List Nat->Nat->List Nat×Nat
 |[],i=>([],i)
 |s::l,i=>((zo7 l i).2 % s::(zo7 l i).1,(zo7 l i).2/s)
def zo6:List Nat->Nat
 |[]=>1
 |s::l=>s*zo6 l
theorem zpg: ∀{l:List Nat},(∀s∈l,0<s)->0<zo6 l
 |[],_=>Nat.one_pos
 |s::l,h=>Nat.mul_pos (h s (by simp)) (zpg fun x hx=>h x (Zz _ hx))
theorem zpm: ∀(l:List Nat) (i:Nat),(zo7 l i).2=i/zo6 l
 |[],i=>by simp[zo7,zo6]
 |s::l,i=>by rw[zo7,zpm l,zo6,Nat.mul_comm,Nat.div_div_eq_div_mul]
theorem zpW: ∀(l:List Nat) (i:Nat),(zo7 l i).1.length=l.length
 |[],_=>rfl
 |s::l,i=>by rw[zo7,Zn,zpW l,Zn]
def InR:List Nat->List Nat->Prop
 |[],[]=>True
 |s::l,d::ds=>d<s/\InR l ds
 |_,_=>False
theorem zpX: ∀{l:List Nat} (i:Nat),(∀s∈l,0<s)->InR l (zo7 l i).1
 |[],_,_=>trivial
 |s::l,i,h=>⟨Xj _ (h s (by simp)),zpX i fun x hx=>h x (Zz _ hx)⟩
theorem zpC: ∀{l ds:List Nat},(∀s∈l,0<s)->InR l ds-> ∃i,i<zo6 l/\(zo7 l i).1=ds
 |[],[],_,_=>⟨0,Nat.one_pos,rfl⟩
 |s::l,d::ds,hp,h=>by
  obtain⟨i,hi,hd⟩:=zpC (fun x hx=>hp x (Zz _ hx)) h.2;have hl:=zpg (l:=l) fun x hx=>hp x (Zz _ hx)
  have key: ∀(l:List Nat) (i q:Nat),(∀s∈l,0<s)->(zo7 l (q*zo6 l+i)).1=(zo7 l i).1:=by
   intro l
   induction l with
   |nil=>intro i q _;rfl
   |cons s l ih=>
    intro i q hp;have hl:=zpg (l:=l) fun x hx=>hp x (Zz _ hx)
    rw[zo7,zo7,zpm,zpm,zo6,<-XC,ih i (q*s) fun x hx=>hp x (Zz _ hx)];show _::_=_::_;rw[YX (q*s*zo6 l) i,Nat.add_mul_div_right _ _ hl,Nat.add_mul_mod_self_right]
  refine⟨d*zo6 l+i,?_,?_⟩
  ·rw[zo6]
   have:=ZT (zo6 l) h.1;rw[Xi] at this;omega
  ·rw[zo7,key l i d (fun x hx=>hp x (Zz _ hx)),hd,zpm,YX,Nat.add_mul_div_right _ _ hl,Nat.div_eq_of_lt hi,ZU,Xs h.1]
 |[],_::_,_,h=>h.elim
 |_::_,[],_,h=>h.elim
structure Strict {α:Type} (lt:α->α->Bool):Prop where
 irr: ∀a,lt a a=false
 tr: ∀a b c,lt a b=true->lt b c=true->lt a c=true
 tot: ∀a b,lt a b=false->lt b a=false->a=b
def insO {α:Type} (lt:α->α->Bool) (x:α):List α->List α
 |[]=>[x]
 |y::l=>if lt x y=true then x::y::l else y::insO lt x l
def sortO {α:Type} (lt:α->α->Bool):List α->List α
 |[]=>[]
 |x::l=>insO lt x (sortO lt l)
theorem bU {α:Type} (lt:α->α->Bool) (x:α): ∀l,(insO lt x l).Perm (x::l)
 |[]=>Xb _
 |y::l=>by
  rw[insO];split
  ·exact Xb _
  ·exact((bU lt x l).cons y).trans (List.Perm.swap x y l)
theorem qD {α:Type} (lt:α->α->Bool): ∀l,(sortO lt l).Perm l
 |[]=>Xb _
 |x::l=>(bU lt x _).trans ((qD lt l).cons x)
theorem zhJ {α:Type} {lt:α->α->Bool} (h:Strict lt) (x:α): ∀l:List α,l.Pairwise (fun a b=>lt b a=false)->(insO lt x l).Pairwise fun a b=>lt b a=false
 |[],_=>by simp[insO]
 |y::l,hl=>by
  rw[insO];have hc:=XF.1 hl;split
  ·rename_i hxy
   refine XF.2 ⟨fun z hz=>?_,hl⟩;cases q:lt z x with
   |false=>rfl
   |true=>
    exfalso;have h1:=h.tr _ _ _ q hxy;rcases ZH.1 hz with rfl|hz
    ·rw[h.irr] at h1;cases h1
    ·rw[hc.1 z hz] at h1;cases h1
  ·rename_i hxy
   refine XF.2 ⟨fun z hz=>?_,zhJ h x l hc.2⟩;rcases ZH.1 ((bU lt x l).mem_iff.1 hz) with rfl|hz
   ·simpa using hxy
   ·exact hc.1 z hz
theorem zhK {α:Type} {lt:α->α->Bool} (h:Strict lt): ∀l:List α,(sortO lt l).Pairwise fun a b=>lt b a=false
 |[]=>Xx
 |x::l=>zhJ h x _ (zhK h l)
theorem zhL {α:Type} {lt:α->α->Bool} (h:Strict lt): ∀{a b:List α},a.Perm b->a.Pairwise (fun x y=>lt y x=false)->b.Pairwise (fun x y=>lt y x=false)->a=b
 |[],b,hp,_,_=>(List.Perm.nil_eq hp)
 |x::a,[],hp,_,_=>absurd hp.length_eq (by simp)
 |x::a,y::b,hp,ha,hb=>by
  have h1:=XF.1 ha;have h2:=XF.1 hb;have e:x=y:=by
   rcases ZH.1 (hp.mem_iff.1 (Yh)) with e|hx
   ·exact e
   rcases ZH.1 (hp.mem_iff.2 (Yh)) with e|hy
   ·exact e.symm
   exact h.tot _ _ (h2.1 x hx) (h1.1 y hy)
  subst e;rw[zhL h ((List.perm_cons x).1 hp) h1.2 h2.2]
theorem zhM {α:Type} {lt:α->α->Bool} (h:Strict lt) {a b:List α} (hp:b.Perm a) (hb:b.Pairwise fun x y=>lt y x=false):b=sortO lt a:=
 zhL h (hp.trans (qD lt a).symm) hb (zhK h a)
def uJ:List Nat->List Nat->Bool
 |a::x,b::y=>if a=b then uJ x y else decide (a<b)
 |[],_::_=>true
 |_,[]=>false
def ltC (a b:List Nat):Bool:=if a.length=b.length then uJ a b else decide (a.length<b.length)
theorem zhN: ∀a,uJ a a=false
 |[]=>rfl
 |a::x=>by rw[uJ,if_pos rfl,zhN x]
theorem zhO: ∀a b c,uJ a b=true->uJ b c=true->uJ a c=true
 |[],[],_,h,_=>by cases h
 |[],_::_,[],_,h=>by cases h
 |[],_::_,_::_,_,_=>rfl
 |_::_,[],_,h,_=>by cases h
 |_::_,_::_,[],_,h=>by cases h
 |a::x,b::y,c::z,h1,h2=>by
  rw[uJ] at h1 h2⊢;split at h1
  ·rename_i e1;subst e1
   split at h2
   ·rename_i e2;subst e2;rw[if_pos rfl];exact zhO x y z h1 h2
   ·rename_i e2;rw[if_neg e2];exact h2
  ·rename_i e1
   rw[decide_eq_true_eq] at h1;split at h2
   ·rename_i e2;subst e2;rw[if_neg e1,decide_eq_true_eq];exact h1
   ·rename_i e2
    rw[decide_eq_true_eq] at h2;rw[if_neg (by omega),decide_eq_true_eq];omega
theorem zhP: ∀a b,uJ a b=false->uJ b a=false->a=b
 |[],[],_,_=>rfl
 |[],_::_,h,_=>by cases h
 |_::_,[],_,h=>by cases h
 |a::x,b::y,h1,h2=>by
  rw[uJ] at h1 h2;by_cases e:a=b
  ·subst e
   rw[if_pos rfl] at h1 h2;rw[zhP x y h1 h2]
  ·rw[if_neg e,decide_eq_false_iff_not] at h1
   rw[if_neg (fun h=>e h.symm),decide_eq_false_iff_not] at h2;omega
theorem zhQ:Strict ltC where
 irr a:=by unfold ltC;rw[if_pos rfl,zhN]
 tr a b c h1 h2:=by
  unfold ltC at*
  split at h1
  ·rename_i e1
   split at h2
   ·rename_i e2;rw[if_pos (e1.trans e2)];exact zhO _ _ _ h1 h2
   ·rename_i e2;rw[if_neg (by rw[e1];exact e2),e1];exact h2
  ·rename_i e1
   rw[decide_eq_true_eq] at h1;split at h2
   ·rename_i e2;rw[if_neg (by rw[<-e2];exact e1),decide_eq_true_eq,<-e2];exact h1
   ·rename_i e2
    rw[decide_eq_true_eq] at h2;rw[if_neg (by omega),decide_eq_true_eq];omega
 tot a b h1 h2:=by
  unfold ltC at*
  by_cases e:a.length=b.length
  ·rw[if_pos e] at h1;rw[if_pos e.symm] at h2;exact zhP _ _ h1 h2
  ·rw[if_neg e,decide_eq_false_iff_not] at h1
   rw[if_neg (fun h=>e h.symm),decide_eq_false_iff_not] at h2;omega
end Go.Ex
set_option maxRecDepth 100000
namespace Go.Ex
open Go.Lib Go.Wd Go.Wire Go.Abs
def agreesP (d f e g:Txt) (l:List Pln):Bool:=
 if kindP l d=true then if kindP l e=true then
  (fldsF d f l []).2&&((fldsF e g l []).2&& !((fldsF d f l []).1++(fldsF e g l []).1).any fun s=> !decide (s=(fldsF d f l []).1.headD []))
 else true else true
def wV (m:Dmd) (l:List Pln):Bool:=
 if m.op=0 then kindP l m.doc else if m.op=1 then readsP m.doc m.fld m.txt l else if m.op=2 then limP m.doc m.fld m.lo m.hi false l
 else if m.op=3 then agreesP m.doc m.fld m.oth m.sec l else if m.op=4 then limP m.doc m.fld m.lo m.hi true l else false
def yZ:Dmd:=⟨0,[],[],[],[],[],0,0⟩
def sR (L:List Dmd) (p:List Pln):List Nat:=(List.range L.length).filter fun i=> !wV (L.getD i yZ) p
theorem gF {L:List Dmd} {p:List Pln} {k:Nat}:k∈sR L p ↔ k<L.length/\wV (L.getD k yZ) p=false:=by
 unfold sR;rw[Yl,Yc];simp
def wL (l:List Nat):Nat:=l.foldl (fun s k=>s|||(1<<<k)) 0
theorem zhR: ∀(l:List Nat) (a j:Nat),(l.foldl (fun s k=>s|||(1<<<k)) a).testBit j=(a.testBit j||decide (j∈l))
 |[],a,j=>by simp
 |k::l,a,j=>by
  rw[YF,zhR l,Nat.testBit_or,oN,Bool.or_assoc];congr 1;rw[Yn,Ye,decide_eq_true_eq,decide_eq_true_eq,decide_eq_true_eq,ZH];exact or_congr eq_comm Iff.rfl
theorem gG (l:List Nat) (j:Nat):(wL l).testBit j=decide (j∈l):=by unfold wL;rw[zhR,YV,YA]
theorem gH {l:List Nat} {m:Nat} (h: ∀k∈l,k<m):wL l<2 ^ m:=xT.2 fun k hk=>by rw[gG,decide_eq_true_eq] at hk;exact h k hk
def wQ:List Fld->Nat->List Txt×Nat
 |[],i=>([],i)
 |f::l,i=>(vX f ((wQ l i).2 % yQ f)::(wQ l i).1,(wQ l i).2/yQ f)
def rdD (d:Dcm) (i:Nat):Pln:=⟨d.kind,d.flds.map Fld.name,(wQ d.flds i).1⟩
def xN:List Dcm->List Nat->Nat->List Pln×Nat
 |d::l,c::cs,i=>(rdD d ((xN l cs i).2 % c)::(xN l cs i).1,(xN l cs i).2/c)
 |_,_,i=>([],i)
def vZ (D:List Dcm):List Nat:=(cnts D).1.map Int.toNat
def rdsD (D:List Dcm) (i:Nat):List Pln:=(xN D (vZ D) i).1
def xY (D:List Dcm):Nat:=(cnts D).2.1.toNat
def yN (L:List Dmd) (D:List Dcm):List Nat:=(List.range (xY D)).map fun i=>wL (sR L (rdsD D i))
theorem mD (L:List Dmd) (D:List Dcm): ∀f∈yN L D,f<2 ^ L.length:=by
 intro f hf;obtain⟨i,_,rfl⟩:=ZS.1 hf;exact gH fun k hk=>(gF.1 hk).1
def viewD (L:List Dmd) (D:List Dcm):Vw:=pF L.length (yN L D)
def uA (a b:Plc):Bool:=if a.doc=b.doc then decide (a.fld<b.fld) else decide (a.doc<b.doc)
theorem zhS:Strict uA where
 irr a:=by unfold uA;rw[if_pos rfl,decide_eq_false_iff_not];omega
 tr a b c h1 h2:=by
  unfold uA at*
  split at h1<;>split at h2<;>rw[decide_eq_true_eq] at h1 h2
  ·rw[if_pos (by omega),decide_eq_true_eq];omega
  ·rw[if_neg (by omega),decide_eq_true_eq];omega
  ·rw[if_neg (by omega),decide_eq_true_eq];omega
  ·rw[if_neg (by omega),decide_eq_true_eq];omega
 tot a b h1 h2:=by
  obtain⟨a1,a2⟩:=a;obtain⟨b1,b2⟩:=b;unfold uA at*
  simp only[] at*
  by_cases e:a1=b1
  ·rw[if_pos e,decide_eq_false_iff_not] at h1
   rw[if_pos e.symm,decide_eq_false_iff_not] at h2;rw[e,show a2=b2 by omega]
  ·rw[if_neg e,decide_eq_false_iff_not] at h1
   rw[if_neg (fun h=>e h.symm),decide_eq_false_iff_not] at h2;omega
def kA (m:Dmd) (p:Pln) (k:Nat):Bool:=
 (decide (fstN (fun x=>decide (p.names.getD k []=x)) p.names 0=(k:Int))&&decide (k<p.texts.length))&&
  ((decide (p.kind=m.doc)&&decide (p.names.getD k []=m.fld))||(decide (m.op=3)&&(decide (p.kind=m.oth)&&decide (p.names.getD k []=m.sec))))
def mE (m:Dmd) (p:Pln) (i:Nat):List Plc:=((List.range p.names.length).filter (kA m p)).map fun(k:Nat)=>⟨(i:Int),(k:Int)⟩
def tJ (m:Dmd):List Pln->Nat->List Plc
 |[],_=>[]
 |p::l,i=>mE m p i++tJ m l (i+1)
def uX (m:Dmd) (l:List Pln):List Plc:=if m.op<=0\/m.op>=5 then[] else tJ m l 0
def uK:List Plc->List Plc
 |[]=>[]
 |[a]=>[a]
 |a::b::l=>if a=b then uK (b::l) else a::uK (b::l)
def xU (L:List Dmd) (which:List Nat) (l:List Pln):List Plc:=uK (sortO uA (which.map fun k=>uX (L.getD k yZ) l).flatten)
def kB (L:List Dmd) (v:Vw) (p:List Pln):List Flw:=
 ((sortO ltC ((conflP v).map bitsN)).map fun c=>⟨c.map fun(k:Nat)=>(k:Int),xU L c p,true⟩)++(bitsN v.doubt).map fun k=>⟨[(k:Int)],xU L [k] p,false⟩
def gI (L:List Dmd) (D:List Dcm):List Flw:=kB L (viewD L D) (rdsD D 0)
def zhT (v:Vw):Int:=if 0∈v.sets then(if v.sets.length=1 then 1 else 2) else 0
end Go.Ex
