/- A part of the proof; the last text states what is proved. -/
import Derived.Test.YtpmicgjdckeejaaGreatDoorP4
import Derived.Lib.SlicesCompact
import Derived.Test.YtpmicgjdckeejaaGreatDoorProg
import Derived.Shelf.SlicesQ.Reverse
import Derived.Shelf.SlSortFuncK.RowK2
import Derived.Shelf.SlSortCmp.InsertionK
import Derived.Laws.StructEq
import Derived.Shelf.SlicesE.Kit
import Derived.Shelf.RegionOpenPlain
import Derived.Lib.ItoaLen
import Derived.Shelf.Strconv.Itoa3
import Derived.Shelf.LaysM
import Derived.Lib.Walk
import Derived.Lib.ItoaWalk
import Derived.Lib.ItoaMem
import Derived.WalkKit
import Derived.RegionTactic
import Derived.BigCall
import Derived.BigGuard
import Derived.CellFam
import Derived.Deep.RegionHeld3
import Derived.Deep.RegionHeld
import Derived.Deep.LoopGhost
import Derived.Maps.AppendAt
import Derived.Maps.OwnIn
import Derived.Shelf.Slices.Clone
import Derived.Laws.CopyOwn
set_option linter.unusedVariables false
set_option linter.unusedSimpArgs false
set_option maxRecDepth 100000
set_option maxHeartbeats 8000000
open Array renaming ext' → XK,getElem?_append_left → YT,getElem?_eq_getElem → Yb,getElem?_eq_some_iff → Zn,getElem?_toList → Ys,length_toList → YI,replicate → YM,replicate_succ → YB,replicate_zero → YA,size_replicate → Xi,toArray_toList → ZN
open BitVec renaming ofInt → Yc,toNat_ofNat → Xv
open Bool renaming and_assoc → XM,and_eq_true → Zp,and_false → YU,eq_false_iff → YE,eq_iff_iff → Yp,false_and → ZP,false_eq_true → Z1,false_or → Ym,not_true → XP,or_eq_true → Yi,true_and → ZJ,true_or → Y7
open Eq renaming refl → ZI,trans → ZQ
open Function renaming comp → YY
open Iff renaming rfl → XO
open Int renaming natCast_mul → Yt,reduceBNe → Xn,reduceLE → Yl,reduceLT → XJ,reduceToNat → XN,toNat_natCast → Z6
open List renaming all_cons → Yz,all_eq_false → YD,all_eq_true → Zu,all_nil → Xf,any_eq_true → Yo,append_assoc → Yd,append_nil → Zk,append_toArray → YC,cons_append → ZS,contains_cons → X3,drop_eq_getElem_cons → ZE,drop_eq_nil_of_le → ZC,eq_nil_of_length_eq_zero → ZZ,exists_mem_of_ne_nil → Y8,ext_getElem → Xj,filter_append → X2,flatMap_cons → XE,flatten_cons → YL,foldl_append → Xq,foldl_cons → YQ,getD_cons_zero → XA,getD_eq_getElem?_getD → Zh,getElem?_eq_getElem → Zg,getElem?_eq_none → Y4,getElem?_eq_some_iff → Zr,getElem?_map → Zw,getElem?_toArray → Y3,getElem_mem → Zx,getElem_of_mem → YW,length_append → Zv,length_cons → Zo,length_filter_le → YF,length_map → Zi,length_nil → ZG,length_pos_iff → Yh,length_set → YP,length_take → Yy,map_append → ZW,map_congr_left → Y9,map_cons → Zm,map_map → Xe,map_nil → Zq,map_set → XU,map_take → Xr,mem_append → Yg,mem_cons → ZH,mem_cons_of_mem → Zz,mem_filter → Yj,mem_map → ZB,mem_of_mem_take → Xy,mem_range → Z7,mem_singleton → ZU,nil_append → Ya,nodup_cons → ZY,not_mem_nil → Zy,push_toArray → YK,range_succ → XL,setIfInBounds_toArray → ZO,set_cons_succ → Z3,set_cons_zero → Z2,set_getElem_self → XV,size_toArray → Yu,take_length → Yk,take_of_length_le → Z9,take_succ_eq_append_getElem → ZK
open Nat renaming add_assoc → YO,add_comm → Y0,add_zero → Yq,div_le_self → Xo,le_mul_of_pos_right → Xd,le_refl → Zt,le_trans → ZT,lt_of_lt_of_le → ZM,lt_or_ge → YZ,min_eq_left → Xx,mod_eq_of_lt → Xt,mod_lt → Xc,mul_assoc → XD,mul_le_mul → YX,mul_le_mul_right → ZX,mul_one → YS,one_mul → Xs,one_shiftLeft → XH,pow_le_pow_right → Yf,reduceAdd → Zc,reduceBEq → Za,reduceEqDiff → Zs,reduceLT → Z5,reduceLeDiff → Zl,reduceMul → Ye,reduceSub → YV,sub_zero → XG,succ_mul → Xb,zero_add → ZV,zero_le → ZA,zero_testBit → Xa
open Option renaming bind_some → Y2,getD_some → Y1,isSome_none → YN,map_eq_some_iff → Zd,map_some → Yw
open Option.some renaming inj → Yv
namespace Go.Proofs
open Go.RowKit Go.Lib Go.Sort Go.Abs Go.Ex
def pH (a b:Plc):Int:=if a.doc≠b.doc then a.doc-b.doc else a.fld-b.fld
theorem znr (a b:Plc) (ha:0<=a.doc/\a.doc<=1000000/\0<=a.fld/\a.fld<=1000000) (hb:0<=b.doc/\b.doc<=1000000/\0<=b.fld/\b.fld<=1000000) (w:World):
  Calls Tryz.prog 73 #[.agg #[.int .i64 a.doc,.int .i64 a.fld],.agg #[.int .i64 b.doc,.int .i64 b.fld]] w fun e w'=>e=.returned (.int .i64 (pH a b))/\ ∃q os',w'=grow (w.drewN q) os':=by
 obtain⟨a1,a2⟩:=a;obtain⟨b1,b2⟩:=b;simp only[] at ha hb;have w1:IntKind.i64.wrap (a1-b1)=a1-b1:=Go.Abs.wrap_in (by omega) (by omega);have w2:IntKind.i64.wrap (a2-b2)=a2-b2:=Go.Abs.wrap_in (by omega) (by omega);by_cases h:a1=b1
 ·subst h
  have e:pH ⟨a1,a2⟩ ⟨a1,b2⟩=a2-b2:=by unfold pH;rw[if_neg (by simp)]
  rw[e]
  go_enter Tryz.func73,Tryz.ntmps73
  go_wp2
  go_ret
  exact⟨rfl,0,_,by rw[alloc_eq_grow,alloc_eq_grow,grow_grow];rfl⟩
 ·have e:pH ⟨a1,a2⟩ ⟨b1,b2⟩=a1-b1:=by unfold pH;rw[if_pos h]
  have hne:(a1==b1)=false:=by simp[h]
  rw[e]
  go_enter Tryz.func73,Tryz.ntmps73
  go_wp2
  go_ret
  exact⟨rfl,0,_,by rw[alloc_eq_grow,alloc_eq_grow,grow_grow];rfl⟩
end Go.Proofs
namespace Go.Abs
open Go.Sort Go.Proofs Go.Shelf Go.Lib Go.RowKit Go.Ex
theorem zns (a b:Plc):decide (pH a b<0)=uA a b:=by
 unfold pH uA;by_cases h:a.doc=b.doc
 ·rw[if_neg (by simp[h]),if_pos h,Yp,decide_eq_true_eq,decide_eq_true_eq];omega
 ·rw[if_pos h,if_neg h,Yp,decide_eq_true_eq,decide_eq_true_eq];omega
def gN (a:Plc):Prop:=0<=a.doc/\a.doc<=1000000/\0<=a.fld/\a.fld<=1000000
theorem c72 (τ:Nat) (L:List Plc) (hm:L.length<=100000000000000) (hk: ∀x∈L,gN x):wB Tryz.prog 72 [.k (.own τ),.k (.c (.fn 73 []))] (zK 64 2 τ (pls L)) [τ] (fun r o'=>r=.tup []/\o'=zK 64 2 τ (pls (sortO uA L))):=by
 refine(znd Tryz.laysSortP (rH (by kernel_rfl)) 64 2 (by decide) Tryz.isAgg64 Tryz.sizeOf64 sU (fun _=>rfl) pH uA zns (zii zhS) 73 (enters_of Tryz.func73 (by kernel_rfl) rfl) τ L (by omega) ?_).mono ?_
 ·intro x hx y hy W Z vx vy hZ hvx hvy
  have e1:=iY (r:=sU x) (by simp[sU,C.sc]) hvx;have e2:=iY (r:=sU y) (by simp[sU,C.sc]) hvy;subst e1 e2;exact znr x y (hk x hx) (hk y hy) W
 ·rintro r o' ⟨rfl,out,hp,hs,rfl⟩
  rw[zhM zhS hp hs];exact⟨rfl,rfl⟩
end Go.Abs
namespace Go.Ex
open Go.Lib
section
variable {α : Type} [Inhabited α] [DecidableEq α]
def cfG (a:α):List α->List α
 |[]=>[]
 |b::l=>if a=b then cfG b l else b::cfG b l
def gO:List α->List α
 |[]=>[]
 |a::l=>a::cfG a l
omit [Inhabited α] in
theorem zij (b:α): ∀(l:List α) (a:α),cfG a (l++[b])=cfG a l++(if (a::l).getLast (by simp)=b then[] else[b])
 |[],a=>rfl
 |c::l,a=>by
  rw[ZS,cfG,cfG,zij b l c];have:(a::c::l).getLast (by simp)=(c::l).getLast (by simp):=by simp
  rw[this];split<;>simp
theorem zik (a:α) (l:List α): ∀m,m<=l.length->compactUpTo (a::l).toArray (m+1)=a::cfG a (l.take m)
 |0,_=>by
  rw[compactUpTo_succ,keeps_lt_one _ 0 (by decide)];simp[compactUpTo,cfG]
 |m+1,h=>by
  rw[compactUpTo_succ,zik a l m (by omega)];have hm:m<l.length:=by omega
  have e1:(a::l).toArray[m+1]! =l[m]:=by
   rw[getElem!_pos _ _ (by simp;omega)];simp
  have e2:(a::l).toArray[m]! =(a::l.take m).getLast (by simp):=by
   rw[getElem!_pos _ _ (by simp;omega),List.getLast_eq_getElem];simp only[List.getElem_toArray,Zo,Yy,Xx (show m<=l.length by omega),Nat.add_sub_cancel];cases m with
   |zero=>simp
   |succ m=>simp
  rw[ZK hm,zij];have e3:keeps (a::l).toArray (m+1)= !decide ((a::l.take m).getLast (by simp)=l[m]):=by
   unfold keeps;rw[Nat.add_sub_cancel,e1,e2];simp[eq_comm]
  rw[e3,e1];by_cases q:(a::l.take m).getLast (by simp)=l[m]<;>simp[q]
theorem znt: ∀l:List α,compact l=gO l
 |[]=>by simp[compact,compactUpTo,gO]
 |a::l=>by
  unfold compact;rw[Zo,zik a l _ (Zt _),Yk,gO]
end
end Go.Ex
set_option maxRecDepth 1000000
namespace Go.Proofs
open Go.RowKit Go.Lib Go.Sort Go.Ex
instance:Inhabited Plc:=⟨⟨0,0⟩⟩
def plV (x:Plc):List Value:=[.int .i64 x.doc,.int .i64 x.fld]
theorem zil (x:Plc):(plV x).length=2:=rfl
theorem zim (x y:Plc):(x.doc==y.doc&&x.fld==y.fld)=decide (x=y):=by
 obtain⟨a,b⟩:=x;obtain⟨c,d⟩:=y;rw[Yp,Zp,beq_iff_eq,beq_iff_eq,decide_eq_true_eq,Plc.mk.injEq]
theorem znu (x y:Plc) (w:World):Sem.run Tryz.prog (binOp .eql 64 (.agg #[.int .i64 x.doc,.int .i64 x.fld]) (.agg #[.int .i64 y.doc,.int .i64 y.fld])) w=.ok (.bool (decide (x=y))) w:=by
 rw[run_eql_struct,run_equalIn_agg (P:=Tryz.prog) w 9999 64 _ _ (by kernel_rfl) (by kernel_rfl),<-zim];simp[go_sem];by_cases h1:x.doc=y.doc<;>by_cases h2:x.fld=y.fld<;>simp[h1,h2]
theorem znv (x y:Plc) (w:World):Sem.run Tryz.prog (binOp .neq 64 (.agg #[.int .i64 x.doc,.int .i64 x.fld]) (.agg #[.int .i64 y.doc,.int .i64 y.fld])) w=.ok (.bool (!decide (x=y))) w:=by
 rw[run_neq_struct,run_equalIn_agg (P:=Tryz.prog) w 9999 64 _ _ (by kernel_rfl) (by kernel_rfl),<-zim];simp[go_sem];by_cases h1:x.doc=y.doc<;>by_cases h2:x.fld=y.fld<;>simp[h1,h2]
theorem znw (op:BinOp) (a b:Operand) (x y:Plc) (w:World):Sem.run Tryz.prog (eqGuard op 64 a b (.agg #[.int .i64 x.doc,.int .i64 x.fld]) (.agg #[.int .i64 y.doc,.int .i64 y.fld])) w=.ok () w:=run_eqGuard_agg _ _ _ _ _ _ _ (by kernel_rfl)
theorem znx (d:Array Plc) (i:Nat) (x:Plc) (hi:i<d.size):setMany (flatK plV 2 d) (i*2) (plV x)=flatK plV 2 (d.setIfInBounds i x):=by
 refine ext_get! (by simp) fun t ht=>?_
 have ht':t<d.size*2:=by simpa using ht
 rw[get_setMany _ _ _ t (by simpa using ht'),get_flatK _ _ _ t ht',get_flatK _ _ _ t (by simpa using ht'),zil];by_cases a:t/2=i
 ·rw[if_pos (by omega),show t-i*2=t % 2 by omega,a]
  simp[hi]
 ·rw[if_neg (by omega)]
  congr 2;rw[getElem!_pos d _ (by omega),getElem!_pos (d.setIfInBounds i x) _ (by simp;omega),Array.getElem_setIfInBounds,if_neg (Ne.symm a)]
theorem zny {w wr:World} {n blk off:Nat} {dk:Array Plc} {i:Nat} (hi:i<dk.size) (hwr:wr=putRowK plV 2 (Sort.ahead w n) blk off dk) (x:Plc):wr.setCells blk (off+i*2) (plV x)=putRowK plV 2 (Sort.ahead w n) blk off (dk.setIfInBounds i x):=by
 subst hwr;unfold putRowK;rw[setCells_putRow _ _ _ _ _ _ (by rw[zil,size_flatK];omega),znx _ _ _ hi]
theorem kE {W:World} {blk off:Nat} {d:Array Plc} (h:HoldsK plV 2 W blk off d) {i:Nat} (hi:i<d.size):
  W.cell? ⟨blk,off+i*2,none⟩=some (.int .i64 d[i]!.doc)/\W.cell? ⟨blk,off+i*2+1,none⟩=some (.int .i64 d[i]!.fld):=by
 have h0:=(h.cell (c:=0) hi (by decide)).1;have h1:=(h.cell (c:=1) hi (by decide)).1;exact⟨h0,h1⟩
theorem znz: ∀w,(zeroValue 64).run Tryz.prog w=.ok (.agg #[.int .i64 0,.int .i64 0]) w:=by
 intro w;simp[go_sem]
theorem znA (w:World) (ty:TypeId) (b o n c:Nat) (hn:0<n)
  (hc: ∀j,j<n*2->(w.cell? ⟨b,o+j,none⟩).isSome=true) (hf: ∀j,j<n*2->w.frozen? ⟨b,o+j,none⟩=false):
  (Builtin.clear_ #[31] ty #[.slice (some ⟨b,o,none⟩) n c]).run Tryz.prog w=.ok (.tuple #[]) (w.setCells b o (List.replicate (n*2) (.int .i64 0))):=by
 have hzc:(Builtin.zeroCells #[.int .i64 0,.int .i64 0] n).toList=List.replicate (n*2) (.int .i64 0):=by
  simp[Builtin.zeroCells];apply Xj
  ·simp[Nat.mul_comm]
  ·intro i h1 h2
   simp;rcases Nat.mod_two_eq_zero_or_one i with h|h<;>simp[h]
 have hst:=run_storeCells_cells (P:=Tryz.prog) b o (List.replicate (n*2) (.int .i64 0)) 0 w (by simpa using hc) (by simpa using hf) (by intro v hv';rw[List.eq_of_mem_replicate hv'];rfl);simp only[Yq] at hst;obtain⟨m,rfl⟩: ∃m,n=m+1:=⟨n-1,by omega⟩;simp only[Builtin.clear_];simp[go_sem,run_underlying Tryz.underlying31,znz,hzc,hst,Value.cells]
theorem zrg {α:Type} [Inhabited α] (d:Array α):(List.range d.size).map (d[·]!)=d.toList:=by
 apply Xj
 ·simp
 ·intro i h1 h2
  simp at h1;simp[h1]
theorem znB (blk off cap:Nat) (d:Array Plc) (w:World) (hH:HoldsK plV 2 w blk off d) (hsz:d.size<=100000000000000) (hcap:d.size<=cap):
  Calls Tryz.prog 74 #[.slice (some ⟨blk,off,none⟩) d.size cap] w fun e w'=>e=.returned (.slice (some ⟨blk,off,none⟩) (compactUpTo d d.size).length cap)/\(compactUpTo d d.size).length<=d.size/\ ∃(q:Nat) (F:Array Value),F.size=d.size*2/\(∀j,j<(compactUpTo d d.size).length*2->F[j]! =(flatK plV 2 (compactUpTo d d.size).toArray)[j]!)/\w'=putRow id (Sort.ahead w q) blk off F:=by
 have same: ∀q,(∀j,j<d.size->keeps d j=true)->(compactUpTo d d.size).length=d.size/\w.drewN q=putRow id (Sort.ahead w q) blk off (flatK plV 2 d)/\ ∀j,j<(compactUpTo d d.size).length*2->(flatK plV 2 d)[j]! =(flatK plV 2 (compactUpTo d d.size).toArray)[j]! :=by
  intro q hall;have e:compactUpTo d d.size=d.toList:=by rw[compactUpTo_all d _ hall];exact zrg d
  rw[e];exact⟨by simp,(putRowK_self plV 2 (Sort.ahead w q) blk off d (holdsK_ahead plV 2 w q blk off d hH)).symm,fun j _=>by simp⟩
 have HS:Aside (∀q,(∀j,j<d.size->keeps d j=true)->(compactUpTo d d.size).length=d.size/\w.drewN q=putRow id (Sort.ahead w q) blk off (flatK plV 2 d)/\ ∀j,j<(compactUpTo d d.size).length*2->(flatK plV 2 d)[j]! =(flatK plV 2 (compactUpTo d d.size).toArray)[j]!):=same;clear same;have heq':=znu;have hne':=znv;have hgd':=znw;have mixed:Tryz.prog.follows Departure.mixedOrders=true:=by kernel_rfl
 have HH:Aside (HoldsK plV 2 w blk off d):=hH;clear hH;by_cases h2:d.size<2
 ·go_enter Tryz.func74,Tryz.ntmps74
  go_wp2
  go_ret
  obtain⟨e1,e2,e3⟩:=HS.out 0 (fun j hj=>keeps_lt_one d j (by omega));exact⟨by rw[e1];rfl,by omega,0,_,by simp,e3,e2⟩
 ·go_enter Tryz.func74,Tryz.ntmps74
  go_wp2
  go_loopg [3] d.size (fun g s3 wr=> ∃k q:Nat,1<=k/\k<=d.size/\d.size-k<=g/\s3=.int .i64 k/\wr=w.drewN q/\ ∀j,j<k->keeps d j=true)
  case atStart=>exact⟨1,0,Zt _,by omega,by omega,rfl,rfl,keeps_lt_one d⟩
  case round=>
   obtain⟨k,q,hk1,hk,hg,rfl,rfl,hall⟩:=hrel;by_cases hlt:k<d.size
   ·obtain⟨c1,f1⟩:=kE HH.out hlt
    obtain⟨c0,f0⟩:=kE HH.out (show k-1<d.size by omega);have A:Aside (∀j,j<k->keeps d j=true):=hall;clear hall;obtain⟨x,hx⟩: ∃x,d[k]! =x:=⟨_,rfl⟩;obtain⟨y,hy⟩: ∃y,d[k-1]! =y:=⟨_,rfl⟩;rw[hx] at c1 f1;rw[hy] at c0 f0;have B:Aside (d[k]! =x/\d[k-1]! =y):=⟨hx,hy⟩;clear hx hy;by_cases hdup:x=y
    ·subst hdup
     go_wp2_with fail
     go_region_o
     go_wp2
     clear c0 c1 f0 f1
     go_loopg [3,5] d.size (fun g s3 s5 wr=> ∃(kk k2 q2:Nat) (dk:Array Plc),s3=.int .i64 kk/\s5=.int .i64 k2/\1<=k2/\k+k2<=d.size/\d.size-(k+k2)<=g/\wr=putRowK plV 2 (Sort.ahead w q2) blk off dk/\CompInv d (k+k2) kk dk)
     case atStart=>exact⟨k,1,q+1,d,rfl,rfl,Zt _,by omega,by omega,(putRowK_self plV 2 (Sort.ahead w (q+1)) blk off d (holdsK_ahead plV 2 w (q+1) blk off d HH.out)).symm,CompInv.start A.out (keeps_neg (by omega) (by rw[B.out.1,B.out.2]))⟩
     case round=>
      obtain⟨kk,k2,q2,dk,rfl,rfl,h1,hle,hg2,hwr,hI⟩:=hrel;have hkk:=hI.lt;have hds:=hI.size;have hHk:HoldsK plV 2 wr blk off dk:=by rw[hwr];exact holdsK_putRowK plV 2 _ blk off d dk (holdsK_ahead plV 2 w q2 blk off d HH.out) hds
      have W2:Aside (wr=putRowK plV 2 (Sort.ahead w q2) blk off dk):=hwr;have I2:Aside (CompInv d (k+k2) kk dk):=hI;clear hwr;by_cases hlt2:k+k2<d.size
      ·obtain⟨cm,cm'⟩:=kE hHk (show k+k2<dk.size by omega)
       obtain⟨cp,cp'⟩:=kE hHk (show k+k2-1<dk.size by omega);rw[hI.high (k+k2) (by omega),show off+(k+k2)*2=off+k*2+k2*2 by omega] at cm cm';rw[hI.high (k+k2-1) (by omega),show off+(k+k2-1)*2=off+k*2+(k2-1)*2 by omega] at cp cp';obtain⟨ck,ck'⟩:=kE hHk (show kk<dk.size by omega);have fk:=(hHk.cell (c:=0) (show kk<dk.size by omega) (by decide)).2;have fk':=(hHk.cell (c:=1) (show kk<dk.size by omega) (by decide)).2;rw[Yq] at fk;have ne1:(⟨blk,off+kk*2,none⟩:Addr)≠⟨blk,off+kk*2+1,none⟩:=by intro h;injection h;omega
       have ck2: ∀x,(wr.setCell ⟨blk,off+kk*2,none⟩ x).cell? ⟨blk,off+kk*2+1,none⟩=some (.int .i64 dk[kk]!.fld):=fun x=>(World.cell?_setCell_other _ _ _ _ ne1).trans ck'
       clear hHk hI;obtain⟨u,hu⟩: ∃u,d[k+k2]! =u:=⟨_,rfl⟩;obtain⟨v,hv⟩: ∃v,d[k+k2-1]! =v:=⟨_,rfl⟩;rw[hu] at cm cm';rw[hv] at cp cp';have C:Aside (d[k+k2]! =u/\d[k+k2-1]! =v):=⟨hu,hv⟩;clear hu hv;by_cases huv:u=v
       ·subst huv
        go_wp2_with fail
        go_region_o
        go_wp2
        go_roundg (d.size-(k+(k2+1)))
        case measure=>omega
        case rel=>exact⟨kk,k2+1,q2+1,dk,rfl,by go_num,by omega,by omega,Zt _,by rw[W2.out];rfl,I2.out.skip (keeps_neg (by omega) (by rw[C.out.1,C.out.2]))⟩
       ·go_wp2_with fail
        go_region_o
        go_wp2
        go_roundg (d.size-(k+(k2+1)))
        case measure=>omega
        case rel=>exact⟨kk+1,k2+1,q2+1,dk.setIfInBounds kk u,by go_num,by go_num,by omega,by omega,Zt _,by
         have:=zny (i:=kk) (by omega) W2.out u
         simp only[plV,World.setCells] at this
         rw[this];rfl,by have:=I2.out.keep hlt2 (keeps_pos (by rw[C.out.1,C.out.2];exact huv));rwa [C.out.1] at this⟩
      ·have hend:k+k2=d.size:=by omega
       have hcl: ∀ty,(Builtin.clear_ #[31] ty #[.slice (some ⟨blk,off+kk*2,none⟩) (d.size-kk) (cap-kk)]).run Tryz.prog wr=.ok (.tuple #[]) (wr.setCells blk (off+kk*2) (List.replicate ((d.size-kk)*2) (.int .i64 0))):=
        fun ty=>znA wr ty blk (off+kk*2) _ _ (by omega) (fun j hj=>by rw[show off+kk*2+j=off+(kk*2+j) by omega,(hHk (kk*2+j) (by simp;omega)).1];rfl) (fun j hj=>by rw[show off+kk*2+j=off+(kk*2+j) by omega];exact(hHk (kk*2+j) (by simp;omega)).2)
       clear hHk hI
       go_wp2
       go_ret
       have hI:=I2.out;rw[hend] at hI;refine⟨by rw[hI.len];rfl,by rw[hI.len];omega,q2,setMany (flatK plV 2 dk) (kk*2) (List.replicate ((d.size-kk)*2) (.int .i64 0)),by simp;omega,fun j hj=>?_,?_⟩
       ·rw[hI.len] at hj
        rw[get_setMany _ _ _ _ (by simp;omega),if_neg (by omega),get_flatK _ _ _ _ (by omega),get_flatK _ _ _ _ (by simp;rw[hI.len];exact hj)];congr 2;have hlo:=hI.low (j/2) (by omega);have hj2:j/2<(compactUpTo d d.size).length:=by rw[hI.len];omega
        rw[Zg hj2] at hlo;rw[getElem!_pos (compactUpTo d d.size).toArray (j/2) (by simpa using hj2)];simpa using(Yv hlo).symm
       ·rw[W2.out]
        unfold putRowK;rw[setCells_putRow _ _ _ _ _ _ (by simp;omega)]
    ·go_wp2_with fail
     go_region_o
     go_wp2
     go_roundg (d.size-(k+1))
     case measure=>omega
     case rel=>
      refine⟨k+1,q+1,by omega,by omega,Zt _,by go_num,rfl,fun j hj=>?_⟩;by_cases e:j=k
      ·subst e
       exact keeps_pos (by rw[B.out.1,B.out.2];exact hdup)
      ·exact A.out j (by omega)
   ·have:k=d.size:=by omega
    subst this
    go_wp2
    go_ret
    obtain⟨e1,e2,e3⟩:=HS.out q hall;exact⟨by rw[e1];rfl,by omega,q,_,by simp,e3,e2⟩
theorem znC (p:Option Addr) (cap:Nat) (w:World):Calls Tryz.prog 74 #[.slice p 0 cap] w fun e w'=>e=.returned (.slice p 0 cap)/\w'=w:=by
 go_enter Tryz.func74,Tryz.ntmps74
 go_wp2
 go_ret
 exact⟨rfl,rfl⟩
end Go.Proofs
namespace Go.Abs
open Go.Sort Go.Proofs Go.Shelf Go.Lib Go.RowKit Go.Ex
theorem znD: ∀L:List Plc,uK L=compact L:=by
 intro L;rw[znt];have key: ∀(l:List Plc) (a:Plc),uK (a::l)=a::cfG a l:=by
  intro l
  induction l with
  |nil=>intro a;rfl
  |cons b l ih=>
   intro a;rw[uK,cfG];by_cases h:a=b
   ·subst h;rw[if_pos rfl,if_pos rfl,ih]
   ·rw[if_neg h,if_neg h,ih]
 cases L with
 |nil=>rfl
 |cons a l=>rw[key,gO]
theorem zrh (L:List Plc):(uK L).length<=L.length:=by
 rw[znD];unfold compact compactUpTo;rw[Zi];exact ZT (YF _ _) (by simp)
theorem c74 (τ:Nat) (L:List Plc) (hm:L.length<=100000000000000):wB Tryz.prog 74 [.k (.own τ)] (zK 64 2 τ (pls L)) [] (fun r o'=>r=.k (.own τ)/\o'=zK 64 2 τ (pls (uK L))):=by
 refine⟨rH (by kernel_rfl),fun w0 Z0 κ w vs hsz hi=>?_⟩;obtain⟨v,rfl⟩:=zlu hsz;have ho:(zK 64 2 τ (pls L)) τ=some (.arr 64 2 none (pls L)):=by simp[zK]
 have hno: ∀s,s≠τ->zK 64 2 τ (pls L) s=none:=fun s hs=>by simp[zK,hs]
 have hob:=hi.objs τ _ ho;have htm:zD w (Zof w0 Z0 κ (zK 64 2 τ (pls L)) w) κ (zK 64 2 τ (pls L)) (.k (.own τ)) v:=by simpa using hi.tmps 0
 rcases hob with⟨hκ,hrows,_⟩|⟨b,cur,cap,hκ,hheap,h0,hcs,hlen,hcap,_,hall,hrr⟩
 ·have hl0:L=[]:=by simpa [pls] using hrows
  subst hl0;have hv:v=.slice none 0 0:=by
   rcases htm.2 64 2 none _ ho with⟨_,hv⟩|⟨b,_,_,hb,_⟩
   ·exact hv
   ·rw[hκ] at hb;cases hb
  subst hv;refine(znC none 0 w).mono ?_;rintro ex w' ⟨rfl,hw⟩;rw[hw];have hI:=hi.moveG (τ:=τ) (d:=0) (ob:=.arr 64 2 none (pls [])) (v:=.k (.own τ)) (u:=.slice none 0 0) (bo:=none) (w':=w) ho (by simp) rfl rfl rfl (Zt _) (fun _ _ _=>rfl) (fun b hb=>by cases hb)
   (fun Z _=> .inl ⟨by simp,rfl,by simp⟩) ⟨rfl,fun _ _ _ _ _=> .inl ⟨by simp,rfl⟩⟩
  rw[zgQ _ _ hno] at hI;exact⟨.slice none 0 0,_,.k (.own τ),_,rfl,⟨rfl,rfl⟩,fun s hs=>by simp at hs,hI⟩
 ·rw[uY] at hlen
  obtain⟨cap',hv,hcap'⟩: ∃cap',v=.slice (some ⟨b,0,none⟩) L.length cap'/\cur.size=cap'*2:=by
   rcases htm.2 64 2 none _ ho with⟨hn,_⟩|⟨b',cur',cap',hb,hh,hc2,hv⟩
   ·rw[hκ] at hn;cases hn
   ·rw[hκ] at hb;cases hb
    rw[hheap] at hh;cases hh;exact⟨cap',by simpa [uY] using hv,hc2⟩
  subst hv;have hlt:b<w.heap.size:=xV hheap;have hcell: ∀(i:Nat) (h:i<L.length) (j:Nat),j<2->cur[i*2+j]?=some (plV L[i])[j]! :=by
   intro i h j hj;have hr:(pls L)[i]?=some (sU L[i]):=by simp[pls,h]
   match j,hj with
   |0,_=>
    obtain⟨u,hu,hp⟩:=hrr i 0 _ _ hr rfl;rw[vB hp] at hu;exact hu
   |1,_=>
    obtain⟨u,hu,hp⟩:=hrr i 1 _ _ hr rfl;rw[vB hp] at hu;exact hu
  have hH:HoldsK plV 2 w b 0 L.toArray:=by
   refine zib hheap (by simp;omega) fun t ht=>?_
   have ht':t<L.length*2:=by simpa using ht
   rw[get_flatK _ _ _ _ (by simpa using ht')];have:=hcell (t/2) (by omega) (t % 2) (by omega);rw[show t/2*2+t % 2=t by omega] at this;rw[this,getElem!_pos L.toArray _ (by simp;omega)];simp
  have hcon:=znB b 0 cap' L.toArray w hH (by simpa using hm) (by simp;omega);have e1:compactUpTo L.toArray L.toArray.size=uK L:=by rw[znD];rfl
  rw[e1] at hcon;rw[show L.toArray.size=L.length from rfl] at hcon;refine hcon.mono ?_;rintro ex w' ⟨rfl,hle,q,F,hF,hFc,rfl⟩;have hh2:=zic (w:=w) (n:=q) (os:= #[]) F hheap;have hg:=gM (w:=w) (g:=b) (n:=q) (os:= #[]) F;rw[grow_empty] at hh2 hg;have hsz2:(putCells id 0 F cur).size=cur.size:=by simp[putCells]
  obtain⟨g1,g2,g3,g4,g5⟩:=hg;have hI:=hi.moveG (τ:=τ) (d:=0) (ob:=.arr 64 2 none (pls (uK L))) (v:=.k (.own τ)) (u:=.slice (some ⟨b,0,none⟩) (uK L).length cap') (bo:=some b) (w':=putRow id (Sort.ahead w q) b 0 F) ho (by simp) g1 g2 g3 g4
   (fun k hk hne=>g5 k hk (by rw[hκ] at hne;exact fun h=>hne (by cases h;rfl))) (fun b' hb=> .inr (by cases hb;exact hκ))
   (fun Z _=> .inr ⟨b,_,cap,by simp,hh2,by omega,by rw[hsz2];exact hcs,by rw[uY];omega,hcap,by simp,fun r hr=>by obtain⟨x,_,rfl⟩:=ZB.1 hr;rfl,fun i j r c hr hcj=>?_⟩) (by
    refine⟨rfl,fun e2 sz2 nl2 rows2 h2=>?_⟩
    simp[St.put,St.setO] at h2
    obtain⟨rfl,rfl,rfl,rfl⟩:=h2
    exact .inr ⟨b,_,cap',by simp,hh2,by rw[hsz2];exact hcap',by simp[uY]⟩)
  ·rw[zgQ _ _ hno] at hI
   exact⟨_,_,.k (.own τ),_,rfl,⟨rfl,rfl⟩,fun s hs=>by simp at hs,hI⟩
  ·have hi':i<(uK L).length:=by have:=(Zr.1 hr).1;rwa [uY] at this
   have hr':r=sU (uK L)[i]:=by simp[pls,hi'] at hr;exact hr.symm
   subst hr';have hj:j<2:=(Zr.1 hcj).1;have hfc:=hFc (i*2+j) (by omega);rw[get_flatK _ _ _ _ (by simp;omega),show(i*2+j)/2=i by omega,show(i*2+j) % 2=j by omega,getElem!_pos (uK L).toArray i (by simpa using hi')] at hfc;have hcs2:i*2+j<cur.size:=by omega
   have hfs:i*2+j<F.size:=by omega
   refine⟨F[i*2+j]!,?_,?_⟩
   ·simp only[putCells]
    rw[Array.getElem?_mapIdx,Yb hcs2];simp only[Yw,ZA,true_and,ZV,hfs,if_true,XG,id]
   ·rw[hfc]
    match j,hj with
    |0,_=>cases hcj;exact .int _ _
    |1,_=>cases hcj;exact .int _ _
theorem znE {P:Program} {f d τ e k:Nat} {xs:List AX} {K:KK} {ts:TS} {os:OS} {nl:Option Bool} {X:Prop} {rows rows':List (List C)} (rows0:List (List C))
  (hs:wB P f [.k (.own τ)] (zK e k τ rows) [] (fun r o'=>r=.k (.own τ)/\o'=zK e k τ rows')) (ho:lookO τ os=some (.arr e k nl rows0)) (hn:C.normRows rows0=rows)
  (hk:K (insT d (.k (.own τ)) (mapT (V.scrub τ) ts)) (insO τ (.arr e k none rows') (mapO (O.scrub τ) os))):X\/lC P f [.k (.own τ)] xs K (some d) ts os:=by
 refine .inr (.inl ?_);refine⟨[τ],[],[τ],fun r o'=>r=.k (.own τ)/\o'=zK e k τ rows',by simp[V.within,Abs.K.within],rfl,?_,fun s hs=> .inr hs,?_,?_⟩
 ·intro s hs ob hob
  simp only[ZU] at hs;subst hs;rw[ho] at hob;cases hob;rfl
 ·have e1:(yE [τ] fun s=>(lookO s os).map O.nrm)=zK e k τ rows:=by
   funext s;by_cases h:s=τ
   ·subst h
    simp[yE,ho,zK,O.nrm,hn]
   ·simp[yE,zK,h]
  rw[e1];exact hs
 ·rintro r o' ⟨rfl,rfl⟩
  refine⟨fun s hs=>by simp at hs;simp[zK,hs],by simp[V.within,Abs.K.within],fun s ob h=>?_,?_⟩
  ·unfold zK at h
   split at h
   ·cases h;rfl
   ·cases h
  ·have e2:(mkS ts os).back [τ] [τ] (zK e k τ rows')=mkS (mapT (V.scrub τ) ts) (insO τ (.arr e k none rows') (mapO (O.scrub τ) os)):=by
    simp only[St.back,mkS,St.mk.injEq];refine⟨by funext s;rw[nQ _ rfl];rfl,?_⟩;funext s;rw[mY];by_cases h:s=τ
    ·subst h;simp[zK]
    ·simp only[X3,List.contains_nil,Bool.or_false,beq_iff_eq,h,if_false,lA]
     cases lookO s os<;>rfl
   show onS K (((mkS ts os).back [τ] [τ] (zK e k τ rows')).put d (.k (.own τ)));rw[e2,tF];exact yX hk
end Go.Abs
namespace Go.Abs
open Go.Sort Go.Proofs Go.Shelf Go.Lib Go.RowKit Go.Wd Go.Wire Go.Ex
theorem zin {P:Program} {f d τ g e k:Nat} {xs:List AX} {K:KK} {ts:TS} {os:OS} {nl:Option Bool} {X:Prop} {β:Type} {encR:β->List C} {Q:List β->Prop} (rows0:List (List C)) (ks:List β)
  (hs:wB P f [.k (.own τ),.k (.c (.fn g []))] (zK e k τ (ks.map encR)) [τ] (fun r o'=>r=.tup []/\ ∃out,Q out/\o'=zK e k τ (out.map encR))) (ho:lookO τ os=some (.arr e k nl rows0)) (hn:C.normRows rows0=ks.map encR)
  (hk: ∀out,Q out->K (insT d (.tup []) ts) (insO τ (.arr e k none (out.map encR)) os)):X\/lC P f [.k (.own τ),.k (.c (.fn g []))] xs K (some d) ts os:=by
 refine .inr (.inl ?_);refine⟨[τ],[τ],[],fun r o'=>r=.tup []/\ ∃out,Q out/\o'=zK e k τ (out.map encR),by simp[V.within,Abs.K.within],rfl,?_,fun s hs=> .inl hs,?_,?_⟩
 ·intro s hs ob hob
  simp only[ZU] at hs;subst hs;rw[ho] at hob;cases hob;rfl
 ·have e1:(yE [τ] fun s=>(lookO s os).map O.nrm)=zK e k τ (ks.map encR):=by
   funext s;by_cases h:s=τ
   ·subst h
    simp[yE,ho,zK,O.nrm,hn]
   ·simp[yE,zK,h]
  rw[e1];exact hs
 ·rintro r o' ⟨rfl,out,hQ,rfl⟩
  refine⟨fun s hs=>by simp at hs;simp[zK,hs],rfl,fun s ob h=>?_,?_⟩
  ·unfold zK at h
   split at h
   ·cases h;rfl
   ·cases h
  ·have e2:(mkS ts os).back [τ] [] (zK e k τ (out.map encR))=mkS ts (insO τ (.arr e k none (out.map encR)) os):=by
    simp only[St.back,mkS,St.mk.injEq];refine⟨by funext s;rfl,?_⟩;funext s;rw[mY];by_cases h:s=τ
    ·subst h;simp[zK]
    ·simp only[X3,List.contains_nil,Bool.or_false,beq_iff_eq,h,if_false]
     cases lookO s os<;>rfl
   show onS K (((mkS ts os).back [τ] [] (zK e k τ (out.map encR))).put d (.tup []));rw[e2,tF];exact yX (hk out hQ)
theorem zio (m:Dmd): ∀(l:List Pln) (i:Nat),(∀p∈l,PlnS p)->(tJ m l i).length<=l.length*1000000
 |[],_,_=>by simp[tJ]
 |p::l,i,h=>by
  rw[tJ,Zv,Zo,Xb];have h1:=zio m l (i+1) fun q hq=>h q (Zz _ hq)
  have h2:=(h p (by simp)).ns;have h3:(mE m p i).length<=p.names.length:=by
   unfold mE;rw[Zi];exact ZT (YF _ _) (by simp)
  omega
theorem looksP_len (m:Dmd) (l:List Pln) (hl:vE l):(uX m l).length<=1000000000000:=by
 unfold uX;split
 ·simp
 ·have:=zio m l 0 hl.2
  have h:=hl.1;omega
theorem ziq (m:Dmd): ∀(l:List Pln) (i:Nat),(∀p∈l,PlnS p)-> ∀x∈tJ m l i,(i:Int)<=x.doc/\x.doc<i+l.length/\0<=x.fld/\x.fld<1000000
 |[],_,_,x,hx=>by simp[tJ] at hx
 |p::l,i,h,x,hx=>by
  rw[tJ,Yg] at hx;rcases hx with hx|hx
  ·unfold mE at hx
   obtain⟨k,hk,rfl⟩:=ZB.1 hx;have hk:=Z7.1 (Yj.1 hk).1;have h2:=(h p (by simp)).ns;simp only[Zo];omega
  ·have:=ziq m l (i+1) (fun q hq=>h q (Zz _ hq)) x hx
   simp only[Zo];omega
theorem znF (m:Dmd) (l:List Pln) (hl:vE l): ∀x∈uX m l,gN x:=by
 intro x hx;unfold uX at hx;split at hx
 ·cases hx
 ·have:=ziq m l 0 hl.2 x hx
  have h:=hl.1;unfold gN;omega
def rawP (L:List Dmd) (which:List Nat) (l:List Pln) (i:Nat):List Plc:=((which.take i).map fun k=>uX (L.getD k yZ) l).flatten
theorem zir (L:List Dmd) (which:List Nat) (l:List Pln) {i:Nat} (h:i<which.length):rawP L which l (i+1)=rawP L which l i++uX (L.getD which[i] yZ) l:=by
 unfold rawP;rw[ZK h,ZW,List.flatten_append,List.map_singleton,YL,List.flatten_nil,Zk]
theorem aI (L:List Dmd) (which:List Nat) (l:List Pln) (hl:vE l): ∀i,(rawP L which l i).length<=i*1000000000000
 |0=>by simp[rawP]
 |i+1=>by
  have ih:=aI L which l hl i;by_cases h:i<which.length
  ·rw[zir _ _ _ h,Zv,Xb]
   exact Nat.add_le_add ih (looksP_len (L.getD which[i] yZ) l hl)
  ·have:rawP L which l (i+1)=rawP L which l i:=by unfold rawP;rw[Z9 (by omega),Z9 (by omega)]
   rw[this,Xb];exact ZT ih (Nat.le_add_right _ _)
theorem c34 (L:List Dmd) (which:List Nat) (p:List Pln) (hL:L.length<=1000000) (hw:which.length<=8) (hk: ∀k∈which,k<L.length) (hp:vE p):Spec Tryz.prog 34 [lst 8 (L.map zQ),lst 1 (zM (natI which)),lst 3 (p.map yM)] (fun v=>v=lst 2 (pls (xU L which p))):=by
 refine Spec.of_awlP hf34 okf34 (by simp) fun S hS=>?_
 have hwl:(natI which).length=which.length:=uD which;simp only[yL,hwl,Qs,bne_iff_ne,ne_eq,Zc,Zs,Za,Ψ34];rw[uu f34l15.eq_1];refine yA (fun x:Nat×Option Bool=>[(0,lst 8 (L.map zQ)),(2,lst 3 (p.map yM)),(7,.k (.own 7)),(10,lst 1 (zM (natI which))),(11,.int .i64 which.length),(12,.int .i64 x.1)]) (fun x=>[(7,.arr 64 2 x.2 (pls (rawP L which p x.1)))]) (fun x=>x.1<=which.length) (fun x=>which.length-x.1) (0,some true) rfl rfl (ZA _) ?_;rintro⟨i,nl⟩ hi;simp only[] at hi;have hrl:=aI L which p hp i;by_cases hlt:i<which.length
 ·have d1:(i:Int)<which.length:=by omega
  have c4:IntKind.i64.wrap ((i:Int)+1)=(i:Int)+1:=wrap_in (by omega) (by omega);have hat:(zM (natI which)).getD i []=[.int .i64 (which[i]:Int)]:=by simp[zM,natI,hlt]
  have hki:=hk _ (Zx hlt);have hs:=zir L which p hlt;have hd:=gL hki;generalize which[i]=k at hat hki hs hd;have d2:(0:Int)<=(k:Int)/\(k:Int)<L.length:=⟨by omega,by omega⟩;have g1:=c16 (L.getD k yZ) p hp;have hl1:=looksP_len (L.getD k yZ) p hp;generalize L.getD k yZ=m at hs hd g1 hl1;unfold zQ at g1;simp only[d1,d2,hat,hd,hwl,yL,zI,Z6,Qs,Za,Zi,Ψ34];refine xI g1 ?_ (ha:=by simp only[Zm,Zq,zB,V.norm,C.norm,yG sQ,C.normRow]<;>rfl);simp only[c4,uY,Qs,Za,zlC];have hb:(rawP L which p i).length+(uX m p).length<=8000000000000:=by
   rw[<-Zv,<-hs];exact ZT (aI L which p hp (i+1)) (ZX 1000000000000 (ZT hlt hw))
  have hpp:pls (rawP L which p i)++pls (uX m p)=pls (rawP L which p (i+1)):=by rw[hs];simp[pls]
  rw[hpp];generalize (rawP L which p i).length+(uX m p).length=q at hb;exact⟨ZT hb (by decide),ZT (ZX 16 hb) (by decide),Next.intro (i+1,nlApp nl (pls (uX m p))) rfl rfl (by simp only;omega) (by simp only;omega)⟩
 ·have d1: ¬(i:Int)<which.length:=by omega
  obtain rfl:i=which.length:=by omega
  simp only[d1,Qs,Za,Ψ34];have hall: ∀x∈rawP L which p which.length,gN x:=by
   intro x hx;unfold rawP at hx;obtain⟨l,hl,hx⟩:=List.mem_flatten.1 hx;obtain⟨k,_,rfl⟩:=ZB.1 hl;exact znF _ p hp x hx
  have hle:(rawP L which p which.length).length<=8000000000000:=ZT hrl (ZX 1000000000000 hw);have e:xU L which p=uK (sortO uA (rawP L which p which.length)):=by unfold xU rawP;rw[Yk]
  rw[e] at hS;generalize rawP L which p which.length=R at hall hle hS;have g1:=c72 7 R (by omega) hall;have hsl:(sortO uA R).length=R.length:=(qD uA R).length_eq;have g2:=c74 7 (sortO uA R) (by omega);refine zin (Q:=fun out=>out=sortO uA R) (pls R) R (g1.mono fun r o ⟨h1,h2⟩=>⟨h1,_,rfl,h2⟩) rfl (rL _) ?_;rintro out rfl;simp only[Qs,Za,Ψ34];refine znE (pls (sortO uA R)) g2 rfl (rL _) ?_;simp only[Qs,ze3,ZY,Zy];refine hS _ ?_;simp only[V.fz,V.fzL,V.nrm,V.nrmL,rL,qB (rL _)]
def rO (nv n:Nat):List Nat:=((List.range n).filter fun k=>nv.testBit k).map (fun k=>1<<<k)
theorem znG (nv n:Nat):rO nv (n+1)=rO nv n++if nv.testBit n=true then[1<<<n] else[]:=by
 unfold rO;rw[XL,X2,ZW];congr 1;by_cases h:nv.testBit n=true<;>simp[h]
theorem aJ (nv n:Nat):(rO nv n).length<=n:=by
 unfold rO;rw[Zi];exact ZT (YF _ _) (by simp)
theorem gP (D:Nat): ∀n p,(vY D n p).length<=n
 |0,_=>Zt _
 |n+1,p=>by
  rw[vY];split
  ·simp
  ·rw[Zo];have:=gP D n ((p-1)&&&D);omega
def qF (F:List Nat) (s j:Nat):Bool:=hitP F s&&((bitsN s).take j).all fun k=> !hitP F (andN s (1<<<k))
theorem znH (F:List Nat) (s:Nat):qF F s (bitsN s).length=wP F s:=by unfold qF wP;rw[Yk]
theorem znI (F:List Nat) (s:Nat) {j:Nat} (h:j<(bitsN s).length):qF F s (j+1)=(qF F s j&& !hitP F (andN s (1<<<(bitsN s)[j]))):=by
 unfold qF;rw[ZK h,List.all_append];simp[XM]
theorem znJ (s k:Nat) (hk:k<64):(s:Int).fdiv (2 ^ min k IntKind.u64.bits)=((s/2 ^ k:Nat):Int):=by
 have e:min k IntKind.u64.bits=k:=Xx (show k<=64 by omega);rw[e,show((2:Int) ^ k)=((2 ^ k:Nat):Int) by simp];rw[Int.fdiv_eq_ediv_of_nonneg _ (Int.natCast_nonneg _)];exact(Int.natCast_ediv s (2 ^ k)).symm
theorem znK (s k:Nat) (hs:s<18446744073709551616) (hk:k<64):IntKind.u64.wrap ((Yc IntKind.u64.bits ((s:Int).fdiv (2 ^ min k IntKind.u64.bits))&&&Yc IntKind.u64.bits 1).toNat:Int)=if s.testBit k=true then 1 else 0:=by
 rw[znJ s k hk];have h:=kD (s:=s/2 ^ k) (t:=1) (Nat.lt_of_le_of_lt (Xo _ _) hs) (by decide);rw[show((1:Nat):Int)=1 from rfl] at h;rw[h,Nat.and_one_is_mod,Nat.testBit_eq_decide_div_mod_eq];have:s/2 ^ k % 2=0\/s/2 ^ k % 2=1:=by omega
 rcases this with h|h<;>rw[h]<;>simp
theorem aK (k:Nat) (hk:k<64):IntKind.u64.wrap (1*2 ^ min k IntKind.u64.bits)=((1<<<k:Nat):Int):=by
 have e:min k IntKind.u64.bits=k:=Xx (show k<=64 by omega);rw[e,Int.one_mul,show((2:Int) ^ k)=((2 ^ k:Nat):Int) by simp,XH];exact oU (ZM (Nat.pow_lt_pow_right (by decide) hk) (by decide))
theorem zis {s t m:Nat} (h:s<2 ^ m):andN s t<2 ^ m:=xT.2 fun k hk=>by
 rw[rI,Zp] at hk;exact xT.1 h k hk.1
theorem zit {s t:Nat} (hs:s<2 ^ 64):IntKind.u64.wrap ((Yc IntKind.u64.bits (s:Int)&&& ~~~Yc IntKind.u64.bits (t:Int)).toNat:Int)=((andN s t:Nat):Int):=by
 show IntKind.u64.wrap ((Yc 64 (s:Int)&&& ~~~Yc 64 (t:Int)).toNat:Int)=_;rw[mG,mG];have e:(BitVec.ofNat 64 s&&& ~~~BitVec.ofNat 64 t).toNat=andN s t:=by
  apply Nat.eq_of_testBit_eq;intro i;rw[rI,BitVec.testBit_toNat,BitVec.getLsbD_and,BitVec.getLsbD_not,BitVec.getLsbD_ofNat,BitVec.getLsbD_ofNat];by_cases hi:i<64
  ·simp[hi]
  ·have:s.testBit i=false:=by
    cases q:s.testBit i with
    |false=>rfl
    |true=>exact absurd (xT.1 hs i q) hi
   simp[hi,this]
 rw[e];exact oU (zis hs)
theorem ziu (L:List (List Nat)):C.normRows (cfs L)=cfs L:=zP (fun x=>by simp only[C.normRow,zO,vC]) L
theorem c33 (v:Vw) (hn:v.never<256) (hd:v.doubt<256) (hs: ∀s∈v.sets,s<256) (hl:v.sets.length<=1000000):Spec Tryz.prog 33 [.agg [zC 1 (sets v.sets),.int .u64 (v.never:Int),.int .u64 (v.doubt:Int)]] (fun r=>r=lst 1 (cfs (sortO ltC ((conflP v).map bitsN)))):=by
 obtain⟨F,nv,db⟩:=v;simp only[] at hn hd hs hl;refine Spec.of_awlP hf33 okf33 (by simp) fun S hS=>?_
 simp only[Qs,bne_iff_ne,ne_eq,Zs,Za,Ψ33];rw[uu f33l70.eq_1];refine yA (fun x:Nat×Option Bool=>[(1,.k (.c (.ro [zC 1 (sets F),.int .u64 (nv:Int),.int .u64 (db:Int)] 0))),(3,.k (.own 3)),(13,.int .i64 x.1)]) (fun x=>[(3,.arr 71 1 x.2 (sets (rO nv x.1)))]) (fun x=>x.1<=64) (fun x=>64-x.1) (0,some true) rfl rfl (by decide) ?_;rintro⟨k,nl⟩ hk;simp only[] at hk;have hnl:=aJ nv k;by_cases hlt:k<64
 ·have d1:(k:Int)<64:=by omega
  have d0:(0:Int)<=k:=by omega
  have c4:IntKind.i64.wrap ((k:Int)+1)=(k:Int)+1:=wrap_in (by omega) (by omega);have hx:=znG nv k;have c5:=znK nv k (by omega) hlt;have c6:=aK k hlt;by_cases hb:nv.testBit k=true
  ·rw[if_pos hb] at c5 hx
   simp only[d1,d0,c4,c5,c6,uZ,zig,Z6,Qs,zdD,zdE,forall_eq,bne_iff_ne,ne_eq,BEq.rfl,ZH,Zc,Zs,Zl,Z5,Za,Zy,Ψ33];refine⟨by omega,by omega,Next.intro (k+1,some false) rfl (by rw[hx];rfl) (by simp only;omega) (by simp only;omega)⟩
  ·rw[if_neg hb] at c5 hx
   rw[Zk] at hx;simp only[d1,d0,c4,c5,Z6,Qs,zdE,Zc,Zl,Za,Int.reduceBEq,Ψ33];exact Next.intro (k+1,nl) rfl (by rw[hx];rfl) (by simp only;omega) (by simp only;omega)
 ·obtain rfl:k=64:=by omega
  simp only[show¬(((64:Nat):Int)<64) by omega,Qs,zcK,Zc,Za,XJ,zgI,zgJ,zgK,zgL,zgM,zgN,zgO,Ψ33];rw[uu f33l50.eq_1];have hT:(conflP ⟨F,nv,db⟩)=rO nv 64++(vY db 256 db).filter (wP F):=rfl;have hTl:(conflP ⟨F,nv,db⟩).length<=320:=by
   rw[hT,Zv];have h1:=gP db 256 db;have h2:=YF (wP F) (vY db 256 db);omega
  have hTb: ∀s∈conflP ⟨F,nv,db⟩,s<256:=by
   intro s hs2;rw[hT,Yg] at hs2;rcases hs2 with hs2|hs2
   ·obtain⟨k,hk,rfl⟩:=ZB.1 hs2
    have hk:=(Yj.1 hk).2;have:k<8:=xT.1 (show nv<2 ^ 8 from hn) k hk;rw[XH];exact(Nat.pow_lt_pow_right (by decide) this:2 ^ k<2 ^ 8)
   ·have h:=(Yj.1 hs2).1
    rw[zhG db hd,zhH hd] at h;have:=Nat.and_le_right (n:=s) (m:=db);omega
  generalize conflP ⟨F,nv,db⟩=T at hS hT hTl hTb;refine yA (fun x:Nat×Nat×List Nat×Option Bool=>[(1,.k (.c (.ro [zC 1 (sets F),.int .u64 (nv:Int),.int .u64 (db:Int)] 0))),(3,.k (.own 3)),(5,.k (.c (.fn 66 [.ro [zC 1 (sets F),.int .u64 (nv:Int),.int .u64 (db:Int)] 0]))),(6,.int .u64 x.1)]) (fun x=>[(3,.arr 71 1 x.2.2.2 (sets x.2.2.1))]) (fun x=>x.1<=x.2.1/\x.1<256/\T=x.2.2.1++(vY db x.2.1 x.1).filter (wP F)) (fun x=>x.1) (db,256,rO nv 64,nl) rfl rfl ⟨by simp only;omega,hd,hT⟩ ?_;rintro⟨p,n,Out,nl2⟩ ⟨hpn,hp,hO⟩;simp only[] at hpn hp hO;have hOl:Out.length<=320:=by
   have:=congrArg List.length hO;rw[Zv] at this;omega
  by_cases h0:p=0
  ·subst h0
   have e0:vY db n 0=[]:=by cases n<;>simp[vY]
   rw[e0,List.filter_nil,Zk] at hO;subst hO;simp only[show(((0:Nat):Int) !=0)=false from rfl,uZ,Qs,zle,zlf,bne_iff_ne,ne_eq,Zs,Za,Xn,Ψ33];rw[uu f33l15.eq_1];refine yA (fun x:Nat×Option Bool=>[(10,.k (.own 10)),(64,.k (.own 3)),(65,.int .i64 T.length),(66,.int .i64 x.1)]) (fun x=>[(3,.arr 71 1 nl2 (sets T)),(10,.arr 30 1 x.2 (cfs ((T.take x.1).map bitsN)))]) (fun x=>x.1<=T.length) (fun x=>T.length-x.1) (0,some true) rfl rfl (ZA _) ?_;rintro⟨i,nl3⟩ hi;simp only[] at hi;by_cases hil:i<T.length
   ·have d1:(i:Int)<T.length:=by omega
    have c4:IntKind.i64.wrap ((i:Int)+1)=(i:Int)+1:=wrap_in (by omega) (by omega);have hat:=aD hil;have htk:(T.take (i+1)).map bitsN=(T.take i).map bitsN++[bitsN T[i]]:=by rw[ZK hil,ZW];rfl
    have hT8:=hTb _ (Zx hil);have hll:((T.take i).map bitsN).length=i:=by simp;omega
    generalize T[i]=p at hat htk hT8;generalize (T.take i).map bitsN=A at htk hll;have g2:=c35 p hT8;simp only[d1,hat,uZ,Qs,zlh,zli,zlj,zd8,zd9,Za,Ψ33];refine xI g2 ?_ (ha:=by rfl);have hq:cfs A++[[zC 1 (zM (natI (bitsN p)))]]=cfs (A++[bitsN p]):=by simp[cfs]
    have hAl:(cfs A).length=i:=by simp[cfs,hll]
    simp only[c4,hq,hAl,Qs,zlp,zlr,forall_eq,bne_iff_ne,ne_eq,ZH,Zs,Zl,Z5,Za,Zy];exact⟨by omega,by omega,Next.intro (i+1,some false) rfl (by rw[htk];rfl) (by simp only;omega) (by simp only;omega)⟩
   ·obtain rfl:i=T.length:=by omega
    have d1: ¬((T.length:Int)<T.length):=by omega
    rw[Yk];simp only[d1,Qs,Za,Ψ33];have hL8: ∀x∈T.map bitsN,x.length<=1000:=by
     intro x hx;obtain⟨s,hs,rfl⟩:=ZB.1 hx;have:=pG s (hTb s hs);omega
    have hLl:(T.map bitsN).length<=320:=by simp;exact hTl
    generalize T.map bitsN=R at hS hL8 hLl;have g1:=c69 10 R (by omega) hL8;refine zin (Q:=fun out=>out=sortO ltC R) (encR:=fun x=>[zC 1 (zM (natI x))]) (cfs R) R (g1.mono fun r o ⟨h1,h2⟩=>⟨h1,_,rfl,h2⟩) rfl (ziu _) ?_;rintro out rfl;simp only[Qs,ZY,Za,Zy,Ψ33];refine hS _ ?_;have e1:=ziu (sortO ltC R);unfold cfs at e1;simp only[V.fz,V.fzL,V.nrm,V.nrmL,e1,qB e1];rfl
  ·obtain⟨m,rfl⟩: ∃m,n=m+1:=⟨n-1,by omega⟩
   rw[vY,if_neg h0] at hO;have n0:((p:Int) !=0)=true:=by rw[bne_iff_ne];omega
   have g1:=c66 p nv db (by omega) F (fun s h=>by have:=hs s h;omega) hl;have g2:=c35 p hp;have hbl:=pG p hp;simp only[n0,Qs,Za,Ψ33];refine pC g1 ?_ (ha:=by simp only[Zm,Zq,zB,V.norm,zO,C.norm,C.normRow,oV]<;>rfl);simp only[Qs,Za,Ψ33];refine xI g2 ?_ (ha:=by rfl);simp only[yL,uD,Qs,Ψ33];have hz:qF F p 0=hitP F p:=by unfold qF;simp
   rw[uu f33l37.eq_1];refine yA (fun j:Nat=>[(1,.k (.c (.ro [zC 1 (sets F),.int .u64 (nv:Int),.int .u64 (db:Int)] 0))),(3,.k (.own 3)),(5,.k (.c (.fn 66 [.ro [zC 1 (sets F),.int .u64 (nv:Int),.int .u64 (db:Int)] 0]))),(6,.int .u64 p),(7,.bool (qF F p j)),(42,lst 1 (zM (natI (bitsN p)))),(43,.int .i64 (bitsN p).length),(44,.int .i64 j)]) (fun _=>[(3,.arr 71 1 nl2 (sets Out))]) (fun j=>j<=(bitsN p).length) (fun j=>(bitsN p).length-j) 0 (by rw[hz];rfl) rfl (ZA _) ?_;rintro j hj;by_cases hjl:j<(bitsN p).length
   ·have d1:(j:Int)<(bitsN p).length:=by omega
    have c4:IntKind.i64.wrap ((j:Int)+1)=(j:Int)+1:=wrap_in (by omega) (by omega);have hat:(zM (natI (bitsN p))).getD j []=[.int .i64 ((bitsN p)[j]:Int)]:=by simp[zM,natI,hjl]
    have hls:=znI F p hjl;have hb64:(bitsN p)[j]<64:=by
     have:=Zx hjl;unfold bitsN at this;have:=Z7.1 (Yj.1 this).1;show(bitsN p)[j]<64;unfold bitsN;omega
    generalize (bitsN p)[j]=k at hat hls hb64;have c6:=aK k hb64;have k0:(0:Int)<=k:=by omega
    cases hL:qF F p j with
    |false=>
     rw[hL,ZP] at hls;simp only[d1,hat,c4,c6,k0,hL,yL,uD,Z6,Qs,iM,Za,Ψ33];exact Next.intro (j+1) (by rw[hls];rfl) rfl (by omega) (by omega)
    |true=>
     rw[hL,ZJ] at hls;have ht:andN p (1<<<k)<256:=zis (m:=8) hp;have c7:=zit (s:=p) (t:=1<<<k) (by omega);have g3:=c66 (andN p (1<<<k)) nv db (by omega) F (fun s h=>by have:=hs s h;omega) hl;generalize andN p (1<<<k)=t at hls c7 g3;simp only[d1,hat,c4,c6,c7,k0,hL,yL,uD,Z6,Qs,iM,zdD,zld,Za,Ψ33];refine pC g3 ?_ (ha:=by simp only[Zm,Zq,zB,V.norm,zO,C.norm,C.normRow,oV]<;>rfl);simp only[c4,Qs,Za];exact Next.intro (j+1) (by rw[hls];rfl) rfl (by omega) (by omega)
   ·obtain rfl:j=(bitsN p).length:=by omega
    rw[znH];have d1: ¬(((bitsN p).length:Int)<(bitsN p).length):=by omega
    have hn1:(p-1)&&&db<=p-1:=Nat.and_le_left;have w1:IntKind.u64.wrap ((p:Int)-1)=((p-1:Nat):Int):=by
     rw[show(p:Int)-1=((p-1:Nat):Int) by omega];exact oU (by omega)
    have ha:=kD (s:=p-1) (t:=db) (by omega) (by omega);generalize (p-1)&&&db=p2 at hO hn1 ha;cases hc:wP F p with
    |false=>
     rw[List.filter_cons_of_neg (by rw[hc];simp)] at hO;simp only[d1,w1,ha,Qs,zdH,Zc,Zs,Za,Ψ33];exact Next.intro (p2,m,Out,nl2) rfl rfl ⟨by simp only;omega,by simp only;omega,hO⟩ (by simp only;omega)
    |true=>
     rw[List.filter_cons_of_pos hc,<-List.singleton_append,<-Yd] at hO;simp only[d1,w1,ha,uZ,zig,Qs,zdH,forall_eq,bne_iff_ne,ne_eq,ZH,Zc,Zs,Zl,Z5,Za,Zy,Ψ33];exact⟨by omega,by omega,Next.intro (p2,m,Out++[p],some false) rfl rfl ⟨by simp only;omega,by simp only;omega,hO⟩ (by simp only;omega)⟩
end Go.Abs
namespace Go.Proofs
open Go.Shelf Go.RowKit Go.Lib
theorem znL (B b:Nat) (bs:List Value) (c:Int) (w:World) (h:Lib.IsBuilderF 188 5 B b bs w) (hlen:bs.length+1<=140737488355328) (hBw:B<=w.heap.size):
  Calls Tryz.prog 220 #[.pointer (some ⟨b,0,none⟩),.int .u8 c] w fun e w'=>e=.returned .nilIface/\Lib.IsBuilderF 188 5 B b (bs++[.int .u8 c]) w'/\Below B w w':=by
 obtain⟨i0,hi,hz0,hz1,hz2⟩:=info_parts Tryz.bx169.infoByte
 go_enter Tryz.func220,Tryz.ntmps220
 go_wp2_with (go_at_call 161;refine(zhw B b bs _ h).mono ?_)
 rintro e w1 ⟨rfl,h1,hb1⟩;obtain⟨hB,v,hbk,hown,hne⟩:=h1;have c0:w1.cell? ⟨b,0,none⟩=some (.pointer (some ⟨b,0,none⟩)):=by rw[Lib.cell_of_heap hbk];rfl
 have c1:w1.cell? ⟨b,1,none⟩=some v:=by rw[Lib.cell_of_heap hbk];rfl
 go_wp2_with (at_builtin;refine wpList_append_ownF _ rfl _ _ 186 rfl B 5 i0 (.int .u8 0) 1 1 Tryz.underlying186 hi hz0 hz1 hz2 rfl (by decide) _ _ _ rfl (hown.alloc _) ⟨w1.heap.size,0,none⟩ 1 1 [.int .u8 c] rfl rfl ?c1 ?c2 ?c3 ?c4 ?c5 ?_)
 case c1=>
  intro j u hj
  match j,hj with
  |0,hj=>simp at hj;subst hj;simp[Addr.add]
 case c2=>intro u hu;simp at hu;subst hu;rfl
 case c3=>unfold maxLen;omega
 case c4=>omega
 case c5=>have:=hb1.size;simp;omega
 intro v' w2 hown' hgrow _;have hlt:b<w1.heap.size:=by
  rcases YZ b w1.heap.size with h'|h'
  ·exact h'
  ·simp[Array.getElem?_eq_none h'] at hbk
 have hb2:w2.heap[b]?=some (.cells #[.pointer (some ⟨b,0,none⟩),v] 188 (0,0)):=by
  rw[hgrow.block b (by simp;omega) (fun e=>hne e.symm),Lib.alloc_old w1 _ b hlt];exact hbk
 have d0:w2.cell? ⟨b,0,none⟩=some (.pointer (some ⟨b,0,none⟩)):=by rw[Lib.cell_of_heap hb2];rfl
 have d1:w2.cell? ⟨b,1,none⟩=some v:=by rw[Lib.cell_of_heap hb2];rfl
 have f1:w2.frozen? ⟨b,1,none⟩=false:=Lib.frozen_of_heap hb2 1;obtain⟨g,cap,rfl⟩: ∃g cap,v'=.slice (some ⟨g,0,none⟩) (bs.length+1) cap:=by
  rcases hown'.2 with⟨_,h0⟩|⟨g,cap,cur,fz,hv,_⟩
  ·omega
  ·exact⟨g,cap,hv⟩
 go_wp2
 go_ret
 refine⟨rfl,.inr ?_,?_⟩
 ·exact Lib.BuilderAtF.put (T:=188) (e:=5) hB hb2 (bs':=bs++[.int .u8 c]) (by simpa using hown') (by decide)
 ·exact((hb1.alloc (by have:=hb1.size;omega) _).grown hgrow (by have:=hb1.size;simp;omega) (fun k hk=>(hown.lt k hk).1)).setCell (p:=⟨b,1,none⟩) hB _
end Go.Proofs
namespace Go.Abs
open Go.Proofs Go.RowKit Go.Lib Go.Wd Go.Wire Go.Ex
def aL:Txt:=[110,101,101,100,32]
def wG:Txt:=[32,59]
def vP:Txt:=[102,105,101,108,100,32]
def gQ:Txt:=[32,115,97,109,101,32]
theorem znM (s:Txt) (hs:s.length<=1000000):Spec Tryz.prog 206 [.agg [.str s]] (fun v=>v=.str (aL++s++wG)):=by
 refine Spec.of_awlS hf206 okf206 (by simp) fun S hS=>?_
 simp only[Qs,lG,Zc,Zl,Za,Ψ206];exact⟨by (first|omega|(simp only[Zv,Zo,ZG] at*;omega)),by (first|omega|(simp only[Zv,Zo,ZG] at*;omega)),hS⟩
theorem znN (d f e g:Txt) (hd:d.length<=1000000) (hf:f.length<=1000000) (he:e.length<=1000000) (hg:g.length<=1000000):Spec Tryz.prog 224 [.agg [.str d,.str f,.str e,.str g]] (fun v=>v=.str (vP++(d++wF++f)++gQ++(e++wF++g)++wG)):=by
 refine Spec.of_awlS hf224 okf224 (by simp) fun S hS=>?_
 have g1:=zpx d f hd hf;have g2:=zpx e g he hg;have l1:(d++wF++f).length<=3000000:=by simp only[wF,Zv,Zo,ZG];omega
 have l2:(e++wF++g).length<=3000000:=by simp only[wF,Zv,Zo,ZG];omega
 generalize (d++wF++f)=x at g1 hS l1;generalize (e++wF++g)=y at g2 hS l2;simp only[Qs,Zc,Zl,Za,Ψ224];refine rG g1 ?_ (ha:=by rfl);simp only[Qs,lG,Zc,Zl,Za];refine⟨by omega,by omega,?_⟩;refine rG g2 ?_ (ha:=by rfl);simp only[Qs,lG,Zc,Zl,Za];refine⟨?_,?_,?_⟩
 ·(first|omega|(simp only[Zv,Zo,ZG] at*;omega))
 ·(first|omega|(simp only[Zv,Zo,ZG] at*;omega))
 ·simpa [vP,gQ,wG] using hS
def pI:Txt:=[115,117,109,32]
def tL:Txt:=[32,102,114,111,109,32]
def tM:Txt:=[32,116,111,32]
end Go.Abs
namespace Go.Ex
def qG (c:UInt8):List UInt8:=if c=34\/c=92 then[92,c] else[c]
def wX (l:List UInt8):List UInt8:=l.flatMap qG
theorem znO (l:List UInt8) (c:UInt8):wX (l++[c])=wX l++qG c:=by simp[wX]
theorem gR (l:List UInt8):(wX l).length<=2*l.length:=by
 induction l with
 |nil=>simp[wX]
 |cons c l ih=>
  have:(qG c).length<=2:=by unfold qG;split<;>simp
  simp only[wX,XE,Zv,Zo] at ih⊢;omega
end Go.Ex
namespace Go.Proofs
open Go.Shelf Go.RowKit Go.Lib Go.Ex
theorem oZ (B b:Nat) (l:List UInt8) (c:UInt8) (z:Int) (hz:z=(c.toNat:Int)) (w:World) (h:Lib.IsBuilderF 188 5 B b (Lib.byteCells l) w) (hlen:l.length+1<=140737488355328) (hBw:B<=w.heap.size):
  Calls Tryz.prog 220 #[.pointer (some ⟨b,0,none⟩),.int .u8 z] w fun e w'=>e=.returned .nilIface/\Lib.IsBuilderF 188 5 B b (Lib.byteCells (l++[c])) w'/\Below B w w':=by
 subst hz;refine(znL B b (Lib.byteCells l) c.toNat w h (by simpa [Lib.byteCells] using hlen) hBw).mono ?_;rintro e w' ⟨h1,h2,h3⟩;exact⟨h1,by simpa [Lib.byteCells] using h2,h3⟩
theorem znP {c:UInt8} (h:(c.toNat:Int)=34):c=34:=by
 have h2:c.toNat=34:=by omega
 have h3:UInt8.ofNat c.toNat=UInt8.ofNat 34:=by rw[h2]
 rw[UInt8.ofNat_toNat] at h3;exact h3
theorem znQ {c:UInt8} (h:(c.toNat:Int)=92):c=92:=by
 have h2:c.toNat=92:=by omega
 have h3:UInt8.ofNat c.toNat=UInt8.ofNat 92:=by rw[h2]
 rw[UInt8.ofNat_toNat] at h3;exact h3
theorem znR {c:UInt8} (q1: ¬(c.toNat:Int)=34) (q2: ¬(c.toNat:Int)=92):([c]:List UInt8)=qG c:=by
 unfold qG;rw[if_neg];rintro(h|h)
 ·subst h;exact q1 rfl
 ·subst h;exact q2 rfl
theorem ziv {c:UInt8} (h:c=34\/c=92):([92]++[c]:List UInt8)=qG c:=by
 unfold qG;rw[if_pos h];rfl
theorem znS (l:List UInt8) (hl:l.length<=1000000) (w:World):
  Calls Tryz.prog 219 #[.string ⟨l.toArray⟩] w fun e w'=>e=.returned (.string ⟨([34]++wX l++[34]).toArray⟩)/\Below w.heap.size w w':=by
 obtain⟨n,hN⟩: ∃n,l.length=n:=⟨_,rfl⟩;have hN':Aside (l.length=n):=hN;have hsz:(⟨l.toArray⟩:ByteArray).size=n:=by show l.toArray.size=_;simpa using hN
 have hg1:(w.alloc (.cells #[.pointer none,.slice none 0 0] 188)).heap[w.heap.size]?=some (.cells #[.pointer none,.slice none 0 0] 188 (0,0)):=Go.Abs.alloc_get w _;have hb2:Below w.heap.size w (w.alloc (.cells #[.pointer none,.slice none 0 0] 188)):=(Below.refl _ w).alloc (Zt _) _;have hI1:Lib.IsBuilderF 188 5 w.heap.size w.heap.size (Lib.byteCells []) (w.alloc (.cells #[.pointer none,.slice none 0 0] 188)):=by
  exact .inl ⟨Zt _,.slice none 0 0,hg1,World.ownsRowF_of (World.ownsRow_nil _ _ _ _),by simp[Value.ownBlock]⟩
 go_enter Tryz.func219,Tryz.ntmps219
 go_wp2_with (go_at_call 220;refine(oZ w.heap.size w.heap.size [] 34 34 rfl _ hI1 (by decide) hb2.size).mono ?_;rintro e w3 ⟨rfl,hI3,hb3⟩)
 rw[Ya] at hI3;have hb4:=hb2.trans hb3
 go_loopg [4,8] n (fun g t i wr=>Below w.heap.size w wr/\ ∃k:Nat,k<=n/\g=n-k/\i=.int .i64 k/\Lib.IsBuilderF 188 5 w.heap.size w.heap.size (Lib.byteCells ([34]++wX (l.take k))) wr)
 case atStart=>exact⟨hb4,0,ZA _,rfl,rfl,hI3⟩
 case round=>
  obtain⟨hbx,k,hk,rfl,rfl,hIx⟩:=hrel;by_cases hlt:k<n
  ·have hkn:(k:Int)<n:=by omega
   have hkl:k<l.length:=by omega
   obtain⟨c,hc⟩: ∃c,(⟨l.toArray⟩:ByteArray)[k]'(by rw[hsz];exact hlt)=c:=⟨_,rfl⟩;have hcl:l[k]=c:=hc;have hE:Aside ([34]++wX (l.take (k+1))=[34]++wX (l.take k)++qG c):=show _=_ by rw[ZK hkl,hcl,znO,Yd]
   have hA:=gR (l.take k);rw[Yy] at hA;have hA2:([34]++wX (l.take k)).length<=2000001:=by simp only[Zv,Zo,ZG];omega
   generalize [34]++wX (l.take k)=A at hIx hE hA2;have hwr:IntKind.i64.wrap ((k:Int)+1)=((k+1:Nat):Int):=by rw[Go.Abs.wrap_in (by omega) (by omega)];omega
   clear hcl hA;by_cases q1:(c.toNat:Int)=34
   ·have o1:c=34:=znP q1
    go_wp2_with (first|(go_at_call 220;refine(oZ w.heap.size w.heap.size (A++[92]) c 34 q1.symm _ hI5 (by rw[Zv];simp only[Zo,ZG];omega) (hbx.trans hb7).size).mono ?_;rintro e w6 ⟨rfl,hI6,hb8⟩)|(go_at_call 220;refine(oZ w.heap.size w.heap.size A 92 92 rfl _ hIx (by omega) hbx.size).mono ?_;rintro e w5 ⟨rfl,hI5,hb7⟩))
    rw[Yd,ziv (.inl o1),<-hE.out] at hI6
    go_roundg (n-(k+1))
    case measure=>omega
    case rel=>exact⟨(hbx.trans hb7).trans hb8,k+1,by omega,rfl,by go_num,hI6⟩
   ·by_cases q2:(c.toNat:Int)=92
    ·have o1:c=92:=znQ q2
     go_wp2_with (first|(go_at_call 220;refine(oZ w.heap.size w.heap.size (A++[92]) c 92 q2.symm _ hI5 (by rw[Zv];simp only[Zo,ZG];omega) (hbx.trans hb7).size).mono ?_;rintro e w6 ⟨rfl,hI6,hb8⟩)|(go_at_call 220;refine(oZ w.heap.size w.heap.size A 92 92 rfl _ hIx (by omega) hbx.size).mono ?_;rintro e w5 ⟨rfl,hI5,hb7⟩))
     rw[Yd,ziv (.inr o1),<-hE.out] at hI6
     go_roundg (n-(k+1))
     case measure=>omega
     case rel=>exact⟨(hbx.trans hb7).trans hb8,k+1,by omega,rfl,by go_num,hI6⟩
    ·have e1:((c.toNat:Int)==34)=false:=by simp only[beq_eq_false_iff_ne,ne_eq];exact q1
     have e2:((c.toNat:Int)==92)=false:=by simp only[beq_eq_false_iff_ne,ne_eq];exact q2
     have hEE:=znR q1 q2;clear q1 q2
     go_wp2_with (go_at_call 220;refine(oZ w.heap.size w.heap.size A c (c.toNat:Int) rfl _ hIx (by omega) hbx.size).mono ?_;rintro e w6 ⟨rfl,hI6,hb8⟩)
     rw[hEE,<-hE.out] at hI6
     go_roundg (n-(k+1))
     case measure=>omega
     case rel=>exact⟨hbx.trans hb8,k+1,by omega,rfl,by go_num,hI6⟩
  ·obtain rfl:k=n:=by omega
   have hE:Aside (l.take k=l):=show _=_ by rw[Z9 (by omega)]
   have hA:=gR l;rw[hE.out] at hIx;have hA2:([34]++wX l).length<=2000001:=by simp only[Zv,Zo,ZG];omega
   obtain⟨A,hAe⟩: ∃A,[34]++wX l=A:=⟨_,rfl⟩;rw[hAe] at hIx hA2;clear hA
   go_wp2_with (first|(go_at_call 134;refine(zhx w.heap.size w.heap.size (A++[34]) _ hI5 (hbx.trans hb7).size).mono ?_;rintro e w6 ⟨rfl,hI6,hb8⟩)|(go_at_call 220;refine(oZ w.heap.size w.heap.size A 34 34 rfl _ hIx (by omega) hbx.size).mono ?_;rintro e w5 ⟨rfl,hI5,hb7⟩))
   go_ret
   exact⟨by rw[<-hAe];rfl,(hbx.trans hb7).trans hb8⟩
end Go.Proofs
namespace Go.Abs
open Go.Proofs Go.RowKit Go.Lib Go.Wd Go.Wire Go.Ex
theorem znT (s:Txt) (hl:s.length<=1000000):Spec Tryz.prog 219 [.str s] (fun r=>r=.str ([34]++wX s++[34])):=by
 refine⟨rH (by kernel_rfl),fun w Z vs hG hz ha=>?_⟩;obtain⟨l⟩:=vs
 match l,ha with
 |[],ha=>exact absurd ha.1 (by simp)
 |_::_::_,ha=>exact absurd ha.1 (by simp)
 |[v1],ha=>
  have e1:=uQ (ha.2 0 _ v1 rfl rfl).2.2;subst e1;refine(znS s hl w).mono ?_;rintro e w' ⟨rfl,hb⟩;exact⟨_,_,rfl,rfl,fun _=>rfl,oG hG (xM hb) (fun _=>rfl) (fun _=>⟨rfl,.str _⟩)⟩
theorem znU (s:Txt) (hl:s.length<=1000000):Spec Tryz.prog 217 [.str s] (fun r=>r=.tup (if s.length>400\/spanN nV s≠s.length then[.str [],.bool false] else[.str ([34]++wX s++[34]),.bool true])):=by
 refine Spec.of_awlS hf217 okf217 (by simp) fun S hS=>?_
 have g1:=cX zmk s (big hl);have g2:=znT s hl;generalize [34]++wX s++[34]=x at g2 hS;generalize spanN nV s=y at g1 hS;by_cases q1:(s.length:Int)>400
 ·rw[if_pos (.inl (by omega))] at hS
  simp only[q1,Qs,Zk,Za,Ψ217];exact hS
 ·simp only[q1,Qs,Za,Ψ217]
  refine zF g1 ?_ (ha:=by rfl);by_cases q2:(y:Int)=s.length
  ·rw[if_neg (by omega)] at hS
   simp only[q2,Qs,forall_const,Zk,Za,Ψ217];refine zF g2 ?_ (ha:=by rfl);simp only[Qs,Zk,Za];exact hS
  ·rw[if_pos (.inr (by omega))] at hS
   simp only[q2,Qs,forall_const,Zk,Za,Ψ217];exact hS
def quoB (s:Txt):Bool:=decide (¬(s.length>400\/spanN nV s≠s.length))
def quoT (s:Txt):Txt:=if quoB s then[34]++wX s++[34] else[]
def gS:Txt:=[32,105,115,32]
theorem ziw (s:Txt) (hl:s.length<=1000000):Spec Tryz.prog 217 [.str s] (fun r=>r=.tup [.str (quoT s),.bool (quoB s)]):=by
 refine(znU s hl).mono ?_;rintro r rfl;unfold quoT quoB;by_cases h:s.length>400\/spanN nV s≠s.length
 ·rw[if_pos h];simp[h]
 ·rw[if_neg h];simp[h]
theorem znV (s:Txt) (h:s.length<=1000000):(quoT s).length<=2000002:=by
 have:=gR s;unfold quoT;split
 ·simp only[Zv,Zo,ZG];omega
 ·simp
theorem znW (d f t:Txt) (hd:d.length<=1000000) (hf:f.length<=1000000) (ht:t.length<=1000000):Spec Tryz.prog 213 [.agg [.str d,.str f,.str t]] (fun v=>v=.bool (quoB t&&(nameP d&&nameP f))):=by
 refine Spec.of_awlS hf213 okf213 (by simp) fun S hS=>?_
 have g1:=ziw t ht;have g2:=zpw d f hd hf;generalize (nameP d&&nameP f)=x at g2 hS;generalize quoB t=y at g1 hS;simp only[Qs,Zc,Za,Ψ213];refine zF g1 ?_ (ha:=by rfl);cases y with
 |false=>
  simp only[Qs,Za,Ψ213];exact hS
 |true=>
  simp only[Qs,Zc,Zl,Za,Ψ213];refine zF g2 ?_ (ha:=by rfl);simp only[Qs,Za];exact hS
theorem znX (d f t:Txt) (hd:d.length<=1000000) (hf:f.length<=1000000) (ht:t.length<=1000000):Spec Tryz.prog 214 [.agg [.str d,.str f,.str t]] (fun v=>v=.str (vP++(d++wF++f)++gS++quoT t++wG)):=by
 refine Spec.of_awlS hf214 okf214 (by simp) fun S hS=>?_
 have g1:=ziw t ht;have g2:=zpx d f hd hf;have l1:(d++wF++f).length<=3000000:=by simp only[wF,Zv,Zo,ZG];omega
 have l2:=znV t ht;generalize (d++wF++f)=x at g2 hS l1;generalize quoT t=y at g1 hS l2;simp only[Qs,Zc,Za,Ψ214];refine zF g1 ?_ (ha:=by rfl);simp only[Qs,Zc,Zl,Za,Ψ214];refine zF g2 ?_ (ha:=by rfl);simp only[Qs,lG,Zc,Zl,Za];refine⟨?_,?_,?_⟩
 ·(first|omega|(simp only[Zv,Zo,ZG] at*;omega))
 ·(first|omega|(simp only[Zv,Zo,ZG] at*;omega))
 ·refine⟨by (first|omega|(simp only[Zv,Zo,ZG] at*;omega)),by (first|omega|(simp only[Zv,Zo,ZG] at*;omega)),?_⟩
  simpa [vP,gS,wG] using hS
end Go.Abs
namespace Go.Ex
open Go.Lib Go.Wd Go.Wire Go.Abs Go.Proofs
def okD (op:Int):Bool:=decide (op=0)||(decide (op=1)||(decide (op=3)||(decide (op=2)||decide (op=4))))
def gT (m:Dmd):Dmd:=
 if m.op=0 then⟨0,m.doc,[],[],[],[],0,0⟩ else if m.op=1 then⟨1,m.doc,m.fld,[],[],m.txt,0,0⟩
 else if m.op=3 then⟨3,m.doc,m.fld,m.oth,m.sec,[],0,0⟩ else if m.op=2 then⟨2,m.doc,m.fld,[],[],[],m.lo,m.hi⟩ else⟨4,m.doc,m.fld,[],[],[],m.lo,m.hi⟩
def kF (m:Dmd):Bool:=
 if m.op=0 then nameP m.doc else if m.op=1 then quoB m.txt&&(nameP m.doc&&nameP m.fld)
 else if m.op=3 then(nameP m.doc&&nameP m.fld)&&(nameP m.oth&&nameP m.sec)
 else(nameP m.doc&&nameP m.fld)&&(decide (m.lo>=0)&&(decide (m.lo<=m.hi)&&decide (m.hi<=1099511627776)))
def kG (m:Dmd):Txt:=
 if m.op=0 then aL++m.doc++wG else if m.op=1 then vP++(m.doc++wF++m.fld)++gS++quoT m.txt++wG
 else if m.op=3 then vP++(m.doc++wF++m.fld)++gQ++(m.oth++wF++m.sec)++wG
 else(if m.op=4 then pI else vP)++(m.doc++wF++m.fld)++tL++itoa m.lo++tM++itoa m.hi++wG
def uE (m:Dmd):Bool:=okD m.op&&(decide (m=gT m)&&kF m)
def uL (L:List Dmd):Bool:=decide (L=[])||(decide (L.length<=20)&&L.all uE)
structure DmdS (m:Dmd):Prop where
 d:m.doc.length<=1000000
 f:m.fld.length<=1000000
 o:m.oth.length<=1000000
 s:m.sec.length<=1000000
 t:m.txt.length<=1000000
 l1: -9223372036854775808<=m.lo
 l2:m.lo<=9223372036854775807
 h1: -9223372036854775808<=m.hi
 h2:m.hi<=9223372036854775807
theorem sW {s:Txt} (h:nameP s=true):s.length<=20:=by
 unfold nameP at h;simp only[Zp,decide_eq_true_eq] at h;exact h.2.2.1
theorem znY (t:Txt):(wX t).length<=2*t.length:=gR t
theorem aM {m:Dmd} (hm:DmdS m) (h:uE m=true):(kG m).length<=1000:=by
 unfold uE at h;simp only[Zp] at h;obtain⟨_,_,h⟩:=h;have e1:=itoa_length_le m.lo hm.l1 hm.l2;have e2:=itoa_length_le m.hi hm.h1 hm.h2;unfold kF at h;unfold kG;split at h
 ·rename_i h0
  have:=sW h;rw[if_pos h0];simp only[aL,wG,Zv,Zo,ZG];omega
 split at h
 ·rename_i h0 h1
  simp only[Zp] at h;have n1:=sW h.2.1;have n2:=sW h.2.2;have n3:(quoT m.txt).length<=802:=by
   have hq:=h.1;unfold quoT;rw[if_pos hq];unfold quoB at hq;have hq:=of_decide_eq_true hq;have:=znY m.txt;simp only[Zv,Zo,ZG];omega
  rw[if_neg h0,if_pos h1];simp only[vP,gS,wF,wG,Zv,Zo,ZG];omega
 split at h
 ·rename_i h0 h1 h2
  simp only[Zp] at h;have n1:=sW h.1.1;have n2:=sW h.1.2;have n3:=sW h.2.1;have n4:=sW h.2.2;rw[if_neg h0,if_neg h1,if_pos h2];simp only[vP,gQ,wF,wG,Zv,Zo,ZG];omega
 ·rename_i h0 h1 h2
  simp only[Zp] at h;have n1:=sW h.1.1;have n2:=sW h.1.2;rw[if_neg h0,if_neg h1,if_neg h2];have n3:(if m.op=4 then pI else vP).length<=10:=by split<;>simp[pI,vP]
  simp only[tL,tM,wF,wG,Zv,Zo,ZG];omega
end Go.Ex
namespace Go.Proofs
open Go.Shelf Go.RowKit
def Tryz.laysItoa_ren:Go.Shelf.Ren:=
 {
  f:=fun x=>
   match x with
   |171=>231
   |243=>232
   |246=>233
   |283=>234
   |284=>235
   |285=>236
   |286=>237
   |129=>144
   |317=>238
   |318=>239
   |319=>240
   |320=>75
   |337=>110
   |338=>111
   |n=>n,
  t:=fun x=>
   match x with
   |3=>3
   |9=>9
   |2=>2
   |4=>4
   |171=>262
   |0=>0
   |53=>154
   |37=>186
   |5=>5
   |173=>264
   |212=>267
   |51=>152
   |20=>20
   |213=>268
   |46=>71
   |232=>208
   |233=>209
   |n=>n,
  g:=fun x=>
   match x with
   |17=>5
   |18=>0
   |19=>1
   |n=>n}
theorem Tryz.laysItoa:LaysM.n171 Tryz.prog Tryz.laysItoa_ren:=
 {mixed:=by kernel_rfl,f129:=ZQ Tryz.func144 (congrArg some (ZI (Body.n129 Tryz.laysItoa_ren))),
  f171:=ZQ Tryz.func231 (congrArg some (ZI (Body.n171 Tryz.laysItoa_ren))),
  f243:=ZQ Tryz.func232 (congrArg some (ZI (Body.n243 Tryz.laysItoa_ren))),
  f246:=ZQ Tryz.func233 (congrArg some (ZI (Body.n246 Tryz.laysItoa_ren))),
  f283:=ZQ Tryz.func234 (congrArg some (ZI (Body.n283 Tryz.laysItoa_ren))),
  f284:=ZQ Tryz.func235 (congrArg some (ZI (Body.n284 Tryz.laysItoa_ren))),
  f285:=ZQ Tryz.func236 (congrArg some (ZI (Body.n285 Tryz.laysItoa_ren))),
  f286:=ZQ Tryz.func237 (congrArg some (ZI (Body.n286 Tryz.laysItoa_ren))),
  f317:=ZQ Tryz.func238 (congrArg some (ZI (Body.n317 Tryz.laysItoa_ren))),
  f318:=ZQ Tryz.func239 (congrArg some (ZI (Body.n318 Tryz.laysItoa_ren))),
  f319:=ZQ Tryz.func240 (congrArg some (ZI (Body.n319 Tryz.laysItoa_ren))),
  f320:=ZQ Tryz.func75 (congrArg some (ZI (Body.n320 Tryz.laysItoa_ren))),
  f337:=ZQ Tryz.func110 (congrArg some (ZI (Body.n337 Tryz.laysItoa_ren))),
  f338:=ZQ Tryz.func111 (congrArg some (ZI (Body.n338 Tryz.laysItoa_ren))),t0:=Tryz.underlying0,
  a0:=Tryz.isAgg0,z0:=Tryz.sizeOf0,v0:=Tryz.zeroValue0,t2:=Tryz.underlying2,a2:=Tryz.isAgg2,
  z2:=Tryz.sizeOf2,v2:=Tryz.zeroValue2,t3:=Tryz.underlying3,a3:=Tryz.isAgg3,z3:=Tryz.sizeOf3,
  v3:=Tryz.zeroValue3,t4:=Tryz.underlying4,a4:=Tryz.isAgg4,z4:=Tryz.sizeOf4,v4:=Tryz.zeroValue4,
  t5:=Tryz.underlying5,a5:=Tryz.isAgg5,z5:=Tryz.sizeOf5,v5:=Tryz.zeroValue5,t9:=Tryz.underlying9,
  a9:=Tryz.isAgg9,z9:=Tryz.sizeOf9,v9:=Tryz.zeroValue9,t20:=Tryz.underlying20,a20:=Tryz.isAgg20,
  z20:=Tryz.sizeOf20,v20:=Tryz.zeroValue20,t37:=Tryz.underlying186,a37:=Tryz.isAgg186,z37:=Tryz.sizeOf186,
  v37:=Tryz.zeroValue186,t46:=Tryz.underlying71,a46:=Tryz.isAgg71,z46:=Tryz.sizeOf71,
  v46:=Tryz.zeroValue71,t51:=Tryz.underlying152,a51:=Tryz.isAgg152,z51:=Tryz.sizeOf152,
  v51:=Tryz.zeroValue152,t53:=Tryz.underlying154,a53:=Tryz.isAgg154,z53:=Tryz.sizeOf154,
  v53:=Tryz.zeroValue154,t171:=Tryz.underlying262,a171:=Tryz.isAgg262,z171:=Tryz.sizeOf262,
  v171:=Tryz.zeroValue262,t173:=Tryz.underlying264,a173:=Tryz.isAgg264,z173:=Tryz.sizeOf264,
  v173:=Tryz.zeroValue264,t212:=Tryz.underlying267,a212:=Tryz.isAgg267,z212:=Tryz.sizeOf267,
  v212:=Tryz.zeroValue267,t213:=Tryz.underlying268,a213:=Tryz.isAgg268,z213:=Tryz.sizeOf268,
  t232:=Tryz.underlying208,a232:=Tryz.isAgg208,z232:=Tryz.sizeOf208,v232:=Tryz.zeroValue208,
  t233:=Tryz.underlying209,a233:=Tryz.isAgg209,z233:=Tryz.sizeOf209,v233:=Tryz.zeroValue209,
  g17:=by kernel_rfl,g18:=by kernel_rfl,
  g19:=by kernel_rfl,i0:=by kernel_rfl,
  i2:=by kernel_rfl,
  i3:=by kernel_rfl,i4:=by kernel_rfl,
  i5:=by kernel_rfl,
  i9:=by kernel_rfl,i20:=by kernel_rfl,
  i37:=by kernel_rfl,
  i46:=by kernel_rfl,
  i51:=by kernel_rfl,
  i53:=by kernel_rfl,
  i171:=
   ZI
    (some
     (some
       (Value.agg
        #[Value.int IntKind.u8 0,Value.int IntKind.u8 0,Value.int IntKind.u8 0,Value.int IntKind.u8 0,
          Value.int IntKind.u8 0,Value.int IntKind.u8 0,Value.int IntKind.u8 0,Value.int IntKind.u8 0,
          Value.int IntKind.u8 0,Value.int IntKind.u8 0,Value.int IntKind.u8 0,Value.int IntKind.u8 0,
          Value.int IntKind.u8 0,Value.int IntKind.u8 0,Value.int IntKind.u8 0,Value.int IntKind.u8 0,
          Value.int IntKind.u8 0,Value.int IntKind.u8 0,Value.int IntKind.u8 0,Value.int IntKind.u8 0,
          Value.int IntKind.u8 0,Value.int IntKind.u8 0,Value.int IntKind.u8 0,Value.int IntKind.u8 0]),
      24,24)),
  i173:=by kernel_rfl,
  i212:=
   ZI
    (some
     (some
       (Value.agg
        #[Value.int IntKind.u64 0,Value.int IntKind.u64 0,Value.int IntKind.u64 0,Value.int IntKind.u64 0,
          Value.int IntKind.u64 0,Value.int IntKind.u64 0,Value.int IntKind.u64 0,Value.int IntKind.u64 0,
          Value.int IntKind.u64 0,Value.int IntKind.u64 0,Value.int IntKind.u64 0,Value.int IntKind.u64 0,
          Value.int IntKind.u64 0,Value.int IntKind.u64 0,Value.int IntKind.u64 0,Value.int IntKind.u64 0,
          Value.int IntKind.u64 0,Value.int IntKind.u64 0,Value.int IntKind.u64 0,Value.int IntKind.u64 0]),
      20,160)),
  i232:=
   ZI
    (some
     (some
       (Value.agg
        #[Value.int IntKind.u8 0,Value.int IntKind.u8 0,Value.int IntKind.u8 0,Value.int IntKind.u8 0,
          Value.int IntKind.u8 0,Value.int IntKind.u8 0,Value.int IntKind.u8 0,Value.int IntKind.u8 0,
          Value.int IntKind.u8 0,Value.int IntKind.u8 0,Value.int IntKind.u8 0,Value.int IntKind.u8 0,
          Value.int IntKind.u8 0,Value.int IntKind.u8 0,Value.int IntKind.u8 0,Value.int IntKind.u8 0,
          Value.int IntKind.u8 0,Value.int IntKind.u8 0,Value.int IntKind.u8 0,Value.int IntKind.u8 0,
          Value.int IntKind.u8 0,Value.int IntKind.u8 0,Value.int IntKind.u8 0,Value.int IntKind.u8 0,
          Value.int IntKind.u8 0,Value.int IntKind.u8 0,Value.int IntKind.u8 0,Value.int IntKind.u8 0,
          Value.int IntKind.u8 0,Value.int IntKind.u8 0,Value.int IntKind.u8 0,Value.int IntKind.u8 0]),
      32,32)),
  i233:=
   ZI
    (some
     (some
       (Value.agg
        (let y:=
          let y:=
           let y:=
            let y:=
             [Value.int IntKind.u8 0,Value.int IntKind.u8 0,Value.int IntKind.u8 0,
              Value.int IntKind.u8 0];
            Value.int IntKind.u8 0::
             Value.int IntKind.u8 0::Value.int IntKind.u8 0::Value.int IntKind.u8 0::y;
           let y:=
            Value.int IntKind.u8 0::
             Value.int IntKind.u8 0::Value.int IntKind.u8 0::Value.int IntKind.u8 0::y;
           Value.int IntKind.u8 0::
            Value.int IntKind.u8 0::Value.int IntKind.u8 0::Value.int IntKind.u8 0::y;
          let y:=
           let y:=
            Value.int IntKind.u8 0::
             Value.int IntKind.u8 0::Value.int IntKind.u8 0::Value.int IntKind.u8 0::y;
           Value.int IntKind.u8 0::
            Value.int IntKind.u8 0::Value.int IntKind.u8 0::Value.int IntKind.u8 0::y;
          let y:=
           Value.int IntKind.u8 0::
            Value.int IntKind.u8 0::Value.int IntKind.u8 0::Value.int IntKind.u8 0::y;
          Value.int IntKind.u8 0::
           Value.int IntKind.u8 0::Value.int IntKind.u8 0::Value.int IntKind.u8 0::y;
         let y:=
          let y:=
           let y:=
            Value.int IntKind.u8 0::
             Value.int IntKind.u8 0::Value.int IntKind.u8 0::Value.int IntKind.u8 0::y;
           Value.int IntKind.u8 0::
            Value.int IntKind.u8 0::Value.int IntKind.u8 0::Value.int IntKind.u8 0::y;
          let y:=
           Value.int IntKind.u8 0::
            Value.int IntKind.u8 0::Value.int IntKind.u8 0::Value.int IntKind.u8 0::y;
          Value.int IntKind.u8 0::
           Value.int IntKind.u8 0::Value.int IntKind.u8 0::Value.int IntKind.u8 0::y;
         let y:=
          let y:=
           Value.int IntKind.u8 0::
            Value.int IntKind.u8 0::Value.int IntKind.u8 0::Value.int IntKind.u8 0::y;
          Value.int IntKind.u8 0::
           Value.int IntKind.u8 0::Value.int IntKind.u8 0::Value.int IntKind.u8 0::y;
         let y:=
          Value.int IntKind.u8 0::
           Value.int IntKind.u8 0::Value.int IntKind.u8 0::Value.int IntKind.u8 0::y;
         Value.int IntKind.u8 0::
          Value.int IntKind.u8 0::Value.int IntKind.u8 0::Value.int IntKind.u8 0::y).toArray),
      64,64)),
  m17:=by kernel_rfl,m18:=by kernel_rfl,
  m19:=by kernel_rfl}
end Go.Proofs
set_option maxHeartbeats 12800000
namespace Go.Proofs
open Go.Shelf Go.RowKit Go.Sort Go.Lib
theorem zix (blk off cap u:Nat) (d:Array UInt8) (w:World) (hH:Holds (fun(b:UInt8)=>Value.int .u8 (b.toNat:Int)) w blk off d) (hu:u<18446744073709551616) (hsz:d.size<=23):
  Calls Tryz.prog 236 #[.slice (some ⟨blk,off,none⟩) d.size cap,.int .u64 u] w fun e w'=>
   e=.returned (.tuple #[])/\ ∃(n:Nat) (dk:Array UInt8),dk.size=d.size/\w'=(putRow (fun(b:UInt8)=>Value.int .u8 (b.toNat:Int)) w blk off dk).drewN n:=by
 have mixed:Tryz.prog.follows Departure.mixedOrders=true:=by kernel_rfl
 go_enter Tryz.func236,Tryz.ntmps236
 go_name_bytes SM hSM
 have eSM:SM=Lib.smalls:=by rw[<-hSM];decide+kernel
 subst eSM;clear hSM
 go_wp2
 go_loopw [1,4] (fun vu vn wr=> ∃(nd v n:Nat) (dk:Array UInt8),vu=.int .u64 v/\vn=.int .i64 nd/\nd<=d.size/\v<18446744073709551616/\dk.size=d.size/\Hid (wr=(putRow (fun(b:UInt8)=>Value.int .u8 (b.toNat:Int)) w blk off dk).drewN n)) (fun _ vn _=>(RowKit.intOf vn).toNat)
 case atStart=>exact⟨d.size,u,0,d,rfl,rfl,Zt _,hu,rfl,Lib.hid (putRow_self _ _ _ _ _ hH).symm⟩
 case round=>
  obtain⟨nd,v,n,dk0,rfl,rfl,hle,hv64,hs0,AW0⟩:=hrel
  rename World=>W0
  have AH:=Lib.hid hH;clear hH;have hH0:Holds (fun(b:UInt8)=>Value.int .u8 (b.toNat:Int)) W0 blk off dk0:=by rw[AW0.out];exact holds_putRow _ w blk off d dk0 AH.out hs0
  obtain⟨G0,hG0⟩: ∃G:Nat->Int,∀t,G t=(dk0[t]!.toNat:Int):=⟨_,fun _=>rfl⟩;have hc0: ∀t,t<d.size->W0.cell? ⟨blk,off+t,none⟩=some (.int .u8 (G0 t)):=fun t ht=>by rw[hG0];exact(hH0 t (by omega)).1
  have hf0: ∀t,t<d.size->W0.frozen? ⟨blk,off+t,none⟩=false:=fun t ht=>(hH0 t (by omega)).2
  clear hG0 hH0;by_cases h8:8<=nd
  ·obtain⟨m,rfl⟩: ∃m,nd=m+8:=⟨nd-8,by omega⟩
   go_wp2
   go_name_slot 9 x0 hx0
   have hlo0:0<=x0:=by omega
   have hhi0:x0<=198:=by omega
   obtain⟨y0,hy0⟩: ∃y:Nat,x0=y:=⟨x0.toNat,by omega⟩;clear hx0;have hXa0: ∀w,(Instr.index 9 (.string Lib.smalls) (.int .u32 (x0+1))).run Tryz.prog w=.ok (.int .u8 ((sm (y0+1)).toNat:Int)) w:=idx_smalls 9 Tryz.underlying9 .u32 _ _ (by omega) (by omega);have hXb0: ∀w,(Instr.index 9 (.string Lib.smalls) (.int .u32 x0)).run Tryz.prog w=.ok (.int .u8 ((sm y0).toNat:Int)) w:=idx_smalls 9 Tryz.underlying9 .u32 _ _ (by omega) (by omega);clear hy0
   go_region_o
   go_wp2
   go_name_world W1 hW1
   have hw1:W1=(putRow (fun(b:UInt8)=>Value.int .u8 (b.toNat:Int)) w blk off ((dk0.setIfInBounds (m+6+1) (sm (y0+1))).setIfInBounds (m+6) (sm y0))).drewN (n+0+1):=by rw[<-hW1];exact(by rw[AW0.out];exact store2_world w blk off dk0 (n+0) (m+6+1) (m+6) _ _ (by omega) (by omega))
   have hs1:((dk0.setIfInBounds (m+6+1) (sm (y0+1))).setIfInBounds (m+6) (sm y0)).size=d.size:=by simp[hs0]
   generalize ((dk0.setIfInBounds (m+6+1) (sm (y0+1))).setIfInBounds (m+6) (sm y0))=dk1 at hw1 hs1;have AW1:=Lib.hid hw1;clear hW1 hw1 hc0 hf0 AW0 hXa0 hXb0 hs0;have hH1:Holds (fun(b:UInt8)=>Value.int .u8 (b.toNat:Int)) W1 blk off dk1:=by rw[AW1.out];exact holds_putRow _ w blk off d dk1 AH.out hs1
   obtain⟨G1,hG1⟩: ∃G:Nat->Int,∀t,G t=(dk1[t]!.toNat:Int):=⟨_,fun _=>rfl⟩;have hc1: ∀t,t<d.size->W1.cell? ⟨blk,off+t,none⟩=some (.int .u8 (G1 t)):=fun t ht=>by rw[hG1];exact(hH1 t (by omega)).1
   have hf1: ∀t,t<d.size->W1.frozen? ⟨blk,off+t,none⟩=false:=fun t ht=>(hH1 t (by omega)).2
   clear hG1 hH1
   go_name_slot 8 x1 hx1
   have hlo1:0<=x1:=by omega
   have hhi1:x1<=198:=by omega
   obtain⟨y1,hy1⟩: ∃y:Nat,x1=y:=⟨x1.toNat,by omega⟩;clear hx1;have hXa1: ∀w,(Instr.index 9 (.string Lib.smalls) (.int .u32 (x1+1))).run Tryz.prog w=.ok (.int .u8 ((sm (y1+1)).toNat:Int)) w:=idx_smalls 9 Tryz.underlying9 .u32 _ _ (by omega) (by omega);have hXb1: ∀w,(Instr.index 9 (.string Lib.smalls) (.int .u32 x1)).run Tryz.prog w=.ok (.int .u8 ((sm y1).toNat:Int)) w:=idx_smalls 9 Tryz.underlying9 .u32 _ _ (by omega) (by omega);clear hy1
   go_region_o
   go_wp2
   go_name_world W2 hW2
   have hw2:W2=(putRow (fun(b:UInt8)=>Value.int .u8 (b.toNat:Int)) w blk off ((dk1.setIfInBounds (m+4+1) (sm (y1+1))).setIfInBounds (m+4) (sm y1))).drewN (n+1+1):=by rw[<-hW2];exact(by rw[AW1.out];exact store2_world w blk off dk1 (n+1) (m+4+1) (m+4) _ _ (by omega) (by omega))
   have hs2:((dk1.setIfInBounds (m+4+1) (sm (y1+1))).setIfInBounds (m+4) (sm y1)).size=d.size:=by simp[hs1]
   generalize ((dk1.setIfInBounds (m+4+1) (sm (y1+1))).setIfInBounds (m+4) (sm y1))=dk2 at hw2 hs2;have AW2:=Lib.hid hw2;clear hW2 hw2 hc1 hf1 AW1 hXa1 hXb1 hs1;have hH2:Holds (fun(b:UInt8)=>Value.int .u8 (b.toNat:Int)) W2 blk off dk2:=by rw[AW2.out];exact holds_putRow _ w blk off d dk2 AH.out hs2
   obtain⟨G2,hG2⟩: ∃G:Nat->Int,∀t,G t=(dk2[t]!.toNat:Int):=⟨_,fun _=>rfl⟩;have hc2: ∀t,t<d.size->W2.cell? ⟨blk,off+t,none⟩=some (.int .u8 (G2 t)):=fun t ht=>by rw[hG2];exact(hH2 t (by omega)).1
   have hf2: ∀t,t<d.size->W2.frozen? ⟨blk,off+t,none⟩=false:=fun t ht=>(hH2 t (by omega)).2
   clear hG2 hH2
   go_name_slot 11 x2 hx2
   have hlo2:0<=x2:=by omega
   have hhi2:x2<=198:=by omega
   obtain⟨y2,hy2⟩: ∃y:Nat,x2=y:=⟨x2.toNat,by omega⟩;clear hx2;have hXa2: ∀w,(Instr.index 9 (.string Lib.smalls) (.int .u32 (x2+1))).run Tryz.prog w=.ok (.int .u8 ((sm (y2+1)).toNat:Int)) w:=idx_smalls 9 Tryz.underlying9 .u32 _ _ (by omega) (by omega);have hXb2: ∀w,(Instr.index 9 (.string Lib.smalls) (.int .u32 x2)).run Tryz.prog w=.ok (.int .u8 ((sm y2).toNat:Int)) w:=idx_smalls 9 Tryz.underlying9 .u32 _ _ (by omega) (by omega);clear hy2
   go_region_o
   go_wp2
   go_name_world W3 hW3
   have hw3:W3=(putRow (fun(b:UInt8)=>Value.int .u8 (b.toNat:Int)) w blk off ((dk2.setIfInBounds (m+2+1) (sm (y2+1))).setIfInBounds (m+2) (sm y2))).drewN (n+2+1):=by rw[<-hW3];exact(by rw[AW2.out];exact store2_world w blk off dk2 (n+2) (m+2+1) (m+2) _ _ (by omega) (by omega))
   have hs3:((dk2.setIfInBounds (m+2+1) (sm (y2+1))).setIfInBounds (m+2) (sm y2)).size=d.size:=by simp[hs2]
   generalize ((dk2.setIfInBounds (m+2+1) (sm (y2+1))).setIfInBounds (m+2) (sm y2))=dk3 at hw3 hs3;have AW3:=Lib.hid hw3;clear hW3 hw3 hc2 hf2 AW2 hXa2 hXb2 hs2;have hH3:Holds (fun(b:UInt8)=>Value.int .u8 (b.toNat:Int)) W3 blk off dk3:=by rw[AW3.out];exact holds_putRow _ w blk off d dk3 AH.out hs3
   obtain⟨G3,hG3⟩: ∃G:Nat->Int,∀t,G t=(dk3[t]!.toNat:Int):=⟨_,fun _=>rfl⟩;have hc3: ∀t,t<d.size->W3.cell? ⟨blk,off+t,none⟩=some (.int .u8 (G3 t)):=fun t ht=>by rw[hG3];exact(hH3 t (by omega)).1
   have hf3: ∀t,t<d.size->W3.frozen? ⟨blk,off+t,none⟩=false:=fun t ht=>(hH3 t (by omega)).2
   clear hG3 hH3
   go_name_slot 10 x3 hx3
   have hlo3:0<=x3:=by omega
   have hhi3:x3<=198:=by omega
   obtain⟨y3,hy3⟩: ∃y:Nat,x3=y:=⟨x3.toNat,by omega⟩;clear hx3;have hXa3: ∀w,(Instr.index 9 (.string Lib.smalls) (.int .u32 (x3+1))).run Tryz.prog w=.ok (.int .u8 ((sm (y3+1)).toNat:Int)) w:=idx_smalls 9 Tryz.underlying9 .u32 _ _ (by omega) (by omega);have hXb3: ∀w,(Instr.index 9 (.string Lib.smalls) (.int .u32 x3)).run Tryz.prog w=.ok (.int .u8 ((sm y3).toNat:Int)) w:=idx_smalls 9 Tryz.underlying9 .u32 _ _ (by omega) (by omega);clear hy3
   go_region_o
   go_wp2
   go_roundw
   case rel=>
    exact⟨m,v/100000000,n+3+1,((dk3.setIfInBounds (m+1) (sm (y3+1))).setIfInBounds (m) (sm y3)),by first|go_num|(congr 1;omega),by first|go_num|(congr 1;omega),by omega,by omega,by simp[hs3],Lib.hid (by rw[AW3.out];exact store2_world w blk off dk3 (n+3) (m+1) (m) _ _ (by omega) (by omega))⟩
   case measure=>simp[RowKit.intOf];omega
  ·have hc8:nd=0\/nd=1\/nd=2\/nd=3\/nd=4\/nd=5\/nd=6\/nd=7:=by omega
   rcases hc8 with rfl|rfl|rfl|rfl|rfl|rfl|rfl|rfl
   ·go_wp2
    go_end0
    exact⟨rfl,n,dk0,hs0,AW0.out⟩
   ·go_wp2
    go_end0
    exact⟨rfl,n,dk0.setIfInBounds 0 (UInt8.ofNat (48+v % 4294967296)),by simp[hs0],by rw[AW0.out];exact store1_world0 w blk off dk0 n _ (v % 4294967296) (by omega) (by omega)⟩
   ·go_wp2
    go_name_slot 16 x0 hx0
    have hlo0:0<=x0:=by omega
    have hhi0:x0<=198:=by omega
    obtain⟨y0,hy0⟩: ∃y:Nat,x0=y:=⟨x0.toNat,by omega⟩;clear hx0;have hXa0: ∀w,(Instr.index 9 (.string Lib.smalls) (.int .u32 (x0+1))).run Tryz.prog w=.ok (.int .u8 ((sm (y0+1)).toNat:Int)) w:=idx_smalls 9 Tryz.underlying9 .u32 _ _ (by omega) (by omega);have hXb0: ∀w,(Instr.index 9 (.string Lib.smalls) (.int .u32 x0)).run Tryz.prog w=.ok (.int .u8 ((sm y0).toNat:Int)) w:=idx_smalls 9 Tryz.underlying9 .u32 _ _ (by omega) (by omega);clear hy0
    go_region_o
    go_wp2
    go_end0
    exact⟨rfl,n+0+1,(dk0.setIfInBounds (0+1) (sm (y0+1))).setIfInBounds (0) (sm y0),by simp[hs0],by rw[AW0.out];exact store2_world w blk off dk0 (n+0) (0+1) (0) _ _ (by omega) (by omega)⟩
   ·go_wp2
    go_name_slot 16 x0 hx0
    have hlo0:0<=x0:=by omega
    have hhi0:x0<=198:=by omega
    obtain⟨y0,hy0⟩: ∃y:Nat,x0=y:=⟨x0.toNat,by omega⟩;clear hx0;have hXa0: ∀w,(Instr.index 9 (.string Lib.smalls) (.int .u32 (x0+1))).run Tryz.prog w=.ok (.int .u8 ((sm (y0+1)).toNat:Int)) w:=idx_smalls 9 Tryz.underlying9 .u32 _ _ (by omega) (by omega);have hXb0: ∀w,(Instr.index 9 (.string Lib.smalls) (.int .u32 x0)).run Tryz.prog w=.ok (.int .u8 ((sm y0).toNat:Int)) w:=idx_smalls 9 Tryz.underlying9 .u32 _ _ (by omega) (by omega);clear hy0
    go_region_o
    go_wp2
    go_end0
    exact⟨rfl,n+0+1,((dk0.setIfInBounds (1+1) (sm (y0+1))).setIfInBounds (1) (sm y0)).setIfInBounds 0 (UInt8.ofNat (48+v % 4294967296/100)),by simp[hs0],by rw[AW0.out];exact store21_world w blk off dk0 (n+0) (1+1) (1) _ _ _ (v % 4294967296/100) (by first|omega|(have e1:((v % 4294967296/10000:Nat):Int)=(v:Int) % 4294967296/10000:=(by omega);have e2:((v % 4294967296/10000/100:Nat):Int)=(v:Int) % 4294967296/10000/100:=(by rw[<-e1];omega);rw[<-e2];generalize v % 4294967296/10000/100=c9;omega)) (by omega) (by omega)⟩
   ·go_wp2
    go_name_slot 15 x0 hx0
    have hlo0:0<=x0:=by omega
    have hhi0:x0<=198:=by omega
    obtain⟨y0,hy0⟩: ∃y:Nat,x0=y:=⟨x0.toNat,by omega⟩;clear hx0;have hXa0: ∀w,(Instr.index 9 (.string Lib.smalls) (.int .u32 (x0+1))).run Tryz.prog w=.ok (.int .u8 ((sm (y0+1)).toNat:Int)) w:=idx_smalls 9 Tryz.underlying9 .u32 _ _ (by omega) (by omega);have hXb0: ∀w,(Instr.index 9 (.string Lib.smalls) (.int .u32 x0)).run Tryz.prog w=.ok (.int .u8 ((sm y0).toNat:Int)) w:=idx_smalls 9 Tryz.underlying9 .u32 _ _ (by omega) (by omega);clear hy0
    go_region_o
    go_wp2
    go_name_world W1 hW1
    have hw1:W1=(putRow (fun(b:UInt8)=>Value.int .u8 (b.toNat:Int)) w blk off ((dk0.setIfInBounds (2+1) (sm (y0+1))).setIfInBounds (2) (sm y0))).drewN (n+0+1):=by rw[<-hW1];exact(by rw[AW0.out];exact store2_world w blk off dk0 (n+0) (2+1) (2) _ _ (by omega) (by omega))
    have hs1:((dk0.setIfInBounds (2+1) (sm (y0+1))).setIfInBounds (2) (sm y0)).size=d.size:=by simp[hs0]
    generalize ((dk0.setIfInBounds (2+1) (sm (y0+1))).setIfInBounds (2) (sm y0))=dk1 at hw1 hs1;have AW1:=Lib.hid hw1;clear hW1 hw1 hc0 hf0 AW0 hXa0 hXb0 hs0;have hH1:Holds (fun(b:UInt8)=>Value.int .u8 (b.toNat:Int)) W1 blk off dk1:=by rw[AW1.out];exact holds_putRow _ w blk off d dk1 AH.out hs1
    obtain⟨G1,hG1⟩: ∃G:Nat->Int,∀t,G t=(dk1[t]!.toNat:Int):=⟨_,fun _=>rfl⟩;have hc1: ∀t,t<d.size->W1.cell? ⟨blk,off+t,none⟩=some (.int .u8 (G1 t)):=fun t ht=>by rw[hG1];exact(hH1 t (by omega)).1
    have hf1: ∀t,t<d.size->W1.frozen? ⟨blk,off+t,none⟩=false:=fun t ht=>(hH1 t (by omega)).2
    clear hG1 hH1
    go_name_slot 14 x1 hx1
    have hlo1:0<=x1:=by omega
    have hhi1:x1<=198:=by omega
    obtain⟨y1,hy1⟩: ∃y:Nat,x1=y:=⟨x1.toNat,by omega⟩;clear hx1;have hXa1: ∀w,(Instr.index 9 (.string Lib.smalls) (.int .u32 (x1+1))).run Tryz.prog w=.ok (.int .u8 ((sm (y1+1)).toNat:Int)) w:=idx_smalls 9 Tryz.underlying9 .u32 _ _ (by omega) (by omega);have hXb1: ∀w,(Instr.index 9 (.string Lib.smalls) (.int .u32 x1)).run Tryz.prog w=.ok (.int .u8 ((sm y1).toNat:Int)) w:=idx_smalls 9 Tryz.underlying9 .u32 _ _ (by omega) (by omega);clear hy1
    go_region_o
    go_wp2
    go_end0
    exact⟨rfl,n+1+1,(dk1.setIfInBounds (0+1) (sm (y1+1))).setIfInBounds (0) (sm y1),by simp[hs1],by rw[AW1.out];exact store2_world w blk off dk1 (n+1) (0+1) (0) _ _ (by omega) (by omega)⟩
   ·go_wp2
    go_name_slot 15 x0 hx0
    have hlo0:0<=x0:=by omega
    have hhi0:x0<=198:=by omega
    obtain⟨y0,hy0⟩: ∃y:Nat,x0=y:=⟨x0.toNat,by omega⟩;clear hx0;have hXa0: ∀w,(Instr.index 9 (.string Lib.smalls) (.int .u32 (x0+1))).run Tryz.prog w=.ok (.int .u8 ((sm (y0+1)).toNat:Int)) w:=idx_smalls 9 Tryz.underlying9 .u32 _ _ (by omega) (by omega);have hXb0: ∀w,(Instr.index 9 (.string Lib.smalls) (.int .u32 x0)).run Tryz.prog w=.ok (.int .u8 ((sm y0).toNat:Int)) w:=idx_smalls 9 Tryz.underlying9 .u32 _ _ (by omega) (by omega);clear hy0
    go_region_o
    go_wp2
    go_name_world W1 hW1
    have hw1:W1=(putRow (fun(b:UInt8)=>Value.int .u8 (b.toNat:Int)) w blk off ((dk0.setIfInBounds (3+1) (sm (y0+1))).setIfInBounds (3) (sm y0))).drewN (n+0+1):=by rw[<-hW1];exact(by rw[AW0.out];exact store2_world w blk off dk0 (n+0) (3+1) (3) _ _ (by omega) (by omega))
    have hs1:((dk0.setIfInBounds (3+1) (sm (y0+1))).setIfInBounds (3) (sm y0)).size=d.size:=by simp[hs0]
    generalize ((dk0.setIfInBounds (3+1) (sm (y0+1))).setIfInBounds (3) (sm y0))=dk1 at hw1 hs1;have AW1:=Lib.hid hw1;clear hW1 hw1 hc0 hf0 AW0 hXa0 hXb0 hs0;have hH1:Holds (fun(b:UInt8)=>Value.int .u8 (b.toNat:Int)) W1 blk off dk1:=by rw[AW1.out];exact holds_putRow _ w blk off d dk1 AH.out hs1
    obtain⟨G1,hG1⟩: ∃G:Nat->Int,∀t,G t=(dk1[t]!.toNat:Int):=⟨_,fun _=>rfl⟩;have hc1: ∀t,t<d.size->W1.cell? ⟨blk,off+t,none⟩=some (.int .u8 (G1 t)):=fun t ht=>by rw[hG1];exact(hH1 t (by omega)).1
    have hf1: ∀t,t<d.size->W1.frozen? ⟨blk,off+t,none⟩=false:=fun t ht=>(hH1 t (by omega)).2
    clear hG1 hH1
    go_name_slot 14 x1 hx1
    have hlo1:0<=x1:=by omega
    have hhi1:x1<=198:=by omega
    obtain⟨y1,hy1⟩: ∃y:Nat,x1=y:=⟨x1.toNat,by omega⟩;clear hx1;have hXa1: ∀w,(Instr.index 9 (.string Lib.smalls) (.int .u32 (x1+1))).run Tryz.prog w=.ok (.int .u8 ((sm (y1+1)).toNat:Int)) w:=idx_smalls 9 Tryz.underlying9 .u32 _ _ (by omega) (by omega);have hXb1: ∀w,(Instr.index 9 (.string Lib.smalls) (.int .u32 x1)).run Tryz.prog w=.ok (.int .u8 ((sm y1).toNat:Int)) w:=idx_smalls 9 Tryz.underlying9 .u32 _ _ (by omega) (by omega);clear hy1
    go_region_o
    go_wp2
    go_end0
    exact⟨rfl,n+1+1,((dk1.setIfInBounds (1+1) (sm (y1+1))).setIfInBounds (1) (sm y1)).setIfInBounds 0 (UInt8.ofNat (48+v % 4294967296/10000)),by simp[hs1],by rw[AW1.out];exact store21_world w blk off dk1 (n+1) (1+1) (1) _ _ _ (v % 4294967296/10000) (by first|omega|(have e1:((v % 4294967296/10000:Nat):Int)=(v:Int) % 4294967296/10000:=(by omega);have e2:((v % 4294967296/10000/100:Nat):Int)=(v:Int) % 4294967296/10000/100:=(by rw[<-e1];omega);rw[<-e2];generalize v % 4294967296/10000/100=c9;omega)) (by omega) (by omega)⟩
   ·go_wp2
    go_name_slot 15 x0 hx0
    have hlo0:0<=x0:=by omega
    have hhi0:x0<=198:=by omega
    obtain⟨y0,hy0⟩: ∃y:Nat,x0=y:=⟨x0.toNat,by omega⟩;clear hx0;have hXa0: ∀w,(Instr.index 9 (.string Lib.smalls) (.int .u32 (x0+1))).run Tryz.prog w=.ok (.int .u8 ((sm (y0+1)).toNat:Int)) w:=idx_smalls 9 Tryz.underlying9 .u32 _ _ (by omega) (by omega);have hXb0: ∀w,(Instr.index 9 (.string Lib.smalls) (.int .u32 x0)).run Tryz.prog w=.ok (.int .u8 ((sm y0).toNat:Int)) w:=idx_smalls 9 Tryz.underlying9 .u32 _ _ (by omega) (by omega);clear hy0
    go_region_o
    go_wp2
    go_name_world W1 hW1
    have hw1:W1=(putRow (fun(b:UInt8)=>Value.int .u8 (b.toNat:Int)) w blk off ((dk0.setIfInBounds (4+1) (sm (y0+1))).setIfInBounds (4) (sm y0))).drewN (n+0+1):=by rw[<-hW1];exact(by rw[AW0.out];exact store2_world w blk off dk0 (n+0) (4+1) (4) _ _ (by omega) (by omega))
    have hs1:((dk0.setIfInBounds (4+1) (sm (y0+1))).setIfInBounds (4) (sm y0)).size=d.size:=by simp[hs0]
    generalize ((dk0.setIfInBounds (4+1) (sm (y0+1))).setIfInBounds (4) (sm y0))=dk1 at hw1 hs1;have AW1:=Lib.hid hw1;clear hW1 hw1 hc0 hf0 AW0 hXa0 hXb0 hs0;have hH1:Holds (fun(b:UInt8)=>Value.int .u8 (b.toNat:Int)) W1 blk off dk1:=by rw[AW1.out];exact holds_putRow _ w blk off d dk1 AH.out hs1
    obtain⟨G1,hG1⟩: ∃G:Nat->Int,∀t,G t=(dk1[t]!.toNat:Int):=⟨_,fun _=>rfl⟩;have hc1: ∀t,t<d.size->W1.cell? ⟨blk,off+t,none⟩=some (.int .u8 (G1 t)):=fun t ht=>by rw[hG1];exact(hH1 t (by omega)).1
    have hf1: ∀t,t<d.size->W1.frozen? ⟨blk,off+t,none⟩=false:=fun t ht=>(hH1 t (by omega)).2
    clear hG1 hH1
    go_name_slot 14 x1 hx1
    have hlo1:0<=x1:=by omega
    have hhi1:x1<=198:=by omega
    obtain⟨y1,hy1⟩: ∃y:Nat,x1=y:=⟨x1.toNat,by omega⟩;clear hx1;have hXa1: ∀w,(Instr.index 9 (.string Lib.smalls) (.int .u32 (x1+1))).run Tryz.prog w=.ok (.int .u8 ((sm (y1+1)).toNat:Int)) w:=idx_smalls 9 Tryz.underlying9 .u32 _ _ (by omega) (by omega);have hXb1: ∀w,(Instr.index 9 (.string Lib.smalls) (.int .u32 x1)).run Tryz.prog w=.ok (.int .u8 ((sm y1).toNat:Int)) w:=idx_smalls 9 Tryz.underlying9 .u32 _ _ (by omega) (by omega);clear hy1
    go_region_o
    go_wp2
    go_name_world W2 hW2
    have hw2:W2=(putRow (fun(b:UInt8)=>Value.int .u8 (b.toNat:Int)) w blk off ((dk1.setIfInBounds (2+1) (sm (y1+1))).setIfInBounds (2) (sm y1))).drewN (n+1+1):=by rw[<-hW2];exact(by rw[AW1.out];exact store2_world w blk off dk1 (n+1) (2+1) (2) _ _ (by omega) (by omega))
    have hs2:((dk1.setIfInBounds (2+1) (sm (y1+1))).setIfInBounds (2) (sm y1)).size=d.size:=by simp[hs1]
    generalize ((dk1.setIfInBounds (2+1) (sm (y1+1))).setIfInBounds (2) (sm y1))=dk2 at hw2 hs2;have AW2:=Lib.hid hw2;clear hW2 hw2 hc1 hf1 AW1 hXa1 hXb1 hs1;have hH2:Holds (fun(b:UInt8)=>Value.int .u8 (b.toNat:Int)) W2 blk off dk2:=by rw[AW2.out];exact holds_putRow _ w blk off d dk2 AH.out hs2
    obtain⟨G2,hG2⟩: ∃G:Nat->Int,∀t,G t=(dk2[t]!.toNat:Int):=⟨_,fun _=>rfl⟩;have hc2: ∀t,t<d.size->W2.cell? ⟨blk,off+t,none⟩=some (.int .u8 (G2 t)):=fun t ht=>by rw[hG2];exact(hH2 t (by omega)).1
    have hf2: ∀t,t<d.size->W2.frozen? ⟨blk,off+t,none⟩=false:=fun t ht=>(hH2 t (by omega)).2
    clear hG2 hH2
    go_name_slot 16 x2 hx2
    have hlo2:0<=x2:=by omega
    have hhi2:x2<=198:=by omega
    obtain⟨y2,hy2⟩: ∃y:Nat,x2=y:=⟨x2.toNat,by omega⟩;clear hx2;have hXa2: ∀w,(Instr.index 9 (.string Lib.smalls) (.int .u32 (x2+1))).run Tryz.prog w=.ok (.int .u8 ((sm (y2+1)).toNat:Int)) w:=idx_smalls 9 Tryz.underlying9 .u32 _ _ (by omega) (by omega);have hXb2: ∀w,(Instr.index 9 (.string Lib.smalls) (.int .u32 x2)).run Tryz.prog w=.ok (.int .u8 ((sm y2).toNat:Int)) w:=idx_smalls 9 Tryz.underlying9 .u32 _ _ (by omega) (by omega);clear hy2
    go_region_o
    go_wp2
    go_end0
    exact⟨rfl,n+2+1,(dk2.setIfInBounds (0+1) (sm (y2+1))).setIfInBounds (0) (sm y2),by simp[hs2],by rw[AW2.out];exact store2_world w blk off dk2 (n+2) (0+1) (0) _ _ (by omega) (by omega)⟩
   ·go_wp2
    go_name_slot 15 x0 hx0
    have hlo0:0<=x0:=by omega
    have hhi0:x0<=198:=by omega
    obtain⟨y0,hy0⟩: ∃y:Nat,x0=y:=⟨x0.toNat,by omega⟩;clear hx0;have hXa0: ∀w,(Instr.index 9 (.string Lib.smalls) (.int .u32 (x0+1))).run Tryz.prog w=.ok (.int .u8 ((sm (y0+1)).toNat:Int)) w:=idx_smalls 9 Tryz.underlying9 .u32 _ _ (by omega) (by omega);have hXb0: ∀w,(Instr.index 9 (.string Lib.smalls) (.int .u32 x0)).run Tryz.prog w=.ok (.int .u8 ((sm y0).toNat:Int)) w:=idx_smalls 9 Tryz.underlying9 .u32 _ _ (by omega) (by omega);clear hy0
    go_region_o
    go_wp2
    go_name_world W1 hW1
    have hw1:W1=(putRow (fun(b:UInt8)=>Value.int .u8 (b.toNat:Int)) w blk off ((dk0.setIfInBounds (5+1) (sm (y0+1))).setIfInBounds (5) (sm y0))).drewN (n+0+1):=by rw[<-hW1];exact(by rw[AW0.out];exact store2_world w blk off dk0 (n+0) (5+1) (5) _ _ (by omega) (by omega))
    have hs1:((dk0.setIfInBounds (5+1) (sm (y0+1))).setIfInBounds (5) (sm y0)).size=d.size:=by simp[hs0]
    generalize ((dk0.setIfInBounds (5+1) (sm (y0+1))).setIfInBounds (5) (sm y0))=dk1 at hw1 hs1;have AW1:=Lib.hid hw1;clear hW1 hw1 hc0 hf0 AW0 hXa0 hXb0 hs0;have hH1:Holds (fun(b:UInt8)=>Value.int .u8 (b.toNat:Int)) W1 blk off dk1:=by rw[AW1.out];exact holds_putRow _ w blk off d dk1 AH.out hs1
    obtain⟨G1,hG1⟩: ∃G:Nat->Int,∀t,G t=(dk1[t]!.toNat:Int):=⟨_,fun _=>rfl⟩;have hc1: ∀t,t<d.size->W1.cell? ⟨blk,off+t,none⟩=some (.int .u8 (G1 t)):=fun t ht=>by rw[hG1];exact(hH1 t (by omega)).1
    have hf1: ∀t,t<d.size->W1.frozen? ⟨blk,off+t,none⟩=false:=fun t ht=>(hH1 t (by omega)).2
    clear hG1 hH1
    go_name_slot 14 x1 hx1
    have hlo1:0<=x1:=by omega
    have hhi1:x1<=198:=by omega
    obtain⟨y1,hy1⟩: ∃y:Nat,x1=y:=⟨x1.toNat,by omega⟩;clear hx1;have hXa1: ∀w,(Instr.index 9 (.string Lib.smalls) (.int .u32 (x1+1))).run Tryz.prog w=.ok (.int .u8 ((sm (y1+1)).toNat:Int)) w:=idx_smalls 9 Tryz.underlying9 .u32 _ _ (by omega) (by omega);have hXb1: ∀w,(Instr.index 9 (.string Lib.smalls) (.int .u32 x1)).run Tryz.prog w=.ok (.int .u8 ((sm y1).toNat:Int)) w:=idx_smalls 9 Tryz.underlying9 .u32 _ _ (by omega) (by omega);clear hy1
    go_region_o
    go_wp2
    go_name_world W2 hW2
    have hw2:W2=(putRow (fun(b:UInt8)=>Value.int .u8 (b.toNat:Int)) w blk off ((dk1.setIfInBounds (3+1) (sm (y1+1))).setIfInBounds (3) (sm y1))).drewN (n+1+1):=by rw[<-hW2];exact(by rw[AW1.out];exact store2_world w blk off dk1 (n+1) (3+1) (3) _ _ (by omega) (by omega))
    have hs2:((dk1.setIfInBounds (3+1) (sm (y1+1))).setIfInBounds (3) (sm y1)).size=d.size:=by simp[hs1]
    generalize ((dk1.setIfInBounds (3+1) (sm (y1+1))).setIfInBounds (3) (sm y1))=dk2 at hw2 hs2;have AW2:=Lib.hid hw2;clear hW2 hw2 hc1 hf1 AW1 hXa1 hXb1 hs1;have hH2:Holds (fun(b:UInt8)=>Value.int .u8 (b.toNat:Int)) W2 blk off dk2:=by rw[AW2.out];exact holds_putRow _ w blk off d dk2 AH.out hs2
    obtain⟨G2,hG2⟩: ∃G:Nat->Int,∀t,G t=(dk2[t]!.toNat:Int):=⟨_,fun _=>rfl⟩;have hc2: ∀t,t<d.size->W2.cell? ⟨blk,off+t,none⟩=some (.int .u8 (G2 t)):=fun t ht=>by rw[hG2];exact(hH2 t (by omega)).1
    have hf2: ∀t,t<d.size->W2.frozen? ⟨blk,off+t,none⟩=false:=fun t ht=>(hH2 t (by omega)).2
    clear hG2 hH2
    go_name_slot 16 x2 hx2
    have hlo2:0<=x2:=by omega
    have hhi2:x2<=198:=by omega
    obtain⟨y2,hy2⟩: ∃y:Nat,x2=y:=⟨x2.toNat,by omega⟩;clear hx2;have hXa2: ∀w,(Instr.index 9 (.string Lib.smalls) (.int .u32 (x2+1))).run Tryz.prog w=.ok (.int .u8 ((sm (y2+1)).toNat:Int)) w:=idx_smalls 9 Tryz.underlying9 .u32 _ _ (by omega) (by omega);have hXb2: ∀w,(Instr.index 9 (.string Lib.smalls) (.int .u32 x2)).run Tryz.prog w=.ok (.int .u8 ((sm y2).toNat:Int)) w:=idx_smalls 9 Tryz.underlying9 .u32 _ _ (by omega) (by omega);clear hy2
    go_region_o
    go_wp2
    go_end0
    exact⟨rfl,n+2+1,((dk2.setIfInBounds (1+1) (sm (y2+1))).setIfInBounds (1) (sm y2)).setIfInBounds 0 (UInt8.ofNat (48+v % 4294967296/10000/100)),by simp[hs2],by rw[AW2.out];exact store21_world w blk off dk2 (n+2) (1+1) (1) _ _ _ (v % 4294967296/10000/100) (by first|omega|(have e1:((v % 4294967296/10000:Nat):Int)=(v:Int) % 4294967296/10000:=(by omega);have e2:((v % 4294967296/10000/100:Nat):Int)=(v:Int) % 4294967296/10000/100:=(by rw[<-e1];omega);rw[<-e2];generalize v % 4294967296/10000/100=c9;omega)) (by omega) (by omega)⟩
def nA (w:World):Prop:= ∀i,i<20-> ∃z:Int,w.cell? ⟨5,i,none⟩=some (.int .u64 z)
theorem nA.later {w w':World} (h:nA w) (hb:Below w.heap.size w w'):nA w':=fun i hi=>by
 obtain⟨z,hz⟩:=h i hi;have hlt:5<w.heap.size:=World.block_lt_of_cell? _ _ hz;exact⟨z,(hb.cell (p:=⟨5,i,none⟩) hlt).trans hz⟩
theorem ziy (u q:Nat) (h2:u<18446744073709551616) (hq:Lib.l10 (Lib.bitLen u)=q) (h20:q<20) (z:Int) (w:World) (hcell:w.cell? ⟨5,q,none⟩=some (.int .u64 z)):
  Calls Tryz.prog 235 #[.int .u64 u] w fun e w'=>e=.returned (.int .i64 ((q+(if z<=(u:Int) then 1 else 0):Nat):Int))/\w'=w:=by
 have L:=Tryz.laysItoa;have hL:Lib.bitLen u<=64:=Lib.bitLen_le u 64 (Zt _) h2;have hto:((u:Int)).toNat=u:=by omega
 have e144: ∀args w,(callFunc 144 args).run Tryz.prog w=.ok (.enter 144 args) w:=enters_of Tryz.func144 (by kernel_rfl) rfl;have e238: ∀args w,(callFunc 238 args).run Tryz.prog w=.ok (.enter 238 args) w:=enters_of Tryz.func238 (by kernel_rfl) rfl;have e239: ∀args w,(callFunc 239 args).run Tryz.prog w=.ok (.enter 239 args) w:=enters_of Tryz.func239 (by kernel_rfl) rfl;have k144: ∀W,Calls Tryz.prog 144 #[.int .u64 u] W fun e w'=>e=.returned (.int .i64 (Lib.bitLen u))/\w'=W:=fun W=>by
  have h:=Any.bits_Len64 (P:=Tryz.prog) (ρ:=Tryz.laysItoa_ren) {L with} (u:Int) W (by omega) (by omega);rw[hto] at h;exact h
 have k238: ∀W,Calls Tryz.prog 238 #[.int .i64 (Lib.bitLen u)] W fun e w'=>e=.returned (.int .i64 q)/\w'=W:=fun W=>by
  have h:=Any.internal_strconv_log10Pow2 (P:=Tryz.prog) (ρ:=Tryz.laysItoa_ren) {L with} (Lib.bitLen u) hL W;rw[hq] at h;exact h
 have k239: ∀b W,Calls Tryz.prog 239 #[.bool b] W fun e w'=>e=.returned (.int .i64 (if b then 1 else 0))/\w'=W:=fun b W=>
  Any.internal_strconv_bool2_int (P:=Tryz.prog) (ρ:=Tryz.laysItoa_ren) {L with} b W
 clear hL hto hq;generalize Lib.bitLen u=bl at k144 k238;by_cases hz:z<=(u:Int)
 ·rw[if_pos hz]
  go_enter Tryz.func235,Tryz.ntmps235
  go_wp2_with (first|(go_at_fn 144;refine(k144 _).mono ?_;rintro e w' ⟨rfl,rfl⟩)|(go_at_fn 238;refine(k238 _).mono ?_;rintro e w' ⟨rfl,rfl⟩)|(go_at_fn 239;refine(k239 _ _).mono ?_;rintro e w' ⟨rfl,rfl⟩))
  all_goals go_ret
  all_goals exact⟨by first|rfl|(congr 2;omega),rfl⟩
 ·rw[if_neg hz]
  go_enter Tryz.func235,Tryz.ntmps235
  go_wp2_with (first|(go_at_fn 144;refine(k144 _).mono ?_;rintro e w' ⟨rfl,rfl⟩)|(go_at_fn 238;refine(k238 _).mono ?_;rintro e w' ⟨rfl,rfl⟩)|(go_at_fn 239;refine(k239 _ _).mono ?_;rintro e w' ⟨rfl,rfl⟩))
  all_goals go_ret
  all_goals exact⟨by first|rfl|(congr 2;omega),rfl⟩
theorem ziz (w:World) (k:Nat) (os:Array Obj):Below w.heap.size w (grow (w.drewN k) os):=by
 have h1:Below w.heap.size w (w.drewN k):=by
  have: ∀k,Below w.heap.size w (w.drewN k):=fun k=>⟨by simp[World.drewN],by simp[World.drewN],by simp[World.drewN],by simp[World.drewN],fun _ _=>by simp[World.drewN]⟩
  exact this k
 refine h1.trans ⟨rfl,rfl,rfl,by simp[grow],fun i hi=>?_⟩;show((w.drewN k).heap++os)[i]?=_;exact YT (by have:=h1.size;omega)
abbrev byF:UInt8->Value:=fun b=>Value.int .u8 (b.toNat:Int)
theorem ziA (dk:Array UInt8) (i:Nat) (h:i<dk.toList.length):dk.toList[i]=dk[i]! :=by
 have h2:i<dk.size:=by simpa using h
 rw[getElem!_pos dk i h2,Array.getElem_toList]
theorem znZ (n:Int) (h0: -9223372036854775808<=n) (h1:n<=9223372036854775807) (w:World) (ht:nA w):
  Calls Tryz.prog 233 #[.int .i64 n,.int .i64 10] w fun e w'=> ∃s:List UInt8,s.length<=21/\e=.returned (.string ⟨s.toArray⟩)/\Below w.heap.size w w':=by
 have L:=Tryz.laysItoa;have e235: ∀args w,(callFunc 235 args).run Tryz.prog w=.ok (.enter 235 args) w:=enters_of Tryz.func235 (by kernel_rfl) rfl;have e236: ∀args w,(callFunc 236 args).run Tryz.prog w=.ok (.enter 236 args) w:=enters_of Tryz.func236 (by kernel_rfl) rfl;by_cases hs:0<=n/\n<100
 ·obtain⟨i,rfl⟩: ∃i:Nat,n=i:=⟨n.toNat,by omega⟩
  refine(Any.internal_strconv_FormatInt_10_small (P:=Tryz.prog) (ρ:=Tryz.laysItoa_ren) {L with} i (by omega) w).mono ?_;rintro e w' ⟨rfl,rfl⟩;have hl:=itoa_length_le (i:Int) (by omega) (by omega);rw[Lib.itoa_nonneg] at hl;exact⟨Lib.decDigits i,by omega,rfl,Below.refl _ _⟩
 ·have hal:Tryz.prog.arrayLen 262=24:=by simp[Program.arrayLen,Tryz.underlying262]
  have hbA:=(Below.refl w.heap.size w).alloc (Zt _) (.cells Lib.zeros24 262);by_cases hneg:n<0
  ·obtain⟨u,rfl⟩: ∃u:Nat,n= -(u:Int):=⟨n.natAbs,by omega⟩
   have hu1:1<=u:=by omega
   have hu64:u<18446744073709551616:=by omega
   obtain⟨q,hq⟩: ∃q,Lib.l10 (Lib.bitLen u)=q:=⟨_,rfl⟩;have h19:q<=19:=by have:=(Lib.numDigits_eq u hu1 hu64).2;omega
   obtain⟨z,hz⟩:=(ht.later hbA) q (by omega);have knd:=ziy u q hu64 hq (by omega) z _ hz;obtain⟨nd,hnd⟩: ∃nd,q+(if z<=(u:Int) then 1 else 0)=nd:=⟨_,rfl⟩;have hnd20:nd<=20:=by rw[<-hnd];split<;>omega
   rw[hnd] at knd;clear hnd hz hq;have hwr:IntKind.u64.wrap (-IntKind.u64.wrap (-(u:Int)))=(u:Int):=by rw[IntKind.wrap_u64,IntKind.wrap_u64];omega
   have hsl1: ∀W,(Instr.sliceAt 262 (.pointer (some ⟨w.heap.size,0,none⟩)) (some (.int .i64 1)) (some (.int .i64 (1+(nd:Int)))) none).run Tryz.prog W=.ok (.slice (some ⟨w.heap.size,1,none⟩) nd 23) W:=fun W=>by
    rw[run_sliceAt_array_lh W 262 ⟨w.heap.size,0,none⟩ (by simp[Program.arrayLen,Program.elem,Tryz.underlying262]) .i64 .i64 1 (1+(nd:Int)) (by omega) (by omega) (by rw[hal];omega)]
    go_simp
    omega
   have hsl2: ∀W,(Instr.sliceAt 262 (.pointer (some ⟨w.heap.size,0,none⟩)) none (some (.int .i64 (1+(nd:Int)))) none).run Tryz.prog W=.ok (.slice (some ⟨w.heap.size,0,none⟩) (1+nd) 24) W:=fun W=>by
    rw[run_sliceAt_array_h W 262 ⟨w.heap.size,0,none⟩ (by simp[Program.arrayLen,Program.elem,Tryz.underlying262]) .i64 (1+(nd:Int)) (by omega) (by rw[hal];omega)]
    go_simp
    omega
   have hH0:=Lib.holds_zero w 262 nd (by omega);have hfmt:=zix w.heap.size 1 23 u (YM nd 0) (w.alloc (.cells Lib.zeros24 262)) hH0 hu64 (by rw[Xi];omega);rw[Xi] at hfmt;have HH0:=Lib.hid hH0;have HB:=Lib.hid hbA;have HT:=Lib.hid ht;clear hH0 hal hbA ht
   go_enter Tryz.func233,Tryz.ntmps233
   go_wp2_with (first|(go_at_fn 235;refine knd.mono ?_;rintro e w' ⟨rfl,rfl⟩))
   go_at_fn 236
   refine hfmt.mono ?_;rintro e w' ⟨rfl,k,dk,hdk,rfl⟩;have hc0:((putRow byF (w.alloc (.cells Lib.zeros24 262)) w.heap.size 1 dk).drewN k).cell? ⟨w.heap.size,0,none⟩=some (.int .u8 0):=by
    rw[World.cell?_drewN,cell?_putRow_other _ _ _ _ _ _ (Or.inr (Or.inl (Nat.zero_lt_one))),World.cell?_alloc_new];exact Lib.zeros24_at 0 (by omega)
   have hf0:((putRow byF (w.alloc (.cells Lib.zeros24 262)) w.heap.size 1 dk).drewN k).frozen? ⟨w.heap.size,0,none⟩=false:=by
    rw[World.frozen?_drewN,frozen?_putRow];exact World.frozen?_alloc_new _ _ _ _
   have hcv:(convert 186 9 (.slice (some ⟨w.heap.size,0,none⟩) (1+nd) 24)).run Tryz.prog (((putRow byF (w.alloc (.cells Lib.zeros24 262)) w.heap.size 1 dk).drewN k).setCell ⟨w.heap.size,0,none⟩ (.int .u8 45))=.ok (.string ⟨(45::dk.toList).toArray⟩) (((putRow byF (w.alloc (.cells Lib.zeros24 262)) w.heap.size 1 dk).drewN k).setCell ⟨w.heap.size,0,none⟩ (.int .u8 45)):=by
    have h:=run_convert_bytes_back (P:=Tryz.prog) (((putRow byF (w.alloc (.cells Lib.zeros24 262)) w.heap.size 1 dk).drewN k).setCell ⟨w.heap.size,0,none⟩ (.int .u8 45)) 186 9 5 ⟨w.heap.size,0,none⟩ 24 (45::dk.toList) Tryz.underlying186 Tryz.underlying5 Tryz.underlying9 (fun j hj=>by
     rw[Lib.add_plain]
     cases j with
     |zero=>exact World.cell?_setCell_same _ _ _ hc0
     |succ i=>
      have hi:i<dk.toList.length:=by simpa using hj
      rw[World.cell?_setCell_other _ _ _ _ (by simp),List.getElem_cons_succ,ziA dk i hi,World.cell?_drewN,show 0+(i+1)=1+i by omega]
      exact cell?_putRow byF _ w.heap.size 1 _ dk HH0.out (by rw[hdk,Xi]) i (by simpa using hi))
    rw[Zo,YI,hdk,Y0] at h;exact h
   go_wp2
   go_ret
   obtain⟨os,eo⟩:=Lib.fin_neg w (.cells Lib.zeros24 262) dk k (.int .u8 45);exact⟨45::dk.toList,by rw[Zo,YI,hdk];omega,rfl,by rw[eo];exact ziz w k os⟩
  ·obtain⟨u,rfl⟩: ∃u:Nat,n=u:=⟨n.toNat,by omega⟩
   have hu1:1<=u:=by omega
   have hu64:u<18446744073709551616:=by omega
   obtain⟨q,hq⟩: ∃q,Lib.l10 (Lib.bitLen u)=q:=⟨_,rfl⟩;have h19:q<=19:=by have:=(Lib.numDigits_eq u hu1 hu64).2;omega
   obtain⟨z,hz⟩:=(ht.later hbA) q (by omega);have knd:=ziy u q hu64 hq (by omega) z _ hz;obtain⟨nd,hnd⟩: ∃nd,q+(if z<=(u:Int) then 1 else 0)=nd:=⟨_,rfl⟩;have hnd20:nd<=20:=by rw[<-hnd];split<;>omega
   rw[hnd] at knd;clear hnd hz hq;have hsl1: ∀W,(Instr.sliceAt 262 (.pointer (some ⟨w.heap.size,0,none⟩)) (some (.int .i64 1)) (some (.int .i64 (1+(nd:Int)))) none).run Tryz.prog W=.ok (.slice (some ⟨w.heap.size,1,none⟩) nd 23) W:=fun W=>by
    rw[run_sliceAt_array_lh W 262 ⟨w.heap.size,0,none⟩ (by simp[Program.arrayLen,Program.elem,Tryz.underlying262]) .i64 .i64 1 (1+(nd:Int)) (by omega) (by omega) (by rw[hal];omega)]
    go_simp
    omega
   have hH0:=Lib.holds_zero w 262 nd (by omega);have hfmt:=zix w.heap.size 1 23 u (YM nd 0) (w.alloc (.cells Lib.zeros24 262)) hH0 hu64 (by rw[Xi];omega);rw[Xi] at hfmt;have HH0:=Lib.hid hH0;have HB:=Lib.hid hbA;have HT:=Lib.hid ht;clear hH0 hal hbA ht
   go_enter Tryz.func233,Tryz.ntmps233
   go_wp2_with (first|(go_at_fn 235;refine knd.mono ?_;rintro e w' ⟨rfl,rfl⟩))
   go_at_fn 236
   refine hfmt.mono ?_;rintro e w' ⟨rfl,k,dk,hdk,rfl⟩;have hcv:(convert 186 9 (.slice (some ⟨w.heap.size,1,none⟩) nd 23)).run Tryz.prog ((putRow byF (w.alloc (.cells Lib.zeros24 262)) w.heap.size 1 dk).drewN k)=.ok (.string ⟨dk.toList.toArray⟩) ((putRow byF (w.alloc (.cells Lib.zeros24 262)) w.heap.size 1 dk).drewN k):=by
    have h:=run_convert_bytes_back (P:=Tryz.prog) ((putRow byF (w.alloc (.cells Lib.zeros24 262)) w.heap.size 1 dk).drewN k) 186 9 5 ⟨w.heap.size,1,none⟩ 23 dk.toList Tryz.underlying186 Tryz.underlying5 Tryz.underlying9 (fun j hj=>by
     rw[ziA dk j hj,Lib.add_plain,World.cell?_drewN]
     exact cell?_putRow byF _ w.heap.size 1 _ dk HH0.out (by rw[hdk,Xi]) j (by simpa using hj))
    rw[YI,hdk] at h;exact h
   go_wp2
   go_ret
   obtain⟨os,eo⟩:=Lib.fin_pos w (.cells Lib.zeros24 262) dk k;exact⟨dk.toList,by rw[YI,hdk];omega,rfl,by rw[eo];exact ziz w k os⟩
theorem ziB (n:Int) (h0: -9223372036854775808<=n) (h1:n<=9223372036854775807) (w:World) (ht:nA w):
  Calls Tryz.prog 231 #[.int .i64 n] w fun e w'=> ∃s:List UInt8,s.length<=21/\e=.returned (.string ⟨s.toArray⟩)/\Below w.heap.size w w':=by
 have e232: ∀args w,(callFunc 232 args).run Tryz.prog w=.ok (.enter 232 args) w:=enters_of Tryz.func232 (by kernel_rfl) rfl;have e233: ∀args w,(callFunc 233 args).run Tryz.prog w=.ok (.enter 233 args) w:=enters_of Tryz.func233 (by kernel_rfl) rfl;have k232: ∀W,nA W->Calls Tryz.prog 232 #[.int .i64 n] W fun e w'=> ∃s:List UInt8,s.length<=21/\e=.returned (.string ⟨s.toArray⟩)/\Below W.heap.size W w':=fun W hT=>by
  have HT:=Lib.hid (znZ n h0 h1 W hT);clear hT ht
  go_enter Tryz.func232,Tryz.ntmps232
  go_wp2_with (go_at_fn 233;refine HT.out.mono ?_;rintro e w' ⟨s,hs,rfl,hb⟩)
  go_ret
  exact⟨s,hs,rfl,hb⟩
 have HT:=Lib.hid (k232 w ht);clear k232 ht
 go_enter Tryz.func231,Tryz.ntmps231
 go_wp2_with (go_at_fn 232;refine HT.out.mono ?_;rintro e w' ⟨s,hs,rfl,hb⟩)
 go_ret
 exact⟨s,hs,rfl,hb⟩
end Go.Proofs
namespace Go.Proofs
open Go.RowKit Go.Abs Go.Wd Go.Wire Go.Ex
theorem ziC {w:World} (hG:yI (base w)):nA w:=fun i hi=>by
 obtain⟨_,b,hb,hp⟩:=hG.2 5 _ rfl;have hb':w.heap[5]?=some b:=hb;cases b with
 |cells cs t f=>
  obtain⟨z,hz⟩:=hp i hi;exact⟨z,by simp only[World.cell?,hb'];exact hz⟩
 |_=>exact hp.elim
abbrev wR (w:World) (Bx:Nat) (d f:Txt) (lo hi:Int) (sum:Bool) (W:World):Prop:=
 W.cell? ⟨Bx,0,none⟩=some (tV d)/\W.cell? ⟨Bx,1,none⟩=some (tV f)/\W.cell? ⟨Bx,2,none⟩=some (.int .i64 lo)/\W.cell? ⟨Bx,3,none⟩=some (.int .i64 hi)/\W.cell? ⟨Bx,4,none⟩=some (.bool sum)/\Below w.heap.size w W
theorem wR.later {w W W':World} {Bx:Nat} {d f:Txt} {lo hi:Int} {sum:Bool} (h:wR w Bx d f lo hi sum W) (hb:Below W.heap.size W W'):wR w Bx d f lo hi sum W':=by
 obtain⟨h0,h1,h2,h3,h4,h8⟩:=h;have hlt:Bx<W.heap.size:=World.block_lt_of_cell? _ _ h0;have k: ∀j,W'.cell? ⟨Bx,j,none⟩=W.cell? ⟨Bx,j,none⟩:=fun j=>hb.cell (p:=⟨Bx,j,none⟩) hlt
 exact⟨(k 0).trans h0,(k 1).trans h1,(k 2).trans h2,(k 3).trans h3,(k 4).trans h4,h8.trans (hb.mono h8.size)⟩
theorem ziD {w W:World} {Bx:Nat} {d f:Txt} {lo hi:Int} {sum:Bool} (h:W.heap[Bx]?=some (.cells #[tV d,tV f,.int .i64 lo,.int .i64 hi,.bool sum] 171 (0,0))) (hb:Below w.heap.size w W):wR w Bx d f lo hi sum W:=by
 refine⟨?_,?_,?_,?_,?_,hb⟩<;>simp[World.cell?,h]
theorem ziE (d f:Txt) (lo hi:Int) (sum:Bool) (hd:d.length<=1000000) (hf:f.length<=1000000) (h1: -9223372036854775808<=lo) (h2:lo<=9223372036854775807) (h3: -9223372036854775808<=hi) (h4:hi<=9223372036854775807) (w:World) (hG:yI (base w)):
  Calls Tryz.prog 229 #[.agg #[tV d,tV f,.int .i64 lo,.int .i64 hi,.bool sum]] w fun e w'=> ∃s:Txt,s.length<=d.length+f.length+100/\e=.returned (.string ⟨s.toArray⟩)/\Below w.heap.size w w':=by
 have hg: ∀{W},Below w.heap.size w W->yI (base W):=fun hb=>hG.later (xM hb)
 have k202: ∀W,Below w.heap.size w W->Calls Tryz.prog 202 #[.agg #[tV d,tV f]] W fun e W'=>e=.returned (.string ⟨(d++wF++f).toArray⟩)/\Below W.heap.size W W':=fun W hb=>(zpx d f hd hf).strC (hg hb) (Z:=zW W) (fun _ h=>h) (vN (r:=[.str d,.str f]) (by simp[C.sc]) (xS _ _))
 have kI1: ∀W,Below w.heap.size w W->Calls Tryz.prog 231 #[.int .i64 lo] W fun e W'=> ∃s:List UInt8,s.length<=21/\e=.returned (.string ⟨s.toArray⟩)/\Below W.heap.size W W':=fun W hb=>ziB lo h1 h2 W (ziC (hg hb))
 have kI2: ∀W,Below w.heap.size w W->Calls Tryz.prog 231 #[.int .i64 hi] W fun e W'=> ∃s:List UInt8,s.length<=21/\e=.returned (.string ⟨s.toArray⟩)/\Below W.heap.size W W':=fun W hb=>ziB hi h3 h4 W (ziC (hg hb))
 obtain⟨x,hx⟩: ∃x,d++wF++f=x:=⟨_,rfl⟩;have hxl:Aside (x.length<=d.length+f.length+3):=show x.length<=d.length+f.length+3 from by
  have e:wF.length=3:=by decide
  rw[<-hx,Zv,Zv,e];omega
 have hx2:x.length<=2000003:=by have:=hxl.out;omega
 rw[hx] at k202;clear hx hg hG h1 h2 h3 h4;have hdA:Aside (d.length<=1000000/\f.length<=1000000):=⟨hd,hf⟩;clear hd hf;have mixed:Tryz.prog.follows Departure.mixedOrders=true:=by kernel_rfl
 cases sum with
 |false=>
  go_enter Tryz.func229,Tryz.ntmps229
  go_wp2
  have hS1:wR w w.heap.size d f lo hi false (w.alloc (.cells #[tV d,tV f,.int .i64 lo,.int .i64 hi,.bool false] 171)).drew:=by
   exact ziD (World.alloc_heap_new w _) (((Below.refl _ w).alloc (Zt _) _).trans ((wW _).mono (by simp)))
  go_region_held (fun W=>wR w w.heap.size d f lo hi false W) (first|exact hS1|exact wR.later hq3 hbO|exact wR.later hq2 hbN|exact wR.later hS1 hbM) (first|(go_at_call 202;refine(k202 _ (by simp[*])).mono ?_;rintro ex w2 ⟨rfl,hbM⟩;have hq2:=wR.later hS1 hbM)|(go_at_call 231;first|(refine(kI1 _ (by simp[*])).mono ?_;rintro ex w3 ⟨s1,hs1,rfl,hbN⟩;have hq3:=wR.later hq2 hbN)|(refine(kI2 _ (by simp[*])).mono ?_;rintro ex w4 ⟨s2,hs2,rfl,hbO⟩)))
  all_goals go_wp2
  all_goals go_ret
  all_goals refine⟨vP++x++tL++s1++tM++s2++wG,?_,?_,(wR.later hq3 hbO).2.2.2.2.2⟩
  all_goals first
   |rfl
   |(congr 1;done)
   |(have:=hxl.out;simp only[vP,tL,tM,wG,Zv,Zo,ZG];omega)
   |(congr 2;apply ByteArray.ext;simp[vP,tL,tM,wG];done)
   |(simp[vP,tL,tM,wG];done)
   |(congr 1;congr 1;apply ByteArray.ext;simp[vP,tL,tM,wG])
 |true=>
  go_enter Tryz.func229,Tryz.ntmps229
  go_wp2
  have hS1:wR w w.heap.size d f lo hi true (w.alloc (.cells #[tV d,tV f,.int .i64 lo,.int .i64 hi,.bool true] 171)).drew:=by
   exact ziD (World.alloc_heap_new w _) (((Below.refl _ w).alloc (Zt _) _).trans ((wW _).mono (by simp)))
  go_region_held (fun W=>wR w w.heap.size d f lo hi true W) (first|exact hS1|exact wR.later hq3 hbO|exact wR.later hq2 hbN|exact wR.later hS1 hbM) (first|(go_at_call 202;refine(k202 _ (by simp[*])).mono ?_;rintro ex w2 ⟨rfl,hbM⟩;have hq2:=wR.later hS1 hbM)|(go_at_call 231;first|(refine(kI1 _ (by simp[*])).mono ?_;rintro ex w3 ⟨s1,hs1,rfl,hbN⟩;have hq3:=wR.later hq2 hbN)|(refine(kI2 _ (by simp[*])).mono ?_;rintro ex w4 ⟨s2,hs2,rfl,hbO⟩)))
  all_goals go_wp2
  all_goals go_ret
  all_goals refine⟨pI++x++tL++s1++tM++s2++wG,?_,?_,(wR.later hq3 hbO).2.2.2.2.2⟩
  all_goals first
   |rfl
   |(congr 1;done)
   |(have:=hxl.out;simp only[pI,tL,tM,wG,Zv,Zo,ZG];omega)
   |(congr 2;apply ByteArray.ext;simp[pI,tL,tM,wG];done)
   |(simp[pI,tL,tM,wG];done)
   |(congr 1;congr 1;apply ByteArray.ext;simp[pI,tL,tM,wG])
def dmV (m:Dmd):Array Value:=((zQ m).map wE).toArray
structure ClsAt (w:World) (m:Dmd) (T:TypeId) (us:Array Value) (fd fn fw:FuncId):Prop where
 ed: ∀args W,(callFunc fd args).run Tryz.prog W=.ok (.enter fd args) W
 en: ∀args W,(callFunc fn args).run Tryz.prog W=.ok (.enter fn args) W
 ew: ∀args W,(callFunc fw args).run Tryz.prog W=.ok (.enter fw args) W
 md: ∀W,(method 369 T (.agg us) "allonge/require.demand").run Tryz.prog W=.ok (fd,.agg us) W
 mn: ∀W,(method 369 T (.agg us) "allonge/require.named").run Tryz.prog W=.ok (fn,.agg us) W
 mw: ∀W,(method 369 T (.agg us) "allonge/require.words").run Tryz.prog W=.ok (fw,.agg us) W
 kd: ∀W,Below w.heap.size w W->Calls Tryz.prog fd #[.agg us] W fun e W'=>e=.returned (.agg (dmV (gT m)))/\Below W.heap.size W W'
 kn: ∀W,Below w.heap.size w W->Calls Tryz.prog fn #[.agg us] W fun e W'=>e=.returned (.bool (kF m))/\Below W.heap.size W W'
 kw: ∀W,Below w.heap.size w W->Calls Tryz.prog fw #[.agg us] W fun e W'=> ∃s:Txt,(uE m=true->s.length<=1000)/\e=.returned (.string ⟨s.toArray⟩)/\Below W.heap.size W W'
theorem ziF {m:Dmd} (h:uE m=true) (ho:m.op=2\/m.op=4):m.doc.length<=20/\m.fld.length<=20:=by
 unfold uE at h;simp only[Zp] at h;have h2:=h.2.2;unfold kF at h2;rw[if_neg (by omega),if_neg (by omega),if_neg (by omega)] at h2;simp only[Zp] at h2;exact⟨sW h2.1.1,sW h2.1.2⟩
theorem zn0 (m:Dmd) (hm:DmdS m) (ho:okD m.op=true) (w:World) (hG:yI (base w)): ∃T us fd fn fw,clV m.op m.doc m.fld m.oth m.sec m.txt m.lo m.hi=.iface T (.agg us)/\ClsAt w m T us fd fn fw:=by
 have hg: ∀{W},Below w.heap.size w W->yI (base W):=fun hb=>hG.later (xM hb)
 obtain⟨op,d,f,o,s,t,lo,hi⟩:=m;have hms:=hm;obtain⟨hd,hf,hoo,hss,ht,l1,l2,h1,h2⟩:=hm;simp only[] at hd hf hoo hss ht l1 l2 h1 h2 ho⊢;by_cases q0:op=0
 ·subst q0
  refine⟨165,#[tV d],203,205,206,rfl,enters_of Tryz.func203 (by kernel_rfl) rfl,enters_of Tryz.func205 (by kernel_rfl) rfl,enters_of Tryz.func206 (by kernel_rfl) rfl,Tryz.m165demand _,Tryz.m165named _,Tryz.m165words _,fun W hb=>?_,fun W hb=>?_,fun W hb=>?_⟩
  ·exact(zmg d).aggC (by simp[zQ,C.sc]) (hg hb) (Z:=zW W) (fun _ h=>h) (vN (r:=[.str d]) (by simp[C.sc]) (xS _ _))
  ·exact(zmf d hd).boolC (hg hb) (Z:=zW W) (fun _ h=>h) (vN (r:=[.str d]) (by simp[C.sc]) (xS _ _))
  ·refine Calls.mono ((znM d hd).strC (hg hb) (Z:=zW W) (fun _ h=>h) (vN (r:=[.str d]) (by simp[C.sc]) (xS _ _))) ?_
   rintro e W' ⟨he,hb2⟩;exact⟨kG _,fun h=>aM hms h,he,hb2⟩
 by_cases q1:op=1
 ·subst q1
  refine⟨167,#[tV d,tV f,tV t],211,213,214,rfl,enters_of Tryz.func211 (by kernel_rfl) rfl,enters_of Tryz.func213 (by kernel_rfl) rfl,enters_of Tryz.func214 (by kernel_rfl) rfl,Tryz.m167demand _,Tryz.m167named _,Tryz.m167words _,fun W hb=>?_,fun W hb=>?_,fun W hb=>?_⟩
  ·exact(zmh d f t).aggC (by simp[zQ,C.sc]) (hg hb) (Z:=zW W) (fun _ h=>h) (vN (r:=[.str d,.str f,.str t]) (by simp[C.sc]) (xS _ _))
  ·exact(znW d f t hd hf ht).boolC (hg hb) (Z:=zW W) (fun _ h=>h) (vN (r:=[.str d,.str f,.str t]) (by simp[C.sc]) (xS _ _))
  ·refine Calls.mono ((znX d f t hd hf ht).strC (hg hb) (Z:=zW W) (fun _ h=>h) (vN (r:=[.str d,.str f,.str t]) (by simp[C.sc]) (xS _ _))) ?_
   rintro e W' ⟨he,hb2⟩;exact⟨kG _,fun h=>aM hms h,he,hb2⟩
 by_cases q3:op=3
 ·subst q3
  refine⟨169,#[tV d,tV f,tV o,tV s],221,223,224,rfl,enters_of Tryz.func221 (by kernel_rfl) rfl,enters_of Tryz.func223 (by kernel_rfl) rfl,enters_of Tryz.func224 (by kernel_rfl) rfl,Tryz.m169demand _,Tryz.m169named _,Tryz.m169words _,fun W hb=>?_,fun W hb=>?_,fun W hb=>?_⟩
  ·exact(zmi d f o s).aggC (by simp[zQ,C.sc]) (hg hb) (Z:=zW W) (fun _ h=>h) (vN (r:=[.str d,.str f,.str o,.str s]) (by simp[C.sc]) (xS _ _))
  ·exact(zmj d f o s hd hf hoo hss).boolC (hg hb) (Z:=zW W) (fun _ h=>h) (vN (r:=[.str d,.str f,.str o,.str s]) (by simp[C.sc]) (xS _ _))
  ·refine Calls.mono ((znN d f o s hd hf hoo hss).strC (hg hb) (Z:=zW W) (fun _ h=>h) (vN (r:=[.str d,.str f,.str o,.str s]) (by simp[C.sc]) (xS _ _))) ?_
   rintro e W' ⟨he,hb2⟩;exact⟨kG _,fun h=>aM hms h,he,hb2⟩
 have ar: ∀(W:World) (b:Bool),wH W (zW W) [.agg [.str d,.str f,.int .i64 lo,.int .i64 hi,.bool b]] (#[.agg #[tV d,tV f,.int .i64 lo,.int .i64 hi,.bool b]]:Array Value).toList:=fun W b=>vN (r:=[.str d,.str f,.int .i64 lo,.int .i64 hi,.bool b]) (by simp[C.sc]) (xS _ _)
 by_cases q2:op=2
 ·subst q2
  refine⟨171,#[tV d,tV f,.int .i64 lo,.int .i64 hi,.bool false],226,228,229,rfl,enters_of Tryz.func226 (by kernel_rfl) rfl,enters_of Tryz.func228 (by kernel_rfl) rfl,enters_of Tryz.func229 (by kernel_rfl) rfl,Tryz.m171demand _,Tryz.m171named _,Tryz.m171words _,fun W hb=>?_,fun W hb=>?_,fun W hb=>?_⟩
  ·exact(zht d f lo hi false).aggC (by simp[zQ,C.sc]) (hg hb) (Z:=zW W) (fun _ h=>h) (ar W false)
  ·exact(zhu d f lo hi false hd hf).boolC (hg hb) (Z:=zW W) (fun _ h=>h) (ar W false)
  ·refine(ziE d f lo hi false hd hf l1 l2 h1 h2 W (hg hb)).mono ?_
   rintro e W' ⟨s1,hs1,he,hb2⟩;refine⟨s1,fun h=>?_,he,hb2⟩;have:=ziF h (by simp);simp only[] at this;omega
 by_cases q4:op=4
 ·subst q4
  refine⟨171,#[tV d,tV f,.int .i64 lo,.int .i64 hi,.bool true],226,228,229,rfl,enters_of Tryz.func226 (by kernel_rfl) rfl,enters_of Tryz.func228 (by kernel_rfl) rfl,enters_of Tryz.func229 (by kernel_rfl) rfl,Tryz.m171demand _,Tryz.m171named _,Tryz.m171words _,fun W hb=>?_,fun W hb=>?_,fun W hb=>?_⟩
  ·exact(zht d f lo hi true).aggC (by simp[zQ,C.sc]) (hg hb) (Z:=zW W) (fun _ h=>h) (ar W true)
  ·exact(zhu d f lo hi true hd hf).boolC (hg hb) (Z:=zW W) (fun _ h=>h) (ar W true)
  ·refine(ziE d f lo hi true hd hf l1 l2 h1 h2 W (hg hb)).mono ?_
   rintro e W' ⟨s1,hs1,he,hb2⟩;refine⟨s1,fun h=>?_,he,hb2⟩;have:=ziF h (by simp);simp only[] at this;omega
 ·exfalso
  simp[okD,q0,q1,q2,q3,q4] at ho
def kH (w:World) (L:List Dmd) (p:Option Addr) (b o:Nat):Prop:=(0<L.length->p=some ⟨b,o,none⟩/\b<w.heap.size)/\ ∀k,k<L.length-> ∀j u,(dmV (L.getD k yZ))[j]?=some u->w.cell? ⟨b,o+k*8+j,none⟩=some u
theorem kH.at {w:World} {L:List Dmd} {p:Option Addr} {b o:Nat} (h:kH w L p b o) {k:Nat} (hk:k<L.length) {W:World} (hb:Below w.heap.size w W) (m:Dmd) (e:L.getD k yZ=m):
  W.cell? ⟨b,o+k*8,none⟩=some (.int .i64 m.op)/\W.cell? ⟨b,o+k*8+1,none⟩=some (.string ⟨m.doc.toArray⟩)/\W.cell? ⟨b,o+k*8+2,none⟩=some (.string ⟨m.fld.toArray⟩)/\W.cell? ⟨b,o+k*8+3,none⟩=some (.string ⟨m.oth.toArray⟩)/\
  W.cell? ⟨b,o+k*8+4,none⟩=some (.string ⟨m.sec.toArray⟩)/\W.cell? ⟨b,o+k*8+5,none⟩=some (.string ⟨m.txt.toArray⟩)/\W.cell? ⟨b,o+k*8+6,none⟩=some (.int .i64 m.lo)/\W.cell? ⟨b,o+k*8+7,none⟩=some (.int .i64 m.hi):=by
 subst e;have hlt:=(h.1 (by omega)).2;have key: ∀j u,(dmV (L.getD k yZ))[j]?=some u->W.cell? ⟨b,o+k*8+j,none⟩=some u:=fun j u hu=>(hb.cell (p:=⟨b,o+k*8+j,none⟩) hlt).trans (h.2 k hk j u hu)
 exact⟨key 0 _ rfl,key 1 _ rfl,key 2 _ rfl,key 3 _ rfl,key 4 _ rfl,key 5 _ rfl,key 6 _ rfl,key 7 _ rfl⟩
theorem zn1 (a b:Txt):((⟨a.toArray⟩:ByteArray).toList==(⟨b.toArray⟩:ByteArray).toList)=decide (a=b):=by
 rw[ByteArray.toList_eq,ByteArray.toList_eq,Yp,beq_iff_eq,decide_eq_true_eq]
theorem zn2 (m m2:Dmd) (w:World):Sem.run Tryz.prog (binOp .neq 46 (.agg (dmV m)) (.agg (dmV m2))) w=.ok (.bool (!decide (m=m2))) w:=by
 rw[run_neq_struct,run_equalIn_agg (P:=Tryz.prog) w 9999 46 _ _ (by kernel_rfl) (by kernel_rfl)];obtain⟨op,d,f,ot,s,t,lo,hi⟩:=m;obtain⟨op2,d2,f2,ot2,s2,t2,lo2,hi2⟩:=m2;simp only[Dmd.mk.injEq];simp[go_sem,dmV,zQ,wE,zn1];by_cases h1:op=op2<;>simp[h1]
 by_cases h2:d=d2<;>simp[h2]
 by_cases h3:f=f2<;>simp[h3]
 by_cases h4:ot=ot2<;>simp[h4]
 by_cases h5:s=s2<;>simp[h5]
 by_cases h6:t=t2<;>simp[h6]
 by_cases h7:lo=lo2<;>simp[h7]
 by_cases h8:hi=hi2<;>simp[h8]
theorem zn3 (o:BinOp) (a b:Operand) (m m2:Dmd) (w:World):Sem.run Tryz.prog (eqGuard o 46 a b (.agg (dmV m)) (.agg (dmV m2))) w=.ok () w:=run_eqGuard_agg _ _ _ _ _ _ _ (by kernel_rfl)
theorem aO {L:List Dmd} {m:Dmd} (hm:m∈L) (h: ¬L.length<=20\/uE m=false):uL L=false:=by
  unfold uL;rw[Bool.or_eq_false_iff];refine⟨decide_eq_false (by rintro rfl;cases hm),?_⟩;rw[Bool.and_eq_false_iff];rcases h with h|h
  ·exact .inl (decide_eq_false h)
  ·right
   rw[YD];exact⟨m,hm,by rw[h];simp⟩
abbrev xZ (w:World) (Bx:Nat) (op:Int) (d f ot s t:Txt) (lo hi:Int) (W:World):Prop:=
 W.cell? ⟨Bx,0,none⟩=some (.int .i64 op)/\W.cell? ⟨Bx,1,none⟩=some (.string ⟨d.toArray⟩)/\W.cell? ⟨Bx,2,none⟩=some (.string ⟨f.toArray⟩)/\W.cell? ⟨Bx,3,none⟩=some (.string ⟨ot.toArray⟩)/\
 W.cell? ⟨Bx,4,none⟩=some (.string ⟨s.toArray⟩)/\W.cell? ⟨Bx,5,none⟩=some (.string ⟨t.toArray⟩)/\W.cell? ⟨Bx,6,none⟩=some (.int .i64 lo)/\W.cell? ⟨Bx,7,none⟩=some (.int .i64 hi)/\Below w.heap.size w W
theorem aP {w W:World} {Bx:Nat} {op:Int} {d f ot s t:Txt} {lo hi:Int} (h:W.heap[Bx]?=some (.cells #[.int .i64 op,.string ⟨d.toArray⟩,.string ⟨f.toArray⟩,.string ⟨ot.toArray⟩,.string ⟨s.toArray⟩,.string ⟨t.toArray⟩,.int .i64 lo,.int .i64 hi] 46 (0,0))) (hb:Below w.heap.size w W):xZ w Bx op d f ot s t lo hi W:=by
 refine⟨?_,?_,?_,?_,?_,?_,?_,?_,hb⟩<;>simp[World.cell?,h]
theorem xZ.later {w W W':World} {Bx:Nat} {op:Int} {d f ot s t:Txt} {lo hi:Int} (h:xZ w Bx op d f ot s t lo hi W) (hb:Below W.heap.size W W'):xZ w Bx op d f ot s t lo hi W':=by
 obtain⟨h0,h1,h2,h3,h4,h5,h6,h7,h8⟩:=h;have hlt:Bx<W.heap.size:=World.block_lt_of_cell? _ _ h0;have k: ∀j,W'.cell? ⟨Bx,j,none⟩=W.cell? ⟨Bx,j,none⟩:=fun j=>hb.cell (p:=⟨Bx,j,none⟩) hlt
 exact⟨(k 0).trans h0,(k 1).trans h1,(k 2).trans h2,(k 3).trans h3,(k 4).trans h4,(k 5).trans h5,(k 6).trans h6,(k 7).trans h7,h8.trans (hb.mono h8.size)⟩
theorem aQ {W W':World} {base e k:Nat} {v:Value} {xs:List Value} (h:W.ownsRow base e 1 v k xs) {B:World} (_:Below B.heap.size B W) (hb:Below W.heap.size W W'):W'.ownsRow base e 1 v k xs:=
 h.kept (nY hb) (by cases v.ownBlock<;>simp)
theorem ziG: ∀(l:List Txt),(∀s∈l,s.length<=1000)->yY l<=l.length*1000
 |[],_=>by simp[yY]
 |m::l,h=>by
  have:=ziG l fun x hx=>h x (Zz _ hx)
  have h2:=h m (by simp);simp only[yY,Zo];omega
theorem zn4 (base:Nat) (v:Value) (l:List Txt) (W:World) (h:W.ownsRow base 9 1 v l.length (l.map tV)) (hn:l.length<=1000) (hs:yY l<=1000000):
  Calls Tryz.prog 101 #[v,.string ⟨#[32]⟩] W fun e w'=>e=.returned (.string ⟨(joinS [32] l).toArray⟩)/\Below W.heap.size W w':=by
 rcases h with⟨_,⟨hv,h0⟩|⟨g,cap,cur,hv,hg,hh,h5,h6,h7,h8⟩⟩
 ·obtain rfl:=ZZ h0
  subst hv;exact bN 0 none _ W
 ·subst hv
  have hc: ∀j,j<l.length->W.cell? ⟨g,j,none⟩=some (.string ⟨(l.getD j []).toArray⟩):=by
   intro j hj;have h9:=congrArg (fun x:List Value=>x[j]?) h8;simp only[YS,List.getElem?_take_of_lt hj,Zw,Zg hj,Yw] at h9;rw[Ys] at h9;simp only[World.cell?,hh];simp only[YN,Z1,if_false];rw[h9,Zh,Zg hj];rfl
  rcases YZ l.length 2 with h2|h2
  ·rcases YZ l.length 1 with h1|h1
   ·obtain rfl:=ZZ (by omega:l.length=0)
    exact bN cap _ _ W
   ·obtain⟨t,rfl⟩:=List.length_eq_one_iff.1 (by omega:l.length=1)
    exact zhB cap g 0 _ _ W (hc 0 (by simp)) h5
  ·exact zhA l [32] cap g 0 W (Zn.1 hh).1 (fun k hk=>by rw[ZV];exact hc k hk) h2 hn h5 (by decide) (by decide) hs
theorem zn5 (L:List Dmd) (hL:L.length<=8) (hm: ∀m∈L,DmdS m) (w:World) (hG:yI (base w)) (p:Option Addr) (cap b o:Nat) (hD:kH w L p b o):
  Calls Tryz.prog 63 #[.slice p L.length cap] w fun e w'=> ∃X:Txt,e=.returned (.tuple #[.string ⟨X.toArray⟩,.bool (uL L)])/\Below w.heap.size w w':=by
 obtain⟨n,hN⟩: ∃n,L.length=n:=⟨_,rfl⟩;have hN':Aside (L.length=n):=hN;rw[hN] at hL⊢;have hp:0<n->p=some ⟨b,o,none⟩:=fun h=>(hD.1 (by omega)).1
 have HD:Aside (kH w L p b o):=hD;clear hN hD;obtain⟨i0,hif,hz0,hz1,hz2⟩:=info_parts (show(Tryz.prog.info? 9).map (fun i=>(i.zero,i.size,i.bytes))=some (some (.string ⟨#[]⟩),1,16) by kernel_rfl);have mixed:Tryz.prog.follows Departure.mixedOrders=true:=by kernel_rfl
 go_enter Tryz.func63,Tryz.ntmps63
 go_wp2
 go_loopg [4,12] n (fun g v i wr=> ∃k:Nat,k<=n/\n-k=g/\i=.int .i64 k/\(k=0\/n<=20)/\(L.take k).all uE=true/\(∃Ws:List Txt,Ws.length=k/\(∀s∈Ws,s.length<=1000)/\wr.ownsRow w.heap.size 9 1 v k (Ws.map tV))/\Below w.heap.size w wr)
 case atStart=>exact⟨0,ZA _,rfl,rfl,.inl rfl,rfl,⟨[],rfl,by simp,World.ownsRow_nil _ _ _ _⟩,Below.refl _ _⟩
 case round=>
  obtain⟨k,hkn,rfl,rfl,hk0,hall,⟨Ws,hWl0,hWb0,hown⟩,hb⟩:=hrel;have hWl:Aside (Ws.length=k):=hWl0;have hWb:Aside (∀s∈Ws,s.length<=1000):=hWb0;clear hWl0 hWb0;by_cases hlt:k<n
  ·have hkl:(k:Int)<n:=by omega
   obtain⟨m,hmk⟩: ∃m,L.getD k yZ=m:=⟨_,rfl⟩;have hmem:m∈L:=by
    rw[<-hmk,Zh,Zg (by rw[hN'.out];exact hlt)];exact Zx _
   obtain⟨c0,c1,c2,c3,c4,c5,c6,c7⟩:=HD.out.at (by rw[hN'.out];exact hlt) hb m hmk;have hs:=hm m hmem;obtain rfl:=hp (by omega);obtain⟨op,d,f,ot,s,t,lo,hi⟩:=m;simp only[] at c0 c1 c2 c3 c4 c5 c6 c7;have hB2: ∀o1,Below w.heap.size w (wr.alloc o1):=fun o1=>hb.alloc hb.size _
   have k79:=zhl op d f ot s t lo hi;simp only[tV] at k79;rw[show okO op=okD op from rfl] at k79;cases hok:okD op with
   |false=>
    have hpr:Aside (uL L=false):=aO hmem (.inr (by unfold uE;simp only[];rw[hok];rfl));rw[hok] at k79
    go_wp2_with (go_at_call 79;refine(k79 _).mono ?_;rintro ex w1 ⟨rfl,hb1⟩)
    go_ret2
    rw[hpr.out];exact⟨[],rfl,(hB2 _).trans (hb1.mono (hB2 _).size)⟩
   |true=>
    rw[hok] at k79;by_cases h20:n<=20
    ·have h20': ¬(n:Int)>20:=by omega
     obtain⟨T,us,fd,fn,fw,hcl,hC⟩:=zn0 ⟨op,d,f,ot,s,t,lo,hi⟩ hs hok w hG;simp only[tV] at hcl;rw[hcl] at k79;clear hcl;have ed:=hC.ed;have en:=hC.en;have md:=hC.md;have mn:=hC.mn;have kd:=hC.kd;have kn:=hC.kn;obtain⟨dm,hdm⟩: ∃dm,gT ⟨op,d,f,ot,s,t,lo,hi⟩=dm:=⟨_,rfl⟩;rw[hdm] at kd;have HDM:Aside (gT ⟨op,d,f,ot,s,t,lo,hi⟩=dm):=hdm;clear hdm;have hne:=zn2 ⟨op,d,f,ot,s,t,lo,hi⟩ dm;have hgd:=fun o a b=>zn3 o a b ⟨op,d,f,ot,s,t,lo,hi⟩ dm
     obtain⟨op2,d2,f2,ot2,s2,t2,lo2,hi2⟩:=dm;have ev: ∀op d f ot s t lo hi,dmV ⟨op,d,f,ot,s,t,lo,hi⟩= #[.int .i64 op,.string ⟨d.toArray⟩,.string ⟨f.toArray⟩,.string ⟨ot.toArray⟩,.string ⟨s.toArray⟩,.string ⟨t.toArray⟩,.int .i64 lo,.int .i64 hi]:=fun _ _ _ _ _ _ _ _=>rfl
     rw[ev] at kd;rw[ev,ev] at hne;rw[ev,ev] at hgd;clear ev;have hQ1: ∀o1 w1,(Below (wr.alloc o1).heap.size (wr.alloc o1) w1)->w1.heap[wr.heap.size]?=some o1/\Below w.heap.size w w1:=fun o1 w1 hb1=>⟨(hb1.block _ (by simp)).trans (World.alloc_heap_new _ _),(hB2 _).trans (hb1.mono (hB2 _).size)⟩
     have hQ1b: ∀o1 w1,(Below (wr.alloc o1).heap.size (wr.alloc o1) w1)->Below wr.heap.size wr w1:=fun o1 w1 hb1=>((Below.refl _ wr).alloc (Zt _) o1).trans (hb1.mono (by simp))
     by_cases heq:(⟨op,d,f,ot,s,t,lo,hi⟩:Dmd)=⟨op2,d2,f2,ot2,s2,t2,lo2,hi2⟩
     ·have hdec:decide ((⟨op,d,f,ot,s,t,lo,hi⟩:Dmd)=⟨op2,d2,f2,ot2,s2,t2,lo2,hi2⟩)=true:=decide_eq_true heq
      rw[hdec,XP] at hne;have HEQ:Aside ((⟨op,d,f,ot,s,t,lo,hi⟩:Dmd)=⟨op2,d2,f2,ot2,s2,t2,lo2,hi2⟩):=heq;clear hdec heq;cases hnm:kF ⟨op,d,f,ot,s,t,lo,hi⟩ with
      |false=>
       have hpr:Aside (uL L=false):=aO hmem (.inr (by unfold uE;rw[hnm,YU,YU]));rw[hnm] at kn
       go_wp2_with (go_at_call 79;refine(k79 _).mono ?_;rintro ex w1 ⟨rfl,hb1⟩)
       obtain⟨hq1,hb2⟩:=hQ1 _ _ hb1;have hfin:Aside (∀w',Below w1.drew.heap.size w1.drew w'->Below w.heap.size w w'):=fun w' h=>hb2.trans (((wW w1).trans h).mono hb2.size)
       have hS1:xZ w wr.heap.size op d f ot s t lo hi w1.drew:=(aP hq1 hb2).later (wW w1)
       go_region_held3 (fun W=>xZ w wr.heap.size op d f ot s t lo hi W) (first|exact hS1|exact xZ.later (by assumption) hbN|exact xZ.later (by assumption) hbM) (first|(go_at_fn fd;refine(kd _ (by simp[*])).mono ?_;rintro ex w2 ⟨rfl,hbM⟩)|(go_at_fn fn;refine(kn _ (by simp[*])).mono ?_;rintro ex w3 ⟨rfl,hbN⟩))
       go_wp2
       go_ret2
       rw[hpr.out];exact⟨[],rfl,hfin.out _ (hbM.trans (hbN.mono hbM.size))⟩
      |true=>
       have hfine:uE ⟨op,d,f,ot,s,t,lo,hi⟩=true:=by
        unfold uE;rw[HDM.out,hnm,hok,ZJ,Bool.and_true];exact decide_eq_true HEQ.out
       have htk:L.take (k+1)=L.take k++[⟨op,d,f,ot,s,t,lo,hi⟩]:=by
        have hkL:k<L.length:=by rw[hN'.out];exact hlt
        rw[ZK hkL];rw[Zh,Zg hkL] at hmk;rw[<-hmk];rfl
       have HFN:Aside (uE ⟨op,d,f,ot,s,t,lo,hi⟩=true):=hfine;have HA:Aside ((L.take (k+1)).all uE=true):=show _=_ by rw[htk,List.all_append,hall];simp[hfine]
       clear htk hfine;rw[hnm] at kn;have kw:=hC.kw;have ew:=hC.ew;have mw:=hC.mw
       go_wp2_with (go_at_call 79;refine(k79 _).mono ?_;rintro ex w1 ⟨rfl,hb1⟩)
       obtain⟨hq1,hb2⟩:=hQ1 _ _ hb1;have hfin:Aside (∀w',Below w1.drew.heap.size w1.drew w'->Below w.heap.size w w'):=fun w' h=>hb2.trans (((wW w1).trans h).mono hb2.size)
       have hS1:xZ w wr.heap.size op d f ot s t lo hi w1.drew:=(aP hq1 hb2).later (wW w1)
       go_region_held3 (fun W=>xZ w wr.heap.size op d f ot s t lo hi W) (first|exact hS1|exact xZ.later (by assumption) hbN|exact xZ.later (by assumption) hbM) (first|(go_at_fn fd;refine(kd _ (by simp[*])).mono ?_;rintro ex w2 ⟨rfl,hbM⟩)|(go_at_fn fn;refine(kn _ (by simp[*])).mono ?_;rintro ex w3 ⟨rfl,hbN⟩))
       have hB3:=hfin.out _ (hbM.trans (hbN.mono hbM.size));have hown3:=(aQ (aQ hown hb (hQ1b _ _ hb1)) hb2 ((wW w1).trans (hbM.trans (hbN.mono hbM.size))))
       go_wp2_with (first|(go_at_fn fw;refine(kw _ hB3).mono ?_;rintro ex w4 ⟨sw,hsw0,rfl,hb4⟩;have hsw:Aside (sw.length<=1000):=hsw0 HFN.out;clear hsw0;have hown4:=aQ hown3 hB3 hb4)|(at_builtin;refine wpList_append_own_at _ rfl _ _ 51 rfl w.heap.size 9 i0 (.string ⟨#[]⟩) 1 16 Tryz.underlying51 hif hz0 hz1 hz2 rfl (by decide) _ _ _ rfl (hown4.alloc _) ⟨w4.heap.size,0,none⟩ 1 1 [tV sw] rfl rfl (cell_one_new _ _ _) (by intro u hu;rw[ZU.1 hu];rfl) (by unfold maxLen;omega) (by omega) (ZT (hB3.trans (hb4.mono hB3.size)).size (by simp)) ?_;intro v6 w6 hr6 hg6 hnil6 hat6;clear hnil6))
       have hB4:=hB3.trans (hb4.mono hB3.size);have hB5:=hB4.alloc hB4.size (.cells #[tV sw] 9);have hB6:Below w.heap.size w w6:=hB5.grown hg6 hB5.size (fun j hj=>(hown4.lt j hj).1)
       go_roundg (n-(k+1))
       case measure=>omega
       case rel=>exact⟨k+1,by omega,rfl,by go_num,.inr h20,HA.out,⟨Ws++[sw],by rw[Zv,hWl.out];rfl,fun s hs=>(Yg.1 hs).elim (hWb.out s) (fun q=>by rw[ZU.1 q];exact hsw.out),by rw[ZW];exact hr6⟩,hB6⟩
     ·have hdec:decide ((⟨op,d,f,ot,s,t,lo,hi⟩:Dmd)=⟨op2,d2,f2,ot2,s2,t2,lo2,hi2⟩)=false:=decide_eq_false heq
      have hpr:Aside (uL L=false):=aO hmem (.inr (by unfold uE;rw[HDM.out,hdec,ZP,YU]));rw[hdec,Bool.not_false] at hne;clear hdec heq
      go_wp2_with (go_at_call 79;refine(k79 _).mono ?_;rintro ex w1 ⟨rfl,hb1⟩)
      obtain⟨hq1,hb2⟩:=hQ1 _ _ hb1;have hfin:Aside (∀w',Below w1.drew.heap.size w1.drew w'->Below w.heap.size w w'):=fun w' h=>hb2.trans (((wW w1).trans h).mono hb2.size)
      have hS1:xZ w wr.heap.size op d f ot s t lo hi w1.drew:=(aP hq1 hb2).later (wW w1);refine wp_region_held (S:=fun W=>xZ w wr.heap.size op d f ot s t lo hi W) mixed ?_;show wpAnyH _ _ _ _ _ 9 _ _ _;refine wpAnyH_take (S:=fun W=>xZ w wr.heap.size op d f ot s t lo hi W) (i:=0) (v:=.agg #[.int .i64 op,.string ⟨d.toArray⟩,.string ⟨f.toArray⟩,.string ⟨ot.toArray⟩,.string ⟨s.toArray⟩,.string ⟨t.toArray⟩,.int .i64 lo,.int .i64 hi]) rfl (by kernel_rfl) (by kernel_rfl) (by kernel_rfl) (fun c a w h=>h) (.inl ⟨rfl,fun W hS=>?_⟩) hS1 ?_
      ·obtain⟨z0,z1,z2,z3,z4,z5,z6,z7,_⟩:=hS
       go_simp
      simp only[Act.put,ZO,Z2,Z3];refine wpAnyH_take (S:=fun W=>xZ w wr.heap.size op d f ot s t lo hi W) (i:=1) (v:=.iface T (.agg us)) rfl (by kernel_rfl) (by kernel_rfl) (by kernel_rfl) (fun c a w h=>h) (.inl ⟨rfl,fun W hS=>?_⟩) hS1 ?_
      ·obtain⟨z0,z1,z2,z3,z4,z5,z6,z7,_⟩:=hS
       go_simp
      simp only[Act.put,ZO,Z2,Z3];refine wpAnyH_all (rs:=[2]) (by kernel_rfl) (by simp) fun i hiq=>?_
      obtain rfl:=ZU.1 hiq;refine Or.inl (?_:Oper.wp Tryz.prog _ _ _ _ _)
      go_wp2_with (go_at_fn fd;refine(kd _ hS1.2.2.2.2.2.2.2.2).mono ?_;rintro ex w2 ⟨rfl,hbM⟩)
      have hS2:xZ w wr.heap.size op d f ot s t lo hi w2:=hS1.later hbM;refine⟨hS2,?_⟩;refine wpAnyH_take (S:=fun W=>xZ w wr.heap.size op d f ot s t lo hi W) (i:=3) (v:=.bool true) rfl (by kernel_rfl) (by kernel_rfl) (by kernel_rfl) (fun c a w h=>h) (.inl ⟨rfl,fun W hS=>?_⟩) hS2 ?_
      ·obtain⟨z0,z1,z2,z3,z4,z5,z6,z7,_⟩:=hS
       go_simp
      simp only[Act.put,ZO,Z2,Z3];refine wpAnyH_take (S:=fun W=>xZ w wr.heap.size op d f ot s t lo hi W) (i:=4) (v:=.bool true) rfl (by kernel_rfl) (by kernel_rfl) (by kernel_rfl) (fun c a w h=>h) (.inl ⟨rfl,fun W hS=>?_⟩) hS2 ?_
      ·obtain⟨z0,z1,z2,z3,z4,z5,z6,z7,_⟩:=hS
       go_simp
      simp only[Act.put,ZO,Z2,Z3];refine wpAnyH_take (S:=fun W=>xZ w wr.heap.size op d f ot s t lo hi W) (i:=5) (v:=undef) rfl (by kernel_rfl) (by kernel_rfl) (by kernel_rfl) (fun c a w h=>h) (.inr ⟨rfl,rfl⟩) hS2 ?_;simp only[Act.put,ZO,Z2,Z3];refine wpAnyH_take (S:=fun W=>xZ w wr.heap.size op d f ot s t lo hi W) (i:=6) (v:=undef) rfl (by kernel_rfl) (by kernel_rfl) (by kernel_rfl) (fun c a w h=>h) (.inr ⟨rfl,rfl⟩) hS2 ?_;simp only[Act.put,ZO,Z2,Z3];refine wpAnyH_take (S:=fun W=>xZ w wr.heap.size op d f ot s t lo hi W) (i:=7) (v:=undef) rfl (by kernel_rfl) (by kernel_rfl) (by kernel_rfl) (fun c a w h=>h) (.inr ⟨rfl,rfl⟩) hS2 ?_;simp only[Act.put,ZO,Z2,Z3];refine wpAnyH_take (S:=fun W=>xZ w wr.heap.size op d f ot s t lo hi W) (i:=8) (v:=.bool true) rfl (by kernel_rfl) (by kernel_rfl) (by kernel_rfl) (fun c a w h=>h) (.inl ⟨rfl,fun W hS=>?_⟩) hS2 ?_
      ·obtain⟨z0,z1,z2,z3,z4,z5,z6,z7,_⟩:=hS
       go_simp
      simp only[Act.put,ZO,Z2,Z3];refine wpAnyH_done (S:=fun W=>xZ w wr.heap.size op d f ot s t lo hi W) (by kernel_rfl) ?_ _
      go_wp2
      go_ret2
      rw[hpr.out];exact⟨[],rfl,hfin.out _ hbM⟩
    ·exact absurd (show n<=20 by omega) h20
  ·obtain rfl:k=n:=by omega
   have hkl: ¬(k:Int)<k:=by omega
   have htk:L.take k=L:=Z9 (by rw[hN'.out];exact Zt _);rw[htk] at hall;have hfl:uL L=true:=by
    unfold uL;rw[Yi,Zp,decide_eq_true_eq,decide_eq_true_eq];rcases hk0 with h|h
    ·exact .inl (ZZ (by rw[hN'.out];exact h))
    ·exact .inr ⟨by rw[hN'.out];exact h,hall⟩
   have hsum:yY Ws<=Ws.length*1000:=ziG Ws hWb.out;have hk20:k<=8:=hL;have hWk:=hWl.out;have hJ:Aside (Calls Tryz.prog 101 #[u4,.string ⟨#[32]⟩] wr fun e w'=>e=.returned (.string ⟨(joinS [32] Ws).toArray⟩)/\Below wr.heap.size wr w'):=by
    show Calls _ _ _ _ _;refine zn4 w.heap.size u4 Ws wr (by rw[hWk];exact hown) (by omega) (by omega)
   have hXl:=zpy [32] Ws;simp only[Zo,ZG] at hXl;obtain⟨X,hX⟩: ∃X,joinS [32] Ws=X:=⟨_,rfl⟩;rw[hX] at hJ hXl;have hle:X.length<=20000:=by omega
   have hsz:(⟨X.toArray⟩:ByteArray).size=X.length:=by show X.toArray.size=_;simp
   have HFL:Aside (uL L=true):=hfl;clear hown hall htk hfl hsum hX hm hk0 hkn hk20 hp HD hN' hif hz0 hz1 hz2 hG hXl hWk hWl hWb;have hle': ¬(X.length:Int)>20000:=by omega
   go_wp2_with (go_at_call 101;refine Calls.mono hJ.out ?_;rintro e w' ⟨rfl,hb2⟩)
   go_ret2
   rw[HFL.out];exact⟨X,rfl,hb.trans (hb2.mono hb.size)⟩
end Go.Proofs
namespace Go.Proofs
open Go.RowKit Go.Shelf Go.Abs Go.Wd Go.Wire Go.Ex
attribute [local go_sem] Oper.semAt_some
abbrev U8:Type:={x:Nat//x<256}
def aT (x:U8):Array Value:= #[.int .u64 (x.1:Int)]
structure FailAt (L:List Dmd) (D:List Dcm) (b1 b2 b3 b4:Nat) (vl vd vc:Value) (W:World):Prop where
 c1:W.cell? ⟨b1,0,none⟩=some (.int .i64 (xY D:Nat))
 c2:W.cell? ⟨b2,0,none⟩=some vl
 c3:W.cell? ⟨b3,0,none⟩=some vd
 c4:W.cell? ⟨b4,0,none⟩=some vc
 pl:PRep W (zW W) (zC 8 (L.map zQ)) vl
 pd:PRep W (zW W) (zC 2 (D.map zV)) vd
 pc:PRep W (zW W) (zC 1 (zM (cnts D).1)) vc
 gl:yI (base W)
theorem FailAt.later {L:List Dmd} {D:List Dcm} {b1 b2 b3 b4:Nat} {vl vd vc:Value} {W W':World} (h:FailAt L D b1 b2 b3 b4 vl vd vc W) (hb:Below W.heap.size W W'):FailAt L D b1 b2 b3 b4 vl vd vc W':=by
 have k: ∀(b:Nat) v,W.cell? ⟨b,0,none⟩=some v->W'.cell? ⟨b,0,none⟩=some v:=fun b v h0=>(hb.cell (p:=⟨b,0,none⟩) (World.block_lt_of_cell? _ _ h0)).trans h0
 exact⟨k _ _ h.c1,k _ _ h.c2,k _ _ h.c3,k _ _ h.c4,vW h.pl hb,vW h.pd hb,vW h.pc hb,h.gl.later (xM hb)⟩
theorem zn6 {l:List Nat} {j:Nat} (h:j<l.length):wL (l.take (j+1))=wL (l.take j)|||(1<<<l[j]):=by
 unfold wL;rw[ZK h,Xq];rfl
theorem ziH {s t:Nat} (hs:s<256) (ht:t<256):IntKind.u64.wrap ((Yc IntKind.u64.bits (s:Int)|||Yc IntKind.u64.bits (t:Int)).toNat:Int)=((s|||t:Nat):Int):=by
 show IntKind.u64.wrap ((Yc 64 (s:Int)|||Yc 64 (t:Int)).toNat:Int)=_;rw[mG,mG,BitVec.toNat_or,Xv,Xv,Xt (by omega),Xt (by omega)];exact oU (ZM (Nat.or_lt_two_pow (n:=8) hs ht) (by decide))
theorem orK (s x:Nat) (hs:s<2 ^ 8) (hx:x<8):Value.int IntKind.u64 (bits BinOp.or IntKind.u64 (s:Int) (IntKind.u64.wrap (2 ^ x)))=Value.int IntKind.u64 ((s|||1<<<x:Nat):Int):=by
 have h1:=aK x (by omega);have e:min x IntKind.u64.bits=x:=Xx (show x<=64 by omega);rw[e,Int.one_mul] at h1;rw[h1];have h2:1<<<x<256:=by rw[XH];exact(Nat.pow_lt_pow_right (by decide) hx:2 ^ x<2 ^ 8)
 rw[<-ziH hs h2];rfl
abbrev SF (L:List Dmd) (D:List Dcm) (b1 b2 b3 b4:Nat) (vl vd vc:Value) (w wr:World) (Kp:World->World->Prop) (W:World):Prop:=
 W.cell? ⟨b2,0,none⟩=some vl/\W.cell? ⟨b3,0,none⟩=some vd/\W.cell? ⟨b4,0,none⟩=some vc/\FailAt L D b1 b2 b3 b4 vl vd vc W/\Kp w W/\Below wr.heap.size wr W
theorem zn7 (n:Nat) (hn:3<=n) (L:List Dmd) (D:List Dcm) (hL:L.length<=8) (hD:sP D) (hok:CntOk D) (hp: ∀i,i<xY D->vE (rdsD D i)) (b1 b2 b3 b4:Nat) (vl vd vc:Value) (w:World)
  (Kp:World->World->Prop) (hKr:Kp w w) (hKt: ∀A B C,Kp A B->Kp B C->Kp A C) (hKb: ∀A B,Kp w A->Below A.heap.size A B->Kp w B) (hW: ∀W,Kp w W->FailAt L D b1 b2 b3 b4 vl vd vc W):
  bG Fence.wide n Tryz.prog 102 #[.pointer (some ⟨b1,0,none⟩),.pointer (some ⟨b2,0,none⟩),.pointer (some ⟨b3,0,none⟩),.pointer (some ⟨b4,0,none⟩)] aT Kp (fun xs=>xs.map (fun x=>x.1)=yN L D) (xY D) w:=by
 intro l J W hKW hJ hY h0;have h1n:1<=n:=by omega
 have mixed:Tryz.prog.follows Departure.mixedOrders=true:=by kernel_rfl
 have hle:=hok.le;have hlen:(yN L D).length=xY D:=by simp[yN]
 obtain⟨N,hN⟩: ∃N,xY D=N:=⟨_,rfl⟩;have hF0:=hW W hKW;have c1:=hF0.c1;rw[hN] at c1 hle hlen hp hY;have k38: ∀(k:Nat) W',k<N->FailAt L D b1 b2 b3 b4 vl vd vc W'->Calls Tryz.prog 38 #[vd,vc,.int .i64 k] W' fun e W''=> ∃v,e=.returned v/\Below W'.heap.size W' W''/\PRep W'' (zW W'') (zC 3 (vF (rdsD D k))) v:=fun k W' hk h=>
  (c38 D hD hok k (by omega)).listC h.gl (Z:=zW W') (fun _ h=>h) (vH h.pd (vH h.pc (vH (.int .i64 (k:Int)) (xS _ _))))
 have k15: ∀(k:Nat) W' v,k<N->FailAt L D b1 b2 b3 b4 vl vd vc W'->PRep W' (zW W') (zC 3 (vF (rdsD D k))) v->Calls Tryz.prog 15 #[vl,v] W' fun e W''=> ∃p b o cap,e=.returned (.slice p (sR L (rdsD D k)).length cap)/\Below W'.heap.size W' W''/\mH W'' p b o (natI (sR L (rdsD D k))):=fun k W' v hk h hv=>by
  refine((c15 L (rdsD D k) (by omega) (hp k hk)).listC h.gl (Z:=zW W') (fun _ h=>h) (vH h.pl (vH hv (xS _ _)))).mono ?_;rintro e W'' ⟨v2,rfl,hb,hp2⟩;obtain⟨p,b,o,cap,rfl,hi⟩:=aH hp2;rw[uD] at*
  exact⟨p,b,o,cap,rfl,hb,hi⟩
 refine callsIn_of_wp Tryz.func102 rfl trivial ?_ rfl;simp only[Tryz.ntmps102,Yu,Zo,ZG,Zc,YV,YB,YA,YK,YC,Ya,ZS]
 gi_wp2
 gi_loopw [11] (fun q wr=> ∃(k:Nat) (pre:List U8),k<=N/\q=.int .i64 k/\pre.map (fun x=>x.1)=(yN L D).take k/\pre.length=k/\J pre wr/\Kp w wr)
  (fun q wr=>match q with| .int _ z=>N-z.toNat|_=>0)
 case atStart=>exact⟨0,[],ZA _,rfl,rfl,rfl,h0,hKW⟩
 case round=>
  obtain⟨k,pre,hk,rfl,hpre,hpl,hJw,hKp⟩:=hrel;by_cases hlt:k<N
  ·have hlti:(k:Int)<N:=by omega
   have hF:=hW wr hKp;have hS0:SF L D b1 b2 b3 b4 vl vd vc w wr Kp wr.drew:=⟨hF.c2,hF.c3,hF.c4,hF.later (wW wr),hKb _ _ hKp (wW wr),wW wr⟩;have hSl: ∀A B,SF L D b1 b2 b3 b4 vl vd vc w wr Kp A->Below A.heap.size A B->SF L D b1 b2 b3 b4 vl vd vc w wr Kp B:=fun A B hA hb=>⟨(hA.2.2.2.1.later hb).c2,(hA.2.2.2.1.later hb).c3,(hA.2.2.2.1.later hb).c4,hA.2.2.2.1.later hb,hKb _ _ hA.2.2.2.2.1 hb,hA.2.2.2.2.2.trans (hb.mono hA.2.2.2.2.2.size)⟩
   clear hF;have A0:Aside _:=hF0;have A1:Aside _:=hY;have A2:Aside _:=hJ;have A3:Aside _:=hJw;clear hF0 hY hJ hJw h0 hW
   gi_wp2
   refine wpIn_wide.2 ?_
   go_region_held3 (fun W=>SF L D b1 b2 b3 b4 vl vd vc w wr Kp W) (first|exact hS0|exact hSl _ _ (by assumption) hb3|exact hSl _ _ (by assumption) hb2) (first|(go_at_call 15;refine(k15 k _ v18 hlt (by simp[*]) hp2).mono ?_;rintro e w3 ⟨p,b,o,cap,rfl,hb3,hi3⟩)|(go_at_call 38;refine(k38 k _ hlt (by simp[*])).mono ?_;rintro e w2 ⟨v18,rfl,hb2,hp2⟩))
   have hS3:SF L D b1 b2 b3 b4 vl vd vc w wr Kp w3:=by assumption
   have hx8: ∀x∈sR L (rdsD D k),x<8:=fun x hx=>ZM (gF.1 hx).1 hL
   have hm8:(sR L (rdsD D k)).length<=8:=ZT (YF _ _) (by simpa using hL);have HX:Aside ((yN L D).take (k+1)=(yN L D).take k++[wL (sR L (rdsD D k))]):=show _=_ by
    rw[ZK (by rw[hlen];exact hlt)];simp[yN]
   obtain⟨hi4,hi5⟩:=hi3;rw[uD] at hi4 hi5;have B3:Aside _:=hS3.2.2.2.2.1;have B4:Aside _:=hS3.2.2.2.2.2;obtain⟨F,hFe⟩: ∃F,sR L (rdsD D k)=F:=⟨_,rfl⟩;rw[hFe] at hx8 hm8 HX hi4 hi5;rw[hFe];have HI:Aside (∀j,j<F.length->w3.cell? ⟨b,o+j,none⟩=some (.int .i64 ((natI F).getD j 0))):=hi5;obtain⟨m,hm⟩: ∃m,F.length=m:=⟨_,rfl⟩;have HM:Aside (F.length=m):=hm;rw[hm] at hm8 hi4⊢;clear hi5 hS3 hp2 hFe hm k15 k38 hS0 hSl
   gi_wp2
   gi_loopw [7,21] (fun s q w5=> ∃j:Nat,j<=m/\q=.int .i64 j/\s=.int .u64 (wL (F.take j):Nat)/\w5=w3)
    (fun s q w5=>match q with| .int _ z=>m-z.toNat|_=>0)
   case atStart=>exact⟨0,ZA _,rfl,rfl,rfl⟩
   case round=>
    obtain⟨j,hj,rfl,rfl,rfl⟩:=hrel;by_cases hjm:j<m
    ·have hjF:j<F.length:=by rw[HM.out];exact hjm
     have hcj:=HI.out j hjF;have hgd:(natI F).getD j 0=(F[j]:Int):=by simp[natI,List.getD,hjF]
     rw[hgd] at hcj;obtain rfl:=hi4 (by omega);have hjmi:(j:Int)<m:=by omega
     have HT:Aside (wL (F.take (j+1))=wL (F.take j)|||(1<<<F[j])):=zn6 hjF;have hxj:=hx8 _ (Zx hjF);have hs8:wL (F.take j)<2 ^ 8:=gH fun q hq=>hx8 q (Xy hq)
     obtain⟨x,hx⟩: ∃x,F[j]=x:=⟨_,rfl⟩;obtain⟨s,hs⟩: ∃s,wL (F.take j)=s:=⟨_,rfl⟩;rw[hx] at hcj HT hxj;rw[hs] at HT hs8⊢;clear hx hs hgd hjF hx8
     gi_wp2
     refine⟨⟨j+1,hjm,by rw[Int.natCast_add];rfl,?_,trivial⟩,by simp only[];omega⟩;rw[HT.out,orK s x hs8 hxj]
    ·obtain rfl:j=m:=by omega
     have htk:F.take j=F:=Z9 (by rw[HM.out];exact Zt _);rw[htk];have hjj: ¬(j:Int)<j:=by omega
     have hF8:wL F<256:=gH (m:=8) fun q hq=>hx8 q hq
     obtain⟨fn,tmps,assign,body,hy,hR⟩:=A1.out pre ⟨wL F,hF8⟩ wr (A2.out _ _ _ A3.out B4.out) (by rw[hpl];exact hlt);simp only[aT] at hy;clear hx8
     gi_wp2
     refine hR.mono ?_;rintro e W3 ⟨rfl,hJ3,hk3⟩
     gi_wp2
     refine⟨⟨k+1,pre++[⟨wL F,hF8⟩],hlt,by rw[Int.natCast_add];rfl,by rw[HX.out,ZW,hpre];rfl,by rw[Zv,hpl];rfl,hJ3,hKt _ _ _ B3.out hk3⟩,by simp only[];omega⟩
  ·obtain rfl:k=N:=by omega
   have hkk: ¬(k:Int)<k:=by omega
   have hall:pre.map (fun x=>x.1)=yN L D:=by rw[hpre,Z9 (by omega)]
   clear k38 k15 hW hY hJ
   gi_wp2
   go_end0
   exact⟨⟨_,rfl⟩,pre,hall,hJw⟩
end Go.Proofs
namespace Go.Ex
theorem ziI (x:Nat): ∀(F acc:List Nat),xC (F++[x]) acc=if x∈xC F acc then xC F acc else xC F acc++[x]
 |[],acc=>rfl
 |f::F,acc=>by rw[ZS,xC,xC,ziI x F]
theorem aU (F acc:List Nat):(xC F acc).length<=F.length+acc.length:=by
 induction F generalizing acc with
 |nil=>simp[xC]
 |cons f F ih=>
  rw[xC];refine ZT (ih _) ?_;split<;>simp<;>omega
end Go.Ex
namespace Go.Proofs
open Go.RowKit Go.Shelf Go.Abs Go.Wd Go.Wire Go.Ex Go.Maps Go.ChangeMaps
def wS (W:World) (mb:Nat) (S:List Nat) (m:Nat):Prop:= ∃D:DataW Unit,W.ownsMap Tryz.prog 71 (plainElem Tryz.prog 4) mb m D/\IsMap D/\ ∀x:Nat,x<256->D.atKey (.int .u64 (x:Int)) (.lit (.bool false))=.lit (.bool (decide (x∈S)))
theorem ziJ:Keyed Tryz.prog 71:=int_keyed Tryz.underlying71
theorem wfU (x:Nat) (h:x<256):(Lit.int .u64 (x:Int)).wf=true:=by
 have:IntKind.u64.wrap (x:Int)=x:=oU (by omega);have e1:IntKind.u64.min=0:=by decide
 have e2:IntKind.u64.max=18446744073709551615:=by decide
 simp[Lit.wf,this];rw[e1,e2];omega
theorem ziK (x:Nat) (h:x<256):keyOf Tryz.prog 71 (.int .u64 (x:Int))=some (.int .u64 (x:Int)):=keyOf_int_mk Tryz.underlying71 (wfU x h)
theorem wS.made (w:World):wS (w.alloc (.map #[] 0)) w.heap.size [] 0:=⟨.map [],World.ownsMap_made _ _ _ _,⟨[],rfl⟩,fun x _=>by simp;rfl⟩
theorem wS.kept {W W':World} {mb m:Nat} {S:List Nat} {row:Option Nat} (h:wS W mb S m) (hg:W.grownBy W' row) (hne:some mb≠row):wS W' mb S m:=by
 obtain⟨D,h1,h2,h3⟩:=h;exact⟨D,h1.kept hg hne,h2,h3⟩
theorem wS.setCell {W:World} {mb m:Nat} {S:List Nat} (h:wS W mb S m) {a:Addr} (ha:mb≠a.block) (u:Value):wS (W.setCell a u) mb S m:=by
 obtain⟨D,h1,h2,h3⟩:=h;exact⟨D,h1.setCell ha u,h2,h3⟩
theorem wS.lt {W:World} {mb m:Nat} {S:List Nat} (h:wS W mb S m):mb<W.heap.size:=by
 obtain⟨D,h1,_⟩:=h;exact h1.lt
theorem wS.look {W:World} {mb m:Nat} {S:List Nat} (h:wS W mb S m) {x:Nat} (hx:x<256):(Instr.lookup 115 (.map (some mb)) (.int .u64 (x:Int)) false).run Tryz.prog W=.ok (.bool (decide (x∈S))) W:=by
 obtain⟨D,h1,h2,h3⟩:=h;have hz:(zeroValue 4).run Tryz.prog W=.ok (.bool false) W:=by kernel_rfl
 obtain⟨v,ps,hr,hv⟩:=h1.lookup ziJ Tryz.underlying115 hz (plainElem_bool Tryz.underlying4 false) (ziK x hx);rw[h3 x hx] at hv;unfold plainElem at hv;rw[Tryz.underlying4] at hv;cases v<;>simp at hv
 rw[hr,hv.1]
theorem wS.put {W:World} {mb m:Nat} {S:List Nat} (h:wS W mb S m) (hm:m<maxLen) {x:Nat} (hx:x<256): ∃W',(Instr.mapUpdate 115 (.map (some mb)) (.int .u64 (x:Int)) (.bool true)).run Tryz.prog W=.ok () W'/\wS W' mb (S++[x]) (m+1)/\W.grownBy W' (some mb):=by
 obtain⟨D,h1,h2,h3⟩:=h;obtain⟨W',hr,ho,hg⟩:=h1.update ziJ Tryz.underlying115 hm (ziK x hx) (plainElem_bool Tryz.underlying4 true);refine⟨W',hr,⟨_,ho,h2.put _ _,fun y hy=>?_⟩,hg⟩;by_cases e:y=x
 ·subst e
  rw[atKey_put_same h2 (show WideAt.IsKeyLit (.int .u64 (y:Int)) from trivial)];simp
 ·rw[atKey_put_other (fun q=>e (by injection q with _ q;omega)),h3 y hy]
  simp[e]
structure LkI (n0:Nat) (w W0:World) (N bv bs bm mb:Nat) (pre:List U8) (W:World):Prop where
 v: ∃vs:Value,W.heap[bv]?=some (.cells #[vs,.int .u64 ((pre.map fun x=>x.1).foldl (· &&& ·) n0:Nat),.int .u64 0] 73 (0,0))/\W.ownsRow N 71 1 vs (xC (pre.map fun x=>x.1) []).length ((xC (pre.map fun x=>x.1) []).map fun(s:Nat)=>Value.int .u64 (s:Int))
 s:W.heap[bs]?=some (.cells #[.int .u64 ((pre.map fun x=>x.1).foldl (· ||| ·) 0:Nat)] 71 (0,0))
 m:W.heap[bm]?=some (.cells #[.map (some mb)] 115 (0,0))
 mp:wS W mb (xC (pre.map fun x=>x.1) []) pre.length
 kp:KpR N bv bs mb W0 W
 bl:Below w.heap.size w W
theorem ziL {W:World} {base e k:Nat} {v:Value} {xs:List Value} (h:W.ownsRow base e 1 v k xs) {g:Nat} (hg:v.ownBlock=some g): ∃cur,W.heap[g]?=some (.cells cur e (0,0))/\base<=g:=by
 rcases h with⟨_,⟨hv,_⟩|⟨g2,cap,cur,hv,hb,hh,_⟩⟩
 ·subst hv;simp[Value.ownBlock] at hg
 ·subst hv
  simp[Value.ownBlock] at hg;subst hg;exact⟨cur,hh,hb⟩
theorem LkI.own {n0:Nat} {w W0:World} {N bv bs bm mb:Nat} (hv:bv<N) (hs:bs<N) (hm:bm<N) (hmb:mb<N) (hw:w.heap.size<=N) (hW:N<=W0.heap.size):OwnFrom N (LkI n0 w W0 N bv bs bm mb):=by
 rintro pre A B row ⟨⟨vs,k1,k2⟩,k3,k4,k5,k6,k7⟩ hg hr;have hsz:N<=A.heap.size:=ZT hW k6.1;have hb: ∀j,j<N->B.heap[j]?=A.heap[j]?:=fun j hj=>hg.block j (by omega) (fun e=>by have:=(hr j e.symm).1;omega)
 refine⟨⟨vs,(hb _ hv).trans k1,k2.kept hg ?_⟩,(hb _ hs).trans k3,(hb _ hm).trans k4,k5.kept hg (fun e=>by have:=(hr mb e.symm).1;omega),k6.trans (KpR.grown hsz hg fun r e=>(hr r e).1),k7.grown hg (ZT hw hsz) fun r e=>by have:=(hr r e).1;omega⟩;cases q:vs.ownBlock with
 |none=>exact .inl rfl
 |some g=>
  right;intro e;obtain⟨cur,hc,_⟩:=ziL k2 q;obtain⟨_,o,ho,hno⟩:=hr g e.symm;rw[hc] at ho;cases ho;cases hno
theorem ziM {n0:Nat} {w W0:World} {N bv bs bm mb:Nat} {pre:List U8} {W W3:World} {vs:Value} {x:U8} (h:LkI n0 w W0 N bv bs bm mb pre W) (nv:bv<N) (ns:bs<N) (nm:mb<N) (nb:bm<N) (d1:bv≠bs) (d2:bv≠mb) (d3:bs≠mb) (d4:bm≠bv) (d5:bm≠bs) (gv:w.heap.size<=bv) (gs:w.heap.size<=bs) (hN:N<=W.heap.size)
  (hv:W3.heap[bv]?=some (.cells #[vs,.int .u64 ((pre.map fun x=>x.1).foldl (· &&& ·) n0:Nat),.int .u64 0] 73 (0,0))) (hs:W3.heap[bs]?=W.heap[bs]?) (hm:W3.heap[bm]?=W.heap[bm]?)
  (hr:W3.ownsRow N 71 1 vs (xC ((pre++[x]).map fun x=>x.1) []).length ((xC ((pre++[x]).map fun x=>x.1) []).map fun(s:Nat)=>Value.int .u64 (s:Int))) (hp:wS W3 mb (xC ((pre++[x]).map fun x=>x.1) []) (pre.length+1))
  (kp:KpR N bv bs mb W W3) (bl:Below w.heap.size w W3) (kf:KeepsFrom N W W3) (a b:Nat) (ha:a=((pre++[x]).map fun x=>x.1).foldl (· &&& ·) n0) (hb:b=((pre++[x]).map fun x=>x.1).foldl (· ||| ·) 0):
  KeepsFrom N W ((W3.setCell ⟨bv,1,none⟩ (.int .u64 (a:Int))).setCell ⟨bs,0,none⟩ (.int .u64 (b:Int)))/\KpR N bv bs mb W ((W3.setCell ⟨bv,1,none⟩ (.int .u64 (a:Int))).setCell ⟨bs,0,none⟩ (.int .u64 (b:Int)))/\LkI n0 w W0 N bv bs bm mb (pre++[x]) ((W3.setCell ⟨bv,1,none⟩ (.int .u64 (a:Int))).setCell ⟨bs,0,none⟩ (.int .u64 (b:Int))):=by
 subst ha hb;have e1:=vO W3 bv 1 _ 73 (0,0) (.int .u64 (((pre++[x]).map fun x=>x.1).foldl (· &&& ·) n0:Nat)) hv;obtain⟨X,hX⟩: ∃X,W3.setCell ⟨bv,1,none⟩ (.int .u64 (((pre++[x]).map fun x=>x.1).foldl (· &&& ·) n0:Nat))=X:=⟨_,rfl⟩;have oX: ∀j,j≠bv->X.heap[j]?=W3.heap[j]?:=fun j hj=>by rw[<-hX];exact uB _ _ _ _ hj
 have szX:X.heap.size=W3.heap.size:=by rw[<-hX];simp
 have rX:X.ownsRow N 71 1 vs (xC ((pre++[x]).map fun x=>x.1) []).length ((xC ((pre++[x]).map fun x=>x.1) []).map fun(s:Nat)=>Value.int .u64 (s:Int)):=by rw[<-hX];exact ownsRow_setCell_below hr nv _
 have pX:wS X mb (xC ((pre++[x]).map fun x=>x.1) []) (pre.length+1):=by rw[<-hX];exact hp.setCell (fun e=>d2 e.symm) _
 have bX:Below w.heap.size w X:=by rw[<-hX];exact bl.setCell (p:=⟨bv,1,none⟩) gv _
 rw[hX] at e1⊢;have hsX:X.heap[bs]?=some (.cells #[.int .u64 ((pre.map fun x=>x.1).foldl (· ||| ·) 0:Nat)] 71 (0,0)):=(oX bs (Ne.symm d1)).trans (hs.trans h.s);have e2:=vO X bs 0 _ 71 (0,0) (.int .u64 (((pre++[x]).map fun x=>x.1).foldl (· ||| ·) 0:Nat)) hsX;have oY: ∀j,j≠bs->(X.setCell ⟨bs,0,none⟩ (.int .u64 (((pre++[x]).map fun x=>x.1).foldl (· ||| ·) 0:Nat))).heap[j]?=X.heap[j]?:=fun j hj=>uB _ _ _ _ hj
 have rY:=ownsRow_setCell_below rX (a:=⟨bs,0,none⟩) ns (.int .u64 (((pre++[x]).map fun x=>x.1).foldl (· ||| ·) 0:Nat));have pY:=pX.setCell (a:=⟨bs,0,none⟩) (fun e=>d3 e.symm) (.int .u64 (((pre++[x]).map fun x=>x.1).foldl (· ||| ·) 0:Nat));have bY:=bX.setCell (p:=⟨bs,0,none⟩) gs (.int .u64 (((pre++[x]).map fun x=>x.1).foldl (· ||| ·) 0:Nat));have szY:(X.setCell ⟨bs,0,none⟩ (.int .u64 (((pre++[x]).map fun x=>x.1).foldl (· ||| ·) 0:Nat))).heap.size=W3.heap.size:=by simp[szX]
 generalize X.setCell ⟨bs,0,none⟩ (.int .u64 (((pre++[x]).map fun x=>x.1).foldl (· ||| ·) 0:Nat))=Y at e2 oY rY pY bY szY⊢;have oW: ∀j,j≠bv->j≠bs->Y.heap[j]?=W3.heap[j]?:=fun j h1 h2=>(oY j h2).trans (oX j h1)
 have kY:KpR N bv bs mb W Y:=⟨by have:=kp.1;omega,fun j hj h1 h2 h3=>(oW j h1 h2).trans (kp.2 j hj h1 h2 h3)⟩;refine⟨⟨by have:=kf.size;omega,fun j o hj ho hc=>(oW j (by omega) (by omega)).trans (kf.same j o hj ho hc)⟩,kY,⟨⟨vs,(oY bv d1).trans e1,rY⟩,e2,((oW bm d4 d5).trans hm).trans h.m,by rw[Zv];exact pY,h.kp.trans kY,bY⟩⟩
end Go.Proofs
namespace Go.Abs
open Go.Proofs Go.RowKit Go.Lib Go.Wd Go.Wire Go.Ex
theorem Spec.list2C {P:Program} {f:FuncId} {xs:List V} {c:C} {k k':IntKind} {n m:Int} (h:Spec P f xs (fun r'=>r'=.tup [.k (.c c),.int k n,.int k' m])) {W:World} (hG:yI (base W)) {Z:Bk->Prop} (hz: ∀b,Z b->b.2<W.heap.size) {vs:Array Value} (ha:wH W Z xs vs.toList):
  Calls P f vs W fun e W'=> ∃v,e=.returned (.tuple #[v,.int k n,.int k' m])/\Below W.heap.size W W'/\PRep W' (zW W') c v:=by
 refine(h.2 W Z vs hG hz ha).mono ?_;rintro e w' ⟨v,r',rfl,rfl,_,hrep⟩;obtain⟨κ,hi⟩:=hrep 0;have h0:=hi.tmps 0;obtain⟨us,hu,hl,hv⟩:=h0;have hu':v=.tuple us:=hu;subst hu';obtain⟨l⟩:=us
 match l,hl,hv with
 |[x,y,z],_,hv=>
  have h1:=vB hv.2.1.2;have h2:=vB hv.2.2.1.2;subst h1 h2;exact⟨x,rfl,iU hi.kept,(show PRep w' _ c x from hv.1.2).mono (fun _ _=>rfl) fun b hb=>hb.2.1⟩
theorem ziN (L:List Dmd):Plain 8 (L.map zQ):=by
 refine⟨by decide,fun r hr=>?_,fun r hr c hc=>?_⟩
 ·obtain⟨m,_,rfl⟩:=ZB.1 hr;rfl
 ·obtain⟨m,_,rfl⟩:=ZB.1 hr
  exact zh4 m c hc
end Go.Abs
namespace Go.Proofs
open Go.RowKit Go.Shelf Go.Abs Go.Wd Go.Wire Go.Ex Go.Maps Go.ChangeMaps
theorem ziO {w:World} {Z:Bk->Prop} {L:List Dmd} {v:Value} (h:PRep w Z (zC 8 (L.map zQ)) v): ∃p b o cap,v=.slice p L.length cap/\kH w L p b o:=by
 obtain⟨p,cap,rfl,hq,_⟩:=(ziN L).slice h;rw[Zi] at hq;by_cases h0:L.length=0
 ·refine⟨p,0,0,cap,by rw[Zi],fun hk=>absurd h0 (by omega),fun k hk=>absurd hk (by omega)⟩
 ·obtain⟨b,o,rfl,hc⟩:=hq (by omega)
  have hcell: ∀k,k<L.length-> ∀j u,(dmV (L.getD k yZ))[j]?=some u->w.cell? ⟨b,o+k*8+j,none⟩=some u:=by
   intro k hk j u hu;have hr:(L.map zQ)[k]?=some (zQ L[k]):=by simp[hk]
   have hg:L.getD k yZ=L[k]:=by rw[Zh,Zg hk];rfl
   rw[hg] at hu;unfold dmV at hu;rw[Y3,Zw] at hu;obtain⟨c,hc1,rfl⟩:=Zd.1 hu;have:=((ziN L).at hr hc1).1;have:=hc _ _ this
   rwa [<-YO] at this
  refine⟨_,b,o,cap,by rw[Zi],fun _=>⟨rfl,?_⟩,hcell⟩;exact World.block_lt_of_cell? _ _ (hcell 0 (by omega) 0 _ rfl)
theorem zn8 (L:List Dmd) (hL:L.length<=8) (hm: ∀m∈L,DmdS m) (w:World) (hG:yI (base w)) (v:Value) {Z:Bk->Prop} (h:PRep w Z (zC 8 (L.map zQ)) v):
  Calls Tryz.prog 63 #[v] w fun e w'=> ∃X:Txt,e=.returned (.tuple #[.string ⟨X.toArray⟩,.bool (uL L)])/\Below w.heap.size w w':=by
 obtain⟨p,b,o,cap,rfl,hD⟩:=ziO h;exact zn5 L hL hm w hG p cap b o hD
theorem zn9 (vl vd vc:Value) (n:Int) (w:World) (h1:vl.oneCell'=true) (h2:vd.oneCell'=true) (h3:vc.oneCell'=true):Calls Tryz.prog 64 #[vl,vd,vc,.int .i64 n] w fun e w'=>e=.returned (.func (.func 102) #[] #[.pointer (some ⟨w.heap.size+1+1+1,0,none⟩),.pointer (some ⟨w.heap.size,0,none⟩),.pointer (some ⟨w.heap.size+1,0,none⟩),.pointer (some ⟨w.heap.size+1+1,0,none⟩)])/\
   w'=(((w.alloc (.cells #[vl] 22)).alloc (.cells #[vd] 23)).alloc (.cells #[vc] 30)).alloc (.cells #[.int .i64 n] 3):=by
 go_enter Tryz.func64,Tryz.ntmps64
 go_wp2
 go_ret
 exact⟨rfl,rfl⟩
theorem zoa {s t:Nat} (hs:s<256) (ht:t<256):bits BinOp.and IntKind.u64 (s:Int) (t:Int)=((s&&&t:Nat):Int):=kD (s:=s) (t:=t) (by omega) (by omega)
theorem zob {s t:Nat} (hs:s<256) (ht:t<256):bits BinOp.or IntKind.u64 (s:Int) (t:Int)=((s|||t:Nat):Int):=ziH hs ht
theorem zoc {s t:Nat} (hs:s<256):bits BinOp.andNot IntKind.u64 (s:Int) (t:Int)=((andN s t:Nat):Int):=zit (s:=s) (t:=t) (by omega)
end Go.Proofs
namespace Go.Ex
open Go.Lib Go.Wd Go.Wire Go.Abs
def lookE (L:List Dmd) (D:List Dcm):Int:=if uL L=true then(cnts D).2.2 else 2
end Go.Ex
namespace Go.Proofs
open Go.RowKit Go.Shelf Go.Abs Go.Wd Go.Wire Go.Ex Go.Maps Go.ChangeMaps
attribute [local go_sem] Oper.semAt_some
theorem aV {W:World} {b t:Nat} {x y z:Value} (h:W.heap[b]?=some (.cells #[x,y,z] t (0,0))) (a c d:Value):(((W.setCell ⟨b,0,none⟩ a).setCell ⟨b,1,none⟩ c).setCell ⟨b,2,none⟩ d).heap[b]?=some (.cells #[a,c,d] t (0,0)):=
 vO _ b 2 _ t (0,0) d (vO _ b 1 _ t (0,0) c (vO W b 0 _ t (0,0) a h))
theorem zod {n:Nat} (hn:n<=8):IntKind.u64.wrap (IntKind.u64.wrap (2 ^ n)-1)=((2 ^ n-1:Nat):Int):=by
 have key: ∀n:Fin 9,IntKind.u64.wrap (IntKind.u64.wrap (2 ^ n.1)-1)=((2 ^ n.1-1:Nat):Int):=by decide
 exact key ⟨n,by omega⟩
theorem ziP {W:World} {j:Nat} {o:Obj} (h:W.heap[j]?=some o):j<W.heap.size:=(Zn.1 h).1
theorem zoe (w:World) (o0 o1 o2 o3 o4 o5 o6 o7:Obj):((((((((w.alloc o0).alloc o1).alloc o2).alloc o3).alloc o4).alloc o5).alloc o6).alloc o7).heap.size=w.heap.size+8/\Below w.heap.size w ((((((((w.alloc o0).alloc o1).alloc o2).alloc o3).alloc o4).alloc o5).alloc o6).alloc o7)/\
  ((((((((w.alloc o0).alloc o1).alloc o2).alloc o3).alloc o4).alloc o5).alloc o6).alloc o7).heap[w.heap.size]?=some o0/\((((((((w.alloc o0).alloc o1).alloc o2).alloc o3).alloc o4).alloc o5).alloc o6).alloc o7).heap[w.heap.size+1]?=some o1/\((((((((w.alloc o0).alloc o1).alloc o2).alloc o3).alloc o4).alloc o5).alloc o6).alloc o7).heap[w.heap.size+1+1]?=some o2/\((((((((w.alloc o0).alloc o1).alloc o2).alloc o3).alloc o4).alloc o5).alloc o6).alloc o7).heap[w.heap.size+1+1+1]?=some o3/\
  ((((((((w.alloc o0).alloc o1).alloc o2).alloc o3).alloc o4).alloc o5).alloc o6).alloc o7).heap[w.heap.size+1+1+1+1]?=some o4/\((((((((w.alloc o0).alloc o1).alloc o2).alloc o3).alloc o4).alloc o5).alloc o6).alloc o7).heap[w.heap.size+1+1+1+1+1]?=some o5/\((((((((w.alloc o0).alloc o1).alloc o2).alloc o3).alloc o4).alloc o5).alloc o6).alloc o7).heap[w.heap.size+1+1+1+1+1+1]?=some o6/\((((((((w.alloc o0).alloc o1).alloc o2).alloc o3).alloc o4).alloc o5).alloc o6).alloc o7).heap[w.heap.size+1+1+1+1+1+1+1]?=some o7:=by
 have h:((((((((w.alloc o0).alloc o1).alloc o2).alloc o3).alloc o4).alloc o5).alloc o6).alloc o7).heap=(((((((w.heap.push o0).push o1).push o2).push o3).push o4).push o5).push o6).push o7:=rfl;have hs:(((((((w.heap.push o0).push o1).push o2).push o3).push o4).push o5).push o6).push o7=w.heap++ #[o0,o1,o2,o3,o4,o5,o6,o7]:=by
  apply XK;simp only[Array.toList_push,Array.toList_append,Yd,ZS,Ya]
 rw[h,hs];refine⟨by simp,⟨rfl,rfl,rfl,by rw[h,hs,Array.size_append];exact Nat.le_add_right _ _,fun k hk=>by rw[h,hs,YT hk]⟩,?_,?_,?_,?_,?_,?_,?_,?_⟩
 all_goals (rw[Array.getElem?_append_right (by omega)];simp[YO])
theorem zof {w W:World} (h:yI (base w)) (h1:w.heap.size<=W.heap.size) (h2: ∀j,j<w.heap.size->W.heap[j]?=w.heap[j]?):yI (base W):=by
 refine⟨fun g l hg=>?_,fun g p hg=>?_⟩
 ·obtain⟨h3,h4⟩:=h.1 g l hg
  refine⟨ZM h3 h1,fun j hj=>?_⟩;show W.cell? _=_;rw[World.cell?_of_block (w:=w) (a:=⟨g,j,none⟩) (h2 g h3)];exact h4 j hj
 ·obtain⟨h3,b,h4,h5⟩:=h.2 g p hg
  exact⟨ZM h3 h1,b,(h2 g h3).trans h4,h5⟩
theorem zog (L:List Dmd) (D:List Dcm) (hL:L.length<=8) (hm: ∀m∈L,DmdS m) (hD:sP D) (hp:(cnts D).2.2=0-> ∀i,i<xY D->vE (rdsD D i)) (w:World) (hG:yI (base w)) (vl vd:Value) (hl:PRep w (zW w) (zC 8 (L.map zQ)) vl) (hd:PRep w (zW w) (zC 2 (D.map zV)) vd):
  Calls Tryz.prog 32 #[vl,vd] w fun e w'=>(lookE L D≠0/\e=.returned (.tuple #[.agg #[.slice none 0 0,.int .u64 0,.int .u64 0],.int .i64 (lookE L D)])/\Below w.heap.size w w')\/
   (lookE L D=0/\ ∃vs,e=.returned (.tuple #[.agg #[vs,.int .u64 ((viewD L D).never:Nat),.int .u64 ((viewD L D).doubt:Nat)],.int .i64 0])/\Below w.heap.size w w'/\w'.ownsRow w.heap.size 71 1 vs (viewD L D).sets.length ((viewD L D).sets.map fun(s:Nat)=>Value.int .u64 (s:Int))):=by
 refine(callsIn_wide (n:=8)).1 ?_;have hn1:1<=8:=by decide
 have ol:=hl.oneCell;have od:=hd.oneCell;obtain⟨p,_,_,cap,rfl,_⟩:=ziO hl;obtain⟨n,hN⟩: ∃n,L.length=n:=⟨_,rfl⟩;have hN':Aside (L.length=n):=hN;rw[hN] at hL hl ol⊢;have k63: ∀W,Below w.heap.size w W->Calls Tryz.prog 63 #[.slice p n cap] W fun e W'=> ∃X:Txt,e=.returned (.tuple #[.string ⟨X.toArray⟩,.bool (uL L)])/\Below W.heap.size W W':=fun W hb=>zn8 L (by rw[hN];omega) hm W (hG.later (xM hb)) _ (vW hl hb)
 have k37: ∀W,Below w.heap.size w W->Calls Tryz.prog 37 #[vd] W fun e W'=> ∃v,e=.returned (.tuple #[v,.int .i64 (cnts D).2.1,.int .i64 (cnts D).2.2])/\Below W.heap.size W W'/\PRep W' (zW W') (zC 1 (zM (cnts D).1)) v:=fun W hb=>(c37 D hD).list2C (hG.later (xM hb)) (Z:=zW W) (fun _ h=>h) (vH (vW hd hb) (xS _ _))
 have hB0: ∀a,Below w.heap.size w (w.alloc a):=fun a=>(Below.refl _ w).alloc (Zt _) _
 have hE:lookE L D=if uL L=true then(cnts D).2.2 else 2:=rfl
 obtain⟨x2,hX⟩: ∃X,uL L=X:=⟨_,rfl⟩;clear hN;have A1:Aside _:=hl;have A2:Aside _:=hd;have A3:Aside _:=hp;have A4:Aside (yI (base w)):=hG;clear hl hd hp hG hm;rw[hX] at k63 hE;cases x2 with
 |false=>
  rw[if_neg (by simp)] at hE;rw[hE];refine callsIn_of_wp_marks Tryz.func32 rfl trivial ?_;simp only[Tryz.ntmps32,Yu,Zo,ZG,Zc,YV,YB,YA,YK,YC,Ya,ZS]
  gi_wp2_with (refine⟨trivial,?_⟩;gi_at_call 63;refine(callsIn_wide.2 (k63 _ (hB0 _))).mono ?_;rintro e w1 ⟨x1,rfl,hb1⟩;have q4:=(hb1.block w.heap.size (by simp only[World.size_alloc];omega)).trans (World.alloc_heap_new w _);obtain⟨c40,c41,c42⟩:=uC q4;have e7: ∀j,w1.frozen? ⟨w.heap.size,j,none⟩=false:=(fun j=>by simp[World.frozen?,q4]);have e8:=e7 0;have e9:=e7 1;have e10:=e7 2;have hB1:=(hB0 (.cells #[.slice none 0 0,.int .u64 0,.int .u64 0] 73)).trans (hb1.mono (hB0 _).size))
  refine⟨_,oR rfl _ _ rfl (aV q4 _ _ _) Tryz.underlying73 (by kernel_rfl),.inl ⟨by decide,rfl,((hB1.setCell (p:=⟨w.heap.size,0,none⟩) (Zt _) _).setCell (p:=⟨w.heap.size,1,none⟩) (Zt _) _).setCell (p:=⟨w.heap.size,2,none⟩) (Zt _) _⟩⟩
 |true=>
  rw[if_pos rfl] at hE;by_cases h0:(cnts D).2.2=0
  ·rw[h0] at hE k37
   rw[hE];have hok:=rM h0;have hmm:=@run_makeMap Tryz.prog;have hnn:=hok.n;obtain⟨n0,hn0,hn0e⟩: ∃n0:Nat,IntKind.u64.wrap (IntKind.u64.wrap (2 ^ n)-1)=(n0:Int)/\Aside (n0=2 ^ n-1):=⟨2 ^ n-1,zod hL,rfl⟩;obtain⟨M,hM⟩: ∃M,xY D=M:=⟨_,rfl⟩;have hM':Aside (xY D=M):=hM;rw[hM] at hnn;rw[hnn] at k37;have k64:=fun vc W h=>zn9 (.slice p n cap) vd vc (M:Int) W ol od h
   clear hnn hM;refine callsIn_of_wp_marks Tryz.func32 rfl trivial ?_;simp only[Tryz.ntmps32,Yu,Zo,ZG,Zc,YV,YB,YA,YK,YC,Ya,ZS]
   gi_wp2_with (first|(refine⟨trivial,?_⟩;gi_at_call 64;refine(callsIn_wide.2 (k64 vc _ hpc.oneCell)).mono ?_;rintro e w3 ⟨rfl,hw3⟩)|(refine⟨trivial,?_⟩;gi_at_call 63;refine(callsIn_wide.2 (k63 _ (hB0 _))).mono ?_;rintro e w1 ⟨x1,rfl,hb1⟩;have hB1:=(hB0 (.cells #[.slice none 0 0,.int .u64 0,.int .u64 0] 73)).trans (hb1.mono (hB0 _).size);have q4:=(hb1.block w.heap.size (by simp only[World.size_alloc];omega)).trans (World.alloc_heap_new w _))|(refine⟨trivial,?_⟩;gi_at_call 37;refine(callsIn_wide.2 (k37 _ hB1)).mono ?_;rintro e w2 ⟨vc,rfl,hb2,hpc⟩;have q5:=(hb2.block w.heap.size (xV q4)).trans q4;obtain⟨c40,c41,c42⟩:=uC q5;have e7: ∀j,w2.frozen? ⟨w.heap.size,j,none⟩=false:=(fun j=>by simp[World.frozen?,q5]);have e8:=e7 0;have e9:=e7 1;have e10:=e7 2;have hB2:=hB1.trans (hb2.mono hB1.size)))
   have hal:=zoe w2 (.cells #[.slice none 0 0,.int .u64 (n0:Int),.int .u64 0] 73) (.map #[] 0) (.cells #[.map (some (w2.heap.size+1))] 115) (.cells #[.int .u64 0] 71) (.cells #[.slice p n cap] 22) (.cells #[vd] 23) (.cells #[vc] 30) (.cells #[.int .i64 (M:Int)] 3);rw[<-hw3] at hal⊢;obtain⟨hsz,hb23,a0,a1,a2,a3,a4,a5,a6,a7⟩:=hal;have hmp:wS w3 (w2.heap.size+1) [] 0:=by
    rw[hw3];have hmd:=wS.made (w2.alloc (.cells #[.slice none 0 0,.int .u64 (n0:Int),.int .u64 0] 73));rw[World.size_alloc] at hmd;exact(((((hmd.kept (World.grownBy_alloc _ _ none) (by simp)).kept (World.grownBy_alloc _ _ none) (by simp)).kept (World.grownBy_alloc _ _ none) (by simp)).kept (World.grownBy_alloc _ _ none) (by simp)).kept (World.grownBy_alloc _ _ none) (by simp)).kept (World.grownBy_alloc _ _ none) (by simp)
   have hww:=hB2.size;have hB3:Below w.heap.size w w3:=hB2.trans (hb23.mono hB2.size);clear hw3;have hpl:PRep w2 (zW w2) (zC 8 (L.map zQ)) (.slice p n cap):=vW A1.out hB2;have hpd:PRep w2 (zW w2) (zC 2 (D.map zV)) vd:=vW A2.out hB2;have hFA: ∀W,KpR w3.heap.size w2.heap.size (w2.heap.size+1+1+1) (w2.heap.size+1) w3 W->FailAt L D (w2.heap.size+1+1+1+1+1+1+1) (w2.heap.size+1+1+1+1) (w2.heap.size+1+1+1+1+1) (w2.heap.size+1+1+1+1+1+1) (.slice p n cap) vd vc W:=by
    intro W hK;have hlow: ∀j,j<w2.heap.size->W.heap[j]?=w2.heap[j]?:=fun j hj=>(hK.2 j (by omega) (by omega) (by omega) (by omega)).trans (hb23.block j hj)
    have hwz:w2.heap.size<=W.heap.size:=by have:=hK.1;omega
    have rep: ∀c v,PRep w2 (zW w2) c v->PRep W (zW W) c v:=fun c v h=>h.mono (fun b hb=>hlow b.2 hb) fun b hb=>ZM hb hwz
    have box: ∀j v t,w2.heap.size+1+1+1<j->w3.heap[j]?=some (.cells #[v] t (0,0))->W.cell? ⟨j,0,none⟩=some v:=fun j v t h1 h2=>sS ((hK.2 j (Zn.1 h2).1 (by omega) (by omega) (by omega)).trans h2)
    refine⟨?_,box _ _ _ (by omega) a4,box _ _ _ (by omega) a5,box _ _ _ (by omega) a6,rep _ _ hpl,rep _ _ hpd,rep _ _ hpc,zof (A4.out.later (xM hB2)) hwz hlow⟩;rw[hM'.out];exact box _ _ _ (by omega) a7
   obtain⟨Q0,hQ0⟩: ∃Q0:Prop,Q0:=⟨True,trivial⟩;refine zhj (α:=U8) rfl (by decide) (gf:=102) (lb:= #[.pointer (some ⟨w2.heap.size+1+1+1+1+1+1+1,0,none⟩),.pointer (some ⟨w2.heap.size+1+1+1+1,0,none⟩),.pointer (some ⟨w2.heap.size+1+1+1+1+1,0,none⟩),.pointer (some ⟨w2.heap.size+1+1+1+1+1+1,0,none⟩)]) rfl trivial (enters_of Tryz.func102 (by kernel_rfl) rfl)
    (zn7 7 (by decide) L D (by rw[hN'.out];exact hL) hD hok (A3.out h0) _ _ _ _ (.slice p n cap) vd vc w3 (KpR w3.heap.size w2.heap.size (w2.heap.size+1+1+1) (w2.heap.size+1)) ⟨Zt _,fun _ _ _ _ _=>rfl⟩ (fun _ _ _=>KpR.trans) (fun A B hA hb=>hA.trans (KpR.grown hA.1 (nY hb) (fun r e=>by cases e))) hFA)
    (fun _ _ _=>KpR.trans) (fun A B row hs hg hr=>KpR.grown hs hg hr) (fun _=>rfl) (LkI n0 w w3 w3.heap.size w2.heap.size (w2.heap.size+1+1+1) (w2.heap.size+1+1) (w2.heap.size+1)) (LkI.own (by omega) (by omega) (by omega) (by omega) hB3.size (Zt _)) ?h0
    (fun x a' W'=>a'={tmps:= #[.slice p n cap,vd,undef,undef,.pointer (some ⟨w.heap.size,0,none⟩),.int .i64 0,.string ⟨x1.toArray⟩,.bool true,vc,.int .i64 (M:Int),.int .i64 0,.pointer (some ⟨w2.heap.size,0,none⟩),.pointer (some ⟨w2.heap.size+1+1,0,none⟩),.pointer (some ⟨w2.heap.size+1+1+1,0,none⟩),.int .u64 (x.1:Int),.tuple #[.string ⟨x1.toArray⟩,.bool true],.slice p n cap,.tuple #[.string ⟨x1.toArray⟩,.bool true],.string ⟨x1.toArray⟩,.bool true,.bool true,.bool false,undef,.tuple #[vc,.int .i64 (M:Int),.int .i64 0],vd,.tuple #[vc,.int .i64 (M:Int),.int .i64 0],vc,.int .i64 (M:Int),.int .i64 0,.int .i64 0,.bool false,undef,undef,.slice p n cap,.int .i64 (n:Int),.int .u64 (IntKind.u64.wrap (2 ^ n)),.int .u64 (n0:Int),.agg #[.slice none 0 0,.int .u64 (n0:Int),.int .u64 0],.map (some (w2.heap.size+1)),.slice p n cap,vd,vc,.int .i64 (M:Int),.func (.func 102) #[] #[.pointer (some ⟨w2.heap.size+1+1+1+1+1+1+1,0,none⟩),.pointer (some ⟨w2.heap.size+1+1+1+1,0,none⟩),.pointer (some ⟨w2.heap.size+1+1+1+1+1,0,none⟩),.pointer (some ⟨w2.heap.size+1+1+1+1+1+1,0,none⟩)],.int .u64 (x.1:Int),undef,undef,undef,undef,undef,undef,undef,undef,undef,undef,undef,undef,undef,undef,undef,undef,undef,undef,undef,undef,undef,undef,undef,undef,undef,undef,undef,undef,undef,undef,undef],defers:=[]}) (fun x a' W' l ob ob' h _ _ _=>h) ?assign ?body ?done
   case h0=>
    exact⟨⟨.slice none 0 0,a0,World.ownsRow_nil _ _ _ _⟩,a3,a2,hmp,⟨Zt _,fun _ _ _ _ _=>rfl⟩,hB3⟩
   case assign=>
    intro l pre x W' K hI hsz' hK;simp only[aT]
    gi_wp2
    exact hK _ _ rfl hI (KeepsFrom.refl _ _) ⟨Zt _,fun _ _ _ _ _=>rfl⟩ hsz'
   case body=>
    rintro l pre x a' W rfl hI hlen hsz2;have I0:Aside (LkI n0 w w3 w3.heap.size w2.heap.size (w2.heap.size+1+1+1) (w2.heap.size+1+1) (w2.heap.size+1) pre W):=hI;obtain⟨⟨vs,hv,hr⟩,hs,hbm,hmS,hkp,hbl⟩:=hI;obtain⟨F,hF⟩: ∃F,pre.map (fun x:U8=>x.1)=F:=⟨_,rfl⟩;have hF8: ∀f∈F,f<2 ^ 8:=by
     intro f hf;rw[<-hF] at hf;obtain⟨y,_,rfl⟩:=ZB.1 hf;exact y.2
    have hx8:=x.2;have hFx:Aside ((pre++[x]).map (fun x:U8=>x.1)=F++[x.1]):=show _=_ by rw[ZW,hF];rfl
    rw[hF] at hv hr hs hmS;have hA8:F.foldl (· &&& ·) n0<2 ^ 8:=xT.2 fun k hk=>by
     rw[gE,Zp] at hk;exact xT.1 (ZM (show n0<2 ^ n by rw[hn0e.out];have:=Nat.two_pow_pos n;omega) (Yf (by decide) hL)) k hk.1
    have hO8:F.foldl (· ||| ·) 0<2 ^ 8:=xT.2 fun k hk=>by
     rw[lY,Xa,Ym,Yo] at hk;obtain⟨f,hf,hk⟩:=hk;exact xT.1 (hF8 f hf) k hk
    have hAe:Aside (F.foldl (· &&& ·) n0&&&x.1=((pre++[x]).map fun x:U8=>x.1).foldl (· &&& ·) n0):=show _=_ by rw[hFx.out,Xq];rfl
    have hOe:Aside (F.foldl (· ||| ·) 0|||x.1=((pre++[x]).map fun x:U8=>x.1).foldl (· ||| ·) 0):=show _=_ by rw[hFx.out,Xq];rfl
    have hon:=ziI x.1 F [];rw[<-hFx.out] at hon;have hol:=aU F [];have hpl2:F.length=pre.length:=by rw[<-hF,Zi]
    obtain⟨AA,hAA⟩: ∃A,F.foldl (· &&& ·) n0=A:=⟨_,rfl⟩;obtain⟨OO,hOO⟩: ∃O,F.foldl (· ||| ·) 0=O:=⟨_,rfl⟩;obtain⟨SS,hSS⟩: ∃S,xC F []=S:=⟨_,rfl⟩;rw[hAA] at hv hA8 hAe;rw[hOO] at hs hO8 hOe;rw[hSS] at hr hmS hon hol;have hlk:=hmS.look hx8;have hand:bits BinOp.and IntKind.u64 (AA:Int) (x.1:Int)=((AA&&&x.1:Nat):Int):=zoa hA8 hx8;have hor:bits BinOp.or IntKind.u64 (OO:Int) (x.1:Int)=((OO|||x.1:Nat):Int):=zob hO8 hx8;obtain⟨e0,e1,e2⟩:=uC hv;have e3:=sS hs;have e4:=sS hbm;have f0:W.frozen? ⟨w2.heap.size,0,none⟩=false:=by simp[World.frozen?,hv]
    have f1:W.frozen? ⟨w2.heap.size,1,none⟩=false:=by simp[World.frozen?,hv]
    have f3:W.frozen? ⟨w2.heap.size+1+1+1,0,none⟩=false:=by simp[World.frozen?,hs]
    by_cases hmem:x.1∈SS
    ·rw[decide_eq_true hmem] at hlk
     rw[if_pos hmem] at hon;have hin:Aside (KeepsFrom w3.heap.size W ((W.setCell ⟨w2.heap.size,1,none⟩ (.int .u64 ((AA&&&x.1:Nat):Int))).setCell ⟨w2.heap.size+1+1+1,0,none⟩ (.int .u64 ((OO|||x.1:Nat):Int)))/\KpR w3.heap.size w2.heap.size (w2.heap.size+1+1+1) (w2.heap.size+1) W ((W.setCell ⟨w2.heap.size,1,none⟩ (.int .u64 ((AA&&&x.1:Nat):Int))).setCell ⟨w2.heap.size+1+1+1,0,none⟩ (.int .u64 ((OO|||x.1:Nat):Int)))/\LkI n0 w w3 w3.heap.size w2.heap.size (w2.heap.size+1+1+1) (w2.heap.size+1+1) (w2.heap.size+1) (pre++[x]) ((W.setCell ⟨w2.heap.size,1,none⟩ (.int .u64 ((AA&&&x.1:Nat):Int))).setCell ⟨w2.heap.size+1+1+1,0,none⟩ (.int .u64 ((OO|||x.1:Nat):Int)))):=by
      refine ziM (vs:=vs) I0.out (by omega) (by omega) (by omega) (by omega) (by omega) (by omega) (by omega) (by omega) (by omega) (by omega) (by omega) (by omega) ?_ rfl rfl ?_ ?_ ⟨Zt _,fun _ _ _ _ _=>rfl⟩ hbl (KeepsFrom.refl _ _) _ _ hAe.out hOe.out
      ·rw[hF,hAA];exact hv
      ·rw[hon];exact hr
      ·rw[hon]
       obtain⟨D1,m1,m2,m3⟩:=hmS;exact⟨D1,m1.mono (Nat.le_succ _),m2,m3⟩
     clear hv hr hs hbm hmS hkp hF hF8 hAA hOO hSS hon hol hpl2 a0 a1 a2 a3 a4 a5 a6 a7 hFA q4 q5 hmp k63 k37 k64 hmm hpl hpd hpc
     gi_wp2
     exact hin.out
    ·rw[decide_eq_false hmem] at hlk
     rw[if_neg hmem] at hon;have hlenM:pre.length<M:=by rw[<-hM'.out];exact hlen
     have hM4:M<=4096:=by rw[<-hM'.out];exact hok.le
     obtain⟨W1,hput,hm1,hg1⟩:=hmS.put (by unfold maxLen;omega) hx8;have hmbW:=hmS.lt;have hown: ∀g,vs.ownBlock=some g->w3.heap.size<=g/\ ∃cur,W.heap[g]?=some (.cells cur 71 (0,0)):=fun g hg=>by
      obtain⟨cur,hc,hb⟩:=ziL hr hg;exact⟨hb,cur,hc⟩
     have hr1:=hr.kept hg1 (by
      cases q:vs.ownBlock with
      |none=>exact .inl rfl
      |some g=>exact .inr fun e=>by cases e;have:=(hown _ q).1;omega)
     have old1: ∀j,j<W.heap.size->j≠w2.heap.size+1->W1.heap[j]?=W.heap[j]?:=fun j h1 h2=>hg1.block j h1 (fun e=>h2 (by cases e;rfl))
     have hsz1:=hg1.size;have hv1:=(old1 _ (xV hv) (by omega)).trans hv;have hs1:=(old1 _ (xV hs) (by omega)).trans hs;obtain⟨e0',e1',e2'⟩:=uC hv1;have e3':=sS hs1;have f0':W1.frozen? ⟨w2.heap.size,0,none⟩=false:=by simp[World.frozen?,hv1]
     have f1':W1.frozen? ⟨w2.heap.size,1,none⟩=false:=by simp[World.frozen?,hv1]
     have f3':W1.frozen? ⟨w2.heap.size+1+1+1,0,none⟩=false:=by simp[World.frozen?,hs1]
     have hrow2: ∀(W2:World),(W1.alloc (.cells #[.int .u64 (x.1:Int)] 71)).grownBy W2 vs.ownBlock->(∀j,j<W.heap.size->j≠w2.heap.size+1->vs.ownBlock≠some j->W2.heap[j]?=W.heap[j]?)/\W.heap.size<=W2.heap.size:=fun W2 hg2=>by
      have hsz2:=hg2.size;rw[World.size_alloc] at hsz2;refine⟨fun j h1 h2 h3=>?_,by omega⟩;rw[hg2.block j (by rw[World.size_alloc];omega) (fun e=>h3 e.symm)];rw[Below.heap_alloc _ _ _ (by omega)];exact old1 j h1 h2
     have hNW:w3.heap.size<=W.heap.size:=hsz2;have hfin:Aside (∀(W2:World) (v':Value),W2.ownsRow w3.heap.size 71 1 v' (SS.length+1) ((SS.map fun(s:Nat)=>Value.int .u64 (s:Int))++[.int .u64 (x.1:Int)])->(W1.alloc (.cells #[.int .u64 (x.1:Int)] 71)).grownBy W2 vs.ownBlock->(∀X,X=((W2.setCell ⟨w2.heap.size,0,none⟩ v').setCell ⟨w2.heap.size,1,none⟩ (.int .u64 ((AA&&&x.1:Nat):Int))).setCell ⟨w2.heap.size+1+1+1,0,none⟩ (.int .u64 ((OO|||x.1:Nat):Int))->KeepsFrom w3.heap.size W X/\KpR w3.heap.size w2.heap.size (w2.heap.size+1+1+1) (w2.heap.size+1) W X/\LkI n0 w w3 w3.heap.size w2.heap.size (w2.heap.size+1+1+1) (w2.heap.size+1+1) (w2.heap.size+1) (pre++[x]) X)):=by
      rintro W2 v' ho' hg2 X rfl;obtain⟨hold,hsz⟩:=hrow2 W2 hg2;have nlow: ∀j,j<w3.heap.size->vs.ownBlock≠some j:=fun j hj e=>by have:=(hown j e).1;omega
      have hv2:=(hold _ (xV hv) (by omega) (nlow _ (by omega))).trans hv;have oX: ∀j,j≠w2.heap.size->(W2.setCell ⟨w2.heap.size,0,none⟩ v').heap[j]?=W2.heap[j]?:=fun j hj=>uB _ _ _ _ hj
      have szX:(W2.setCell ⟨w2.heap.size,0,none⟩ v').heap.size=W2.heap.size:=by simp
      have keep: ∀j,j<W.heap.size->j≠w2.heap.size->j≠w2.heap.size+1->vs.ownBlock≠some j->(W2.setCell ⟨w2.heap.size,0,none⟩ v').heap[j]?=W.heap[j]?:=fun j h1 h2 h3 h4=>(oX j h2).trans (hold j h1 h3 h4)
      have hbl2:Below w.heap.size w W2:=((hbl.grown hg1 (by omega) (fun k e=>by cases e;omega)).alloc (by omega) _).grown hg2 (by rw[World.size_alloc];omega) (fun k e=>by have:=(hown k e).1;omega);refine ziM (vs:=v') I0.out (by omega) (by omega) (by omega) (by omega) (by omega) (by omega) (by omega) (by omega) (by omega) (by omega) (by omega) (by omega) ?_ (keep _ (xV hs) (by omega) (by omega) (nlow _ (by omega))) (keep _ (xV hbm) (by omega) (by omega) (nlow _ (by omega))) ?_ ?_ ⟨by omega,fun j h1 h2 h3 h4=>keep j (by omega) h2 h4 (nlow j h1)⟩ (hbl2.setCell (p:=⟨w2.heap.size,0,none⟩) (by omega) _) ⟨by omega,fun j o h1 h2 h3=>(keep j (ziP h2) (by omega) (by omega) (fun e=>by obtain⟨_,cur,hc⟩:=hown j e;rw[hc] at h2;cases h2;cases h3)).trans h2⟩ _ _ hAe.out hOe.out
      ·rw[hF,hAA];exact vO W2 _ 0 _ 73 (0,0) v' hv2
      ·rw[hon,Zv,ZW]
       exact ownsRow_setCell_below ho' (by show w2.heap.size<_;omega) _
      ·rw[hon]
       exact((hm1.kept (World.grownBy_alloc _ _ none) (by simp)).kept hg2 (fun e=>nlow _ (by omega) e.symm)).setCell (by show w2.heap.size+1≠w2.heap.size;omega) _
     have hfac:Aside (∀(W2:World),(W1.alloc (.cells #[.int .u64 (x.1:Int)] 71)).grownBy W2 vs.ownBlock->W2.heap[w2.heap.size]?=some (.cells #[vs,.int .u64 (AA:Int),.int .u64 0] 73 (0,0))/\W2.heap[w2.heap.size+1+1+1]?=some (.cells #[.int .u64 (OO:Int)] 71 (0,0))):=by
      intro W2 hg2;obtain⟨hold,hsz⟩:=hrow2 W2 hg2;have nlow: ∀j,j<w3.heap.size->vs.ownBlock≠some j:=fun j hj e=>by have:=(hown j e).1;omega
      exact⟨(hold _ (xV hv) (by omega) (nlow _ (by omega))).trans hv,(hold _ (xV hs) (by omega) (nlow _ (by omega))).trans hs⟩
     obtain⟨i0,hif,hz0,hz1,hz2⟩:=info_parts (show(Tryz.prog.info? 71).map (fun i=>(i.zero,i.size,i.bytes))=some (some (.int .u64 0),1,8) by kernel_rfl);have hSl:SS.length<=4096:=by rw[hpl2] at hol;simp at hol;omega
     have hW1s:w3.heap.size<=W1.heap.size:=by omega
     clear hv hr hs hbm hmS hkp hF hF8 hAA hOO hSS hon hol hpl2 a0 a1 a2 a3 a4 a5 a6 a7 hFA q4 q5 hmp k63 k37 k64 hmm hpl hpd hpc hrow2 hown old1 hv1 hs1 hm1 hg1 hmem
     gi_wp2_with (gi_at_builtin;refine wpListIn_append_own _ rfl _ _ 70 rfl w3.heap.size 71 i0 (.int .u64 0) 1 8 Tryz.underlying70 hif hz0 hz1 hz2 rfl (by decide) _ _ _ rfl (hr1.alloc _) ⟨W1.heap.size,0,none⟩ 1 1 [.int .u64 (x.1:Int)] rfl rfl (cell_one_new _ _ _) (by simp[Value.oneCell']) (by unfold maxLen;omega) (by omega) (by simp;omega) ?_;intro v' W2 hown' hgrow _;obtain⟨g',cap',rfl⟩:=ownsRow_succ hown';obtain⟨t1,t2⟩:=hfac.out W2 hgrow;obtain⟨u0,u1,u2⟩:=uC t1;have u3:=sS t2;have v0:W2.frozen? ⟨w2.heap.size,0,none⟩=false:=(by simp[World.frozen?,t1]);have v1:W2.frozen? ⟨w2.heap.size,1,none⟩=false:=(by simp[World.frozen?,t1]);have v3:W2.frozen? ⟨w2.heap.size+1+1+1,0,none⟩=false:=(by simp[World.frozen?,t2]))
     exact hfin.out _ _ hown' hgrow _ rfl
   case done=>
    rintro D2 xs W3 hD2 hxs hI hK;obtain⟨⟨vs,hv,hr⟩,hs,hbm,hmS,hkp,hbl⟩:=hI;obtain⟨sa,sk,sc,rfl⟩: ∃a k c,vs=.slice a k c:=by
     rcases hr with⟨_,⟨hv,_⟩|⟨g2,cap,cur,hv,_⟩⟩
     ·exact⟨_,_,_,hv⟩
     ·exact⟨_,_,_,hv⟩
    have hxs':xs.map (fun x:U8=>x.1)=yN L D:=hxs;rw[hxs'] at hv hr hs;have hnv:(yN L D).foldl (· &&& ·) n0=(viewD L D).never:=by rw[hn0e.out,<-hN'.out];rfl
    rw[hnv] at hv;have hdb:andN ((yN L D).foldl (· ||| ·) 0) (viewD L D).never=(viewD L D).doubt:=rfl;have hst:xC (yN L D) []=(viewD L D).sets:=rfl;rw[hst] at hr;have hd8:(viewD L D).doubt<256:=ZM (lZ (mD L D)) (by rw[hN'.out];exact(Yf (by decide) hL:2 ^ n<=2 ^ 8));have hO8:(yN L D).foldl (· ||| ·) 0<2 ^ 8:=xT.2 fun k hk=>by
     rw[lY,Xa,Ym,Yo] at hk;obtain⟨f,hf,hk⟩:=hk;have h1:=mD L D f hf;rw[hN'.out] at h1;exact xT.1 (ZM h1 (Yf (by decide) hL)) k hk
    have hbn:=pG _ hd8;have hin:bits BinOp.andNot IntKind.u64 ((((yN L D).foldl (· ||| ·) 0:Nat)):Int) ((viewD L D).never:Int)=((viewD L D).doubt:Int):=by rw[zoc hO8,hdb]
    have q6:W3.heap[w.heap.size]?=some (.cells #[.slice none 0 0,.int .u64 0,.int .u64 0] 73 (0,0)):=(hkp.2 _ (by have:=xV q5;omega) (by have:=xV q5;omega) (by have:=xV q5;omega) (by have:=xV q5;omega)).trans ((hb23.block _ (xV q5)).trans q5);have hq5:=xV q5;have c65: ∀W,Below w.heap.size w W->Calls Tryz.prog 65 #[.int .u64 ((viewD L D).doubt:Int)] W fun e W'=>e=.returned (.int .i64 ((bitsN (viewD L D).doubt).length:Int))/\Below W.heap.size W W':=fun W hb=>(Go.Abs.c65 (viewD L D).doubt hd8).intC (A4.out.later (xM hb)) (Z:=zW W) (fun _ h=>h) (vH (.int .u64 _) (xS _ _))
    obtain⟨OO,hOO⟩: ∃O,(yN L D).foldl (· ||| ·) 0=O:=⟨_,rfl⟩;rw[hOO] at hs hin;obtain⟨S,hS⟩: ∃S,(viewD L D).sets=S:=⟨_,rfl⟩;obtain⟨NV,hNV⟩: ∃NV,(viewD L D).never=NV:=⟨_,rfl⟩;obtain⟨DB,hDB⟩: ∃DB,(viewD L D).doubt=DB:=⟨_,rfl⟩;have HQ:Aside ((viewD L D).sets=S/\(viewD L D).never=NV/\(viewD L D).doubt=DB):=⟨hS,hNV,hDB⟩;rw[hS] at hr;rw[hNV] at hv hin;rw[hDB] at hin c65 hbn;obtain⟨bl,hbl2⟩: ∃bl,(bitsN DB).length=bl:=⟨_,rfl⟩;rw[hbl2] at c65 hbn;have hb10: ¬(bl:Int)>10:=by omega
    obtain⟨e0,e1,e2⟩:=uC hv;have e3:=sS hs;have f2:W3.frozen? ⟨w2.heap.size,2,none⟩=false:=by simp[World.frozen?,hv]
    have hbs:Below w.heap.size w (W3.setCell ⟨w2.heap.size,2,none⟩ (.int .u64 (DB:Int))):=hbl.setCell (p:=⟨w2.heap.size,2,none⟩) (by omega) _;have hvX:=vO W3 w2.heap.size 2 _ 73 (0,0) (.int .u64 (DB:Int)) hv;have oX: ∀j,j≠w2.heap.size->(W3.setCell ⟨w2.heap.size,2,none⟩ (.int .u64 (DB:Int))).heap[j]?=W3.heap[j]?:=fun j hj=>uB _ _ _ _ hj
    have rX:=ownsRow_setCell_below hr (a:=⟨w2.heap.size,2,none⟩) (by show w2.heap.size<_;omega) (.int .u64 (DB:Int));have qX:=(oX w.heap.size (by omega)).trans q6;have kX:=(oX D2 (by omega)).trans hK;have hfacs:Aside (∀W4,Below (W3.setCell ⟨w2.heap.size,2,none⟩ (.int .u64 (DB:Int))).heap.size (W3.setCell ⟨w2.heap.size,2,none⟩ (.int .u64 (DB:Int))) W4->W4.heap[w2.heap.size]?=some (.cells #[.slice sa sk sc,.int .u64 (NV:Int),.int .u64 (DB:Int)] 73 (0,0))/\W4.heap[w.heap.size]?=some (.cells #[.slice none 0 0,.int .u64 0,.int .u64 0] 73 (0,0))/\W4.heap[D2]?=some (.deferred (some []))/\W4.ownsRow w3.heap.size 71 1 (.slice sa sk sc) S.length (S.map fun(s:Nat)=>Value.int .u64 (s:Int))/\Below w.heap.size w W4):=
     fun W4 h4=>⟨(h4.block _ (xV hvX)).trans hvX,(h4.block _ (xV qX)).trans qX,(h4.block _ (ziP kX)).trans kX,rX.kept (nY h4) (by cases (Value.slice sa sk sc).ownBlock<;>simp),hbs.trans (h4.mono hbs.size)⟩
    refine(‹∀(a:Act) (w:World),Code.wpIn Fence.wide 8 Tryz.prog _ _ a w->_›) _ _ ?_;clear hv hr hs hbm hmS hkp a0 a1 a2 a3 a4 a5 a6 a7 hFA q4 q5 hmp k63 k37 k64 hmm hpl hpd hpc hbl oX rX qX kX hvX hnv hdb hst hd8 hO8 hxs hxs' hK
    gi_wp2_with (refine⟨trivial,?_⟩;gi_at_call 65;refine(callsIn_wide.2 (c65 _ hbs)).mono ?_;rintro e W4 ⟨rfl,hb4⟩;obtain⟨t1,t2,t3,t4,t5⟩:=hfacs.out W4 hb4;obtain⟨u0,u1,u2⟩:=uC t1;obtain⟨u3,u4,u5⟩:=uC t2;have v0:W4.frozen? ⟨w.heap.size,0,none⟩=false:=(by simp[World.frozen?,t2]);have v1:W4.frozen? ⟨w.heap.size,1,none⟩=false:=(by simp[World.frozen?,t2]);have v2:W4.frozen? ⟨w.heap.size,2,none⟩=false:=(by simp[World.frozen?,t2]))
    have hY:=aV t2 (.slice sa sk sc) (.int .u64 (NV:Int)) (.int .u64 (DB:Int));have oY: ∀j,j≠w.heap.size->(((W4.setCell ⟨w.heap.size,0,none⟩ (.slice sa sk sc)).setCell ⟨w.heap.size,1,none⟩ (.int .u64 (NV:Int))).setCell ⟨w.heap.size,2,none⟩ (.int .u64 (DB:Int))).heap[j]?=W4.heap[j]?:=fun j hj=>((uB _ _ _ _ hj).trans (uB _ _ _ _ hj)).trans (uB _ _ _ _ hj)
    have hBY:Below w.heap.size w (((W4.setCell ⟨w.heap.size,0,none⟩ (.slice sa sk sc)).setCell ⟨w.heap.size,1,none⟩ (.int .u64 (NV:Int))).setCell ⟨w.heap.size,2,none⟩ (.int .u64 (DB:Int))):=((t5.setCell (p:=⟨w.heap.size,0,none⟩) (Zt _) _).setCell (p:=⟨w.heap.size,1,none⟩) (Zt _) _).setCell (p:=⟨w.heap.size,2,none⟩) (Zt _) _;have hrY:=ownsRow_setCell_below (ownsRow_setCell_below (ownsRow_setCell_below t4 (a:=⟨w.heap.size,0,none⟩) (by show w.heap.size<_;omega) (.slice sa sk sc)) (a:=⟨w.heap.size,1,none⟩) (by show w.heap.size<_;omega) (.int .u64 (NV:Int))) (a:=⟨w.heap.size,2,none⟩) (by show w.heap.size<_;omega) (.int .u64 (DB:Int));have hKY:=(oY D2 (by omega)).trans t3;generalize (((W4.setCell ⟨w.heap.size,0,none⟩ (.slice sa sk sc)).setCell ⟨w.heap.size,1,none⟩ (.int .u64 (NV:Int))).setCell ⟨w.heap.size,2,none⟩ (.int .u64 (DB:Int)))=Y at hY oY hBY hrY hKY⊢;refine⟨by simp,.inl ⟨_,_,rfl,run_takeDeferred hKY,?_⟩⟩;obtain⟨e5,e6,e7⟩:=HQ.out;rw[e5,e6,e7];refine⟨_,oR rfl _ _ rfl ((World.putObj_heap_other (by omega)).trans hY) Tryz.underlying73 (by kernel_rfl),.inr ⟨trivial,_,rfl,hBY.grown (grownBy_putObj' _ D2 _) hBY.size (fun k e=>by cases e;omega),(ownsRow_putObj hrY _ hKY rfl).mono (by omega)⟩⟩
  ·obtain⟨er,her⟩: ∃er,(cnts D).2.2=er:=⟨_,rfl⟩
   rw[her] at hE k37 h0;rw[hE];have h0':(er==0)=false:=by simp[h0]
   have h0n:Aside (er≠0):=h0;clear h0 her;refine callsIn_of_wp_marks Tryz.func32 rfl trivial ?_;simp only[Tryz.ntmps32,Yu,Zo,ZG,Zc,YV,YB,YA,YK,YC,Ya,ZS]
   gi_wp2_with (first|(refine⟨trivial,?_⟩;gi_at_call 63;refine(callsIn_wide.2 (k63 _ (hB0 _))).mono ?_;rintro e w1 ⟨x1,rfl,hb1⟩;have hB1:=(hB0 (.cells #[.slice none 0 0,.int .u64 0,.int .u64 0] 73)).trans (hb1.mono (hB0 _).size);have q4:=(hb1.block w.heap.size (by simp only[World.size_alloc];omega)).trans (World.alloc_heap_new w _))|(refine⟨trivial,?_⟩;gi_at_call 37;refine(callsIn_wide.2 (k37 _ hB1)).mono ?_;rintro e w2 ⟨vc,rfl,hb2,hpc⟩;have q5:=(hb2.block w.heap.size (xV q4)).trans q4;obtain⟨c40,c41,c42⟩:=uC q5;have e7: ∀j,w2.frozen? ⟨w.heap.size,j,none⟩=false:=(fun j=>by simp[World.frozen?,q5]);have e8:=e7 0;have e9:=e7 1;have e10:=e7 2;have hB2:=hB1.trans (hb2.mono hB1.size)))
   refine⟨_,oR rfl _ _ rfl (aV q5 _ _ _) Tryz.underlying73 (by kernel_rfl),.inl ⟨h0n.out,rfl,((hB2.setCell (p:=⟨w.heap.size,0,none⟩) (Zt _) _).setCell (p:=⟨w.heap.size,1,none⟩) (Zt _) _).setCell (p:=⟨w.heap.size,2,none⟩) (Zt _) _⟩⟩
end Go.Proofs
namespace Go.Ex
open Go.Lib Go.Wd Go.Wire Go.Abs
def nB (L:List Dmd) (D:List Dcm):Vw:=if lookE L D=0 then viewD L D else⟨[],0,0⟩
end Go.Ex
namespace Go.Abs
open Go.Proofs Go.RowKit Go.Lib Go.Wd Go.Wire Go.Ex
theorem zoh {W:World} {B:Nat} {l:List Nat} {v:Value} (h:W.ownsRow B 71 1 v l.length (l.map fun(s:Nat)=>Value.int .u64 (s:Int))):PRep W (fun b=>B<=b.2/\b.2<W.heap.size/\sA W b.2) (zC 1 (sets l)) v:=by
 rcases h with⟨_,⟨hv,h0⟩|⟨g,cap,cur,hv,hg,hh,h5,h6,h7,h8⟩⟩
 ·obtain rfl:=ZZ h0
  subst hv;exact .nil 0 none (by simp)
 ·subst hv
  by_cases h0:l=[]
  ·subst h0
   exact .list g 0 cap 0 none [] (fun _ _=>undef) (by simp) h5 h6 (fun h=>absurd rfl h) (by simp) (by simp) (by simp)
  ·have e:zC 1 (sets l)=.list 1 none (sets l):=by
    unfold zC;rw[if_neg];cases l with|nil=>exact absurd rfl h0|cons a L=>simp[sets]
   have hat: ∀(i j:Nat) r c,(sets l)[i]?=some r->r[j]?=some c->j=0/\ ∃s:Nat,l[i]?=some s/\c=.int .u64 (s:Int):=fun i j r c hr hc=>by
    rw[sets,Zw] at hr;cases hs:l[i]? with
    |none=>rw[hs] at hr;cases hr
    |some s=>
     rw[hs] at hr;cases hr;cases j with
     |zero=>cases hc;exact⟨rfl,s,rfl,rfl⟩
     |succ j=>simp at hc
   have hcell: ∀j s,l[j]?=some s->W.cell? ⟨g,j,none⟩=some (.int .u64 ((s:Nat):Int)):=by
    intro j s hs;have hj:=(Zr.1 hs).1;have h9:=congrArg (fun x:List Value=>x[j]?) h8;simp only[YS,List.getElem?_take_of_lt hj,Zw,hs,Yw] at h9;rw[Ys] at h9;simp only[World.cell?,hh];simp only[YN,Z1,if_false];exact h9
   rw[e];have key:PRep W (fun b=>B<=b.2/\b.2<W.heap.size/\sA W b.2) (.list 1 none (sets l)) (.slice (some ⟨g,0,none⟩) (sets l).length cap):=by
    refine .list g 0 cap 1 none (sets l) (fun i _=> .int .u64 ((l.getD i 0:Nat):Int)) (by simp) (by rw[uZ];exact h5) h6 (fun _=>⟨hg,(Zn.1 hh).1,fun c e f h=>by rw[hh] at h;cases h;rfl⟩) (fun r hr=>by obtain⟨s,_,rfl⟩:=ZB.1 hr;rfl) (fun i j r c hr hcj=>?_) fun i j r c hr hcj=>?_
    ·obtain⟨rfl,s,hs,rfl⟩:=hat i j r c hr hcj
     rw[YS,Yq,ZV,hcell i s hs];simp[List.getD,hs]
    ·obtain⟨rfl,s,hs,rfl⟩:=hat i j r c hr hcj
     have:l.getD i 0=s:=by simp[List.getD,hs]
     rw[this];exact .int _ _
   rw[uZ] at key;exact key
theorem c32 (L:List Dmd) (D:List Dcm) (hL:L.length<=8) (hm: ∀m∈L,DmdS m) (hD:sP D) (hp:(cnts D).2.2=0-> ∀i,i<xY D->vE (rdsD D i)):
  Spec Tryz.prog 32 [lst 8 (L.map zQ),lst 2 (D.map zV)] (fun r=>r=.tup [.agg [zC 1 (sets (nB L D).sets),.int .u64 ((nB L D).never:Int),.int .u64 ((nB L D).doubt:Int)],.int .i64 (lookE L D)]):=by
 refine⟨rH (by kernel_rfl),fun w Z vs hG hz ha=>?_⟩;obtain⟨vl⟩:=vs
 match vl,ha with
 |[],ha=>exact absurd ha.1 (by simp)
 |[_],ha=>exact absurd ha.1 (by simp)
 |_::_::_::_,ha=>exact absurd ha.1 (by simp)
 |[v,v2],ha=>
  have h1:PRep w Z (zC 8 (L.map zQ)) v:=(ha.2 0 _ v rfl rfl).2.2;have h2:PRep w Z (zC 2 (D.map zV)) v2:=(ha.2 1 _ v2 rfl rfl).2.2;refine(zog L D hL hm hD hp w hG v v2 (nZ hz h1) (nZ hz h2)).mono ?_;rintro e w' (⟨h0,rfl,hb⟩|⟨h0,vs,rfl,hb,hr⟩)
  ·refine⟨_,_,rfl,rfl,fun _=>rfl,oG hG (xM hb) (fun _=>rfl) fun Z=>⟨_,rfl,rfl,⟨_,rfl,?_⟩,⟨rfl,.int _ _⟩,trivial⟩⟩
   unfold nB;rw[if_neg h0];refine⟨rfl,fun j c v hc hv=>?_⟩
   match j with
   |0=>cases hc;cases hv;exact .nil 0 none (by simp)
   |1=>cases hc;cases hv;exact .int _ _
   |2=>cases hc;cases hv;exact .int _ _
   |j+3=>simp at hc
  ·refine⟨_,_,rfl,rfl,fun _=>rfl,zh1 hG (xM hb) (fun _=>rfl) ⟨_,rfl,rfl,⟨_,rfl,?_⟩,⟨rfl,by rw[h0];exact .int _ _⟩,trivial⟩ (fun _=>rfl)⟩
   unfold nB;rw[if_pos h0];refine⟨rfl,fun j c v hc hv=>?_⟩
   match j with
   |0=>cases hc;cases hv;exact zoh hr
   |1=>cases hc;cases hv;exact .int _ _
   |2=>cases hc;cases hv;exact .int _ _
   |j+3=>simp at hc
end Go.Abs
namespace Go.Ex
open Go.Lib Go.Wd Go.Wire Go.Abs
structure AskS (L:List Dmd) (D:List Dcm):Prop where
 l8:L.length<=8
 dm: ∀m∈L,DmdS m
 dc:sP D
 rd:(cnts D).2.2=0-> ∀i,i<xY D->vE (rdsD D i)
theorem ziQ {D:List Dcm} (hD:sP D) (h:(cnts D).2.2=0):0<xY D:=by
 have hok:=rM h;rw[hok.p];have key: ∀(l:List Dcm) (n:Nat),0<n->(∀d∈l,0<(cntD d).1.toNat)->0<l.foldl (fun a d=>a*(cntD d).1.toNat) n:=by
  intro l
  induction l with
  |nil=>intro n h _;exact h
  |cons d l ih=>intro n hn hd;exact ih _ (Nat.mul_pos hn (hd d (by simp))) fun x hx=>hd x (Zz _ hx)
 exact key D 1 (by decide) fun d hd=>by
  have:=zh7 (hD.2 d hd) (hok.e d hd);omega
def flawsE (L:List Dmd) (D:List Dcm):List Flw:=if lookE L D=0 then gI L D else[]
def stateE (L:List Dmd) (D:List Dcm):Int:=if lookE L D=0 then zhT (viewD L D) else 0
end Go.Ex
namespace Go.Abs
open Go.Proofs Go.RowKit Go.Lib Go.Wd Go.Wire Go.Ex
theorem xO (m:Dmd):C.normRow (zQ m)=zQ m:=by simp only[zQ,C.normRow,C.norm]
theorem c20 (L:List Dmd) (D:List Dcm) (h:AskS L D):Spec Tryz.prog 20 [lst 8 (L.map zQ),lst 2 (D.map zV)] (fun r=>r=.int .i64 (lookE L D)):=by
 refine Spec.of_awlS hf20 okf20 (by simp) fun S hS=>?_
 have g:=c32 L D h.l8 h.dm h.dc h.rd;simp only[Qs,Zc,Za,Ψ20];refine xI g ?_ (ha:=by simp only[Zm,Zq,zB,V.norm,zO,zP yU,zP xO,C.norm]<;>rfl);simp only[Qs,Zk,Zc,Ye,Za,Ψ20];exact hS
theorem c12 (L:List Dmd) (D:List Dcm) (h:AskS L D):Spec Tryz.prog 12 [lst 8 (L.map zQ),lst 2 (D.map zV)] (fun r=>r=.tup [.int .i64 (stateE L D),.int .i64 (lookE L D)]):=by
 refine Spec.of_awlS hf12 okf12 (by simp) fun S hS=>?_
 have g:=c32 L D h.l8 h.dm h.dc h.rd;unfold nB at g;unfold stateE at hS;have hle:=h.l8;by_cases h0:lookE L D=0
 ·rw[if_pos h0,h0] at hS
  rw[if_pos h0,h0] at g;have hcn:(cnts D).2.2=0:=by
   unfold lookE at h0;split at h0
   ·exact h0
   ·cases h0
  have hok:=rM hcn;have hsl:(viewD L D).sets.length<=4096:=by
   have:=aU (yN L D) [];have h2:(yN L D).length=xY D:=by simp[yN]
   have h3:=hok.le;show(xC (yN L D) []).length<=4096;simp at this;omega
  have g2:=c36 (viewD L D).sets 0 (by omega);generalize viewD L D=v at g g2 hS hsl;obtain⟨S1,nv,db⟩:=v;simp only[] at g g2 hsl;simp only[Qs,Zc,Za,Ψ12];refine xI g ?_ (ha:=by simp only[Zm,Zq,zB,V.norm,zO,zP yU,zP xO,C.norm]<;>rfl);simp only[show((0:Int) !=0)=false from rfl,Qs,Zk,Zc,Ye,Zl,Za,Ψ12];refine zF g2 ?_ (ha:=by simp only[Zm,Zq,zB,V.norm,zO,C.norm,oV]<;>rfl);unfold zhT at hS;simp only[] at hS;by_cases hm:0∈S1
  ·rw[if_pos hm] at hS
   rw[decide_eq_true hm];by_cases h1:S1.length=1
   ·rw[if_pos h1] at hS
    have e1:((S1.length:Int)==1)=true:=by rw[h1];rfl
    simp only[e1,uZ,Qs,Zk,Zc,Zl,Za,Ψ12];exact hS
   ·rw[if_neg h1] at hS
    have e1:((S1.length:Int)==1)=false:=by rw[beq_eq_false_iff_ne];omega
    simp only[e1,uZ,Qs,Zk,Zc,Zl,Za,Ψ12];exact hS
  ·rw[if_neg hm] at hS
   rw[decide_eq_false hm];simp only[Qs,Zk,Za,Ψ12];exact hS
 ·rw[if_neg h0] at hS
  rw[if_neg h0] at g;generalize lookE L D=er at hS g h0;have e1:(er !=0)=true:=by rw[bne_iff_ne];exact h0
  simp only[Qs,Zc,Za,Ψ12];refine xI g ?_ (ha:=by simp only[Zm,Zq,zB,V.norm,zO,zP yU,zP xO,C.norm]<;>rfl);simp only[e1,Qs,Zk,Zc,Ye,Za,Ψ12];exact hS
def pJ (x:Flw):List C:=[zC 1 (zM x.dem),zC 2 (pls x.pls),.bool x.sure]
def xF (l:List Flw):List (List C):=l.map pJ
theorem uM (l:List Flw):(xF l).length=l.length:=by simp[xF]
theorem zoi (x:Flw):C.normRow (pJ x)=pJ x:=by simp only[pJ,C.normRow,zO,vC,rL,C.norm]
theorem ziR (l:List Flw):C.normRows (xF l)=xF l:=zP zoi l
def rP (L:List Dmd) (p:List Pln) (k:Nat):List C:=[.list 1 (some false) (zM [(k:Int)]),zC 2 (pls (xU L [k] p)),.bool false]
theorem zoj (L:List Dmd) (p:List Pln) (k:Nat):C.normRow (rP L p k)=pJ ⟨[(k:Int)],xU L [k] p,false⟩:=by
 simp only[rP,pJ,C.normRow,zO,vU,vC,rL,C.norm];rfl
theorem zok (a b:List (List C)):C.normRows (a++b)=C.normRows a++C.normRows b:=by
 induction a with
 |nil=>rfl
 |cons r a ih=>rw[ZS,iR,iR,ih];rfl
theorem ziS (L:List Dmd) (p:List Pln): ∀l:List Nat,C.normRows (l.map (rP L p))=xF (l.map fun k:Nat=>⟨[(k:Int)],xU L [k] p,false⟩)
 |[]=>rfl
 |k::l=>by
  rw[Zm,iR,zoj,ziS L p l];rfl
theorem c10 (L:List Dmd) (D:List Dcm) (h:AskS L D):Spec Tryz.prog 10 [lst 8 (L.map zQ),lst 2 (D.map zV)] (fun r=>r=.tup [lst 3 (xF (flawsE L D)),.int .i64 (lookE L D)]):=by
 refine Spec.of_awlP hf10 okf10 (by simp) fun S hS=>?_
 have g:=c32 L D h.l8 h.dm h.dc h.rd;unfold nB at g;unfold flawsE at hS;have hle:=h.l8;by_cases h0:lookE L D=0
 ·rw[if_pos h0,h0] at hS
  rw[if_pos h0,h0] at g;have hcn:(cnts D).2.2=0:=by
   unfold lookE at h0;split at h0
   ·exact h0
   ·cases h0
  have hok:=rM hcn;have hpos:=ziQ h.dc hcn;have g14:=c14 D h.dc 0;have e14:zpf D 0=0:=by
   unfold zpf;rw[if_neg (by simp[hcn]),if_neg (by rw[hok.n];omega)]
  have e14':zpa D 0=rdsD D 0:=by unfold zpa;rw[if_pos e14];rfl
  rw[e14,e14'] at g14;have hpl:=h.rd hcn 0 hpos;have hfl:gI L D=kB L (viewD L D) (rdsD D 0):=rfl;rw[hfl] at hS;have hF:=mD L D;have h256:2 ^ L.length<=256:=(Yf (by decide) hle:2 ^ L.length<=2 ^ 8);have hnv:(viewD L D).never<256:=ZM zmB h256;have hdb:(viewD L D).doubt<256:=ZM (lZ hF) h256;have hsl:(viewD L D).sets.length<=4096:=by
   have:=aU (yN L D) [];have h2:(yN L D).length=xY D:=by simp[yN]
   have h3:=hok.le;show(xC (yN L D) []).length<=4096;simp at this;omega
  have hss: ∀s∈(viewD L D).sets,s<256:=fun s hs=>by
   rcases(gD _ _ s).1 hs with h|h
   ·exact ZM (hF s h) h256
   ·cases h
  have g33:=c33 (viewD L D) hnv hdb hss (by omega);have hF0:yN L D≠[]:=by
   intro e;have:=congrArg List.length e;simp[yN] at this;omega
  have hcl: ∀c∈sortO ltC ((conflP (viewD L D)).map bitsN),c.length<=8/\ ∀k∈c,k<L.length:=by
   intro c hc;obtain⟨s,hs,rfl⟩:=ZB.1 ((qD ltC _).mem_iff.1 hc);have hs2:=((bT hle hF0 hF s).1 hs).1;exact⟨pG s (by omega),fun k hk=>xT.1 hs2 k ((uW (by omega)).1 hk)⟩
  have hcn:(sortO ltC ((conflP (viewD L D)).map bitsN)).length<=320:=by
   rw[(qD ltC _).length_eq,Zi];have hT:conflP (viewD L D)=rO (viewD L D).never 64++(vY (viewD L D).doubt 256 (viewD L D).doubt).filter (wP (viewD L D).sets):=rfl;rw[hT,Zv];have h1:=gP (viewD L D).doubt 256 (viewD L D).doubt;have h2:=YF (wP (viewD L D).sets) (vY (viewD L D).doubt 256 (viewD L D).doubt);have h3:=aJ (viewD L D).never 64;omega
  have hdk: ∀k∈bitsN (viewD L D).doubt,k<L.length:=fun k hk=>xT.1 (lZ hF) k ((uW (Nat.lt_trans hdb (by decide))).1 hk)
  have hbl:=pG _ hdb;have g35:=c35 (viewD L D).doubt hdb;have hfe:kB L (viewD L D) (rdsD D 0)=((sortO ltC ((conflP (viewD L D)).map bitsN)).map fun c=>⟨c.map fun(k:Nat)=>(k:Int),xU L c (rdsD D 0),true⟩)++(bitsN (viewD L D).doubt).map fun k=>⟨[(k:Int)],xU L [k] (rdsD D 0),false⟩:=rfl
  rw[hfe] at hS;generalize sortO ltC ((conflP (viewD L D)).map bitsN)=CS at hS g33 hcl hcn;generalize rdsD D 0=p at hS g14 hpl;generalize bitsN (viewD L D).doubt=DS at hS hdk hbl g35;generalize viewD L D=v at g g33 g35;obtain⟨S1,nv,db⟩:=v;simp only[] at g g33 g35;simp only[Qs,Zc,Za,Ψ10];refine xI g ?_ (ha:=by simp only[Zm,Zq,zB,V.norm,zO,zP yU,zP xO,C.norm]<;>rfl);simp only[show((0:Int) !=0)=false from rfl,Qs,bne_iff_ne,ne_eq,Zk,Zc,Ye,Zs,Za,Ψ10];refine xI g14 ?_ (ha:=by simp only[Zm,Zq,zB,V.norm,zO,zP yU,zP xO,C.norm]<;>rfl);simp only[Qs,iO,bne_iff_ne,ne_eq,Zk,Zc,Ye,Zs,Za,Ψ10];refine xI g33 ?_ (ha:=by simp only[Zm,Zq,zB,V.norm,zO,C.normRow,oV,C.norm]<;>rfl);have hcfl:(cfs CS).length=CS.length:=by simp[cfs]
  simp only[hcfl,Qs,Ψ10];rw[uu f10l30.eq_1];refine yA (fun x:Nat×Option Bool=>[(0,lst 8 (L.map zQ)),(6,.k (.c (.ro [zC 1 (sets S1),.int .u64 (nv:Int),.int .u64 (db:Int)] 0))),(8,lst 3 (vF p)),(10,.k (.own 10)),(31,lst 1 (cfs CS)),(32,.int .i64 CS.length),(33,.int .i64 x.1)])
   (fun x=>[(10,.arr 33 3 x.2 (xF ((CS.take x.1).map fun c=>⟨natI c,xU L c p,true⟩)))]) (fun x=>x.1<=CS.length) (fun x=>CS.length-x.1) (0,some true) rfl rfl (ZA _) ?_
  rintro⟨i,nl⟩ hi;simp only[] at hi;by_cases hlt:i<CS.length
  ·have d1:(i:Int)<CS.length:=by omega
   have c4:IntKind.i64.wrap ((i:Int)+1)=(i:Int)+1:=wrap_in (by omega) (by omega);have hat:(cfs CS).getD i []=[zC 1 (zM (natI CS[i]))]:=by simp[cfs,hlt]
   have htk:((CS.take (i+1)).map fun c=>(⟨natI c,xU L c p,true⟩:Flw))=((CS.take i).map fun c=>⟨natI c,xU L c p,true⟩)++[⟨natI CS[i],xU L CS[i] p,true⟩]:=by rw[ZK hlt,ZW];rfl
   have hll:((CS.take i).map fun c=>(⟨natI c,xU L c p,true⟩:Flw)).length=i:=by simp;omega
   obtain⟨hc8,hck⟩:=hcl _ (Zx hlt);generalize CS[i]=c at hat htk hc8 hck;generalize ((CS.take i).map fun c=>(⟨natI c,xU L c p,true⟩:Flw))=A at htk hll;have g34:=c34 L c p (by omega) hc8 hck hpl;simp only[d1,hat,hcfl,Qs,Za,Ψ10];refine xI g34 ?_ (ha:=by simp only[Zm,Zq,zB,V.norm,zO,zP xO,oT,vC,C.norm]<;>rfl);have hq:xF A++[[zC 1 (zM (natI c)),zC 2 (pls (xU L c p)),.bool true]]=xF (A++[⟨natI c,xU L c p,true⟩]):=by simp[xF,pJ]
   simp only[c4,hq,uM,hll,Qs,forall_eq,bne_iff_ne,ne_eq,Zk,ZH,Zc,Zs,Zl,Z5,Za,Zy];exact⟨by omega,by omega,Next.intro (i+1,some false) rfl (by rw[htk];rfl) (by simp only;omega) (by simp only;omega)⟩
  ·obtain rfl:i=CS.length:=by omega
   have d1: ¬((CS.length:Int)<CS.length):=by omega
   rw[Yk];simp only[d1,Qs,Zc,Za,Ψ10];refine xI g35 ?_ (ha:=by rfl);have hDl:(zM (natI DS)).length=DS.length:=by rw[yL,uD]
   simp only[hDl,Qs,Ψ10];rw[uu f10l15.eq_1];have hFL:(xF (List.map (fun c=>(⟨natI c,xU L c p,true⟩:Flw)) CS)).length<=320:=by rw[uM,Zi];exact hcn
   have hSS:((CS.map fun c=>(⟨natI c,xU L c p,true⟩:Flw)))=CS.map fun c=>⟨c.map fun(k:Nat)=>(k:Int),xU L c p,true⟩:=rfl
   rw[<-hSS] at hS;generalize (List.map (fun c=>(⟨natI c,xU L c p,true⟩:Flw)) CS)=FL at hS hFL;refine yA (fun x:Nat×Option Bool=>[(0,lst 8 (L.map zQ)),(8,lst 3 (vF p)),(10,.k (.own 10)),(49,lst 1 (zM (natI DS))),(50,.int .i64 DS.length),(51,.int .i64 x.1)])
    (fun x=>[(10,.arr 33 3 x.2 (xF FL++(DS.take x.1).map (rP L p)))]) (fun x=>x.1<=DS.length) (fun x=>DS.length-x.1) (0,nl) rfl (by simp;rfl) (ZA _) ?_
   rintro⟨i,nl2⟩ hi2;simp only[] at hi2;by_cases hil:i<DS.length
   ·have d2:(i:Int)<DS.length:=by omega
    have c4:IntKind.i64.wrap ((i:Int)+1)=(i:Int)+1:=wrap_in (by omega) (by omega);have hat:(zM (natI DS)).getD i []=[.int .i64 (DS[i]:Int)]:=by simp[zM,natI,hil]
    have htk:(DS.take (i+1)).map (rP L p)=(DS.take i).map (rP L p)++[rP L p DS[i]]:=by rw[ZK hil,ZW];rfl
    have hll:((DS.take i).map (rP L p)).length=i:=by simp;omega
    have hkL:=hdk _ (Zx hil);generalize DS[i]=k at hat htk hkL;generalize (DS.take i).map (rP L p)=R at htk hll;have g34:=c34 L [k] p (by omega) (by simp) (fun j hj=>by simp at hj;omega) hpl;simp only[d2,hat,hDl,Qs,forall_eq,bne_iff_ne,ne_eq,ZH,Zs,Z5,Za,Zy,Ψ10];refine zk1 56 rfl g34 (by simp[zB,vK,lookO,V.isPure,lst]) (by simp only[Zm,Zq,zB,vK,lookO,V.norm,zO,vU,zP xO,oT,C.norm]<;>rfl) (by rfl) (by simp[qZ,lookO]) rfl ?_;have hq:xF FL++R++[[.list 1 (some false) [[.int .i64 (k:Int)]],zC 2 (pls (xU L [k] p)),.bool false]]=xF FL++(R++[rP L p k]):=by rw[Yd];rfl
    have hlR:(xF FL++R).length<=328:=by rw[Zv];omega
    simp only[uS,tG,lookO,c4,hq,Qs,forall_eq,bne_iff_ne,ne_eq,ZH,Zc,Zs,Zl,Z5,Za,Zy];exact⟨by omega,by omega,Next.intro (i+1,some false) rfl (by rw[htk];rfl) (by simp only;omega) (by simp only;omega)⟩
   ·obtain rfl:i=DS.length:=by omega
    have d2: ¬((DS.length:Int)<DS.length):=by omega
    rw[Yk];simp only[d2,Qs,Zk,ZY,Za,Zy,Ψ10];refine hS _ ?_;simp only[V.fz,V.fzL,V.nrm,V.nrmL,zok,ziR,ziS];have e:xF FL++xF (DS.map fun k:Nat=>⟨[(k:Int)],xU L [k] p,false⟩)=xF (FL++DS.map fun k:Nat=>⟨[(k:Int)],xU L [k] p,false⟩):=by simp[xF]
    rw[e,qB (ziR _)];rfl
 ·rw[if_neg h0] at hS
  rw[if_neg h0] at g;generalize lookE L D=er at hS g h0;have e1:(er !=0)=true:=by rw[bne_iff_ne];exact h0
  simp only[Qs,Zc,Za,Ψ10];refine xI g ?_ (ha:=by simp only[Zm,Zq,zB,V.norm,zO,zP yU,zP xO,C.norm]<;>rfl);simp only[e1,Qs,iO,bne_iff_ne,ne_eq,BEq.rfl,Zk,ZY,Zc,Ye,Zs,Za,Zy,Ψ10];exact hS _ rfl
end Go.Abs
namespace Go.Ex
open Go.Lib Go.Wd Go.Wire
def pK (w:List Txt):Bool:=decide (w.length<=6)&&w.all fun s=>decide (s.length<=100)
def pL (f:Fld):Bool:=(decide (f.words.length<=10)&&decide (f.name.length<=100))&&f.words.all pK
def tN (d:Dcm):Bool:=(decide (d.flds.length<=14)&&decide (d.kind.length<=100))&&d.flds.all pL
def rQ (m:Dmd):Bool:=(((decide (m.txt.length<=500)&&decide (m.doc.length<=60))&&decide (m.fld.length<=60))&&decide (m.oth.length<=60))&&decide (m.sec.length<=60)
end Go.Ex
namespace Go.Abs
open Go.Proofs Go.RowKit Go.Lib Go.Wd Go.Wire Go.Ex
theorem c18 (l:List Dcm) (hl:sP l):Spec Tryz.prog 18 [lst 2 (l.map zV)] (fun v=>v=.tup [.int .i64 (cnts l).2.1,.int .i64 (cnts l).2.2]):=by
 refine Spec.of_awlP hf18 okf18 (by simp) fun S hS=>?_
 have hlen:=hl.1;unfold cnts at hS;by_cases h8:l.length>8
 ·rw[if_pos h8] at hS
  have c1:(l.length:Int)>8:=by omega
  simp only[zI,c1,Qs,Zk,Za,Zi,Ψ18];exact hS _ rfl
 ·rw[if_neg h8] at hS
  have c1: ¬(l.length:Int)>8:=by omega
  simp only[zI,c1,Qs,Za,Zi,Ψ18];rw[uu f18l40.eq_1];refine yA (fun i:Nat=>[(0,lst 2 (l.map zV)),(4,.int .i64 i)]) (fun _=>[]) (fun i=>i<=l.length/\xL (fun i=>docE (l.getD i ⟨[],[]⟩)) (l.length-i) i=xL (fun i=>docE (l.getD i ⟨[],[]⟩)) l.length 0) (fun i=>l.length-i) 0 rfl rfl ⟨ZA _,rfl⟩ ?_;rintro i ⟨hi,hD⟩;by_cases hlt:i<l.length
  ·have d1:(i:Int)<l.length:=by omega
   have c4:IntKind.i64.wrap ((i:Int)+1)=(i:Int)+1:=wrap_in (by omega) (by omega);have hgd:l.getD i ⟨[],[]⟩=l[i]:=by rw[Zh,Zg hlt];rfl
   rw[nW hlt,hgd] at hD;have g1:=c41 _ (hl.2 _ (Zx hlt));have hat:=nX hlt;generalize l[i]=d at hD g1 hat;rw[show zV d=[.str d.kind,zC 2 (d.flds.map zR)] from rfl] at g1;simp only[d1,hat,zI,Qs,Za,Zi,Ψ18];refine zF g1 ?_ (ha:=by simp only[Zm,Zq,zB,V.norm,C.norm,C.normRow,yG wO]<;>rfl);by_cases h0:docE d=0
   ·have w0:(docE d !=0)=false:=by simp[h0]
    rw[if_pos h0] at hD;simp only[w0,c4,Qs,Za,Ψ18];exact Next.intro (i+1) rfl rfl ⟨by omega,hD⟩ (by omega)
   ·have w0:(docE d !=0)=true:=by simp[h0]
    rw[if_neg h0] at hD;rw[<-hD,if_neg h0] at hS;simp only[w0,Qs,Zk,Za,Ψ18];exact hS _ rfl
  ·have d1: ¬(i:Int)<l.length:=by omega
   rw[show l.length-i=0 by omega] at hD;have hz:xL (fun i=>docE (l.getD i ⟨[],[]⟩)) l.length 0=0:=hD.symm;rw[if_pos hz] at hS;simp only[d1,zI,Qs,Za,Zi,Ψ18];rw[uu f18l19.eq_1];refine yA (fun x:Nat×List Int×Nat=>[(0,lst 2 (l.map zV)),(6,.int .i64 (x.2.2:Nat)),(7,.int .i64 x.1)]) (fun _=>[]) (fun x=>x.1<=l.length/\x.2.2<=4096/\wK (l.drop x.1) x.2.1 x.2.2=wK l [] 1) (fun x=>l.length-x.1) (0,[],1) rfl rfl ⟨ZA _,by simp only;decide,rfl⟩ ?_;rintro⟨i,L,n⟩ ⟨hi,hn,hD⟩;simp only[] at hi hn hD;by_cases hlt:i<l.length
   ·have d1:(i:Int)<l.length:=by omega
    have c4:IntKind.i64.wrap ((i:Int)+1)=(i:Int)+1:=wrap_in (by omega) (by omega);have g1:=c42 _ (hl.2 _ (Zx hlt));have hat:=nX hlt;rw[ZE hlt,wK] at hD;have hr:=iX (d:=l[i]);generalize l[i]=d at hD g1 hat hr;rw[show zV d=[.str d.kind,zC 2 (d.flds.map zR)] from rfl] at g1;generalize cntD d=c at hD g1 hr;obtain⟨cn,ce⟩:=c;simp only[] at hD g1 hr;have hmul:0<=(n:Int)*cn/\(n:Int)*cn<=4096*4096:=⟨Int.mul_nonneg (by omega) hr.1,Int.mul_le_mul (by omega) hr.2 hr.1 (by omega)⟩;have c5:IntKind.i64.wrap ((n:Int)*cn)=(n:Int)*cn:=wrap_in (by omega) (by omega);simp only[d1,hat,zI,Qs,Za,Zi,Ψ18];refine zF g1 ?_ (ha:=by simp only[Zm,Zq,zB,V.norm,C.norm,C.normRow,yG wO]<;>rfl);by_cases he:ce=0
    ·have e1:(ce !=0)=false:=by simp[he]
     by_cases hb:(n:Int)*cn>4096
     ·rw[if_pos (.inr hb)] at hD
      rw[<-hD] at hS;simp only[e1,c5,hb,Qs,Zk,Za,Ψ18];exact hS _ rfl
     ·rw[if_neg (by intro q;rcases q with q|q;exact q he;exact hb q)] at hD
      obtain⟨c',rfl⟩: ∃c':Nat,cn=c':=⟨cn.toNat,by omega⟩;rw[Z6] at hD;have hnn:(n:Int)*(c':Int)=((n*c':Nat):Int):=(Yt n c').symm;simp only[e1,c4,c5,hb,Qs,Za,Ψ18];exact Next.intro (i+1,L++[(c':Int)],n*c') (by simp only[hnn];rfl) rfl ⟨by simp only;omega,by simp only;omega,hD⟩ (by simp only;omega)
    ·have e1:(ce !=0)=true:=by simp[he]
     rw[if_pos (.inl he)] at hD;rw[<-hD] at hS;simp only[e1,Qs,Zk,Za,Ψ18];exact hS _ rfl
   ·have d1: ¬(i:Int)<l.length:=by omega
    rw[ZC (by omega),wK] at hD;rw[<-hD] at hS;simp only[d1,zI,Qs,Zk,Za,Zi,Ψ18];exact hS _ rfl
theorem c31 (L:List Dmd) (hL:L.length<=8):Spec Tryz.prog 31 [lst 8 (L.map zQ)] (fun v=>v=.bool (L.all rQ)):=by
 refine Spec.of_awlS hf31 okf31 (by simp) fun S hS=>?_
 simp only[zI,Qs,Ψ31];rw[uu f31l15.eq_1];refine yA (fun i:Nat=>[(0,lst 8 (L.map zQ)),(3,.int .i64 i)]) (fun _=>[]) (fun i=>i<=L.length/\(L.drop i).all rQ=L.all rQ) (fun i=>L.length-i) 0 rfl rfl ⟨ZA _,rfl⟩ ?_;rintro i ⟨hi,hD⟩;by_cases hlt:i<L.length
 ·have d1:(i:Int)<L.length:=by omega
  have d2:(i:Int)<40:=by omega
  have c4:IntKind.i64.wrap ((i:Int)+1)=(i:Int)+1:=wrap_in (by omega) (by omega);have hat:=gL hlt;have hgd:L.getD i yZ=L[i]:=by rw[Zh,Zg hlt];rfl
  rw[ZE hlt,Yz] at hD;rw[hgd] at hat;generalize L[i]=m at hat hD;have hbad:rQ m=false->S (.bool false):=fun h=>by
   rw[h,ZP] at hD;rw[<-hD] at hS;exact hS
  have hF:rQ m=true ↔ m.txt.length<=500/\m.doc.length<=60/\m.fld.length<=60/\m.oth.length<=60/\m.sec.length<=60:=by
   unfold rQ;simp only[Zp,decide_eq_true_eq];omega
  have hno: ¬(m.txt.length<=500/\m.doc.length<=60/\m.fld.length<=60/\m.oth.length<=60/\m.sec.length<=60)->S (.bool false):=fun h=>hbad (YE.2 fun q=>h (hF.1 q))
  simp only[d1,d2,c4,hat,zI,Qs,Zc,Zl,Za,Zi,Ψ31];refine⟨fun q=>hno (by omega),fun q1=>⟨fun q=>hno (by omega),fun q2=>⟨fun q=>hno (by omega),fun q3=>⟨fun q=>hno (by omega),fun q4=>⟨fun q=>hno (by omega),fun q5=>?_⟩⟩⟩⟩⟩;rw[hF.2 (by omega),ZJ] at hD;exact Next.intro (i+1) rfl rfl ⟨by omega,hD⟩ (by omega)
 ·have d1: ¬(i:Int)<L.length:=by omega
  have d2:(L.length:Int)<=30:=by omega
  rw[ZC (by omega),Xf] at hD;rw[<-hD] at hS;simp only[d1,d2,zI,Qs,Za,Zi,Ψ31];exact hS
theorem c30 (d:Dcm):Spec Tryz.prog 30 [.agg (zV d)] (fun v=>v=.bool (tN d)):=by
 refine Spec.of_awlS hf30 okf30 (by simp) fun S hS=>?_
 unfold zV;unfold tN at hS;by_cases h14:d.flds.length<=14
 ·by_cases h100:d.kind.length<=100
  ·rw[decide_eq_true h14,decide_eq_true h100,ZJ,ZJ] at hS
   have c1: ¬(d.flds.length:Int)>14:=by omega
   have c2: ¬(d.kind.length:Int)>100:=by omega
   simp only[c1,c2,zI,Qs,Zc,Zl,Za,Zi,Ψ30];rw[uu f30l51.eq_1];refine yA (fun i:Nat=>[(1,.k (.c (.ro [.str d.kind,zC 2 (d.flds.map zR)] 0))),(3,.int .i64 i)]) (fun _=>[]) (fun i=>i<=d.flds.length/\(d.flds.drop i).all pL=d.flds.all pL) (fun i=>d.flds.length-i) 0 rfl rfl ⟨ZA _,rfl⟩ ?_;rintro i ⟨hi,hD⟩;by_cases hlt:i<d.flds.length
   ·have d1:(i:Int)<d.flds.length:=by omega
    have c4:IntKind.i64.wrap ((i:Int)+1)=(i:Int)+1:=wrap_in (by omega) (by omega);have hat:=oL hlt;rw[ZE hlt,Yz] at hD;generalize d.flds[i]=f at hat hD;have hbad:pL f=false->S (.bool false):=fun h=>by
     rw[h,ZP] at hD;rw[<-hD] at hS;exact hS
    have hF:pL f=((decide (f.words.length<=10)&&decide (f.name.length<=100))&&f.words.all pK):=rfl;by_cases h10:f.words.length<=10
    ·by_cases hnm:f.name.length<=100
     ·rw[decide_eq_true h10,decide_eq_true hnm,ZJ,ZJ] at hF
      have e1: ¬(f.words.length:Int)>10:=by omega
      have e2: ¬(f.name.length:Int)>100:=by omega
      simp only[d1,e1,e2,hat,zI,Qs,Zc,Zl,Za,Zi,Ψ30];rw[uu f30l35.eq_1];refine yA (fun k:Nat=>[(1,.k (.c (.ro [.str d.kind,zC 2 (d.flds.map zR)] 0))),(3,.int .i64 i),(4,.int .i64 k)]) (fun _=>[]) (fun k=>k<=f.words.length/\(f.words.drop k).all pK=f.words.all pK) (fun k=>f.words.length-k) 0 rfl rfl ⟨ZA _,rfl⟩ ?_;rintro k ⟨hk,hD2⟩;by_cases hlk:k<f.words.length
      ·have d2:(k:Int)<f.words.length:=by omega
       have c5:IntKind.i64.wrap ((k:Int)+1)=(k:Int)+1:=wrap_in (by omega) (by omega);have haw:=lX hlk;rw[ZE hlk,Yz] at hD2;generalize f.words[k]=w at haw hD2;have hbad2:pK w=false->S (.bool false):=fun h=>hbad (by rw[hF,<-hD2,h,ZP])
       have hW:pK w=(decide (w.length<=6)&&w.all fun s=>decide (s.length<=100)):=rfl;by_cases h6:w.length<=6
       ·rw[decide_eq_true h6,ZJ] at hW
        have e3: ¬(w.length:Int)>6:=by omega
        simp only[d1,d2,e3,hat,haw,zI,yB,Qs,Zc,Za,Zi,Ψ30];rw[uu f30l17.eq_1];refine yA (fun j:Nat=>[(1,.k (.c (.ro [.str d.kind,zC 2 (d.flds.map zR)] 0))),(3,.int .i64 i),(4,.int .i64 k),(5,lst 1 (zJ w)),(6,.int .i64 j)]) (fun _=>[]) (fun j=>j<=w.length/\(w.drop j).all (fun s=>decide (s.length<=100))=w.all fun s=>decide (s.length<=100)) (fun j=>w.length-j) 0 rfl rfl ⟨ZA _,rfl⟩ ?_;rintro j ⟨hj,hD3⟩;by_cases hlj:j<w.length
        ·have d3:(j:Int)<w.length:=by omega
         have c6:IntKind.i64.wrap ((j:Int)+1)=(j:Int)+1:=wrap_in (by omega) (by omega);have has:=uI hlj;rw[ZE hlj,Yz] at hD3;generalize w[j]=s at has hD3;by_cases hs:s.length<=100
         ·rw[decide_eq_true hs,ZJ] at hD3
          have e4: ¬(s.length:Int)>100:=by omega
          simp only[d3,e4,c6,has,yB,Qs,Za,Ψ30];exact Next.intro (j+1) rfl rfl ⟨by omega,hD3⟩ (by omega)
         ·rw[decide_eq_false hs,ZP] at hD3
          have e4:(s.length:Int)>100:=by omega
          simp only[d3,e4,has,yB,Qs,Za,Ψ30];exact hbad2 (by rw[hW,<-hD3])
        ·have d3: ¬(j:Int)<w.length:=by omega
         rw[ZC (by omega),Xf] at hD3;rw[hW,<-hD3,ZJ] at hD2;simp only[d3,c5,yB,Qs,reduceCtorEq,Zs,Za,Ψ30];exact Next.intro (k+1) rfl rfl ⟨by omega,hD2⟩ (by omega)
       ·rw[decide_eq_false h6,ZP] at hW
        have e3:(w.length:Int)>6:=by omega
        simp only[d1,d2,e3,hat,haw,zI,yB,Qs,Zc,Za,Zi,Ψ30];exact hbad2 hW
      ·have d2: ¬(k:Int)<f.words.length:=by omega
       rw[ZC (by omega),Xf] at hD2;rw[hF,<-hD2,ZJ] at hD;simp only[d1,d2,c4,hat,zI,Qs,reduceCtorEq,Zc,Za,Zi,Ψ30];exact Next.intro (i+1) rfl rfl ⟨by omega,hD⟩ (by omega)
     ·rw[decide_eq_false hnm,YU,ZP] at hF
      have e1: ¬(f.words.length:Int)>10:=by omega
      have e2:(f.name.length:Int)>100:=by omega
      simp only[d1,e1,e2,hat,zI,Qs,Zc,Zl,Za,Zi,Ψ30];exact hbad hF
    ·rw[decide_eq_false h10,ZP,ZP] at hF
     have e1:(f.words.length:Int)>10:=by omega
     simp only[d1,e1,hat,zI,Qs,Zc,Za,Zi,Ψ30];exact hbad hF
   ·have d1: ¬(i:Int)<d.flds.length:=by omega
    rw[ZC (by omega),Xf] at hD;rw[<-hD] at hS;simp only[d1,zI,Qs,Zc,Za,Zi,Ψ30];exact hS
  ·rw[decide_eq_false h100,YU,ZP] at hS
   have c1: ¬(d.flds.length:Int)>14:=by omega
   have c2:(d.kind.length:Int)>100:=by omega
   simp only[c1,c2,zI,Qs,Zc,Zl,Za,Zi,Ψ30];exact hS
 ·rw[decide_eq_false h14,ZP,ZP] at hS
  have c1:(d.flds.length:Int)>14:=by omega
  simp only[c1,zI,Qs,Zc,Za,Zi,Ψ30];exact hS
end Go.Abs
namespace Go.Ex
open Go.Lib Go.Wd Go.Wire Go.Abs
def mI (L:List Dmd) (D:List Dcm):Bool:=(D.take 12).all tN&&(decide (L.length<=8)&&(decide (D.length<=12)&&(L.all rQ&&(decide ((cnts D).2.2≠0)||decide ((cnts D).2.1<=128)))))
theorem ziT {d:Dcm} (h:tN d=true):DcmS d:=by
 unfold tN at h;simp only[Zp,decide_eq_true_eq,Zu] at h;obtain⟨⟨h1,h2⟩,h3⟩:=h;refine⟨by omega,by omega,fun f hf=>?_⟩;have:=h3 f hf;unfold pL at this;simp only[Zp,decide_eq_true_eq,Zu] at this;obtain⟨⟨h4,h5⟩,h6⟩:=this;refine⟨by omega,by omega,fun w hw=>?_⟩;have:=h6 w hw;unfold pK at this;simp only[Zp,decide_eq_true_eq,Zu] at this;exact⟨by omega,fun s hs=>by have:=this.2 s hs;omega⟩
theorem aW {D:List Dcm} (h1:(D.take 12).all tN=true) (h2:D.length<=12):sP D:=by
 rw[Z9 (by omega)] at h1;exact⟨by omega,fun d hd=>ziT (Zu.1 h1 d hd)⟩
end Go.Ex
namespace Go.Abs
open Go.Proofs Go.RowKit Go.Lib Go.Wd Go.Wire Go.Ex
theorem c9 (L:List Dmd) (D:List Dcm):Spec Tryz.prog 9 [lst 8 (L.map zQ),lst 2 (D.map zV)] (fun v=>v=.bool (mI L D)):=by
 refine Spec.of_awlS hf9 okf9 (by simp) fun S hS=>?_
 unfold mI at hS;simp only[zI,Qs,Zc,Ψ9];rw[uu f9l23.eq_1];refine yA (fun i:Nat=>[(0,lst 8 (L.map zQ)),(1,lst 2 (D.map zV)),(5,.int .i64 i)]) (fun _=>[]) (fun i=>i<=D.length/\i<=12/\((D.take 12).drop i).all tN=(D.take 12).all tN) (fun i=>D.length-i) 0 rfl rfl ⟨ZA _,by decide,rfl⟩ ?_;rintro i ⟨hi,hi12,hD⟩;have fin: ¬(i<D.length/\i<12)->(D.take 12).all tN=true:=fun h=>by
  rw[<-hD,ZC (by rw[Yy];omega)];rfl
 by_cases hlt:i<D.length
 ·by_cases h12:i<12
  ·have d1:(i:Int)<D.length:=by omega
   have d2:(i:Int)<12:=by omega
   have c4:IntKind.i64.wrap ((i:Int)+1)=(i:Int)+1:=wrap_in (by omega) (by omega);have hat:=nX hlt;have hlt2:i<(D.take 12).length:=by rw[Yy];omega
   have hg:(D.take 12)[i]=D[i]:=List.getElem_take;rw[ZE hlt2,Yz,hg] at hD;have g1:=c30 D[i];generalize D[i]=d at hat hD g1;rw[show zV d=[.str d.kind,zC 2 (d.flds.map zR)] from rfl] at g1;simp only[d1,d2,hat,zI,Qs,Za,Zi,Ψ9];refine zF g1 ?_ (ha:=by simp only[Zm,Zq,zB,V.norm,C.norm,C.normRow,yG wO]<;>rfl);cases hf:tN d with
   |true=>
    rw[hf,ZJ] at hD;simp only[c4,Qs,Za,Ψ9];exact Next.intro (i+1) rfl rfl ⟨by omega,by omega,hD⟩ (by omega)
   |false=>
    rw[hf,ZP] at hD;rw[<-hD,ZP] at hS;simp only[Qs,Ψ9];exact hS
  ·have d1:(i:Int)<D.length:=by omega
   have d2: ¬(i:Int)<12:=by omega
   have hall:=fin (by omega);simp only[d1,d2,zI,Qs,Za,Zi,Ψ9];rw[hall,ZJ] at hS;refine⟨fun q=>?_,fun q1=>⟨fun q=>?_,fun q2=>?_⟩⟩
   ·rw[decide_eq_false (by omega: ¬L.length<=8),ZP] at hS
    exact hS
   ·rw[decide_eq_true (by omega:L.length<=8),ZJ,decide_eq_false (by omega: ¬D.length<=12),ZP] at hS
    exact hS
   ·have q12:D.length<=12:=by omega
    rw[decide_eq_true (by omega:L.length<=8),ZJ,decide_eq_true q12,ZJ] at hS;have g31:=c31 L (by omega);have g18:=c18 D (aW hall q12);refine zF g31 ?_ (ha:=by simp only[Zm,Zq,zB,V.norm,zO,zP xO,C.norm]<;>rfl);cases hm:L.all rQ with
    |false=>
     rw[hm,ZP] at hS;simp only[Qs,Za,Ψ9];exact hS
    |true=>
     rw[hm,ZJ] at hS;simp only[Qs,Za,Ψ9];refine zF g18 ?_ (ha:=by simp only[Zm,Zq,zB,V.norm,zO,zP yU,C.norm]<;>rfl);by_cases he:(cnts D).2.2=0
     ·have e1:((cnts D).2.2 !=0)=false:=by simp[he]
      rw[decide_eq_false (fun q=>q he),Ym] at hS;simp only[e1,Qs,Za,Ψ9];exact hS
     ·have e1:((cnts D).2.2 !=0)=true:=by simp[he]
      rw[decide_eq_true he,Y7] at hS;simp only[e1,Qs,Za,Ψ9];exact hS
 ·have d1: ¬(i:Int)<D.length:=by omega
  have hall:=fin (by omega);simp only[d1,zI,Qs,Za,Zi,Ψ9];rw[hall,ZJ] at hS;refine⟨fun q=>?_,fun q1=>⟨fun q=>?_,fun q2=>?_⟩⟩
  ·rw[decide_eq_false (by omega: ¬L.length<=8),ZP] at hS
   exact hS
  ·rw[decide_eq_true (by omega:L.length<=8),ZJ,decide_eq_false (by omega: ¬D.length<=12),ZP] at hS
   exact hS
  ·have q12:D.length<=12:=by omega
   rw[decide_eq_true (by omega:L.length<=8),ZJ,decide_eq_true q12,ZJ] at hS;have g31:=c31 L (by omega);have g18:=c18 D (aW hall q12);refine zF g31 ?_ (ha:=by simp only[Zm,Zq,zB,V.norm,zO,zP xO,C.norm]<;>rfl);cases hm:L.all rQ with
   |false=>
    rw[hm,ZP] at hS;simp only[Qs,Za,Ψ9];exact hS
   |true=>
    rw[hm,ZJ] at hS;simp only[Qs,Za,Ψ9];refine zF g18 ?_ (ha:=by simp only[Zm,Zq,zB,V.norm,zO,zP yU,C.norm]<;>rfl);by_cases he:(cnts D).2.2=0
    ·have e1:((cnts D).2.2 !=0)=false:=by simp[he]
     rw[decide_eq_false (fun q=>q he),Ym] at hS;simp only[e1,Qs,Za,Ψ9];exact hS
    ·have e1:((cnts D).2.2 !=0)=true:=by simp[he]
     rw[decide_eq_true he,Y7] at hS;simp only[e1,Qs,Za,Ψ9];exact hS
end Go.Abs
namespace Go.Ex
open Go.Lib Go.Wd Go.Wire Go.Abs
def okK (L:List Dmd) (p:List Pln) (k:Int):Bool:=decide (0<=k)&&(decide (k<L.length)&&wV (L.getD k.toNat yZ) p)
def zpn (L:List Dmd) (D:List Dcm) (w:List Int) (i:Int):Bool:=decide (zpf D i=0)&&w.all (okK L (zpa D i))
def zpA (L:List Dmd) (D:List Dcm) (w:List Int):Bool:=(List.range (cnts D).2.1.toNat).any fun i:Nat=>zpn L D w i
end Go.Ex
namespace Go.Abs
open Go.Proofs Go.RowKit Go.Lib Go.Wd Go.Wire Go.Ex
end Go.Abs
namespace Go.Ex
open Go.Lib Go.Wd Go.Wire Go.Abs Go.Proofs
structure DmdI (m:Dmd):Prop where
 l1: -9223372036854775808<=m.lo
 l2:m.lo<=9223372036854775807
 h1: -9223372036854775808<=m.hi
 h2:m.hi<=9223372036854775807
theorem ziU {B:Nat}: ∀l:List Txt,(∀s∈l,s.length<=B)->yY l<=l.length*B
 |[],_=>by simp[yY]
 |s::l,h=>by
  have h1:=h s (by simp);have h2:=ziU l fun x hx=>h x (Zz _ hx)
  rw[yY,Zo,Xb];omega
theorem zon {f:Fld} (hf:pL f=true) (hp: ∀w∈f.words,1<=w.length) (i:Nat):(textF f i).length<=2000:=by
 unfold pL at hf;simp only[Zp,decide_eq_true_eq,Zu] at hf;obtain⟨⟨h4,_⟩,h6⟩:=hf;have hm:=zhC (W:=f.words) (i:=i) (B:=100) fun w hw=>⟨hp w hw,fun s hs=>by
  have:=h6 w hw
  unfold pK at this
  simp only[Zp,decide_eq_true_eq,Zu] at this
  exact this.2 s hs⟩
 have hl:=bO f.words i;unfold textF;rw[<-bP];have h1:=zpy [32] (pick f.words i).1;have h2:=ziU _ hm;rw[hl] at h1 h2;simp only[Zo,ZG] at h1;omega
theorem ziV: ∀(l:List Fld) (i:Nat),(wQ l i).1.length=l.length/\ ∀s∈(wQ l i).1,∃f∈l,∃j,s=textF f j
 |[],i=>by simp[wQ]
 |f::l,i=>by
  have ih:=ziV l i;rw[wQ];refine⟨by simp[ih.1],fun s hs=>?_⟩;rcases ZH.1 hs with rfl|hs
  ·exact⟨f,by simp,_,rfl⟩
  ·obtain⟨g,hg,j,e⟩:=ih.2 s hs
   exact⟨g,Zz _ hg,j,e⟩
theorem zoo {d:Dcm} (h:tN d=true) (h0:docE d=0) (q:Nat):PlnS (rdD d q):=by
 have hR:=oM (ziT h) h0;unfold tN at h;simp only[Zp,decide_eq_true_eq,Zu] at h;obtain⟨⟨h1,h2⟩,h3⟩:=h;obtain⟨t1,t2⟩:=ziV d.flds q;refine⟨by show d.kind.length<=_;omega,by show(d.flds.map Fld.name).length<=_;rw[Zi];omega,by show(wQ d.flds q).1.length<=_;omega,fun s hs=>?_⟩;obtain⟨f,hf,j,rfl⟩:=t2 s hs;obtain⟨i,hi,rfl⟩:=YW hf;have hF:=(bE hi (hR.s.fl _ hf) (hR.fe i hi)).1;have:=zon (h3 _ hf) (fun w hw=>(hF.sp w hw).1) j;omega
theorem ziW: ∀(D:List Dcm) (cs:List Nat) (i:Nat),(xN D cs i).1.length<=D.length/\ ∀p∈(xN D cs i).1,∃d∈D,∃q,p=rdD d q
 |[],cs,i=>by cases cs<;>simp[xN]
 |d::D,[],i=>by simp[xN]
 |d::D,c::cs,i=>by
  have ih:=ziW D cs i;rw[xN];refine⟨by simp[ih.1],fun s hs=>?_⟩;rcases ZH.1 hs with rfl|hs
  ·exact⟨d,by simp,_,rfl⟩
  ·obtain⟨g,hg,j,e⟩:=ih.2 s hs
   exact⟨g,Zz _ hg,j,e⟩
theorem gU {L:List Dmd} {D:List Dcm} (hL: ∀m∈L,DmdI m) (h:mI L D=true):AskS L D/\((cnts D).2.2=0->xY D<=128):=by
 unfold mI at h;simp only[Zp,decide_eq_true_eq,Yi] at h;obtain⟨h1,h2,h3,h4,h5⟩:=h;have hD:=aW h1 h3;rw[Z9 (by omega),Zu] at h1;rw[Zu] at h4;refine⟨⟨h2,fun m hm=>?_,hD,fun h0 i _=>?_⟩,fun h0=>?_⟩
 ·have:=h4 m hm
  unfold rQ at this;simp only[Zp,decide_eq_true_eq] at this;obtain⟨⟨⟨⟨a1,a2⟩,a3⟩,a4⟩,a5⟩:=this;have hI:=hL m hm;exact⟨by omega,by omega,by omega,by omega,by omega,hI.l1,hI.l2,hI.h1,hI.h2⟩
 ·have hok:=rM h0
  obtain⟨r1,r2⟩:=ziW D (vZ D) i;refine⟨by show(xN D (vZ D) i).1.length<=_;omega,fun p hp=>?_⟩;obtain⟨d,hd,q,rfl⟩:=r2 p hp;exact zoo (h1 d hd) (kC (hok.e d hd)) q
 ·have hok:=rM h0
  rcases h5 with h5|h5
  ·exact absurd h0 h5
  ·have:=hok.n
   omega
end Go.Ex
namespace Go.Ex
open Go.Lib Go.Wd Go.Wire Go.Abs
theorem kJ {L:List Dmd} {D:List Dcm} (h:lookE L D=0):(cnts D).2.2=0:=by
 unfold lookE at h;split at h
 ·exact h
 ·cases h
theorem zoq {D:List Dcm} (h:(cnts D).2.2=0) {i:Nat} (hi:i<xY D):zpf D (i:Int)=0/\zpa D (i:Int)=rdsD D i:=by
 have hok:=rM h;have hn:=hok.n;have e:zpf D (i:Int)=0:=by
  unfold zpf;rw[if_neg (by simp[h]),if_neg (by omega)]
 refine⟨e,?_⟩;unfold zpa;rw[if_pos e,Z6]
theorem ziX {L:List Dmd} {D:List Dcm} (h:(cnts D).2.2=0) {i:Nat} (hi:i<xY D) {c:List Nat} (hc: ∀k∈c,k<L.length):zpn L D (natI c) (i:Int)=true ↔ ∀k∈c,(wL (sR L (rdsD D i))).testBit k=false:=by
 obtain⟨e1,e2⟩:=zoq h hi;unfold zpn;rw[decide_eq_true e1,ZJ,e2,Zu];constructor
 ·intro hh k hk
  have:=hh (k:Int) (ZB.2 ⟨k,hk,rfl⟩);unfold okK at this;simp only[Zp,decide_eq_true_eq,Z6] at this;rw[gG,decide_eq_false_iff_not,gF];rintro⟨_,q⟩;rw[this.2.2] at q;cases q
 ·intro hh z hz
  obtain⟨k,hk,rfl⟩:=ZB.1 hz;have:=hh k hk;rw[gG,decide_eq_false_iff_not,gF] at this;have hl:=hc k hk;unfold okK;simp only[Zp,decide_eq_true_eq,Z6];refine⟨by omega,by omega,?_⟩;cases q:wV (L.getD k yZ) (rdsD D i) with
  |true=>rfl
  |false=>exact absurd ⟨hl,q⟩ this
theorem aX {L:List Dmd} {D:List Dcm} (h:(cnts D).2.2=0) {c:List Nat} (hc: ∀k∈c,k<L.length):zpA L D (natI c)=true ↔ ∃f∈yN L D,∀k∈c,f.testBit k=false:=by
 unfold zpA;rw[Yo];constructor
 ·rintro⟨i,hi,hm⟩
  have hi:i<xY D:=Z7.1 hi;exact⟨_,ZB.2 ⟨i,Z7.2 hi,rfl⟩,(ziX h hi hc).1 hm⟩
 ·rintro⟨f,hf,hm⟩
  obtain⟨i,hi,rfl⟩:=ZB.1 hf;exact⟨i,hi,(ziX h (Z7.1 hi) hc).2 hm⟩
theorem aY {L:List Dmd} {D:List Dcm} (hA:AskS L D) (h:(cnts D).2.2=0):yN L D≠[]:=by
 have:=ziQ hA.dc h;intro e;have:=congrArg List.length e;simp[yN] at this;omega
theorem gV {L:List Dmd} {D:List Dcm} (hA:AskS L D) (h0:lookE L D=0) (d:List Int):(∃x∈flawsE L D,x.sure=true/\x.dem=d) ↔ ∃s,s<2 ^ L.length/\wP (yN L D) s=true/\d=natI (bitsN s):=by
 have hcn:=kJ h0;have hm: ∀s,s∈conflP (viewD L D) ↔ _:=bT hA.l8 (aY hA hcn) (mD L D);unfold flawsE;rw[if_pos h0];unfold gI kB;constructor
 ·rintro⟨x,hx,hs,rfl⟩
  rcases Yg.1 hx with hx|hx
  ·obtain⟨c,hc,rfl⟩:=ZB.1 hx
   obtain⟨s,hs2,rfl⟩:=ZB.1 ((qD ltC _).mem_iff.1 hc);exact⟨s,((hm s).1 hs2).1,((hm s).1 hs2).2,rfl⟩
  ·obtain⟨k,hk,rfl⟩:=ZB.1 hx
   cases hs
 ·rintro⟨s,h1,h2,rfl⟩
  have hs:=(hm s).2 ⟨h1,h2⟩;exact⟨_,Yg.2 (.inl (ZB.2 ⟨bitsN s,(qD ltC _).mem_iff.2 (ZB.2 ⟨s,hs,rfl⟩),rfl⟩)),rfl,rfl⟩
theorem kK {m s:Nat} (hm:m<=8) (hs:s<2 ^ m):s<256/\ ∀k∈bitsN s,k<m:=by
 have h256:2 ^ m<=256:=(Yf (n:=2) (by decide) hm:2 ^ m<=2 ^ 8);exact⟨by omega,fun k hk=>xT.1 hs k ((uW (by omega)).1 hk)⟩
def zpc (f:Fld) (t:Txt):Prop:= ∃i,i<yQ f/\t=textF f i
def zpg:List Fld->List Txt->Prop
 |[],[]=>True
 |f::l,t::ts=>zpc f t/\zpg l ts
 |_,_=>False
def zo6 (l:List Fld):List Nat:=l.map yQ
theorem zpS: ∀(l:List Fld) (i:Nat),(wQ l i).2=(zo7 (zo6 l) i).2/\(wQ l i).1=List.zipWith textF l (zo7 (zo6 l) i).1
 |[],i=>⟨rfl,rfl⟩
 |f::l,i=>by
  obtain⟨h1,h2⟩:=zpS l i;show(wQ l i).2/yQ f=(zo7 (zo6 l) i).2/yQ f/\textF f ((wQ l i).2 % yQ f)::(wQ l i).1=List.zipWith textF (f::l) ((zo7 (zo6 l) i).2 % yQ f::(zo7 (zo6 l) i).1);rw[h1,h2];exact⟨rfl,rfl⟩
theorem zqj: ∀{l:List Fld} {ds:List Nat},InR (zo6 l) ds->zpg l (List.zipWith textF l ds)
 |[],[],_=>trivial
 |_::_,d::_,h=>⟨⟨d,h.1,rfl⟩,zqj h.2⟩
 |[],_::_,h=>h.elim
 |_::_,[],h=>h.elim
theorem zqk: ∀{l:List Fld} {ts:List Txt},zpg l ts-> ∃ds,InR (zo6 l) ds/\ts=List.zipWith textF l ds
 |[],[],_=>⟨[],trivial,rfl⟩
 |f::l,t::ts,h=>by
  obtain⟨⟨i,hi,rfl⟩,h2⟩:=h;obtain⟨ds,h3,rfl⟩:=zqk h2;exact⟨i::ds,⟨hi,h3⟩,rfl⟩
 |[],_::_,h=>h.elim
 |_::_,[],h=>h.elim
theorem zpo {l:List Fld} (hp: ∀f∈l,0<yQ f): ∀s∈zo6 l,0<s:=fun s hs=>by
 obtain⟨f,hf,rfl⟩:=ZB.1 hs;exact hp f hf
theorem zri {l:List Fld} (hp: ∀f∈l,0<yQ f) (i:Nat):zpg l (wQ l i).1:=by
 rw[(zpS l i).2];exact zqj (zqi i (zpo hp))
theorem zrj {l:List Fld} (hp: ∀f∈l,0<yQ f) {ts:List Txt} (h:zpg l ts): ∃i,i<zo5 (zo6 l)/\(wQ l i).1=ts:=by
 obtain⟨ds,h1,rfl⟩:=zqk h;obtain⟨i,hi,hd⟩:=zpQ (zpo hp) h1;exact⟨i,hi,by rw[(zpS l i).2,hd]⟩
structure posP (d:Dcm) (p:Pln):Prop where
 kd:p.kind=d.kind
 ns:p.names=d.flds.map Fld.name
 ts:zpg d.flds p.texts
def zo9:List Dcm->List Pln->Prop
 |[],[]=>True
 |d::l,p::ps=>posP d p/\zo9 l ps
 |_,_=>False
theorem zql: ∀{l:List Fld} {n:Nat},(vD l n).2=0->(vD l n).1=((n*zo5 (zo6 l):Nat):Int)
 |[],n,_=>by simp[vD,zo6,zo5]
 |f::l,n,h=>by
  rw[vD] at h⊢;split at h
  ·cases h
  ·rename_i hq
   rw[if_neg hq,zql h];show((n*yQ f*zo5 (zo6 l):Nat):Int)=((n*(yQ f*zo5 (zo6 l)):Nat):Int);rw[XD]
theorem zqm: ∀{l:List Fld} {n:Nat},(∀f∈l,0<yQ f)->n*zo5 (zo6 l)<=4096->vD l n=(((n*zo5 (zo6 l):Nat):Int),0)
 |[],n,_,_=>by simp[vD,zo6,zo5]
 |f::l,n,hp,h=>by
  have hp': ∀x∈l,0<yQ x:=fun x hx=>hp x (Zz _ hx)
  have h1:=zpi (zpo hp');have e:n*zo5 (zo6 (f::l))=n*yQ f*zo5 (zo6 l):=by
   show n*(yQ f*zo5 (zo6 l))=_;rw[XD]
  rw[e] at h⊢;have:n*yQ f<=n*yQ f*zo5 (zo6 l):=Xd _ h1;rw[vD,if_neg (by omega)];exact zqm hp' h
def prD (d:Dcm):Nat:=zo5 (zo6 d.flds)
def prL (D:List Dcm):Nat:=zo5 (D.map prD)
theorem zph {d:Dcm} (hd:DcmS d) (h:docE d=0): ∀f∈d.flds,0<yQ f:=fun _ hf=>zhi ((oM hd h).fld hf)
theorem zqn {d:Dcm} (h:(cntD d).2=0):(cntD d).1=(prD d:Nat):=by
 have h0:=kC h;unfold cntD at h⊢;rw[if_pos h0] at h⊢;rw[zql h,Xs];rfl
theorem zrk {d:Dcm} (hd:DcmS d) (h:docE d=0) (hp:prD d<=4096):cntD d=(((prD d:Nat):Int),0):=by
 unfold cntD;rw[if_pos h,zqm (zph hd h) (by rw[Xs];exact hp),Xs];rfl
theorem zpp {d:Dcm} (hd:DcmS d) (h:docE d=0):0<prD d:=zpi (zpo (zph hd h))
structure GoodD (D:List Dcm):Prop where
 s:sP D
 c:(cnts D).2.2=0
theorem GoodD.ok {D:List Dcm} (h:GoodD D):CntOk D:=rM h.c
theorem GoodD.doc {D:List Dcm} (h:GoodD D) {d:Dcm} (hd:d∈D):docE d=0:=kC (h.ok.e d hd)
theorem zqo {D:List Dcm} (h:CntOk D):vZ D=D.map prD:=by
 unfold vZ;rw[h.l,Xe];exact Y9 fun d hd=>by rw[YY,zqn (h.e d hd),Z6]
theorem zqp: ∀(D:List Dcm) (a:Nat),(∀d∈D,(cntD d).2=0)->D.foldl (fun a d=>a*(cntD d).1.toNat) a=a*prL D
 |[],a,_=>(YS a).symm
 |d::D,a,h=>by
  rw[YQ,zqp D _ fun x hx=>h x (Zz _ hx),zqn (h d (by simp)),Z6];show a*prD d*prL D=a*(prD d*prL D);rw[XD]
theorem zqq {D:List Dcm} (h:CntOk D):xY D=prL D:=by rw[h.p,zqp D 1 h.e,Xs]
theorem zpB {f:Nat->Int}: ∀{n i:Nat},(∀k,k<n->f (i+k)=0)->xL f n i=0
 |0,_,_=>rfl
 |n+1,i,h=>by
  rw[xL,if_pos (show f i=0 from h 0 (by omega))];exact zpB fun k hk=>by have:=h (k+1) (by omega);rwa [show i+(k+1)=i+1+k by omega] at this
theorem zqr: ∀{D:List Dcm} {acc:List Int} {n:Nat},0<n->(∀d∈D,DcmS d/\docE d=0)->n*prL D<=4096->(wK D acc n).2.2=0
 |[],_,_,_,_,_=>rfl
 |d::D,acc,n,hn,hd,h=>by
  obtain⟨h1,h2⟩:=hd d (by simp);have hd': ∀x∈D,DcmS x/\docE x=0:=fun x hx=>hd x (Zz _ hx)
  have hq:0<prL D:=zpi fun s hs=>by obtain⟨x,hx,rfl⟩:=ZB.1 hs;exact zpp (hd' x hx).1 (hd' x hx).2
  have e:n*prL (d::D)=n*prD d*prL D:=by
   show n*(prD d*prL D)=_;rw[XD]
  rw[e] at h;have a1:n*prD d<=n*prD d*prL D:=Xd _ hq;have a2:prD d<=n*prD d:=Nat.le_mul_of_pos_left _ hn;have hc:=zrk h1 h2 (by omega);have a3:((n*prD d:Nat):Int)=(n:Int)*(prD d:Nat):=Yt _ _;rw[wK,hc,if_neg (by simp only[];omega)];simp only[Z6];exact zqr (Nat.mul_pos hn (zpp h1 h2)) hd' h
theorem zrl {D:List Dcm} (h8:D.length<=8) (hd: ∀d∈D,DcmS d/\docE d=0) (hp:prL D<=4096):GoodD D:=by
 refine⟨⟨by omega,fun d h=>(hd d h).1⟩,?_⟩;unfold cnts;rw[if_neg (by omega),if_pos]
 ·exact zqr Nat.one_pos hd (by rw[Xs];exact hp)
 ·refine zpB fun k hk=>?_
  rw[ZV,Zh,Zg hk];exact(hd _ (Zx hk)).2
theorem GoodD.pr {D:List Dcm} (h:GoodD D):prL D<=4096:=by rw[<-zqq h.ok];exact h.ok.le
theorem zpT: ∀(D:List Dcm) (cs:List Nat) (i:Nat),cs.length=D.length->(xN D cs i).2=(zo7 cs i).2/\(xN D cs i).1=List.zipWith rdD D (zo7 cs i).1
 |[],[],i,_=>⟨rfl,rfl⟩
 |d::D,c::cs,i,h=>by
  obtain⟨h1,h2⟩:=zpT D cs i (by simpa using h);show(xN D cs i).2/c=(zo7 cs i).2/c/\rdD d ((xN D cs i).2 % c)::(xN D cs i).1=List.zipWith rdD (d::D) ((zo7 cs i).2 % c::(zo7 cs i).1);rw[h1,h2];exact⟨rfl,rfl⟩
 |[],_::_,_,h=>by simp at h
 |_::_,[],_,h=>by simp at h
theorem zqs: ∀{D:List Dcm} (ds:List Nat),(∀d∈D,DcmS d/\docE d=0)->ds.length=D.length->zo9 D (List.zipWith rdD D ds)
 |[],[],_,_=>trivial
 |d::D,i::ds,hd,h=>⟨⟨rfl,rfl,zri (zph (hd d (by simp)).1 (hd d (by simp)).2) i⟩,zqs ds (fun x hx=>hd x (Zz _ hx)) (by simpa using h)⟩
 |[],_::_,_,h=>by simp at h
 |_::_,[],_,h=>by simp at h
theorem zqt: ∀{D:List Dcm} {P:List Pln},(∀d∈D,DcmS d/\docE d=0)->zo9 D P-> ∃ds,InR (D.map prD) ds/\P=List.zipWith rdD D ds
 |[],[],_,_=>⟨[],trivial,rfl⟩
 |d::D,p::P,hd,h=>by
  obtain⟨⟨k1,k2,k3⟩,h2⟩:=h;obtain⟨ds,h3,rfl⟩:=zqt (fun x hx=>hd x (Zz _ hx)) h2;obtain⟨i,hi,e⟩:=zrj (zph (hd d (by simp)).1 (hd d (by simp)).2) k3;refine⟨i::ds,⟨hi,h3⟩,?_⟩;show p::_=rdD d i::_;obtain⟨pk,pn,pt⟩:=p;simp only at k1 k2 e;subst k1 k2 e;rfl
 |[],_::_,_,h=>h.elim
 |_::_,[],_,h=>h.elim
theorem GoodD.docs {D:List Dcm} (h:GoodD D): ∀d∈D,DcmS d/\docE d=0:=fun d hd=>⟨h.s.2 d hd,h.doc hd⟩
theorem zpU {D:List Dcm} (h:GoodD D) (i:Nat):zo9 D (rdsD D i):=by
 unfold rdsD;rw[zqo h.ok,(zpT D (D.map prD) i (by simp)).2];exact zqs _ h.docs (by rw[zqh];simp)
theorem zqu {D:List Dcm} (h:GoodD D) {P:List Pln} (hP:zo9 D P): ∃i,i<xY D/\rdsD D i=P:=by
 obtain⟨ds,h1,rfl⟩:=zqt h.docs hP;obtain⟨i,hi,e⟩:=zpQ (fun s hs=>by obtain⟨x,hx,rfl⟩:=ZB.1 hs;exact zpp (h.docs x hx).1 (h.docs x hx).2) h1;refine⟨i,by rw[zqq h.ok];exact hi,?_⟩;unfold rdsD;rw[zqo h.ok,(zpT D (D.map prD) i (by simp)).2,e]
theorem zpC {L:List Dmd} {D:List Dcm} (h:GoodD D) (f:Nat):f∈yN L D ↔ ∃P,zo9 D P/\f=wL (sR L P):=by
 unfold yN;rw[ZB];constructor
 ·rintro⟨i,_,rfl⟩
  exact⟨_,zpU h i,rfl⟩
 ·rintro⟨P,hP,rfl⟩
  obtain⟨i,hi,rfl⟩:=zqu h hP;exact⟨i,Z7.2 hi,rfl⟩
def zo4 (ws:List Txt):List (List Txt):=ws.map fun s=>[s]
def setW (d:Dcm) (k:Nat) (ws:List Txt):Dcm:=⟨d.kind,d.flds.set k ⟨(d.flds.getD k yT).name,zo4 ws⟩⟩
def splitW (t:Txt):List Txt:=if t=[] then[] else cutC 32 t
def setE (d:Dcm) (k:Int) (t:Txt):Int:=
 if docE d≠0 then docE d else if 0<=k/\k<d.flds.length then(if (splitW t).length>8\/(splitW t).all vM=false then 2 else 0) else 4
def zpb (d:Dcm) (k:Int) (t:Txt):Dcm:=if setE d k t=0 then setW d k.toNat (splitW t) else zo3
theorem zqv: ∀(ws:List Txt) (i:Nat),pick (zo4 ws) i=(ws,i)
 |[],_=>rfl
 |w::ws,i=>by
  show(([w]:List Txt).getD ((pick (zo4 ws) i).2 % ([w]:List Txt).length) []::(pick (zo4 ws) i).1,(pick (zo4 ws) i).2/([w]:List Txt).length)=_;rw[zqv ws i];simp[Nat.mod_one]
theorem zpV (n:Txt): ∀ws:List Txt,yQ ⟨n,zo4 ws⟩=1
 |[]=>rfl
 |w::ws=>by
  show yQ ⟨n,[w]::zo4 ws⟩=1;rw[zrf,zpV n ws];rfl
theorem zqw (n:Txt) (ws:List Txt) (i:Nat):textF ⟨n,zo4 ws⟩ i=oI 32 ws:=by
 unfold textF;rw[zqv]
theorem zrm {n:Txt} {ws:List Txt} {t:Txt}:zpc ⟨n,zo4 ws⟩ t ↔ t=oI 32 ws:=by
 unfold zpc;rw[zpV];constructor
 ·rintro⟨i,_,rfl⟩;exact zqw n ws i
 ·rintro rfl;exact⟨0,Nat.one_pos,(zqw n ws 0).symm⟩
theorem zqx: ∀(t:Txt),oI 32 (cutC 32 t)=t
 |[]=>rfl
 |c::t=>by
  have ih:=zqx t;have hne:=zre 32 t;rw[cutC];split
  ·rename_i h
   cases hc:cutC 32 t with
   |nil=>exact absurd hc hne
   |cons w r=>rw[hc] at ih;rw[oI,ih,h];rfl
  ·cases hc:cutC 32 t with
   |nil=>exact absurd hc hne
   |cons w r=>
    rw[hc] at ih;show oI 32 ((c::w)::r)=c::t;rw[<-ih];cases r with
    |nil=>rfl
    |cons v r=>rfl
theorem zqy (t:Txt):oI 32 (splitW t)=t:=by
 unfold splitW;split
 ·rename_i h;rw[h];rfl
 ·exact zqx t
theorem zqz {w:Txt} (h:vM w=true):(32:UInt8) ∉ w/\w≠[]:=by
 unfold vM at h;simp only[Zp,decide_eq_true_eq,Zu] at h;exact⟨fun hm=>by have:=h.2.2 _ hm;unfold vL at this;revert this;decide,h.1⟩
theorem zrn {ws:List Txt} (h: ∀w∈ws,vM w=true):splitW (oI 32 ws)=ws:=by
 unfold splitW;cases ws with
 |nil=>rw[if_pos (show oI 32 []=[] from rfl)]
 |cons w ws=>
  have hne:oI 32 (w::ws)≠[]:=by
   have hw:=(zqz (h w (by simp))).2;cases ws with
   |nil=>exact hw
   |cons v ws=>intro e;simp[oI] at e
  rw[if_neg hne];exact zqd (by simp) fun x hx=>(zqz (h x hx)).1
theorem zqA: ∀(W:List (List Txt)) (i:Nat),(∀w∈W,1<=w.length)-> ∀s∈(pick W i).1,∃w∈W,s∈w
 |[],_,_,s,hs=>by simp[pick] at hs
 |w::W,i,h,s,hs=>by
  rw[pick,ZH] at hs;rcases hs with rfl|hs
  ·have hw:=h w (by simp)
   have hm:(pick W i).2 % w.length<w.length:=Xc _ (by omega);rw[Zh,Zg hm];exact⟨w,by simp,Zx hm⟩
  ·obtain⟨x,hx,hs⟩:=zqA W i (fun y hy=>h y (Zz _ hy)) s hs
   exact⟨x,Zz _ hx,hs⟩
theorem zro {d:Dcm} (hd:DcmS d) (h:docE d=0) {f:Fld} (hf:f∈d.flds) {t:Txt} (ht:zpc f t):(splitW t).length<=8/\(splitW t).all vM=true:=by
 have hR:=oM hd h;obtain⟨k,hk,rfl⟩:=YW hf;obtain⟨f1,f2,f3,f4⟩:=bE hk (hR.s.fl _ hf) (hR.fe k hk);obtain⟨i,_,rfl⟩:=ht;have hv: ∀s∈(pick d.flds[k].words i).1,vM s=true:=fun s hs=>by
  obtain⟨w,hw,hs⟩:=zqA _ i (fun w hw=>(f1.sp w hw).1) s hs;exact Zu.1 (bC (f4 w hw)).2.2.1 s hs
 unfold textF;rw[zrn hv,bO];exact⟨f1.ws,Zu.2 hv⟩
theorem zrp {l:List Fld} {i:Nat} (hi:i<l.length) (h1:nameP l[i].name=true) (h2:((l.map Fld.name).take i).any (fun n=>decide (n=l[i].name))=false) (h3:l[i].words.length<=8) (h4: ∀w∈l[i].words,wI w=0):wN l i=0:=by
 have hgd:l.getD i yT=l[i]:=by rw[Zh,Zg hi];rfl
 unfold wN;simp only[hgd];rw[if_pos h1,if_neg,if_neg (by omega)]
 ·refine zpB fun k hk=>?_
  rw[ZV,Zh,Zg hk];exact h4 _ (Zx hk)
 ·rw[<-Xr,List.any_map] at h2
  rw[Bool.not_eq_true];exact h2
theorem zrq {s:Txt} (h:vM s=true):wI [s]=0:=by
 unfold wI;rw[if_neg (by simp),if_neg (by simp),if_pos (by simp[h]),if_neg (by simp[rZ])]
theorem zqB (d:Dcm) (k:Nat) (ws:List Txt):(setW d k ws).flds.map Fld.name=d.flds.map Fld.name:=by
 show(d.flds.set k _).map Fld.name=_;rw[XU];apply List.ext_getElem?;intro j;rw[List.getElem?_set];split
 ·rename_i e
  subst e;split
  ·rename_i hk
   simp only[Zi] at hk;rw[Zw,Zg hk,Zh,Zg hk];rfl
  ·rename_i hk
   simp only[Zi] at hk;rw[Zw,Y4 (by omega)];rfl
 ·rfl
theorem zrr {d:Dcm} (hd:DcmS d) (h:docE d=0) {k:Nat} (hk:k<d.flds.length) {ws:List Txt} (h8:ws.length<=8) (hv: ∀w∈ws,vM w=true):DcmS (setW d k ws)/\docE (setW d k ws)=0:=by
 have hR:=oM hd h;have hlen:(setW d k ws).flds.length=d.flds.length:=YP;have hgk:d.flds.getD k yT=d.flds[k]:=by rw[Zh,Zg hk];rfl
 have hat: ∀i (hi:i<d.flds.length) (hi2:i<(setW d k ws).flds.length),(setW d k ws).flds[i]=if i=k then⟨d.flds[i].name,zo4 ws⟩ else d.flds[i]:=fun i hi hi2=>by
  refine(List.getElem_of_eq (show(setW d k ws).flds=d.flds.set k ⟨(d.flds.getD k yT).name,zo4 ws⟩ from rfl) hi2).trans ?_;rw[List.getElem_set];by_cases e:k=i
  ·subst e;rw[if_pos rfl,if_pos rfl,hgk]
  ·rw[if_neg e,if_neg (Ne.symm e)]
 have hw: ∀w∈zo4 ws,∃s,vM s=true/\w=[s]:=fun w hw=>by
  obtain⟨s,hs,rfl⟩:=ZB.1 hw;exact⟨s,hv s hs,rfl⟩
 constructor
 ·refine⟨hd.kd,by rw[hlen];exact hd.fs,fun f hf=>?_⟩
  obtain⟨i,hi,rfl⟩:=YW hf;rw[hlen] at hi;rw[hat i hi];have hF:=hd.fl _ (Zx hi);split
  ·refine⟨hF.nm,by show(zo4 ws).length<=_;unfold zo4;rw[Zi];omega,fun w h2=>?_⟩
   obtain⟨s,hs,rfl⟩:=hw w h2;have:=zm0 hs;exact⟨by simp,fun x hx=>by rw[ZU.1 hx];omega⟩
  ·exact hF
 ·unfold docE
  rw[show(setW d k ws).kind=d.kind from rfl,if_pos hR.kd,hlen,if_neg (by have:=hR.fs;omega)];refine zpB fun i hi=>?_
  rw[ZV];have hi2:i<(setW d k ws).flds.length:=by rw[hlen];exact hi
  obtain⟨f1,f2,f3,f4⟩:=bE hi (hd.fl _ (Zx hi)) (hR.fe i hi);have e:=hat i hi hi2;have hnm:(setW d k ws).flds[i].name=d.flds[i].name:=by rw[e];split<;>rfl
  refine zrp hi2 (by rw[hnm];exact f2) ?_ ?_ ?_
  ·rw[zqB,hnm,<-Xr,List.any_map]
   exact f3
  ·rw[e]
   split
   ·show(zo4 ws).length<=8;unfold zo4;rw[Zi];exact h8
   ·exact f1.ws
  ·rw[e]
   split
   ·intro w h2
    obtain⟨s,hs,rfl⟩:=hw w h2;exact zrq hs
   ·exact f4
theorem zqC: ∀{l:List Fld} {ts:List Txt} (k:Nat) {g:Fld} {t:Txt},zpg l ts->zpc g t->zpg (l.set k g) (ts.set k t)
 |[],[],_,_,_,_,_=>trivial
 |_::_,_::_,0,_,_,h,hg=>⟨hg,h.2⟩
 |_::_,_::_,k+1,_,_,h,hg=>⟨h.1,zqC k h.2 hg⟩
 |[],_::_,_,_,_,h,_=>h.elim
 |_::_,[],_,_,_,h,_=>h.elim
theorem zqD: ∀{l:List Fld} {ts:List Txt} (k:Nat),zpg l ts->k<l.length->zpc (l.getD k yT) (ts.getD k [])
 |_::_,_::_,0,h,_=>h.1
 |_::_,_::_,k+1,h,hk=>zqD (l:=_) k h.2 (by simpa using hk)
 |[],_,_,_,hk=>by simp at hk
 |_::_,[],_,h,_=>h.elim
theorem zpD: ∀{l:List Fld} {ts:List Txt},zpg l ts->ts.length=l.length
 |[],[],_=>rfl
 |_::_,_::_,h=>by rw[Zo,zpD h.2,Zo]
 |[],_::_,h=>h.elim
 |_::_,[],h=>h.elim
def zpe (p:Pln) (k:Nat) (t:Txt):Pln:=⟨p.kind,p.names,p.texts.set k t⟩
theorem zrs {d:Dcm} {k:Nat} (hk:k<d.flds.length) {ws:List Txt} {p:Pln} (h:posP (setW d k ws) p) {t:Txt} (ht:zpc (d.flds.getD k yT) t):posP d (zpe p k t)/\p.texts.getD k []=oI 32 ws:=by
 obtain⟨h1,h2,h3⟩:=h;refine⟨⟨h1,by rw[<-zqB d k ws];exact h2,?_⟩,?_⟩
 ·have:=zqC k h3 ht
  rw[show(setW d k ws).flds=d.flds.set k ⟨(d.flds.getD k yT).name,zo4 ws⟩ from rfl,List.set_set] at this
  rwa [show d.flds.set k (d.flds.getD k yT)=d.flds by rw[Zh,Zg hk];exact XV hk] at this
 ·have hlt:k<(setW d k ws).flds.length:=by show k<(d.flds.set k _).length;rw[YP];exact hk
  have:=zqD k h3 hlt;rw[show(setW d k ws).flds.getD k yT=⟨(d.flds.getD k yT).name,zo4 ws⟩ by
   show(d.flds.set k _).getD k yT=_
   rw[Zh,List.getElem?_set_self hk];rfl] at this
  exact zrm.1 this
theorem zqE: ∀{D:List Dcm} {P:List Pln} (k:Nat) {d:Dcm} {p:Pln},zo9 D P->posP d p->zo9 (D.set k d) (P.set k p)
 |[],[],_,_,_,_,_=>trivial
 |_::_,_::_,0,_,_,h,hg=>⟨hg,h.2⟩
 |_::_,_::_,k+1,_,_,h,hg=>⟨h.1,zqE k h.2 hg⟩
 |[],_::_,_,_,_,h,_=>h.elim
 |_::_,[],_,_,_,h,_=>h.elim
theorem zqF: ∀{D:List Dcm} {P:List Pln} (k:Nat),zo9 D P->k<D.length->posP (D.getD k zo3) (P.getD k ⟨[],[],[]⟩)
 |_::_,_::_,0,h,_=>h.1
 |_::_,_::_,k+1,h,hk=>zqF (D:=_) k h.2 (by simpa using hk)
 |[],_,_,_,hk=>by simp at hk
 |_::_,[],_,h,_=>h.elim
theorem zqG: ∀{D:List Dcm} {P:List Pln},zo9 D P->P.length=D.length
 |[],[],_=>rfl
 |_::_,_::_,h=>by rw[Zo,zqG h.2,Zo]
 |[],_::_,h=>h.elim
 |_::_,[],h=>h.elim
def kL {α:Type} [DecidableEq α] (d:α) (A B:List α):Bool:=decide (A.length=B.length)&&(List.range A.length).all fun i=>decide (A.getD i d=B.getD i d)
theorem aZ {α:Type} [DecidableEq α] (d:α) (A B:List α):kL d A B=decide (A=B):=by
 rw[Yp];unfold kL;rw[Zp,decide_eq_true_eq,Zu,decide_eq_true_eq];constructor
 ·rintro⟨h1,h2⟩
  refine Xj h1 fun i ha hb=>?_
  have:=h2 i (by simpa using ha);simpa [List.getD,ha,hb] using this
 ·rintro rfl
  exact⟨rfl,fun _ _=>by simp⟩
theorem zaa {n k:Nat} (h:k<n) (p:Nat->Bool):((List.range n).drop k).all p=(p k&&((List.range n).drop (k+1)).all p):=by
 rw[ZE (by simpa using h),Yz,List.getElem_range]
deriving instance DecidableEq for Flw
def qH:Plc:=⟨0,0⟩
def vG:Flw:=⟨[],[],false⟩
end Go.Ex
namespace Go.Abs
open Go.Proofs Go.RowKit Go.Lib Go.Wd Go.Wire Go.Ex
theorem zab {w:List Int} {k:Nat} (h:k<w.length):(zM w).getD k []=[.int .i64 (w.getD k 0)]:=by simp[zM,h]
theorem c52 (A B:List Int) (hA:A.length<=1000000):Spec Tryz.prog 52 [lst 1 (zM A),lst 1 (zM B)] (fun v=>v=.bool (decide (A=B))):=by
 refine Spec.of_awlS hf52 okf52 (by simp) fun S hS=>?_
 rw[<-aZ 0] at hS;unfold kL at hS;by_cases hl:A.length=B.length
 ·rw[decide_eq_true hl,ZJ] at hS
  have e1:(A.length:Int)=B.length:=by omega
  simp only[yL,e1,Qs,forall_const,Zc,Za,Ψ52];rw[uu f52l15.eq_1];refine yA (fun k:Nat=>[(0,lst 1 (zM A)),(1,lst 1 (zM B)),(5,.int .i64 k)]) (fun _=>[]) (fun k=>k<=A.length/\((List.range A.length).drop k).all (fun i=>decide (A.getD i 0=B.getD i 0))=(List.range A.length).all (fun i=>decide (A.getD i 0=B.getD i 0))) (fun k=>A.length-k) 0 rfl rfl ⟨ZA _,rfl⟩ ?_;rintro k ⟨hk,hD⟩;by_cases hlt:k<A.length
  ·have d1:(k:Int)<A.length:=by omega
   have c4:IntKind.i64.wrap ((k:Int)+1)=(k:Int)+1:=wrap_in (by omega) (by omega);have h1:=zab hlt;have h2:=zab (w:=B) (k:=k) (by omega);have d2:(k:Int)<B.length:=by omega
   rw[zaa hlt] at hD;generalize A.getD k 0=a at h1 hD;generalize B.getD k 0=b at h2 hD;by_cases q:a=b
   ·rw[decide_eq_true q,ZJ] at hD
    simp only[d1,d2,h1,h2,c4,q,yL,Qs,forall_const,Za,Ψ52];exact Next.intro (k+1) rfl rfl ⟨by omega,hD⟩ (by omega)
   ·rw[decide_eq_false q,ZP] at hD
    rw[<-hD] at hS;simp only[d1,d2,h1,h2,q,yL,Qs,forall_const,Za,Ψ52];exact hS
  ·have d1: ¬(k:Int)<A.length:=by omega
   rw[ZC (by simp;omega),Xf] at hD;rw[<-hD] at hS;simp only[d1,yL,Qs,Za,Ψ52];exact hS
 ·rw[decide_eq_false hl,ZP] at hS
  have e1: ¬(A.length:Int)=B.length:=by omega
  simp only[yL,e1,Qs,forall_const,Zc,Za,Ψ52];exact hS
theorem ziY {w:List Plc} {k:Nat} (h:k<w.length):(pls w).getD k []=[.int .i64 (w.getD k qH).doc,.int .i64 (w.getD k qH).fld]:=by simp[pls,sU,h]
theorem c53 (A B:List Plc) (hA:A.length<=1000000):Spec Tryz.prog 53 [lst 2 (pls A),lst 2 (pls B)] (fun v=>v=.bool (decide (A=B))):=by
 refine Spec.of_awlS hf53 okf53 (by simp) fun S hS=>?_
 rw[<-aZ qH] at hS;unfold kL at hS;by_cases hl:A.length=B.length
 ·rw[decide_eq_true hl,ZJ] at hS
  have e1:(A.length:Int)=B.length:=by omega
  simp only[uY,e1,Qs,forall_const,Zc,Za,Ψ53];rw[uu f53l15.eq_1];refine yA (fun k:Nat=>[(0,lst 2 (pls A)),(1,lst 2 (pls B)),(5,.int .i64 k)]) (fun _=>[]) (fun k=>k<=A.length/\((List.range A.length).drop k).all (fun i=>decide (A.getD i qH=B.getD i qH))=(List.range A.length).all (fun i=>decide (A.getD i qH=B.getD i qH))) (fun k=>A.length-k) 0 rfl rfl ⟨ZA _,rfl⟩ ?_;rintro k ⟨hk,hD⟩;by_cases hlt:k<A.length
  ·have d1:(k:Int)<A.length:=by omega
   have c4:IntKind.i64.wrap ((k:Int)+1)=(k:Int)+1:=wrap_in (by omega) (by omega);have h1:=ziY hlt;have h2:=ziY (w:=B) (k:=k) (by omega);have d2:(k:Int)<B.length:=by omega
   rw[zaa hlt] at hD;generalize A.getD k qH=a at h1 hD;generalize B.getD k qH=b at h2 hD;obtain⟨a1,a2⟩:=a;obtain⟨b1,b2⟩:=b;simp only[] at h1 h2;have hI:(Plc.mk a1 a2=⟨b1,b2⟩) ↔ (a1=b1/\a2=b2):=by rw[Plc.mk.injEq]
   by_cases q1:a1=b1
   ·by_cases q2:a2=b2
    ·rw[decide_eq_true (hI.2 ⟨q1,q2⟩),ZJ] at hD
     simp only[d1,d2,h1,h2,c4,q1,q2,uY,Qs,cB,cD,cE,cF,cG,cH,BEq.rfl,Za,Y2,Ψ53];exact Next.intro (k+1) rfl rfl ⟨by omega,hD⟩ (by omega)
    ·rw[decide_eq_false (fun h=>q2 (hI.1 h).2),ZP] at hD
     rw[<-hD] at hS;have e:(a1==b1&&a2==b2)=false:=by simp[q2]
     simp only[d1,d2,h1,h2,e,uY,Qs,cB,cD,cE,cF,cG,cH,Za,Y2,Ψ53];exact hS
   ·rw[decide_eq_false (fun h=>q1 (hI.1 h).1),ZP] at hD
    rw[<-hD] at hS;have e:(a1==b1&&a2==b2)=false:=by simp[q1]
    simp only[d1,d2,h1,h2,e,uY,Qs,cB,cD,cE,cF,cG,cH,Za,Y2,Ψ53];exact hS
  ·have d1: ¬(k:Int)<A.length:=by omega
   rw[ZC (by simp;omega),Xf] at hD;rw[<-hD] at hS;simp only[d1,uY,Qs,Za,Ψ53];exact hS
 ·rw[decide_eq_false hl,ZP] at hS
  have e1: ¬(A.length:Int)=B.length:=by omega
  simp only[uY,e1,Qs,forall_const,Zc,Za,Ψ53];exact hS
theorem zac {w:List Flw} {k:Nat} (h:k<w.length):(xF w).getD k []=[zC 1 (zM (w.getD k vG).dem),zC 2 (pls (w.getD k vG).pls),.bool (w.getD k vG).sure]:=by simp[xF,pJ,h]
theorem c25 (A B:List Flw) (hA:A.length<=1000000) (hd: ∀x∈A,x.dem.length<=1000000/\x.pls.length<=1000000):Spec Tryz.prog 25 [lst 3 (xF A),lst 3 (xF B)] (fun v=>v=.bool (decide (A=B))):=by
 refine Spec.of_awlS hf25 okf25 (by simp) fun S hS=>?_
 rw[<-aZ vG] at hS;unfold kL at hS;by_cases hl:A.length=B.length
 ·rw[decide_eq_true hl,ZJ] at hS
  have e1:(A.length:Int)=B.length:=by omega
  simp only[uM,e1,Qs,forall_const,Zc,Za,Ψ25];rw[uu f25l15.eq_1];refine yA (fun k:Nat=>[(0,lst 3 (xF A)),(1,lst 3 (xF B)),(5,.int .i64 k)]) (fun _=>[]) (fun k=>k<=A.length/\((List.range A.length).drop k).all (fun i=>decide (A.getD i vG=B.getD i vG))=(List.range A.length).all (fun i=>decide (A.getD i vG=B.getD i vG))) (fun k=>A.length-k) 0 rfl rfl ⟨ZA _,rfl⟩ ?_;rintro k ⟨hk,hD⟩;by_cases hlt:k<A.length
  ·have d1:(k:Int)<A.length:=by omega
   have c4:IntKind.i64.wrap ((k:Int)+1)=(k:Int)+1:=wrap_in (by omega) (by omega);have h1:=zac hlt;have h2:=zac (w:=B) (k:=k) (by omega);have d2:(k:Int)<B.length:=by omega
   have hx:(A.getD k vG).dem.length<=1000000/\(A.getD k vG).pls.length<=1000000:=by
    have:A.getD k vG=A[k]:=by simp[hlt]
    rw[this];exact hd _ (Zx hlt)
   rw[zaa hlt] at hD;generalize A.getD k vG=a at h1 hD hx;generalize B.getD k vG=b at h2 hD;obtain⟨a1,a2,a3⟩:=a;obtain⟨b1,b2,b3⟩:=b;simp only[] at h1 h2 hx;have g1:=c52 a1 b1 hx.1;have g2:=c53 a2 b2 hx.2;have hI:(Flw.mk a1 a2 a3=⟨b1,b2,b3⟩) ↔ (a1=b1/\a2=b2/\a3=b3):=by rw[Flw.mk.injEq]
   by_cases q3:a3=b3
   ·by_cases q1:a1=b1
    ·rw[decide_eq_true q1] at g1
     by_cases q2:a2=b2
     ·rw[decide_eq_true q2] at g2
      rw[decide_eq_true (hI.2 ⟨q1,q2,q3⟩),ZJ] at hD;simp only[d1,d2,h1,h2,q3,uM,bne_self_eq_false,Qs,iN,lH,BEq.rfl,Zc,Zl,Za,Ψ25];refine rG g1 ?_ (ha:=by simp only[Zm,Zq,zB,V.norm,zO,vC,C.norm]<;>rfl);simp only[d1,d2,h1,h2,uM,Qs,Zc,Zl,Za];refine rG g2 ?_ (ha:=by simp only[Zm,Zq,zB,V.norm,zO,rL,C.norm]<;>rfl);simp only[c4,Qs,Za,Ψ25];exact Next.intro (k+1) rfl rfl ⟨by omega,hD⟩ (by omega)
     ·rw[decide_eq_false q2] at g2
      rw[decide_eq_false (fun h=>q2 (hI.1 h).2.1),ZP] at hD;rw[<-hD] at hS;simp only[d1,d2,h1,h2,q3,uM,bne_self_eq_false,Qs,iN,lH,BEq.rfl,Zc,Zl,Za,Ψ25];refine rG g1 ?_ (ha:=by simp only[Zm,Zq,zB,V.norm,zO,vC,C.norm]<;>rfl);simp only[d1,d2,h1,h2,uM,Qs,Zc,Zl,Za];refine rG g2 ?_ (ha:=by simp only[Zm,Zq,zB,V.norm,zO,rL,C.norm]<;>rfl);simp only[Qs,Za,Ψ25];exact hS
    ·rw[decide_eq_false q1] at g1
     rw[decide_eq_false (fun h=>q1 (hI.1 h).1),ZP] at hD;rw[<-hD] at hS;simp only[d1,d2,h1,h2,q3,uM,bne_self_eq_false,Qs,iN,lH,BEq.rfl,Zc,Zl,Za,Ψ25];refine rG g1 ?_ (ha:=by simp only[Zm,Zq,zB,V.norm,zO,vC,C.norm]<;>rfl);simp only[Qs,Za,Ψ25];exact hS
   ·rw[decide_eq_false (fun h=>q3 (hI.1 h).2.2),ZP] at hD
    rw[<-hD] at hS;simp only[d1,d2,h1,h2,q3,uM,Qs,iN,lH,forall_const,Zc,Zl,Za,Ψ25];exact hS
  ·have d1: ¬(k:Int)<A.length:=by omega
   rw[ZC (by simp;omega),Xf] at hD;rw[<-hD] at hS;simp only[d1,uM,Qs,Za,Ψ25];exact hS
 ·rw[decide_eq_false hl,ZP] at hS
  have e1: ¬(A.length:Int)=B.length:=by omega
  simp only[uM,e1,Qs,forall_const,Zc,Za,Ψ25];exact hS
end Go.Abs
namespace Go.Ex
open Go.Lib Go.Wd Go.Wire Go.Abs
def qI:Txt:=[105,110,118,111,105,99,101]
def mJ:Txt:=[115,117,109]
def mK:Txt:=[112,111,114,116]
def pM:Txt:=[71,101,110,111,97]
def xmL:List Dmd:=[⟨2,qI,mJ,[],[],[],50,150⟩,⟨2,qI,mJ,[],[],[],600,800⟩,⟨1,qI,mK,[],[],pM,0,0⟩,⟨0,[112,97,99,107,105,110,103],[],[],[],[],0,0⟩]
def xmD:List Dcm:=[⟨qI,[⟨mJ,[[[49,48,48],[55,48,48]]]⟩,⟨mK,[[pM]]⟩]⟩]
end Go.Ex
namespace Go.Abs
open Go.Proofs Go.RowKit Go.Lib Go.Wd Go.Wire Go.Ex
theorem tP (K:KK) (ts:TS) (os:OS):rV [] K ts os=K ts os:=id rfl
theorem tQ (τ:Nat) (l:List Nat) (K:KK) (ts:TS) (os:OS):rV (τ::l) K ts os=rV l K (uS τ ts os (lookO τ os)) (tG τ os (lookO τ os)):=id rfl
theorem tU (P:Program) (K:KK) (ts:TS) (os:OS):oF P [] K ts os=K ts os:=id rfl
theorem tW (P:Program) (l:List AI) (τs:List Nat) (r:List (List AI×List Nat)) (K:KK) (ts:TS) (os:OS):oF P ((l,τs)::r) K ts os=wpLs P l (rV τs (oF P r K)) ts os:=id rfl
theorem tX (P:Program) (ps:List (List AI×List Nat)) (Q:AE->KK) (ts:TS) (os:OS):awl P (.regs ps) Q ts os=oF P ps (Q .normal) ts os:=id rfl
theorem tY (P:Program) (l1 l2:List AI) (τs:List Nat) (Q:AE->KK) (ts:TS) (os:OS):awl P (.regf l1 τs l2) Q ts os=wpLs P l1 (rV τs (wpLs P l2 (Q .normal))) ts os:=id rfl
theorem c29:Spec Tryz.prog 29 [] (fun v=>v=.tup [lst 8 (xmL.map zQ),lst 2 (xmD.map zV)]):=by
 refine Spec.of_awlP hf29 okf29 (by simp) fun S hS=>?_
 simp only[tX,tY,tU,tW,tP,tQ,Qs,zk7,cA,cI,zfM,iP,zgk,reduceCtorEq,forall_eq_or_imp,forall_eq,bne_iff_ne,ne_eq,Zk,ZH,Zc,Zs,Zl,Z5,Za,Nat.zero_ne_one,Zy,Ψ29];refine hS _ ?_;rfl
end Go.Abs
namespace Go.Ex
open Go.Lib Go.Wd Go.Wire Go.Abs Go.Proofs
def xm1:List Dmd:=[⟨1,qI,mK,[],[],pM,0,0⟩]
def xm2:List Dmd:=[⟨2,qI,mJ,[],[],[],50,150⟩,⟨1,qI,mK,[],[],pM,0,0⟩]
theorem gW:AskS xm1 xmD:=(gU (by intro m hm;simp[xm1] at hm;subst hm;constructor<;>decide) (by kernel_rfl)).1
theorem ziZ:AskS xm2 xmD:=(gU (by intro m hm;simp[xm2] at hm;rcases hm with rfl|rfl<;>constructor<;>decide) (by kernel_rfl)).1
theorem zi0:AskS xmL xmD:=(gU (by intro m hm;simp[xmL] at hm;rcases hm with rfl|rfl|rfl|rfl<;>constructor<;>decide) (by kernel_rfl)).1
def xA2:List Flw:=[⟨[0],[⟨0,0⟩],false⟩]
def xA3:List Flw:=[⟨[3],[],true⟩,⟨[0,1],[⟨0,0⟩],true⟩,⟨[0],[⟨0,0⟩],false⟩,⟨[1],[⟨0,0⟩],false⟩]
theorem fl1:flawsE xm1 xmD=[]:=by kernel_rfl
theorem fl2:flawsE xm2 xmD=xA2:=by kernel_rfl
theorem fl3:flawsE xmL xmD=xA3:=by kernel_rfl
theorem lk1:lookE xm1 xmD=0:=by kernel_rfl
theorem lk2:lookE xm2 xmD=0:=by kernel_rfl
theorem lk3:lookE xmL xmD=0:=by kernel_rfl
theorem st1:stateE xm1 xmD=1:=by kernel_rfl
theorem st2:stateE xm2 xmD=2:=by kernel_rfl
theorem st3:stateE xmL xmD=0:=by kernel_rfl
theorem ct1:(cnts xmD).2.1=2:=by kernel_rfl
theorem ct2:(cnts xmD).2.2=0:=by kernel_rfl
def xP:List Pln:=[⟨qI,[mJ,mK],[[55,48,48],pM]⟩]
theorem rp1:zpa xmD 1=xP:=by kernel_rfl
theorem re1:zpf xmD 1=0:=by kernel_rfl
end Go.Ex
namespace Go.Abs
open Go.Proofs Go.RowKit Go.Lib Go.Wd Go.Wire Go.Ex
theorem c8:Spec Tryz.prog 8 [] (fun v=>v=.bool true):=by
 refine Spec.of_awlS hf8 okf8 (by simp) fun S hS=>?_
 have f1:=c10 xm1 xmD gW;have f2:=c10 xm2 xmD ziZ;have f3:=c10 xmL xmD zi0;rw[fl1,lk1] at f1;rw[fl2,lk2] at f2;rw[fl3,lk3] at f3;have s1:=c12 xm1 xmD gW;have s2:=c12 xm2 xmD ziZ;have s3:=c12 xmL xmD zi0;rw[st1,lk1] at s1;rw[st2,lk2] at s2;rw[st3,lk3] at s3;have n1:=c13 xmD gW.dc;rw[ct1,ct2] at n1;have r1:=c14 xmD gW.dc 1;rw[rp1,re1] at r1;have hp1:((vF xP).length:Int)=1:=rfl;have hp2:(vF xP).getD 0 []=[.str qI,zC 1 (zJ [mJ,mK]),zC 1 (zJ [[55,48,48],pM])]:=rfl;have hp3:((zJ [[55,48,48],pM]).length:Int)=2:=rfl;have hp4:((xF []).length:Int)=0:=rfl;have hp5:(zJ [[55,48,48],pM]).getD 0 []=[.str [55,48,48]]:=rfl;have g2:=c25 xA2 xA2 (by decide) (by intro x hx;simp[xA2] at hx;subst hx;decide);have g3:=c25 xA3 xA3 (by decide) (by intro x hx;simp[xA3] at hx;rcases hx with rfl|rfl|rfl|rfl<;>decide);rw[decide_eq_true rfl] at g2 g3;have hr1:List.drop 2 (List.take 3 (List.map zQ xmL))=List.map zQ xm1:=rfl;simp only[Qs,Ψ8];refine xI c29 ?_;simp only[hr1,tX,tY,tU,tW,tP,tQ,Qs,lF,forall_eq,Zk,ZH,Zc,Ye,Zl,Z5,Za,Zi,Yl,XN,Zy,Ψ8];refine⟨by decide,?_⟩;refine xI f1 ?_ (ha:=by simp only[Zm,Zq,zB,V.norm,zO,vU,hr1,zP yU,zP xO,C.norm]<;>rfl);simp only[hr1,tX,tY,tU,tW,tP,tQ,Qs,cA,cI,iP,forall_eq_or_imp,forall_eq,Zk,ZH,Zc,Ye,Z5,Za,Zi,Yl,XN,Zy,Ψ8];refine⟨by decide,by decide,⟨rfl,rfl⟩,?_⟩;refine zg6 f2 ?_ (ha:=by rfl);simp only[hr1,tX,tY,tU,tW,tP,tQ,Qs,cC,cJ,cK,cL,Za,Ψ8];refine xI f3 ?_ (ha:=by simp only[Zm,Zq,zB,V.norm,zO,vU,hr1,zP yU,zP xO,C.norm]<;>rfl);simp only[hr1,tX,tY,tU,tW,tP,tQ,Qs,lF,Zk,Zc,Ye,Za,Zi,Yl,XN,Ψ8];refine⟨by decide,?_⟩;refine zF s1 ?_ (ha:=by simp only[Zm,Zq,zB,V.norm,zO,vU,hr1,zP yU,zP xO,C.norm]<;>rfl);simp only[hr1,tX,tY,tU,tW,tP,tQ,Qs,cA,cI,iP,forall_eq_or_imp,forall_eq,ZH,Zc,Z5,Za,Zi,Yl,XN,Zy,Ψ8];refine⟨by decide,by decide,⟨rfl,rfl⟩,?_⟩;refine rG s2 ?_ (ha:=by rfl);simp only[hr1,tX,tY,tU,tW,tP,tQ,Qs,cC,cJ,cK,cL,Za,Ψ8];refine zF s3 ?_ (ha:=by simp only[Zm,Zq,zB,V.norm,zO,vU,hr1,zP yU,zP xO,C.norm]<;>rfl);simp only[hr1,tX,tY,tU,tW,tP,tQ,Qs,Za,Ψ8];refine zF n1 ?_ (ha:=by simp only[Zm,Zq,zB,V.norm,zO,vU,hr1,zP yU,zP xO,C.norm]<;>rfl);simp only[hr1,tX,tY,tU,tW,tP,tQ,Qs,Za,Ψ8];refine xI r1 ?_ (ha:=by simp only[Zm,Zq,zB,V.norm,zO,vU,hr1,zP yU,zP xO,C.norm]<;>rfl);simp only[hp1,hp2,hp3,hp4,hp5,hr1,tX,tY,tU,tW,tP,tQ,Qs,zcm,zcn,iO,forall_eq,BEq.rfl,Zk,ZH,Zc,Ye,Zl,Z5,Za,XJ,Yl,Xn,Zy,zgz,Ψ8];refine zF g2 ?_ (ha:=by rfl);simp only[hp1,hp2,hp3,hp4,hp5,hr1,tX,tY,tU,tW,tP,tQ,Qs,zcm,zcn,iO,iP,forall_eq_or_imp,forall_eq,BEq.rfl,Zk,ZH,Zc,Zl,Z5,Za,XJ,Yl,Zy,zgz,Ψ8];refine zF g3 ?_ (ha:=by rfl);simp only[hp1,hp2,hp3,hp4,hp5,hr1,tX,tY,tU,tW,tP,tQ,Qs,zfM,zlt,zgk,Za];exact hS
end Go.Abs
namespace Go.Ex
open Go.Lib Go.Wd Go.Wire Go.Abs
theorem zos (L:List Dmd) (D:List Dcm):(conflP (viewD L D)).length<=320:=by
 have hT:conflP (viewD L D)=rO (viewD L D).never 64++(vY (viewD L D).doubt 256 (viewD L D).doubt).filter (wP (viewD L D).sets):=rfl;rw[hT,Zv];have h1:=gP (viewD L D).doubt 256 (viewD L D).doubt;have h2:=YF (wP (viewD L D).sets) (vY (viewD L D).doubt 256 (viewD L D).doubt);have h3:=aJ (viewD L D).never 64;omega
theorem zot {L:List Dmd} {D:List Dcm} (hA:AskS L D):(flawsE L D).length<=1000/\ ∀x∈flawsE L D,x.dem.length<=8:=by
 unfold flawsE;split
 ·rename_i h0
  have hcn:=kJ h0;have hm: ∀s,s∈conflP (viewD L D) ↔ _:=bT hA.l8 (aY hA hcn) (mD L D);have h256:2 ^ L.length<=256:=(Yf (by decide) hA.l8:2 ^ L.length<=2 ^ 8);have hd:=pG _ (ZM (lZ (mD L D)) h256);unfold gI kB;constructor
  ·rw[Zv,Zi,Zi,(qD ltC _).length_eq,Zi]
   have:=zos L D;have e:(bitsN (viewD L D).doubt).length<=8:=hd;omega
  ·intro x hx
   rcases Yg.1 hx with hx|hx
   ·obtain⟨c,hc,rfl⟩:=ZB.1 hx
    obtain⟨s,hs2,rfl⟩:=ZB.1 ((qD ltC _).mem_iff.1 hc);have:=((hm s).1 hs2).1;show(List.map _ _).length<=8;rw[Zi];exact pG s (by omega)
   ·obtain⟨k,hk,rfl⟩:=ZB.1 hx
    show[(k:Int)].length<=8;simp
 ·simp
end Go.Ex
namespace Go.Abs
open Go.Proofs Go.RowKit Go.Lib Go.Wd Go.Wire Go.Ex
end Go.Abs
namespace Go.Ex
open Go.Lib Go.Wd Go.Wire Go.Abs
def zpW (a b:Pln):Prop:=a.kind=b.kind/\a.names=b.names/\a.texts.length=b.texts.length
theorem zpX (m:Dmd): ∀{a b:List Pln} (i:Nat),a.length=b.length->(∀k,k<a.length->zpW (a.getD k ⟨[],[],[]⟩) (b.getD k ⟨[],[],[]⟩))->tJ m a i=tJ m b i
 |[],[],_,_,_=>rfl
 |x::a,y::b,i,h,hk=>by
  rw[tJ,tJ];have h0:=hk 0 (by simp);simp only[XA] at h0;obtain⟨h1,h2,h3⟩:=h0;have e:mE m x i=mE m y i:=by
   unfold mE;have:kA m x=kA m y:=by funext k;unfold kA;rw[h1,h2,h3]
   rw[this,h2]
  rw[e,zpX m (i+1) (by simpa using h) fun k hkl=>by
   have:=hk (k+1) (by simp;omega)
   simpa using this]
theorem zqH: ∀(D:List Dcm) (cs:List Nat) (i j:Nat),(xN D cs i).1.length=(xN D cs j).1.length/\ ∀k,k<(xN D cs i).1.length->zpW ((xN D cs i).1.getD k ⟨[],[],[]⟩) ((xN D cs j).1.getD k ⟨[],[],[]⟩)
 |[],cs,i,j=>by cases cs<;>simp[xN]
 |d::D,[],i,j=>by simp[xN]
 |d::D,c::cs,i,j=>by
  have ih:=zqH D cs i j;rw[xN,xN];refine⟨by simp[ih.1],fun k hk=>?_⟩;cases k with
  |zero=>
   simp only[XA];exact⟨rfl,rfl,by show(wQ _ _).1.length=(wQ _ _).1.length;rw[(ziV _ _).1,(ziV _ _).1]⟩
  |succ k=>
   simp only[List.getD_cons_succ];exact ih.2 k (by simpa using hk)
theorem zrt (m:Dmd) (D:List Dcm) (i j:Nat):uX m (rdsD D i)=uX m (rdsD D j):=by
 unfold uX;split
 ·rfl
 ·obtain⟨h1,h2⟩:=zqH D (vZ D) i j
  exact zpX m 0 h1 h2
def zpj (L:List Dmd) (p:List Pln) (d:List Int):Nat:=(d.map fun k=>(uX (L.getD k.toNat yZ) p).length).sum
theorem zru (L:List Dmd) (p:List Pln) (c:List Nat):zpj L p (natI c)=(c.map fun k=>uX (L.getD k yZ) p).flatten.length:=by
 unfold zpj natI;rw[List.length_flatten,Xe,Xe];rfl
theorem zrv {l:List Plc} (h:uK l=[]):l=[]:=by
 induction l with
 |nil=>rfl
 |cons a l ih=>
  cases l with
  |nil=>simp[uK] at h
  |cons b l=>
   rw[uK] at h;split at h
   ·exact absurd (ih h) (by simp)
   ·cases h
structure FlwOk (L:List Dmd) (D:List Dcm) (p:List Pln) (x:Flw):Prop where
 len:x.dem.length<=8
 rng: ∀k,k<x.dem.length-> ∃j:Nat,x.dem.getD k 0=j/\j<L.length
 m1: ¬zpj L p x.dem<x.pls.length
 m2: ¬(zpj L p x.dem>0/\x.pls.length=0)
 one:x.sure=false->x.dem.length=1/\zpA L D x.dem=true/\(List.range (xY D)).all (fun r:Nat=>zpn L D x.dem r)=false
theorem l4F {L:List Dmd} {D:List Dcm} (hA:AskS L D) (h0:lookE L D=0) (i:Nat): ∀x∈flawsE L D,FlwOk L D (rdsD D i) x:=by
 have hcn:=kJ h0;have hne:=aY hA hcn;have hF:=mD L D;have h8:=hA.l8;have h256:2 ^ L.length<=256:=(Yf (by decide) hA.l8:2 ^ L.length<=2 ^ 8);have hdl:(viewD L D).doubt<2 ^ L.length:=lZ hF;have hm: ∀s,s∈conflP (viewD L D) ↔ _:=bT hA.l8 hne hF;have key: ∀(c:List Nat) (b:Bool),c.length<=8->(∀k∈c,k<L.length)->(b=false->c.length=1/\zpA L D (natI c)=true/\(List.range (xY D)).all (fun r:Nat=>zpn L D (natI c) r)=false)->FlwOk L D (rdsD D i) ⟨natI c,xU L c (rdsD D 0),b⟩:=by
  intro c b hc hk hone;have hmn:zpj L (rdsD D i) (natI c)=(c.map fun k=>uX (L.getD k yZ) (rdsD D 0)).flatten.length:=by
   rw[zru];congr 2;exact Y9 fun k _=>zrt _ D i 0
  refine⟨by rw[uD];exact hc,fun k hkl=>?_,?_,?_,fun q=>?_⟩
  ·rw[uD] at hkl
   exact⟨c[k],by simp[natI,hkl],hk _ (Zx hkl)⟩
  ·show¬zpj L (rdsD D i) (natI c)<(xU L c (rdsD D 0)).length
   rw[hmn];unfold xU;have:=zrh (sortO uA (c.map fun k=>uX (L.getD k yZ) (rdsD D 0)).flatten);rw[(qD uA _).length_eq] at this;omega
  ·show¬(zpj L (rdsD D i) (natI c)>0/\(xU L c (rdsD D 0)).length=0)
   rw[hmn];rintro⟨g1,g2⟩;have:=zrv (ZZ g2);have e:=congrArg List.length this;rw[(qD uA _).length_eq] at e;simp only[ZG] at e;omega
  ·have q2:b=false:=q
   obtain⟨g1,g2,g3⟩:=hone q2;exact⟨(uD c).trans g1,g2,g3⟩
 intro x hx;have:flawsE L D=kB L (viewD L D) (rdsD D 0):=by unfold flawsE;rw[if_pos h0];rfl
 rw[this] at hx;unfold kB at hx;rcases Yg.1 hx with hx|hx
 ·obtain⟨c,hc,rfl⟩:=ZB.1 hx
  obtain⟨s,hs2,rfl⟩:=ZB.1 ((qD ltC _).mem_iff.1 hc);have h1:=((hm s).1 hs2).1;exact key (bitsN s) true (pG s (by omega)) (kK h8 h1).2 (fun q=>by cases q)
 ·obtain⟨k,hk,rfl⟩:=ZB.1 hx
  have hkd:=(uW (s:=(viewD L D).doubt) (by omega)).1 hk;have hkL:=xT.1 hdl k hkd;obtain⟨⟨f1,hf1,b1⟩,f2,hf2,b2⟩:=(zmC hne hF k).1 hkd;have hkk: ∀j∈[k],j<L.length:=fun j hj=>by simp at hj;omega
  refine key [k] false (by simp) hkk fun _=>⟨rfl,(aX hcn hkk).2 ⟨f2,hf2,fun j hj=>by simp at hj;rw[hj];exact b2⟩,?_⟩
  rw[YE];intro q;rw[Zu] at q;obtain⟨r,hr,rfl⟩:=ZB.1 hf1;have:=(ziX hcn (Z7.1 hr) hkk).1 (q r hr) k (by simp);rw[this] at b1;cases b1
theorem zqI {α:Type} (d:α) (p:α->Bool): ∀(l:List α) (i:Nat),fstN p l i= -1\/ ∃j,j<l.length/\fstN p l i=((i+j:Nat):Int)/\p (l.getD j d)=true
 |[],_=> .inl rfl
 |a::l,i=>by
  rw[fstN];split
  ·rename_i h;exact .inr ⟨0,by simp,rfl,h⟩
  ·rcases zqI d p l (i+1) with h|⟨j,h1,h2,h3⟩
   ·exact .inl h
   ·exact .inr ⟨j+1,by simp;omega,by rw[h2];congr 1;omega,h3⟩
theorem zqJ: ∀(l:List Txt) (k i:Nat),l.Nodup->k<l.length->fstN (fun x=>decide (l.getD k []=x)) l i=((i+k:Nat):Int)
 |[],_,_,_,h=>by simp at h
 |a::l,0,i,_,_=>by rw[fstN,if_pos (by simp)];rfl
 |a::l,k+1,i,hn,hk=>by
  obtain⟨h1,h2⟩:=ZY.1 hn;have hk':k<l.length:=by simpa using hk
  have hm:l.getD k []∈l:=by rw[Zh,Zg hk'];exact Zx hk'
  have hne:l.getD k []≠a:=fun e=>h1 (e▸hm)
  have e:(a::l).getD (k+1) []=l.getD k []:=rfl;rw[e,fstN,if_neg (by rw[decide_eq_true_eq];exact hne),zqJ l k (i+1) h2 hk'];congr 1;omega
structure RdP (p:Pln):Prop where
 nd:p.names.Nodup
 len:p.texts.length=p.names.length
theorem zrw {d:Dcm} (hd:DcmS d) (h:docE d=0) {p:Pln} (hp:posP d p):RdP p:=by
 have hR:=oM hd h;refine⟨?_,by rw[zpD hp.ts,hp.ns,Zi]⟩;rw[hp.ns];unfold List.Nodup;rw[List.pairwise_iff_getElem];intro i j hi hj hij e;rw[Zi] at hi hj;obtain⟨_,_,f3,_⟩:=bE hj (hd.fl _ (Zx hj)) (hR.fe j hj);rw[YE] at f3;apply f3;rw[Yo];refine⟨d.flds[i],?_,?_⟩
 ·rw[List.mem_take_iff_getElem]
  exact⟨i,by omega,rfl⟩
 ·simp only[List.getElem_map] at e
  rw[e];simp
def zo8 (l:List Pln) (i k:Nat) (t:Txt):List Pln:=l.set i (zpe (l.getD i ⟨[],[],[]⟩) k t)
theorem zpE (d f:Txt) (k:Nat) (t:Txt): ∀(l:List Pln) (i:Nat) (acc:List Txt),(i<l.length-> ¬((l.getD i ⟨[],[],[]⟩).kind=d/\k<(l.getD i ⟨[],[],[]⟩).names.length/\(l.getD i ⟨[],[],[]⟩).names.getD k []=f))->fldsF d f (zo8 l i k t) acc=fldsF d f l acc
 |[],_,_,_=>rfl
 |p::l,0,acc,h=>by
  have h:=h (by simp);simp only[XA] at h;show fldsF d f (zpe p k t::l) acc=_;rw[fldsF,fldsF];show(if p.kind=d then(if fstN (fun x=>decide (f=x)) p.names 0<0\/fstN (fun x=>decide (f=x)) p.names 0>=(p.texts.set k t).length then([],false) else fldsF d f l (acc++[(p.texts.set k t).getD (fstN (fun x=>decide (f=x)) p.names 0).toNat []])) else fldsF d f l acc)=_;rw[YP];split
  ·rename_i hk
   rcases zqI [] (fun x=>decide (f=x)) p.names 0 with e|⟨j,h1,h2,h3⟩
   ·rw[e,if_pos (by omega),if_pos (by omega)]
   ·rw[h2,ZV,Z6]
    have hjk:k≠j:=by
     rintro rfl;exact h ⟨hk,h1,(of_decide_eq_true h3).symm⟩
    rw[show(p.texts.set k t).getD j []=p.texts.getD j [] by
     rw[Zh,List.getElem?_set_ne hjk,Zh]]
  ·rfl
 |p::l,i+1,acc,h=>by
  show fldsF d f (p::zo8 l i k t) acc=_;have h':i<l.length-> ¬((l.getD i ⟨[],[],[]⟩).kind=d/\k<(l.getD i ⟨[],[],[]⟩).names.length/\(l.getD i ⟨[],[],[]⟩).names.getD k []=f):=fun q=>h (by simpa using q)
  rw[fldsF,fldsF];split
  ·split
   ·rfl
   ·exact zpE d f k t l i _ h'
  ·exact zpE d f k t l i _ h'
theorem zqK (s:Txt) (k:Nat) (t:Txt): ∀(l:List Pln) (i:Nat),kindP (zo8 l i k t) s=kindP l s
 |[],_=>rfl
 |p::l,0=>rfl
 |p::l,i+1=>by
  show(decide (p.kind=s)||kindP (zo8 l i k t) s)=(decide (p.kind=s)||kindP l s);rw[zqK s k t l i]
theorem zqL (m:Dmd) (k:Nat): ∀(l:List Pln) (i j:Nat),i<l.length->k<(l.getD i ⟨[],[],[]⟩).names.length->kA m (l.getD i ⟨[],[],[]⟩) k=true->(⟨((j+i:Nat):Int),(k:Int)⟩:Plc)∈tJ m l j
 |[],_,_,h,_,_=>by simp at h
 |p::l,0,j,_,hk,hb=>by
  rw[tJ,Yg];exact .inl (ZB.2 ⟨k,Yj.2 ⟨Z7.2 hk,hb⟩,rfl⟩)
 |p::l,i+1,j,h,hk,hb=>by
  rw[tJ,Yg];have:=zqL m k l i (j+1) (by simpa using h) hk hb;rw[show j+1+i=j+(i+1) by omega] at this;exact .inr this
theorem zrx (m:Dmd) {l:List Pln} {i k:Nat} (t:Txt) (hR: ∀p∈l,RdP p) (h:(⟨(i:Int),(k:Int)⟩:Plc) ∉ uX m l):wV m (zo8 l i k t)=wV m l:=by
 have hb: ¬(m.op<=0\/m.op>=5)->i<l.length->k<(l.getD i ⟨[],[],[]⟩).names.length-> ¬(((l.getD i ⟨[],[],[]⟩).kind=m.doc/\(l.getD i ⟨[],[],[]⟩).names.getD k []=m.fld)\/(m.op=3/\(l.getD i ⟨[],[],[]⟩).kind=m.oth/\(l.getD i ⟨[],[],[]⟩).names.getD k []=m.sec)):=by
  intro hop hi hk hq;unfold uX at h;rw[if_neg hop] at h;apply h;have hp:RdP (l.getD i ⟨[],[],[]⟩):=hR _ (by rw[Zh,Zg hi];exact Zx hi);have:=zqL m k l i 0 hi hk ?_
  ·rwa [ZV] at this
  ·generalize l.getD i ⟨[],[],[]⟩=p at hk hq hp⊢
   unfold kA;rw[zqJ p.names k 0 hp.nd hk,ZV,hp.len];simp only[Zp,Yi,decide_eq_true_eq];exact⟨⟨trivial,hk⟩,hq⟩
 have f1: ¬(m.op<=0\/m.op>=5)-> ∀acc,fldsF m.doc m.fld (zo8 l i k t) acc=fldsF m.doc m.fld l acc:=fun hop acc=>zpE _ _ k t l i acc fun hi q=>hb hop hi q.2.1 (.inl ⟨q.1,q.2.2⟩)
 have f2:m.op=3-> ∀acc,fldsF m.oth m.sec (zo8 l i k t) acc=fldsF m.oth m.sec l acc:=fun h3 acc=>zpE _ _ k t l i acc fun hi q=>hb (by omega) hi q.2.1 (.inr ⟨h3,q.1,q.2.2⟩)
 have fk:=fun s=>zqK s k t l i
 unfold wV;split
 ·exact fk _
 split
 ·unfold readsP;rw[f1 (by omega)]
 split
 ·unfold limP;rw[f1 (by omega)]
 split
 ·rename_i h3
  unfold agreesP;rw[f1 (by omega),f2 h3,fk,fk]
 split
 ·unfold limP;rw[f1 (by omega)]
 ·rfl
theorem zpY {z:Plc}: ∀{l:List Plc},z∈uK l ↔ z∈l
 |[]=>XO
 |[a]=>XO
 |a::b::l=>by
  rw[uK];split
  ·rename_i h;subst h;rw[zpY (l:=a::l)];simp
  ·rw[ZH,zpY (l:=b::l),ZH (a:=z) (b:=a)]
theorem zry {L:List Dmd} {c:List Nat} {p:List Pln} {z:Plc}:z∈xU L c p ↔ ∃k∈c,z∈uX (L.getD k yZ) p:=by
 unfold xU;rw[zpY,(qD uA _).mem_iff,List.mem_flatten];constructor
 ·rintro⟨x,hx,hz⟩
  obtain⟨k,hk,rfl⟩:=ZB.1 hx;exact⟨k,hk,hz⟩
 ·rintro⟨k,hk,hz⟩
  exact⟨_,ZB.2 ⟨k,hk,rfl⟩,hz⟩
theorem zqM {L:List Dmd} {D:List Dcm} (hA:AskS L D) (h0:lookE L D=0) {x:Flw} (hx:x∈flawsE L D) (hs:x.sure=true): ∃s,s<2 ^ L.length/\wP (yN L D) s=true/\x.dem=natI (bitsN s)/\x.pls=xU L (bitsN s) (rdsD D 0):=by
 have hcn:=kJ h0;have hm: ∀s,s∈conflP (viewD L D) ↔ _:=bT hA.l8 (aY hA hcn) (mD L D);unfold flawsE at hx;rw[if_pos h0] at hx;unfold gI kB at hx;rcases Yg.1 hx with hx|hx
 ·obtain⟨c,hc,rfl⟩:=ZB.1 hx
  obtain⟨s,hs2,rfl⟩:=ZB.1 ((qD ltC _).mem_iff.1 hc);exact⟨s,((hm s).1 hs2).1,((hm s).1 hs2).2,rfl,rfl⟩
 ·obtain⟨k,hk,rfl⟩:=ZB.1 hx
  cases hs
theorem zrz {L:List Dmd} {D:List Dcm} (h0:lookE L D=0) {x:Flw} (hx:x∈flawsE L D) (hs:x.sure=false): ∃k:Nat,k∈bitsN (viewD L D).doubt/\x.dem=[(k:Int)]:=by
 unfold flawsE at hx;rw[if_pos h0] at hx;unfold gI kB at hx;rcases Yg.1 hx with hx|hx
 ·obtain⟨c,hc,rfl⟩:=ZB.1 hx
  cases hs
 ·obtain⟨k,hk,rfl⟩:=ZB.1 hx
  exact⟨k,hk,rfl⟩
theorem zrA {L:List Dmd} {D:List Dcm} (h0:lookE L D=0) {k:Nat} (hk:k∈bitsN (viewD L D).doubt): ∃x∈flawsE L D,x.sure=false/\x.dem=[(k:Int)]:=by
 unfold flawsE;rw[if_pos h0];unfold gI kB;exact⟨_,Yg.2 (.inr (ZB.2 ⟨k,hk,rfl⟩)),rfl,rfl⟩
def zpk (A B:List Flw):Bool:=A.all fun x=> !x.sure||B.any fun y=>y.sure&&y.dem.all fun n=>x.dem.any fun m=>decide (m=n)
theorem zqN {L:List Dmd} {N:List Dcm} (hA:AskS L N) (h0:lookE L N=0) {A:List Flw} (h: ∀x∈A,x.sure=true-> ∃s,s<2 ^ L.length/\x.dem=natI (bitsN s)/\hitP (yN L N) s=true):zpk A (flawsE L N)=true:=by
 have h8:=hA.l8;unfold zpk;rw[Zu];intro x hx;cases hs:x.sure with
 |false=>rfl
 |true=>
  obtain⟨s,h1,h2,h3⟩:=h x hx hs;obtain⟨c,c1,c2,c3⟩:=zmE h8 _ s h1 (Zt _) h3;obtain⟨y,hy,ys,yd⟩:=(gV hA h0 (natI (bitsN c))).2 ⟨c,c1,c2,rfl⟩;obtain⟨s1,s2⟩:=kK h8 h1;obtain⟨d1,d2⟩:=kK h8 c1;rw[XP,Ym,Yo];refine⟨y,hy,?_⟩;rw[ys,ZJ,Zu,yd,h2];intro z hz;obtain⟨k,hk,rfl⟩:=ZB.1 hz;rw[Yo];exact⟨(k:Int),ZB.2 ⟨k,(uW (by omega)).2 (c3 k ((uW (by omega)).1 hk)),rfl⟩,by simp⟩
def zpZ (A B:List Flw):Bool:=B.all fun y=>y.sure||A.any fun x=> !x.sure&&(decide (x.dem.length=1)&&(decide (y.dem.length=1)&&decide (x.dem.getD 0 0=y.dem.getD 0 0)))
theorem l7A {L:List Dmd} {D N:List Dcm} (hA:AskS L D) (hN:AskS L N) (h0:lookE L D=0) (hN0:lookE L N=0) (hsub: ∀f∈yN L N,f∈yN L D):zpk (flawsE L D) (flawsE L N)=true:=by
 refine zqN hN hN0 fun x hx hs=>?_
 obtain⟨s,h1,h2,h3,_⟩:=zqM hA h0 hx hs;have h4:=(kK hA.l8 h1).1;exact⟨s,h1,h3,rJ.2 fun f hf=>rJ.1 ((oO (by omega)).1 h2).1 f (hsub f hf)⟩
theorem l7B {L:List Dmd} {D N:List Dcm} (hA:AskS L D) (hN:AskS L N) (h0:lookE L D=0) (hN0:lookE L N=0) (hsub: ∀f∈yN L N,f∈yN L D):zpZ (flawsE L D) (flawsE L N)=true:=by
 have h256:2 ^ L.length<=256:=(Yf (by decide) hA.l8:2 ^ L.length<=2 ^ 8);have hdD:(viewD L D).doubt<2 ^ L.length:=lZ (mD L D);have hdN:(viewD L N).doubt<2 ^ L.length:=lZ (mD L N);unfold zpZ;rw[Zu];intro y hy;cases hs:y.sure with
 |true=>rfl
 |false=>
  obtain⟨k,hk,hd⟩:=zrz hN0 hy hs;have hk1:=(uW (s:=(viewD L N).doubt) (by omega)).1 hk;obtain⟨⟨f1,a1,b1⟩,f2,a2,b2⟩:=(zmC (aY hN (kJ hN0)) (mD L N) k).1 hk1;have hk2:(viewD L D).doubt.testBit k=true:=(zmC (aY hA (kJ h0)) (mD L D) k).2 ⟨⟨f1,hsub f1 a1,b1⟩,f2,hsub f2 a2,b2⟩;obtain⟨x,hx,xs,xd⟩:=zrA h0 ((uW (by omega)).2 hk2);rw[Ym,Yo];exact⟨x,hx,by rw[xs,xd,hd];simp⟩
theorem l7S {L:List Dmd} {D N:List Dcm} (hN:AskS L N) (h0:lookE L D=0) (hN0:lookE L N=0) (hsub: ∀f∈yN L N,f∈yN L D) (h2:stateE L D≠2):stateE L D=stateE L N:=by
 have hs: ∀(M:List Dcm) x,x∈(viewD L M).sets ↔ x∈yN L M:=fun M x=>by
  show x∈xC (yN L M) [] ↔ _;rw[gD];simp
 have hnd:(viewD L N).sets.Nodup:=zqg _ _ List.nodup_nil;have hne:(viewD L N).sets≠[]:=fun e=>by
  obtain⟨f,hf⟩:=Y8 _ (aY hN (kJ hN0));have:=(hs N f).2 hf;rw[e] at this;cases this
 have hsub2: ∀f∈(viewD L N).sets,f∈(viewD L D).sets:=fun f hf=>(hs D f).2 (hsub f ((hs N f).1 hf))
 unfold stateE at h2⊢;rw[if_pos h0] at h2⊢;rw[if_pos hN0];unfold zhT at h2⊢;generalize (viewD L D).sets=S at h2 hsub2⊢;generalize (viewD L N).sets=T at hsub2 hnd hne⊢;by_cases hz:0∈S
 ·rw[if_pos hz] at h2⊢
  by_cases hl:S.length=1
  ·obtain⟨a,rfl⟩:=List.length_eq_one_iff.1 hl
   have ha:=ZU.1 hz;subst ha;have hT:T=[0]:=by
    match T,hne,hnd,hsub2 with
    |[b],_,_,hq=>rw[ZU.1 (hq b (by simp))]
    |b::c::r,_,hnd,hq=>
     have hb:=ZU.1 (hq b (by simp));have hc:=ZU.1 (hq c (by simp));subst hb hc;simp at hnd
   rw[hT];simp
  ·rw[if_neg hl] at h2;exact absurd rfl h2
 ·rw[if_neg hz,if_neg fun h=>hz (hsub2 0 h)]
theorem zp0: ∀(l:List Nat) (i x:Nat),(i<l.length->x<=l.getD i 0)->zo5 (l.set i x)<=zo5 l
 |[],_,_,_=>Zt _
 |a::l,0,x,h=>YX (h (by simp)) (Zt _)
 |a::l,i+1,x,h=>YX (Zt a) (zp0 l i x fun hi=>h (by simpa using hi))
theorem zrB (d:Dcm) (k:Nat) (ws:List Txt):zo6 (setW d k ws).flds=(zo6 d.flds).set k 1:=by
 show(d.flds.set k _).map yQ=_;rw[XU,zpV];rfl
theorem zrC {d:Dcm} (hd:DcmS d) (h:docE d=0) {k:Nat} (ws:List Txt):prD (setW d k ws)<=prD d:=by
 unfold prD;rw[zrB];refine zp0 _ k 1 fun hk=>?_
 unfold zo6 at hk⊢;rw[Zh,Zg hk,List.getElem_map,Y1];rw[Zi] at hk;exact zph hd h _ (Zx hk)
def setN' (D:List Dcm) (d k:Nat) (ws:List Txt):List Dcm:=D.set d (setW (D.getD d zo3) k ws)
theorem zpq {D:List Dcm} {d:Nat} (h:d<D.length):D.getD d zo3∈D:=by
 rw[Zh,Zg h];exact Zx h
theorem zp1 {l:List Fld} {k:Nat} (h:k<l.length):l.getD k yT∈l:=by
 rw[Zh,Zg h];exact Zx h
theorem zqO {D:List Dcm} (h:GoodD D) {d k:Nat} (hd:d<D.length) (hk:k<(D.getD d zo3).flds.length) {ws:List Txt} (h8:ws.length<=8) (hv: ∀w∈ws,vM w=true):GoodD (setN' D d k ws):=by
 obtain⟨s1,s2⟩:=h.docs _ (zpq hd);obtain⟨t1,t2⟩:=zrr s1 s2 hk h8 hv;refine zrl (by unfold setN';rw[YP];exact h.ok.len) (fun x hx=>?_) (ZT ?_ h.pr)
 ·rcases List.mem_or_eq_of_mem_set hx with hx|rfl
  ·exact h.docs x hx
  ·exact⟨t1,t2⟩
 ·unfold prL setN'
  rw[XU];refine zp0 _ d _ fun hd2=>?_
  have e:D.getD d zo3=D[d]:=by rw[Zh,Zg hd];rfl
  have e2:(D.map prD).getD d 0=prD D[d]:=by rw[Zh,Zg hd2,List.getElem_map];rfl
  rw[e2,e];rw[e] at s1 s2;exact zrC s1 s2 ws
theorem zp2 {D:List Dcm} {d k:Nat} (hd:d<D.length) (hk:k<(D.getD d zo3).flds.length) {ws:List Txt} {P:List Pln} (hP:zo9 (setN' D d k ws) P) {t:Txt} (ht:zpc ((D.getD d zo3).flds.getD k yT) t):
  zo9 D (zo8 P d k t)/\(P.getD d ⟨[],[],[]⟩).texts.getD k []=oI 32 ws:=by
 have hd2:d<(setN' D d k ws).length:=by unfold setN';rw[YP];exact hd
 have h1:=zqF d hP hd2;have e:(setN' D d k ws).getD d zo3=setW (D.getD d zo3) k ws:=by
  unfold setN';rw[Zh,List.getElem?_set_self hd];rfl
 rw[e] at h1;obtain⟨h2,h3⟩:=zrs hk h1 ht;refine⟨?_,h3⟩;have:=zqE d hP h2;unfold setN' at this;rw[List.set_set] at this
 rwa [show D.set d (D.getD d zo3)=D by rw[Zh,Zg hd];exact XV hd] at this
theorem zrD {p:Pln} {k:Nat} {t:Txt} (h:p.texts.getD k []=t):zpe p k t=p:=by
 obtain⟨a,b,c⟩:=p;unfold zpe;simp only at h⊢;by_cases hk:k<c.length
 ·rw[Zh,Zg hk] at h
  have h:c[k]=t:=h;rw[<-h,XV]
 ·rw[List.set_eq_of_length_le (by omega)]
theorem zqP {P:List Pln} {d k:Nat} {t:Txt} (h:(P.getD d ⟨[],[],[]⟩).texts.getD k []=t):zo8 P d k t=P:=by
 unfold zo8;rw[zrD h];by_cases hk:d<P.length
 ·rw[Zh,Zg hk];exact XV hk
 ·rw[List.set_eq_of_length_le (by omega)]
theorem zrE {L:List Dmd} {D:List Dcm} (h:GoodD D) {d k:Nat} (hd:d<D.length) (hk:k<(D.getD d zo3).flds.length) {t:Txt} (ht:zpc ((D.getD d zo3).flds.getD k yT) t) (hN:GoodD (setN' D d k (splitW t))):
  ∀f∈yN L (setN' D d k (splitW t)),f∈yN L D:=by
 intro f hf;obtain⟨P,hP,rfl⟩:=(zpC hN f).1 hf;obtain⟨h1,h2⟩:=zp2 hd hk hP ht;rw[zqy] at h2;rw[zqP h2] at h1;exact(zpC h _).2 ⟨P,h1,rfl⟩
theorem zqQ: ∀{D:List Dcm} {P Q:List Pln},zo9 D P->zo9 D Q->P.length=Q.length/\ ∀k,k<P.length->zpW (P.getD k ⟨[],[],[]⟩) (Q.getD k ⟨[],[],[]⟩)
 |[],[],[],_,_=>⟨rfl,fun k hk=>absurd hk (by simp)⟩
 |d::D,p::P,q::Q,h1,h2=>by
  obtain⟨e1,e2⟩:=zqQ h1.2 h2.2;refine⟨by simp[e1],fun k hk=>?_⟩;cases k with
  |zero=>
   simp only[XA];exact⟨h1.1.kd.trans h2.1.kd.symm,h1.1.ns.trans h2.1.ns.symm,(zpD h1.1.ts).trans (zpD h2.1.ts).symm⟩
  |succ k=>exact e2 k (by simpa using hk)
 |[],_::_,_,h,_=>h.elim
 |[],[],_::_,_,h=>h.elim
 |_::_,[],_,h,_=>h.elim
 |_::_,_::_,[],_,h=>h.elim
theorem zrF (m:Dmd) {D:List Dcm} {P Q:List Pln} (h1:zo9 D P) (h2:zo9 D Q):uX m P=uX m Q:=by
 unfold uX;split
 ·rfl
 ·obtain⟨e1,e2⟩:=zqQ h1 h2
  exact zpX m 0 e1 e2
theorem zrG {P:List Pln} {d k:Nat} {t:Txt} (u:Txt):zo8 (zo8 P d k t) d k u=zo8 P d k u:=by
 unfold zo8;by_cases hd:d<P.length
 ·rw[List.set_set]
  congr 1;rw[Zh,List.getElem?_set_self hd];show zpe (zpe _ k t) k u=_;unfold zpe;simp only[List.set_set]
 ·have e: ∀x,P.set d x=P:=fun x=>List.set_eq_of_length_le (by omega)
  rw[e,e]
theorem l7C {L:List Dmd} {D:List Dcm} (hA:AskS L D) (h0:lookE L D=0) {d k:Nat} (hd:d<D.length) (hk:k<(D.getD d zo3).flds.length) {ws:List Txt} (hF:AskS L (setN' D d k ws)) (hF0:lookE L (setN' D d k ws)=0)
  {A:List Flw} (hs: ∀x∈A,x∈flawsE L D/\(⟨(d:Int),(k:Int)⟩:Plc) ∉ x.pls):zpk A (flawsE L (setN' D d k ws))=true:=by
 have hG:GoodD D:=⟨hA.dc,kJ h0⟩;have hGF:GoodD (setN' D d k ws):=⟨hF.dc,kJ hF0⟩;refine zqN hF hF0 fun x hx xs=>?_
 obtain⟨hx,hpl⟩:=hs x hx;obtain⟨s,h1,h2,h3,h4⟩:=zqM hA h0 hx xs;obtain⟨s1,s2⟩:=kK hA.l8 h1;refine⟨s,h1,h3,rJ.2 fun f hf=>?_⟩;obtain⟨P,hP,rfl⟩:=(zpC hGF f).1 hf;obtain⟨g1,g2⟩:=hG.docs _ (zpq hd);have hfk:(D.getD d zo3).flds.getD k yT∈(D.getD d zo3).flds:=by
  exact zp1 hk
 have ht:zpc ((D.getD d zo3).flds.getD k yT) (textF ((D.getD d zo3).flds.getD k yT) 0):=⟨0,zph g1 g2 _ hfk,rfl⟩;obtain⟨q1,q2⟩:=zp2 hd hk hP ht;generalize textF ((D.getD d zo3).flds.getD k yT) 0=t at q1 ht;obtain⟨j,j1,j2⟩:=rJ.1 ((oO (by omega)).1 h2).1 _ ((zpC hG _).2 ⟨_,q1,rfl⟩);refine⟨j,?_,j2⟩;rw[gG,decide_eq_true_eq,gF] at j1⊢;refine⟨j1.1,?_⟩;rw[<-j1.2];have hno:(⟨(d:Int),(k:Int)⟩:Plc) ∉ uX (L.getD j yZ) (zo8 P d k t):=by
  rw[zrF _ q1 (zpU hG 0)];intro hm;apply hpl;rw[h4,zry];exact⟨j,(uW (by omega)).2 j2,hm⟩
 have hRd: ∀p∈zo8 P d k t,RdP p:=by
  have key: ∀{D:List Dcm} {P:List Pln},(∀d∈D,DcmS d/\docE d=0)->zo9 D P-> ∀p∈P,RdP p:=by
   intro D
   induction D with
   |nil=>intro P _ h p hp;cases P with|nil=>cases hp|cons _ _=>exact h.elim
   |cons e D ih=>
    intro P hD h p hp;cases P with
    |nil=>exact h.elim
    |cons q P=>
     rcases ZH.1 hp with rfl|hp
     ·exact zrw (hD e (by simp)).1 (hD e (by simp)).2 h.1
     ·exact ih (fun x hx=>hD x (Zz _ hx)) h.2 p hp
  exact key hG.docs q1
 have hm:=zrx (L.getD j yZ) ((P.getD d ⟨[],[],[]⟩).texts.getD k []) hRd hno;rw[zrG,zqP rfl] at hm;exact hm
theorem zp3 {B:Nat}: ∀ws:List Txt,(∀w∈ws,w.length<=B)->(oI 32 ws).length<=ws.length*(B+1)
 |[],_=>by simp[oI]
 |[w],h=>by have:=h w (by simp);simp[oI];omega
 |w::v::r,h=>by
  have h1:=h w (by simp);have h2:=zp3 (v::r) fun x hx=>h x (Zz _ hx)
  rw[oI,Zv,Zo,Zo,Xb];omega
theorem zqR {α:Type} {l:List α} {k:Nat} {t s d:α} (hs:s∈l):s∈l.set k t\/s=l.getD k d:=by
 obtain⟨i,hi,rfl⟩:=YW hs;by_cases e:k=i
 ·subst e;right;rw[Zh,Zg hi];rfl
 ·left
  have:=List.getElem_set_ne e (a:=t) (by rw[YP];exact hi:i<(l.set k t).length);rw[<-this];exact Zx _
theorem zqS {L:List Dmd} {D:List Dcm} (hA:AskS L D) (h:GoodD D) {d k:Nat} (hd:d<D.length) (hk:k<(D.getD d zo3).flds.length) {ws:List Txt} (h8:ws.length<=8) (hv: ∀w∈ws,vM w=true):AskS L (setN' D d k ws):=by
 have hN:=zqO h hd hk h8 hv;refine⟨hA.l8,hA.dm,hN.s,fun _ i _=>?_⟩;have hP:=zpU hN i;generalize rdsD (setN' D d k ws) i=P at hP;obtain⟨g1,g2⟩:=h.docs _ (zpq hd);have hfk:(D.getD d zo3).flds.getD k yT∈(D.getD d zo3).flds:=by
  exact zp1 hk
 have ht:zpc ((D.getD d zo3).flds.getD k yT) (textF ((D.getD d zo3).flds.getD k yT) 0):=⟨0,zph g1 g2 _ hfk,rfl⟩;obtain⟨q1,q2⟩:=zp2 hd hk hP ht;generalize textF ((D.getD d zo3).flds.getD k yT) 0=t at q1 ht;obtain⟨j,hj,e⟩:=zqu h q1;have hS:=hA.rd h.c j hj;rw[e] at hS;have hl:(zo8 P d k t).length=P.length:=by unfold zo8;rw[YP]
 refine⟨by rw[<-hl];exact hS.1,fun p hp=>?_⟩;rcases zqR (k:=d) (t:=zpe (P.getD d ⟨[],[],[]⟩) k t) (d:=⟨[],[],[]⟩) hp with hp|rfl
 ·exact hS.2 p hp
 ·have hdP:d<P.length:=by rw[zqG hP];unfold setN';rw[YP];exact hd
  have hm:=hS.2 (zpe (P.getD d ⟨[],[],[]⟩) k t) (by unfold zo8;exact List.mem_set hdP _);refine⟨hm.kd,hm.ns,by have:=hm.ts;unfold zpe at this;rw[YP] at this;exact this,fun s hs=>?_⟩;rcases zqR (k:=k) (t:=t) (d:=[]) hs with hs|rfl
  ·exact hm.tx s hs
  ·rw[q2]
   have:=zp3 ws fun w hw=>zm0 (hv w hw)
   have h3:ws.length*(20+1)<=8*21:=YX h8 (Zt _);omega
end Go.Ex
namespace Go.Proofs
open Go.Shelf Go.RowKit
def Tryz.laysClone_ren:Go.Shelf.Ren:=
 {
  f:=fun x=>
   match x with
   |16=>60
   |n=>n,
  t:=fun x=>
   match x with
   |24=>51
   |9=>9
   |4=>4
   |n=>n,
  g:=fun n=>n}
theorem Tryz.laysClone:Lays2.n16 Tryz.prog Tryz.laysClone_ren:=
 {mixed:=by kernel_rfl,f16:=ZQ Tryz.func60 (congrArg some (ZI (Body2.n16 Tryz.laysClone_ren))),
  t4:=Tryz.underlying4,a4:=Tryz.isAgg4,z4:=Tryz.sizeOf4,v4:=Tryz.zeroValue4,t9:=Tryz.underlying9,
  a9:=Tryz.isAgg9,z9:=Tryz.sizeOf9,v9:=Tryz.zeroValue9,t24:=Tryz.underlying51,a24:=Tryz.isAgg51,
  z24:=Tryz.sizeOf51,v24:=Tryz.zeroValue51,i9:=by kernel_rfl}
end Go.Proofs
namespace Go.Proofs
open Go.Shelf Go.RowKit Go.Lib Go.Abs Go.Ex Go.Wire Go.Wd
theorem zqT {c:UInt8} (t:Txt): ∀{w:Txt},c ∉ w->indexByte (w++c::t) c=w.length
 |[],_=>by
  show indexByte (c::t) c=0;unfold indexByte;rw[if_pos (by simp)]
 |b::w,h=>by
  have h1:(b==c)=false:=by rw[beq_eq_false_iff_ne];exact fun e=>h (by simp[e])
  have ih:=zqT t (w:=w) (fun e=>h (Zz _ e));rw[ZS];unfold indexByte;rw[h1,ih,if_neg (by simp),if_neg (by simp)];simp
theorem zrH (c:UInt8): ∀(n:Nat) (s:Txt),s.length<=n->splitK [c] 0 (s.count c) s=Go.Wd.cutC c s:=by
 intro n
 induction n with
 |zero=>
  intro s hs;obtain rfl:s=[]:=ZZ (by omega);rfl
 |succ n ih=>
  intro s hs;by_cases hm:c∈s
  ·obtain⟨w,t,rfl,hw⟩:=List.eq_append_cons_of_mem hm
   have hc:(w++c::t).count c=t.count c+1:=by
    rw[List.count_append,List.count_cons_self,List.count_eq_zero.2 hw];omega
   have hi:index (w++c::t) [c]=w.length:=by rw[index_one,zqT t hw]
   rw[hc,Go.Wd.cutC_app t hw,splitK,hi,if_neg (by simp)];rw[Z6,Yq,List.take_left,show w.length+[c].length=w.length+1 from rfl,List.drop_append,ZC (by omega),show w.length+1-w.length=1 by omega];rw[Ya,List.drop_succ_cons,List.drop_zero,ih t (by simp at hs;omega)]
  ·rw[List.count_eq_zero.2 hm,Go.Wd.cutC_word hm];rfl
end Go.Proofs
namespace Go.Abs
open Go.Proofs Go.Shelf Go.RowKit Go.Lib Go.Wd Go.Wire Go.Ex
theorem cell_of {w:World} {g:Nat} {p:Value->Prop} (hG:yI (base w)) (h:zi8 g=some (cell0 p)): ∃v,w.cell? ⟨g,0,none⟩=some v/\p v:=by
 obtain⟨_,b,hb,hp⟩:=hG.2 g _ h;have hb':w.heap[g]?=some b:=hb;cases b with
 |cells cs t f=>
  obtain⟨v,h1,h2⟩:=hp;exact⟨v,by simp only[World.cell?,hb'];exact h1,h2⟩
 |_=>exact hp.elim
theorem zrI (s:Txt) (c:UInt8) (hs:s.length<4294967281) {w:World} (hG:yI (base w)):
  Calls Tryz.prog 91 #[.string ⟨s.toArray⟩,.string ⟨[c].toArray⟩] w fun e w'=> ∃v,e=.returned v/\w'.ownsRow w.heap.size 9 1 v (Go.Wd.cutC c s).length (qA (zJ (Go.Wd.cutC c s)))/\Below w.heap.size w w':=by
 obtain⟨m,hm,z,rfl⟩:=cell_of hG (g:=2) (p:=fun v=> ∃m,v=.int .i64 m) rfl;refine(Any.strings_Split Tryz.laysSplit (by kernel_rfl) ⟨s.toArray⟩ ⟨[c].toArray⟩ z w (by show s.toArray.size<_;simpa using hs) hm (Zt 1)).mono ?_;rintro e w' ⟨rfl,rfl⟩;have hsp:(splitB (⟨[c].toArray⟩:ByteArray) 0 (countB ⟨s.toArray⟩ ⟨[c].toArray⟩) ⟨s.toArray⟩).map (·.data.toList)=Go.Wd.cutC c s:=by
  rw[splitB_data];show splitK [c] 0 (count s [c]) s=_;rw[count_one];exact zrH c s.length s (Zt _)
 have hlen:=splitB_all (⟨[c].toArray⟩:ByteArray) (Zt 1) 0 _ ⟨s.toArray⟩ rfl;generalize hSB:splitB (⟨[c].toArray⟩:ByteArray) 0 (countB ⟨s.toArray⟩ ⟨[c].toArray⟩) ⟨s.toArray⟩=SB at hsp hlen;have hcv:qA (zJ (Go.Wd.cutC c s))=SB.map Value.string:=by
  rw[zmw,<-hsp,Xe];refine Y9 fun x _=>?_
  show Value.string ⟨x.data.toList.toArray⟩=Value.string x;rw[ZN]
 have hl2:(Go.Wd.cutC c s).length=SB.length:=by rw[<-hsp,Zi]
 have hcl:(countB (⟨s.toArray⟩:ByteArray) ⟨[c].toArray⟩)<=s.length:=by
  have:=countB_le (⟨[c].toArray⟩:ByteArray) (Zt 1) s.length ⟨s.toArray⟩ (by show s.toArray.size<=_;simp);have h2:(⟨s.toArray⟩:ByteArray).size=s.length:=by show s.toArray.size=_;simp
  omega
 refine⟨_,rfl,⟨by rw[(zmv _).clen,yB],.inr ⟨w.heap.size,SB.length,(SB.map Value.string).toArray,?_,Zt _,alloc_get _ _,by omega,?_,by simp,?_⟩⟩,?_⟩
 ·rw[hl2,hlen]
 ·unfold maxLen;omega
 ·rw[hcv,hl2];simp;rw[Z9 (by simp)]
 ·exact(Below.refl _ w).alloc (Zt _) _
theorem c91 (s:Txt) (c:UInt8) (hs:s.length<4294967281):Spec Tryz.prog 91 [.str s,.str [c]] (fun r=>r=.k (.newl 9 1 none (zJ (Go.Wd.cutC c s)))):=by
 refine⟨rH (by kernel_rfl),fun w Z vs hG hz ha=>?_⟩;obtain⟨vl⟩:=vs
 match vl,ha with
 |[],ha=>exact absurd ha.1 (by simp)
 |[_],ha=>exact absurd ha.1 (by simp)
 |_::_::_::_,ha=>exact absurd ha.1 (by simp)
 |[v,v2],ha=>
  have e1:=uQ (ha.2 0 _ v rfl rfl).2.2;have e2:=uQ (ha.2 1 _ v2 rfl rfl).2.2;subst e1 e2;refine(zrI s c hs hG).mono ?_;rintro e w' ⟨v,rfl,ho,hb⟩;exact⟨_,_,rfl,rfl,fun τ=>rfl,zpO hG (xM hb) (zpP (zmv _) ho (by rw[yB]))⟩
theorem c54 (s:Txt) (hs:s.length<4294967281):Spec Tryz.prog 54 [.str s] (fun v=>v=lst 1 (zJ (splitW s))):=by
 refine Spec.of_awlP hf54 okf54 (by simp) fun S hS=>?_
 unfold splitW at hS;by_cases h0:s=[]
 ·subst h0
  rw[if_pos rfl] at hS;simp only[Qs,BEq.rfl,ZY,Za,Zy,Ψ54];exact hS _ rfl
 ·rw[if_neg h0] at hS
  simp only[h0,Qs,forall_const,BEq.rfl,ZY,Za,Zy,Ψ54];refine zrd (c91 s 32 hs) ?_ (ha:=by rfl);simp only[Qs,ZY,Zy];exact hS _ (by rw[wD];exact congrArg V.k (qB (wD _) 1 9))
theorem s60 (l:List Txt) (hl:l.length<=1000000):Spec Tryz.prog 60 [lst 1 (zJ l)] (fun r=>r=.k (.newl 9 1 none (zJ l))):=by
 refine⟨rH (by kernel_rfl),fun w Z vs hG hz ha=>?_⟩;obtain⟨vl⟩:=vs
 match vl,ha with
 |[],ha=>exact absurd ha.1 (by simp)
 |_::_::_,ha=>exact absurd ha.1 (by simp)
 |[v],ha=>
  obtain⟨p,k,rfl,q,m⟩:=(zmv l).slice (ha.2 0 _ v rfl rfl).2.2;have hcl:=(zmv l).clen;by_cases h0:l=[]
  ·subst h0
   have conc: ∀v' w',w'.ownsRow w.heap.size 9 1 v' 0 []->Below w.heap.size w w'-> ∃v_1 r,Ending.returned v'=.returned v_1/\r=V.k (.newl 9 1 none (zJ []))/\(∀τ,r.noRef τ=true)/\mN (base w) Z r v_1 w':=fun v' w' ho hb=>
    ⟨_,_,rfl,rfl,fun τ=>rfl,zpO hG (xM hb) (zpP (rows:=zJ []) (zmv []) ho rfl)⟩
   cases p with
   |none=>
    refine(Any.slices_Clone_string_nil Tryz.laysClone 0 k w).mono ?_;rintro e w' ⟨rfl,rfl⟩;exact conc _ _ ⟨rfl,.inl ⟨rfl,rfl⟩⟩ (Below.refl _ _)
   |some a=>
    refine(Any.slices_Clone_string_zero Tryz.laysClone a k w).mono ?_;rintro e w' ⟨v',rfl,ho,_,hb⟩;exact conc _ _ ho hb
  ·have hpos:0<(zJ l).length:=by rw[yB];exact Yh.2 h0
   obtain⟨b,o,rfl,g⟩:=q hpos;have hcs:qA (zJ l)=(l.map fun s=>(⟨s.toArray⟩:ByteArray)).map Value.string:=by rw[zmw,Xe];rfl
   refine(Any.slices_Clone_string Tryz.laysClone b o (zJ l).length k (l.map fun s=>(⟨s.toArray⟩:ByteArray)) w (by rw[yB,Zi];exact Zt _) (by rw[yB];omega) ?_).mono ?_
   ·intro j hj
    refine g j _ ?_;rw[hcs,Zw,Zh,Zg hj];rfl
   ·rintro e w' ⟨v',rfl,ho,_,hb⟩
    refine⟨_,_,rfl,rfl,fun τ=>rfl,zpO hG (xM hb) (zpP (n:=(zJ l).length) (zmv l) ?_ rfl)⟩;rw[hcs];rw[Z9 (by rw[yB,Zi];exact Zt _)] at ho;exact ho
end Go.Abs
