/- A part of the proof; the last text states what is proved. -/
import Derived.Calls
import Derived.WalkKit
import Derived.Orders
import Derived.Laws.Small
import Derived.WalkLawsBesides
import Derived.Laws.StructEq
import Derived.WalkSpells
set_option linter.unusedVariables false
set_option linter.unusedSimpArgs false
set_option maxRecDepth 100000
set_option maxHeartbeats 8000000
open Array renaming eq_empty_of_size_eq_zero → YM,getD_eq_getD_getElem? → ZW,getElem?_eq_getElem → Ya,getElem?_eq_some_iff → Zs,getElem?_push → YR,getElem?_setIfInBounds → Yi,getElem?_toList → Yu,length_toList → Xt,replicate → YX,toArray_toList → ZR
open BitVec renaming ofInt → Yn
open Bool renaming and_eq_true → Zr,false_eq_true → Z1,not_eq_true' → Xn,or_eq_true → Yp
open Iff renaming rfl → Xp
open List renaming all_cons → Yz,all_eq_false → YP,all_eq_true → ZA,all_map → Y4,append_assoc → Z3,append_nil → Ze,cons_append → ZQ,eq_nil_of_length_eq_zero → Yg,exists_mem_of_ne_nil → XD,ext_getElem → Xg,foldl_cons → YU,getD_eq_getElem?_getD → Zi,getElem?_append_left → ZL,getElem?_append_right → ZM,getElem?_drop → YJ,getElem?_eq_getElem → Zf,getElem?_eq_none → Xe,getElem?_eq_some_iff → Zu,getElem?_map → Zz,getElem?_of_mem → XL,getElem?_take → Z6,getElem_mem → Zv,length_append → Zq,length_cons → Zo,length_take → Yl,mapM_cons → YE,map_append → ZS,map_congr_left → Xj,map_cons → Zk,map_take → Xy,mem_append → Yo,mem_cons → ZJ,mem_cons_of_mem → Zy,mem_cons_self → Yj,mem_filter → Yh,mem_map → ZH,mem_of_getElem? → ZP,mem_of_mem_take → Xf,mem_range → Z2,nil_append → Yd,not_mem_nil → Zt,range' → YF,range'_succ → Xo,set_append_right → Xr,size_toArray → Yx,take_of_length_le → Z7,take_succ_eq_append_getElem → ZD
open Nat renaming add_assoc → YK,add_comm → Y8,add_mul → YD,add_zero → Yf,eq_of_mul_eq_mul_right → XF,le_mul_of_pos_right → XK,le_of_not_lt → Xu,le_refl → Zw,le_trans → ZX,lt_of_lt_of_le → ZO,min_eq_left → YV,mod_eq_of_lt → XH,mod_lt → XE,mul_le_mul_right → ZZ,one_mul → Xs,one_shiftLeft → XW,sub_self → Xi,zero_add → ZY
open Option renaming bind_eq_bind → Zj,bind_eq_some_iff → Zb,bind_some → YG,getD_some → YZ,map_eq_some_iff → Zd,map_some → YA,pure_def → Zm
open Option.some renaming inj → Yr,injEq → Zh
open Prod.mk renaming inj → XX,injEq → Xd
namespace Go.Abs
def fT:Nat->Option (List Int):=fun _=>none
def cell0 (p:Value->Prop):Obj->Prop
 | .cells cs _ _=> ∃v,cs[0]?=some v/\p v
 |_=>False
def sK (r:Array Value):Obj->Prop
 | .cells cs _ _=>cs=r
 |_=>False
def zdR:List Int:=[1,10,100,1000,10000,100000,1000000,10000000,100000000,1000000000,10000000000,100000000000,1000000000000,10000000000000,100000000000000,1000000000000000,10000000000000000,100000000000000000,1000000000000000000,10000000000000000000]
def zpP:List Int:=[0,1,28,2,29,14,24,3,30,22,20,15,25,17,4,8,31,27,13,23,21,19,16,7,26,12,18,6,11,5,10,9]
def zax:List Int:=[0,1,56,2,57,49,28,3,61,58,42,50,38,29,17,4,62,47,59,36,45,43,51,22,53,39,33,30,24,18,12,5,63,55,48,27,60,41,37,16,46,35,44,21,52,32,23,11,54,26,40,15,34,20,31,10,25,14,19,9,13,8,7,6]
def zdS:Nat->Option (Obj->Prop)
 |0=>some (sK (zpP.map fun z=>Value.int .u8 z).toArray)
 |1=>some (sK (zax.map fun z=>Value.int .u8 z).toArray)
 |2=>some (sK (zdR.map fun z=>Value.int .u64 z).toArray)
 |3=>some (cell0 fun v=> ∃m,v=.int .i64 m)
 |_=>none
end Go.Abs
namespace Go.Abs
inductive C where
 |int (k:IntKind) (n:Int)
 |bool (b:Bool)
 |str (s:List UInt8)
 |list (sz:Nat) (nl:Option Bool) (rows:List (List C))
 |ro (row:List C) (off:Nat)
 |fn (f:FuncId) (caps:List C)
 |nilf
 |nilp
 |gl (g:Nat)
 deriving Inhabited
inductive Cap where
 |tok (τ:Nat)
 |ro (row:List C) (off:Nat)
 deriving Inhabited
inductive K where
 |c (x:C)
 |own (τ:Nat)
 |ptr (τ off:Nat)
 |elem (τ i off:Nat)
 |pel (sz:Nat) (rows:List (List C)) (i off:Nat)
 |fnk (f:FuncId) (caps:List Cap)
 |newl (e:TypeId) (sz:Nat) (nl:Option Bool) (rows:List (List C))
 |dead
 deriving Inhabited
inductive V where
 |k (x:K)
 |agg (r:List C)
 |agk (r:List K)
 |tup (vs:List V)
 |undef
 |any
 deriving Inhabited
inductive O where
 |var (e:TypeId) (row:List K)
 |arr (e:TypeId) (sz:Nat) (nl:Option Bool) (rows:List (List C))
 deriving Inhabited
structure St where
 t:Nat->V
 o:Nat->Option O
def St.put (σ:St) (d:Nat) (v:V):St:={σ with t:=fun s=>if s=d then v else σ.t s}
def St.setO (σ:St) (τ:Nat) (ob:O):St:={σ with o:=fun s=>if s=τ then some ob else σ.o s}
def St.delO (σ:St) (τ:Nat):St:={σ with o:=fun s=>if s=τ then none else σ.o s}
abbrev V.int (k:IntKind) (n:Int):V:=.k (.c (.int k n))
abbrev V.bool (b:Bool):V:=.k (.c (.bool b))
abbrev V.str (s:List UInt8):V:=.k (.c (.str s))
abbrev V.list (sz:Nat) (nl:Option Bool) (rows:List (List C)):V:=.k (.c (.list sz nl rows))
def Cap.noRef (τ:Nat):Cap->Bool
 | .tok s=>s !=τ
 | .ro _ _=>true
def K.noRef (τ:Nat):K->Bool
 | .c _=>true
 | .own s=>s !=τ
 | .ptr s _=>s !=τ
 | .elem s _ _=>s !=τ
 | .pel _ _ _ _=>true
 | .fnk _ caps=>caps.all (Cap.noRef τ)
 | .newl _ _ _ _=>true
 | .dead=>true
mutual
def V.noRef (τ:Nat):V->Bool
 | .k x=>x.noRef τ
 | .agg _=>true
 | .agk r=>r.all (K.noRef τ)
 | .tup vs=>V.noRefL τ vs
 | .undef=>true
 | .any=>true
def V.noRefL (τ:Nat):List V->Bool
 |[]=>true
 |v::vs=>v.noRef τ&&V.noRefL τ vs
end
def O.noRef (τ:Nat):O->Bool
 | .var _ row=>row.all (K.noRef τ)
 | .arr _ _ _ _=>true
def St.Free (σ:St) (d:Nat):Prop:=(∀s,s≠d->(σ.t s).noRef d=true)/\ ∀τ ob,σ.o τ=some ob->τ≠d->ob.noRef d=true
def St.new (σ:St) (d:Nat) (ob:O) (v:V):St:=(σ.setO d ob).put d v
def K.scrub (τ:Nat):K->K
 | .own s=>if s=τ then .dead else .own s
 | .ptr s o=>if s=τ then .dead else .ptr s o
 | .elem s i o=>if s=τ then .dead else .elem s i o
 | .fnk f caps=>if caps.all (Cap.noRef τ) then .fnk f caps else .dead
 |k=>k
def V.scrub (τ:Nat):V->V
 | .k x=> .k (x.scrub τ)
 | .agk r=> .agk (r.map (K.scrub τ))
 | .agg r=> .agg r
 | .undef=> .undef
 | .tup _=> .any
 | .any=> .any
def O.scrub (τ:Nat):O->O
 | .var e row=> .var e (row.map (K.scrub τ))
 |ob=>ob
def St.scrub (σ:St) (τ:Nat):St where
 t:=fun s=>(σ.t s).scrub τ
 o:=fun s=>if s=τ then none else(σ.o s).map (O.scrub τ)
def pureRow:List K->Option (List C)
 |[]=>some []
 | .c x::r=>(pureRow r).map (x:: ·)
 |_::_=>none
def tU:List Cap->Option (List C)
 |[]=>some []
 | .ro row off::r=>(tU r).map (.ro row off:: ·)
 |_::_=>none
def Cap.frz (τ:Nat) (ob:O):Cap->Cap
 | .tok s=>if s=τ then(match ob with| .var _ row=>(match pureRow row with|some r=> .ro r 0|none=> .tok s)|_=> .tok s) else .tok s
 |c=>c
def K.frz (τ:Nat) (ob:O):K->K
 | .own s=>if s=τ then(match ob with| .arr _ sz nl rows=> .c (.list sz nl rows)|_=> .dead) else .own s
 | .ptr s o=>if s=τ then(match ob with| .var _ row=>(match pureRow row with|some r=> .c (.ro r o)|none=> .dead)|_=> .dead) else .ptr s o
 | .elem s i o=>if s=τ then(match ob with| .arr _ sz _ rows=> .pel sz rows i o|_=> .dead) else .elem s i o
 | .fnk f caps=>match tU (caps.map (Cap.frz τ ob)) with|some cs=> .c (.fn f cs)|none=> .fnk f (caps.map (Cap.frz τ ob))
 |k=>k
def V.frz (τ:Nat) (ob:O):V->V
 | .k x=> .k (x.frz τ ob)
 | .agk r=>match pureRow (r.map (K.frz τ ob)) with|some cs=> .agg cs|none=> .agk (r.map (K.frz τ ob))
 | .agg r=> .agg r
 | .undef=> .undef
 | .tup _=> .any
 | .any=> .any
def O.frz (τ:Nat) (ob:O):O->O
 | .var e row=> .var e (row.map (K.frz τ ob))
 |x=>x
def St.frz (σ:St) (τ:Nat):St:=
 match σ.o τ with
 |none=>σ
 |some ob=>{t:=fun s=>(σ.t s).frz τ ob,o:=fun s=>if s=τ then none else(σ.o s).map (O.frz τ ob)}
def Cap.toks:Cap->List Nat
 | .tok s=>[s]
 | .ro _ _=>[]
def K.toks:K->List Nat
 | .own s=>[s]
 | .ptr s _=>[s]
 | .elem s _ _=>[s]
 | .fnk _ caps=>caps.flatMap Cap.toks
 |_=>[]
def V.toks:V->List Nat
 | .k x=>x.toks
 | .agk r=>r.flatMap K.toks
 |_=>[]
def St.frzs (σ:St):List Nat->St
 |[]=>σ
 |τ::l=>(match σ.o τ with|some (.var _ row)=>(row.flatMap K.toks).foldl St.frz σ|_=>σ)|>.frz τ|>.frzs l
inductive AX where
 |t (s:Nat)
 |v (x:V)
 deriving Inhabited
def AX.ev (σ:St):AX->V
 | .t s=>σ.t s
 | .v x=>x
def V.strip:V->V×Bool
 |v=>(v,true)
def AX.evg (σ:St) (g:Bool) (x:AX) (k:V->Prop):Prop:=(g=true->(x.ev σ).strip.2=true)/\k (x.ev σ).strip.1
def V.cells:V->Option (List K)
 | .k x=>some [x]
 | .agg r=>some (r.map .c)
 | .agk r=>some r
 |_=>none
def V.pure:V->Option (List C)
 | .k (.c x)=>some [x]
 | .agg r=>some r
 |_=>none
def ofRow (agg:Bool) (r:List K):V:=
 if agg then(match pureRow r with|some cs=> .agg cs|none=> .agk r)
 else match r with|[x]=> .k x|_=> .any
def V.lend (σ:St):V->V
 | .k (.own τ)=>match σ.o τ with|some (.arr _ sz nl rows)=> .list sz nl rows|_=> .any
 |v=>v
def V.isPure:V->Bool
 | .k (.c _)=>true
 | .agg _=>true
 |_=>false
mutual
def V.scalar:V->Bool
 | .k (.c (.int _ _))=>true
 | .k (.c (.bool _))=>true
 | .k (.c (.str _))=>true
 | .tup vs=>V.scalarL vs
 |_=>false
def V.scalarL:List V->Bool
 |[]=>true
 |v::vs=>v.scalar&&V.scalarL vs
end
def K.regs (n:Nat):List K->List K×List O
 |[]=>([],[])
 | .newl e sz nl rows::r=>(.own n::(K.regs (n+1) r).1,.arr e sz nl rows::(K.regs (n+1) r).2)
 |k::r=>(k::(K.regs n r).1,(K.regs n r).2)
mutual
def V.reg (n:Nat):V->V×List O
 | .k (.newl e sz nl rows)=>(.k (.own n),[.arr e sz nl rows])
 | .agk r=>(.agk (K.regs n r).1,(K.regs n r).2)
 | .tup vs=>(.tup (V.regL n vs).1,(V.regL n vs).2)
 |v=>(v,[])
def V.regL (n:Nat):List V->List V×List O
 |[]=>([],[])
 |v::vs=>((v.reg n).1::(V.regL (n+(v.reg n).2.length) vs).1,(v.reg n).2++(V.regL (n+(v.reg n).2.length) vs).2)
end
def St.adds (σ:St) (n:Nat):List O->St
 |[]=>σ
 |ob::l=>(σ.setO n ob).adds (n+1) l
def K.toNew (o:Nat->Option O):K->K
 | .c x=> .c x
 | .own τ=>match o τ with|some (.arr e sz nl rows)=> .newl e sz nl rows|_=> .dead
 |_=> .dead
mutual
def V.toNew (o:Nat->Option O):V->V
 | .k x=> .k (x.toNew o)
 | .agg r=> .agg r
 | .agk r=> .agk (r.map (K.toNew o))
 | .tup vs=> .tup (V.toNewL o vs)
 |_=> .any
def V.toNewL (o:Nat->Option O):List V->List V
 |[]=>[]
 |v::vs=>v.toNew o::V.toNewL o vs
end
def isVarO:Option O->Bool
 |some (.var _ _)=>true
 |_=>false
def isArrO:Option O->Bool
 |some (.arr _ _ _ _)=>true
 |_=>false
def cutInt (k:IntKind):BinOp->Int->Int->Option (Prop×C)
 | .add,a,b=>some (True,.int k (k.wrap (a+b)))
 | .sub,a,b=>some (True,.int k (k.wrap (a-b)))
 | .mul,a,b=>some (True,.int k (k.wrap (a*b)))
 | .quo,a,b=>some (b≠0,.int k (k.wrap (a.tdiv b)))
 | .rem,a,b=>some (b≠0,.int k (a.tmod b))
 | .eql,a,b=>some (True,.bool (a==b))
 | .neq,a,b=>some (True,.bool (a !=b))
 | .lss,a,b=>some (True,.bool (decide (a<b)))
 | .leq,a,b=>some (True,.bool (decide (a<=b)))
 | .gtr,a,b=>some (True,.bool (decide (a>b)))
 | .geq,a,b=>some (True,.bool (decide (a>=b)))
 | .and,a,b=>some (True,.int k (k.wrap ((Yn k.bits a&&&Yn k.bits b).toNat)))
 | .or,a,b=>some (True,.int k (k.wrap ((Yn k.bits a|||Yn k.bits b).toNat)))
 | .xor,a,b=>some (True,.int k (k.wrap ((Yn k.bits a ^^^ Yn k.bits b).toNat)))
 | .andNot,a,b=>some (True,.int k (k.wrap ((Yn k.bits a&&& ~~~ Yn k.bits b).toNat)))
 |_,_,_=>none
def binStr:BinOp->List UInt8->List UInt8->Option (Prop×C)
 | .add,a,b=>some (a.length+b.length<=9223372036854775807,.str (a++b))
 | .eql,a,b=>some (True,.bool (a==b))
 | .neq,a,b=>some (True,.bool (!(a==b)))
 | .lss,a,b=>some (True,.bool (Op.bytesLess a b))
 | .leq,a,b=>some (True,.bool (Op.bytesLess a b||a==b))
 | .gtr,a,b=>some (True,.bool (!(Op.bytesLess a b||a==b)))
 | .geq,a,b=>some (True,.bool (!Op.bytesLess a b))
 |_,_,_=>none
def binInt (k k':IntKind) (a b:Int):BinOp->Option (Prop×C)
 | .shl=>some (0<=b,.int k (k.wrap (a*2 ^ (min b.toNat k.bits))))
 | .shr=>some (0<=b,.int k (a.fdiv (2 ^ (min b.toNat k.bits))))
 |op=>if k=k' then cutInt k op a b else none
def binV (op:BinOp):C->C->Option (Prop×C)
 | .int k a,.int k' b=>binInt k k' a b op
 | .str a,.str b=>binStr op a b
 |_,_=>none
inductive EqK where
 |int|bool|str
 deriving Inhabited,DecidableEq
def eqC:EqK->C->C->Option Bool
 | .int,.int k a,.int k' b=>if k=k' then some (a==b) else none
 | .bool,.bool a,.bool b=>some (a==b)
 | .str,.str a,.str b=>some (a==b)
 |_,_,_=>none
def eqRow:List EqK->List C->List C->Option Bool
 |[],[],[]=>some true
 |t::ts,a::x,b::y=>(eqC t a b).bind fun q=>(eqRow ts x y).map fun q'=>q&&q'
 |_,_,_=>none
def unV:UnOp->C->Option C
 | .neg,.int k n=>some (.int k (k.wrap (0-n)))
 | .not,.bool b=>some (.bool !b)
 |_,_=>none
inductive AOp where
 |mov (d:Nat) (x:AX)
 |nilL (d e sz:Nat)
 |pick (d:Nat) (c a b:AX)
 |alloc (d e:Nat) (zero:List C)
 |box (d e:Nat) (x:AX)
 |build (d:Nat) (zero:List C) (ps:List (Nat×Nat×AX))
 |bslice (d e sz:Nat) (zero:List C) (len:Nat) (ps:List (Nat×AX))
 |load (d n:Nat) (agg:Bool) (x:AX)
 |store (n:Nat) (x y:AX)
 |nilchk (d:Nat) (x:AX)
 |bin (d:Nat) (op:BinOp) (x y:AX)
 |binB (d:Nat) (neg:Bool) (x y:AX)
 |eqAgg (d:Nat) (neg:Bool) (ts:List EqK) (x y:AX)
 |nilcmp (d:Nat) (neg:Bool) (x:AX)
 |un (d:Nat) (op:UnOp) (x:AX)
 |conv (d:Nat) (k:IntKind) (x:AX)
 |mkfn (d:Nat) (f:FuncId) (caps:List AX)
 |mkslice (d e sz bytes:Nat) (zero:List C) (l c:AX)
 |slice (d sz:Nat) (x:AX) (lo hi:Option AX)
 |slstr (d:Nat) (x:AX) (lo hi:Option AX)
 |faddr (d off:Nat) (x:AX)
 |field (d off n:Nat) (agg:Bool) (x:AX)
 |iaddr (d sz:Nat) (x i:AX)
 |iaddrA (d sz len:Nat) (x i:AX)
 |sidx (d:Nat) (x i:AX)
 |aidx (d sz len:Nat) (agg:Bool) (x i:AX)
 |extr (d:Nat) (x:AX) (i:Nat)
 |call (d:Option Nat) (f:FuncId) (args:List AX)
 |callv (d:Option Nat) (x:AX) (args:List AX)
 |len (d:Nat) (x:AX)
 |lenS (d:Nat) (x:AX)
 |cap (d:Nat) (x:AX)
 |append (d e sz bytes:Nat) (x y:AX)
 |minmax (d:Nat) (isMax:Bool) (x:AX) (ys:List AX)
 deriving Inhabited
structure AI where
 g:Option (Nat×Bool)
 op:AOp
 deriving Inhabited
inductive DT where
 |done
 |fail
 |top
 |one (i:AI) (t:DT)
 |alt (a b:DT)
 deriving Inhabited
inductive AC where
 |skip
 |region (ops:List AI)
 |draw (ops:List AI) (pre:List (List Nat))
 |seq (a b:AC)
 |cond (c:AX) (a b:AC)
 |block (id:Nat) (a:AC)
 |loop (a:AC)
 |exit (id:Nat)
 |ret
 deriving Inhabited
inductive AE where
 |normal
 |exit (id:Nat)
 |ret
 deriving Inhabited
def splice {α:Type} (row:List α) (off:Nat) (ks:List α):List α:=row.take off++ks++row.drop (off+ks.length)
def jX (isMax:Bool) (a b:Int):Int:=if isMax then(if b>a then b else a) else(if b<a then b else a)
def rowPart (agg:Bool) (off n sz:Nat) (r:List C) (K:V->Prop):Prop:=
 if agg then(if off=0/\n=sz then K (.agg r) else K (.agg ((r.drop off).take n)))
 else∀c,r[off]?=some c->K (.k (.c c))
def nlApp (nl:Option Bool):List (List C)->Option Bool
 |[]=>nl
 |_::_=>some false
mutual
def C.norm:C->C
 | .list sz _ rows=> .list (if rows.isEmpty then 0 else sz) none (C.normRows rows)
 | .ro row off=> .ro (C.normRow row) off
 | .fn f caps=> .fn f (C.normRow caps)
 | .int k n=> .int k n
 | .bool b=> .bool b
 | .str s=> .str s
 | .nilf=> .nilf
 | .nilp=> .nilp
 | .gl g=> .gl g
def C.normRow:List C->List C
 |[]=>[]
 |c::r=>c.norm::C.normRow r
def C.normRows:List (List C)->List (List C)
 |[]=>[]
 |r::l=>C.normRow r::C.normRows l
end
def V.norm:V->V
 | .k (.c c)=> .k (.c c.norm)
 | .agg r=> .agg (C.normRow r)
 |v=>v
def K.nrm:K->K
 | .c x=> .c x.norm
 | .pel _ _ _ _=> .dead
 |k=>k
mutual
def V.nrm:V->V
 | .k x=> .k x.nrm
 | .agg r=> .agg (C.normRow r)
 | .agk r=> .agk (r.map K.nrm)
 | .tup vs=> .tup (V.nrmL vs)
 | .undef=> .undef
 | .any=> .any
def V.nrmL:List V->List V
 |[]=>[]
 |v::vs=>v.nrm::V.nrmL vs
end
def O.nrm:O->O
 | .var e row=> .var e (row.map K.nrm)
 | .arr e sz _ rows=> .arr e sz none (C.normRows rows)
def St.nrm (σ:St):St where
 t:=fun s=>(σ.t s).nrm
 o:=fun s=>(σ.o s).map O.nrm
def jY:Cap->V
 | .tok τ=> .k (.ptr τ 0)
 | .ro row off=> .k (.c (.ro row off))
def V.scrubs:List Nat->V->V
 |[],v=>v
 |τ::l,v=>V.scrubs l (v.scrub τ)
def O.scrubs:List Nat->O->O
 |[],v=>v
 |τ::l,v=>O.scrubs l (v.scrub τ)
def St.back (σ:St) (T dead:List Nat) (o':Nat->Option O):St where
 t:=fun s=>(σ.t s).scrubs dead
 o:=fun τ=>if T.contains τ then o' τ else(σ.o τ).map (O.scrubs dead)
def Cap.within (T:List Nat):Cap->Bool
 | .tok s=>T.contains s
 | .ro _ _=>true
def K.within (T:List Nat):K->Bool
 | .own s=>T.contains s
 | .ptr s _=>T.contains s
 | .elem s _ _=>T.contains s
 | .fnk _ caps=>caps.all (Cap.within T)
 |_=>true
mutual
def V.within (T:List Nat):V->Bool
 | .k x=>x.within T
 | .agg _=>true
 | .agk r=>r.all (K.within T)
 | .tup vs=>V.withinL T vs
 | .undef=>true
 | .any=>true
def V.withinL (T:List Nat):List V->Bool
 |[]=>true
 |v::vs=>v.within T&&V.withinL T vs
end
def O.within (T:List Nat):O->Bool
 | .var _ row=>row.all (K.within T)
 | .arr _ _ _ _=>true
def yE (T:List Nat) (o:Nat->Option O):Nat->Option O:=fun τ=>if T.contains τ then o τ else none
abbrev Bk:=Nat×Nat
inductive PRep (w:World) (Z:Bk->Prop):C->Value->Prop where
 |int (k:IntKind) (n:Int):PRep w Z (.int k n) (.int k n)
 |bool (b:Bool):PRep w Z (.bool b) (.bool b)
 |str (s:List UInt8):PRep w Z (.str s) (.string ⟨s.toArray⟩)
 |nil (sz:Nat) (nl:Option Bool):nl≠some false->PRep w Z (.list sz nl []) (.slice none 0 0)
 |emp (sz:Nat) (nl:Option Bool) (a:Addr):nl≠some true->PRep w Z (.list sz nl []) (.slice (some a) 0 0)
 |list (b o cap sz:Nat) (nl:Option Bool) (rows:List (List C)) (val:Nat->Nat->Value):
   nl≠some true->rows.length<=cap->cap<=maxLen->(rows≠[]->Z (sz,b))->(∀r,r∈rows->r.length=sz)->
   (∀(i j:Nat) r c,rows[i]?=some r->r[j]?=some c->w.cell? ⟨b,o+(i*sz+j),none⟩=some (val i j))->
   (∀(i j:Nat) r c,rows[i]?=some r->r[j]?=some c->PRep w Z c (val i j))->
   PRep w Z (.list sz nl rows) (.slice (some ⟨b,o,none⟩) rows.length cap)
 |ro (b:Nat) (row:List C) (off:Nat) (val:Nat->Value):Z (0,b)->
   (∀j c,row[j]?=some c->w.cell? ⟨b,j,none⟩=some (val j))->(∀j c,row[j]?=some c->PRep w Z c (val j))->
   PRep w Z (.ro row off) (.pointer (some ⟨b,off,none⟩))
 |nilf:PRep w Z .nilf .nilFunc
 |nilp:PRep w Z .nilp (.pointer none)
 |gl (g:Nat) (l:List Int):fT g=some l->PRep w Z (.gl g) (.slice (some ⟨g,0,none⟩) l.length l.length)
 |fn (f:FuncId) (caps:List C) (vs:Array Value) (val:Nat->Value):vs.size=caps.length->
   (∀j c,caps[j]?=some c->vs[j]?=some (val j))->(∀j c,caps[j]?=some c->PRep w Z c (val j))->
   PRep w Z (.fn f caps) (.func (.func f) #[] vs)
def xY (Z:Bk->Prop) (w w':World):Prop:= ∀b,Z b->w'.heap[b.2]?=w.heap[b.2]?
theorem PRep.mono {w w':World} {Z Z':Bk->Prop} (hs:xY Z w w') (hz: ∀b,Z b->Z' b) {c:C} {v:Value} (h:PRep w Z c v):PRep w' Z' c v:=by
 induction h with
 |int k n=>exact .int k n
 |bool b=>exact .bool b
 |str s=>exact .str s
 |nil sz nl h=>exact .nil sz nl h
 |emp sz nl a h=>exact .emp sz nl a h
 |list b o cap sz nl rows val h1 h2 h3 h4 h5 h6 _ ih=>
  refine .list b o cap sz nl rows val h1 h2 h3 (fun h=>hz _ (h4 h)) h5 (fun i j r c hr hc=>?_) ih;rw[World.cell?_of_block (w:=w) (a:=⟨b,o+(i*sz+j),none⟩) (hs (sz,b) (h4 (by rintro rfl;simp at hr)))];exact h6 i j r c hr hc
 |ro b row off val h1 h2 _ ih=>
  refine .ro b row off val (hz _ h1) (fun j c hc=>?_) ih;rw[World.cell?_of_block (w:=w) (a:=⟨b,j,none⟩) (hs (0,b) h1)];exact h2 j c hc
 |nilf=>exact .nilf
 |nilp=>exact .nilp
 |gl g l h=>exact .gl g l h
 |fn f caps vs val h1 h2 _ ih=>exact .fn f caps vs val h1 h2 ih
theorem PRep.oneCell {w:World} {Z:Bk->Prop} {c:C} {v:Value} (h:PRep w Z c v):v.oneCell'=true:=by cases h<;>rfl
theorem PRep.cells {w:World} {Z:Bk->Prop} {c:C} {v:Value} (h:PRep w Z c v):v.cells= #[v]:=by cases h<;>rfl
def yG (w:World) (Z:Bk->Prop) (r:List C) (cs:List Value):Prop:=
 cs.length=r.length/\ ∀(j:Nat) c v,r[j]?=some c->cs[j]?=some v->PRep w Z c v
abbrev Kap:=Nat->Option Nat
def qJ (w:World) (Z:Bk->Prop) (sz:Nat) (rows:List (List C)) (b o:Nat):Prop:=
 (rows≠[]->Z (sz,b))/\(∀r,r∈rows->r.length=sz)/\
 ∀(i j:Nat) r c,rows[i]?=some r->r[j]?=some c-> ∃v,w.cell? ⟨b,o+(i*sz+j),none⟩=some v/\PRep w Z c v
def uQ (w:World) (Z:Bk->Prop) (κ:Kap) (o:Nat->Option O):Cap->Value->Prop
 | .tok τ,v=> ∀e row,o τ=some (.var e row)-> ∃b,κ τ=some b/\v=.pointer (some ⟨b,0,none⟩)
 | .ro row off,v=>PRep w Z (.ro row off) v
def yU (w:World) (Z:Bk->Prop) (κ:Kap) (o:Nat->Option O):K->Value->Prop
 | .c x,v=>PRep w Z x v
 | .own τ,v=> ∀e sz nl rows,o τ=some (.arr e sz nl rows)->
   (κ τ=none/\v=.slice none 0 0)\/
   ∃b cur cap,κ τ=some b/\w.heap[b]?=some (.cells cur e (0,0))/\cur.size=cap*sz/\v=.slice (some ⟨b,0,none⟩) rows.length cap
 | .ptr τ off,v=> ∀e row,o τ=some (.var e row)-> ∃b,κ τ=some b/\v=.pointer (some ⟨b,off,none⟩)
 | .elem τ i off,v=> ∀e sz nl rows,o τ=some (.arr e sz nl rows)-> ∃b,κ τ=some b/\i<rows.length/\v=.pointer (some ⟨b,i*sz+off,none⟩)
 | .pel sz rows i off,v=> ∃b q,v=.pointer (some ⟨b,q+(i*sz+off),none⟩)/\i<rows.length/\qJ w Z sz rows b q
 | .fnk f caps,v=> ∃vs:Array Value,v=.func (.func f) #[] vs/\vs.size=caps.length/\ ∀(j:Nat) c,caps[j]?=some c-> ∃u,vs[j]?=some u/\uQ w Z κ o c u
 | .newl _ _ _ _,_=>False
 | .dead,_=>True
def yB (w:World) (Z:Bk->Prop) (κ:Kap) (o:Nat->Option O) (r:List K) (cs:List Value):Prop:=
 cs.length=r.length/\ ∀(j:Nat) k v,r[j]?=some k->cs[j]?=some v->v.oneCell'=true/\yU w Z κ o k v
mutual
def zK (w:World) (Z:Bk->Prop) (κ:Kap) (o:Nat->Option O):V->Value->Prop
 | .k x,v=>v.oneCell'=true/\yU w Z κ o x v
 | .agg r,v=> ∃cs,v=.agg cs/\yG w Z r cs.toList
 | .agk r,v=> ∃cs,v=.agg cs/\yB w Z κ o r cs.toList
 | .tup vs,v=> ∃us,v=.tuple us/\us.toList.length=vs.length/\VRepL w Z κ o vs us.toList
 | .undef,v=>v=undef
 | .any,_=>True
def VRepL (w:World) (Z:Bk->Prop) (κ:Kap) (o:Nat->Option O):List V->List Value->Prop
 |[],_=>True
 |_::_,[]=>True
 |x::xs,v::vs=>zK w Z κ o x v/\VRepL w Z κ o xs vs
end
def wB (w:World) (Z:Bk->Prop) (κ:Kap) (o:Nat->Option O) (τ:Nat):O->Prop
 | .var e row=> ∃b cur,κ τ=some b/\w.heap[b]?=some (.cells cur e (0,0))/\yB w Z κ o row cur.toList
 | .arr e sz nl rows=>(κ τ=none/\rows=[]/\nl≠some false)\/
   ∃b cur cap,κ τ=some b/\w.heap[b]?=some (.cells cur e (0,0))/\0<sz/\cur.size=cap*sz/\rows.length<=cap/\cap<=maxLen/\nl≠some true/\(∀r,r∈rows->r.length=sz)/\
    ∀(i j:Nat) r c,rows[i]?=some r->r[j]?=some c-> ∃v,cur[i*sz+j]?=some v/\PRep w Z c v
structure Base where
 w:World
 B:Nat->Prop
 lt: ∀b,B b->b<w.heap.size
abbrev base (w:World):Base:=⟨w,fun b=>b<w.heap.size,fun _ h=>h⟩
def sW (w:World) (b:Nat):Prop:= ∀cur e f,w.heap[b]?=some (.cells cur e f)->f=(0,0)
def Zof (w0:Base) (Z0:Bk->Prop) (κ:Kap) (o:Nat->Option O) (w:World) (b:Bk):Prop:=
 ((Z0 b/\w0.B b.2)\/(¬w0.B b.2/\sW w b.2))/\b.2<w.heap.size/\ ∀τ,o τ≠none->κ τ≠some b.2
structure KeptB (w0:Base) (w:World):Prop where
 os:w.os=w0.w.os
 tape:w.tape=w0.w.tape
 output:w.output=w0.w.output
 size:w0.w.heap.size<=w.heap.size
 block: ∀b,w0.B b->w.heap[b]?=w0.w.heap[b]?
abbrev wC (w0 w:World):Prop:=KeptB (base w0) w
def zpQ (w:World) (g:Nat) (l:List Int):Prop:= ∀j:Nat,j<l.length->w.cell? ⟨g,j,none⟩=some (.int .i64 (l.getD j 0))
def yN (w0:Base):Prop:=(∀g l,fT g=some l->w0.B g/\zpQ w0.w g l)/\ ∀g p,zdS g=some p->w0.B g/\ ∃b,w0.w.heap[g]?=some b/\p b
structure Inv (w0:Base) (Z0:Bk->Prop) (κ:Kap) (σ:St) (fr:Array Value) (w:World):Prop where
 kept:KeptB w0 w
 glob:yN w0
 own: ∀τ b,σ.o τ≠none->κ τ=some b-> ¬w0.B b/\b<w.heap.size
 inj: ∀τ τ' b,σ.o τ≠none->σ.o τ'≠none->κ τ=some b->κ τ'=some b->τ=τ'
 objs: ∀τ ob,σ.o τ=some ob->wB w (Zof w0 Z0 κ σ.o w) κ σ.o τ ob
 tmps: ∀s,zK w (Zof w0 Z0 κ σ.o w) κ σ.o (σ.t s) (fr.getD s undef)
def zZ (n:Nat) (obs:List O) (τ:Nat):Option O:=if n<=τ then obs[τ-n]? else none
def qK (w0:Base) (Z0:Bk->Prop) (r:V) (v:Value) (w:World):Prop:=
 ∀n,∃κ,Inv w0 Z0 κ {t:=fun s=>if s=0 then(r.reg n).1 else .any,o:=zZ n (r.reg n).2} #[v] w
def tJ (P:Program) (f:FuncId):Prop:= ∃fn,P.funcs[f]?=some fn/\fn.body.isSome=true/\(fn.name== "runtime.NumGoroutine")=false
def vW (w:World) (Z:Bk->Prop) (args:List V) (vs:List Value):Prop:=
 vs.length=args.length/\ ∀(j:Nat) x v,args[j]?=some x->vs[j]?=some v->x.isPure=true/\zK w Z (fun _=>none) (fun _=>none) x v
def Spec (P:Program) (f:FuncId) (args:List V) (S:V->Prop):Prop:=
 tJ P f/\ ∀(w:World) (Z:Bk->Prop) (vs:Array Value),yN (base w)->(∀b,Z b->b.2<w.heap.size)->vW w Z args vs.toList->
  Calls P f vs w fun e w'=> ∃v r,e=.returned v/\S r/\(∀τ,r.noRef τ=true)/\qK (base w) Z r v w'
theorem Spec.mono {P:Program} {f:FuncId} {args:List V} {S S':V->Prop} (h:Spec P f args S) (hs: ∀r,S r->S' r):Spec P f args S':=
 ⟨h.1,fun w Z vs hG hz ha=>(h.2 w Z vs hG hz ha).mono fun _ _ ⟨v,r,he,hr,hrep⟩=>⟨v,r,he,hs r hr,hrep⟩⟩
def yI:Option O->Option O->Prop
 |none,none=>True
 |some (.var e _),some (.var e' _)=>e'=e
 |some (.arr e sz _ rows),some (.arr e' sz' _ rows')=>e'=e/\sz'=sz/\rows'.length=rows.length
 |_,_=>False
def yZ (τs:Nat->Prop) (o o':Nat->Option O) (κ κ':Kap) (w w':World):Prop:=
 ∀τ,τs τ->yI (o τ) (o' τ)/\κ' τ=κ τ/\
  (o τ≠none-> ∀b,κ τ=some b-> ∀cur e f,w.heap[b]?=some (.cells cur e f)-> ∃cur',w'.heap[b]?=some (.cells cur' e f)/\cur'.size=cur.size)
def yV (P:Program) (f:FuncId) (args:List V) (o:Nat->Option O) (A:List Nat) (S:V->(Nat->Option O)->Prop):Prop:=
 tJ P f/\ ∀(w0:Base) (Z0:Bk->Prop) (κ:Kap) (w:World) (vs:Array Value),vs.size=args.length->Inv w0 Z0 κ ⟨fun s=>args.getD s .any,o⟩ vs w->
  Calls P f vs w fun e w'=> ∃v κ' r o',e=.returned v/\S r o'/\yZ (fun τ=>τ∈A) o o' κ κ' w w'/\Inv w0 Z0 κ' ⟨fun s=>if s=0 then r else .any,o'⟩ #[v] w'
theorem yV.mono {P:Program} {f:FuncId} {args:List V} {o:Nat->Option O} {A:List Nat} {S S':V->(Nat->Option O)->Prop} (h:yV P f args o A S) (hs: ∀r o,S r o->S' r o):yV P f args o A S':=
 ⟨h.1,fun w0 Z0 κ w vs hl hi=>(h.2 w0 Z0 κ w vs hl hi).mono fun _ _ ⟨v,κ',r,o',he,hr,ht,hi'⟩=>⟨v,κ',r,o',he,hs r o' hr,ht,hi'⟩⟩
def zA (σ:St) (g:Bool):AOp->(Nat->V->Prop)->Prop
 | .mov d x,k=>k d (x.ev σ)
 | .pick d c a b,k=>c.evg σ g fun cv=>
   match cv with
   | .k (.c (.bool cb))=>
     match (a.ev σ).strip,(b.ev σ).strip with
     |(.k (.c (.bool x)),ga),(.k (.c (.bool y)),gb)=>
      (g=true->cb=true->ga=true)/\(g=true->cb=false->gb=true)/\k d (.bool (if cb then x else y))
     |(.k (.c (.bool x)),ga),_=>(g=true->cb=true/\ga=true)/\k d (.bool x)
     |_,(.k (.c (.bool y)),gb)=>(g=true->cb=false/\gb=true)/\k d (.bool y)
     |_,_=>False
   |_=>False
 | .build d zero ps,k=>buildP σ g ps (zero.map .c) (fun row=>k d (ofRow true row))
 | .load d n agg x,k=>x.evg σ g fun v=>
   match v with
   | .k (.ptr τ off)=>
     match σ.o τ with
     |some (.var _ row)=>(g=true->off+n<=row.length)/\k d (ofRow agg ((row.drop off).take n))
     |_=>False
   | .k (.pel sz rows i off)=>(g=true->off+n<=sz)/\rowPart agg off n sz (rows.getD i []) (k d)
   | .k (.elem τ i off)=>
     match σ.o τ with
     |some (.arr _ sz _ rows)=>(g=true->off+n<=sz)/\rowPart agg off n sz (rows.getD i []) (k d)
     |_=>False
   | .k (.c (.ro row off))=>(g=true->off+n<=row.length)/\k d (ofRow agg (((row.drop off).take n).map .c))
   |_=>False
 | .nilchk d x,k=>x.evg σ g fun v=>
   match v with
   | .k (.ptr τ off)=>(g=true->isVarO (σ.o τ)=true)/\k d (.k (.ptr τ off))
   | .k (.elem τ i off)=>(g=true->isArrO (σ.o τ)=true)/\k d (.k (.elem τ i off))
   | .k (.pel sz rows i off)=>k d (.k (.pel sz rows i off))
   | .k (.c (.ro row off))=>k d (.k (.c (.ro row off)))
   | .k (.c (.fn f cs))=>k d (.k (.c (.fn f cs)))
   | .k (.fnk f cs)=>k d (.k (.fnk f cs))
   |_=>False
 | .bin d op x y,k=>x.evg σ g fun v=>y.evg σ g fun u=>
   match v,u with
   | .k (.c a),.k (.c b)=>
     match binV op a b with
     |some (p,c)=>(g=true->p)/\k d (.k (.c c))
     |none=>False
   |_,_=>False
 | .binB d neg x y,k=>x.evg σ g fun v=>y.evg σ g fun u=>
   match v,u with
   | .k (.c (.bool a)),.k (.c (.bool b))=>k d (.bool (if neg then !(a==b) else a==b))
   |_,_=>False
 | .eqAgg d neg ts x y,k=>x.evg σ g fun v=>y.evg σ g fun u=>
   match v,u with
   | .agg a,.agg b=>
     match eqRow ts a b with
     |some q=>k d (.bool (if neg then !q else q))
     |none=>False
   |_,_=>False
 | .nilcmp d neg x,k=>x.evg σ g fun v=>
   match v with
   | .k (.c (.list _ (some b) _))=>k d (.bool (if neg then !b else b))
   | .k (.own τ)=>
     match σ.o τ with
     |some (.arr _ _ (some b) _)=>k d (.bool (if neg then !b else b))
     |_=>False
   |_=>False
 | .un d op x,k=>x.evg σ g fun v=>
   match v with
   | .k (.c a)=>
     match unV op a with
     |some c=>k d (.k (.c c))
     |none=>False
   |_=>False
 | .conv d kk x,k=>x.evg σ g fun v=>
   match v with
   | .k (.c (.int _ n))=>k d (.int kk (kk.wrap n))
   |_=>False
 | .mkfn d f caps,k=>capsP σ g caps fun cs=>
   match tU cs with
   |some l=>k d (.k (.c (.fn f l)))
   |none=>k d (.k (.fnk f cs))
 | .slice d sz x lo hi,k=>x.evg σ g fun v=>
   match v with
   | .k (.c (.list sz' nl rows))=>
     boundP σ g lo 0 fun l=>boundP σ g hi rows.length fun h=>
      (g=true->0<=l/\l<=h/\h<=rows.length/\(sz'=sz\/rows=[]))/\k d (.list sz nl ((rows.take h.toNat).drop l.toNat))
   |_=>False
 | .slstr d x lo hi,k=>x.evg σ g fun v=>
   match v with
   | .k (.c (.str s))=>
     boundP σ g lo 0 fun l=>boundP σ g hi s.length fun h=>
      (g=true->0<=l/\l<=h/\h<=s.length)/\k d (.str ((s.take h.toNat).drop l.toNat))
   |_=>False
 | .faddr d off x,k=>x.evg σ g fun v=>
   match v with
   | .k (.ptr τ o)=>(g=true->isVarO (σ.o τ)=true)/\k d (.k (.ptr τ (o+off)))
   | .k (.elem τ i o)=>(g=true->isArrO (σ.o τ)=true)/\k d (.k (.elem τ i (o+off)))
   | .k (.pel sz rows i o)=>k d (.k (.pel sz rows i (o+off)))
   | .k (.c (.ro row o))=>k d (.k (.c (.ro row (o+off))))
   |_=>False
 | .field d off n agg x,k=>x.evg σ g fun v=>
   match v with
   | .agg r=>(g=true->off+n<=r.length)/\k d (ofRow agg (((r.drop off).take n).map .c))
   | .agk r=>(g=true->off+n<=r.length)/\k d (ofRow agg ((r.drop off).take n))
   |_=>False
 | .iaddr d sz x i,k=>x.evg σ g fun v=>i.evg σ g fun u=>
   match v,u with
   | .k (.c (.list sz' _ rows)),.k (.c (.int _ n))=>(g=true->0<=n/\n<rows.length/\sz'=sz)/\k d (.k (.pel sz rows n.toNat 0))
   | .k (.own τ),.k (.c (.int _ n))=>
     match σ.o τ with
     |some (.arr _ sz' _ rows)=>(g=true->0<=n/\n<rows.length/\sz'=sz)/\k d (.k (.elem τ n.toNat 0))
     |_=>False
   |_,_=>False
 | .iaddrA d sz len x i,k=>x.evg σ g fun v=>i.evg σ g fun u=>
   match v,u with
   | .k (.ptr τ o),.k (.c (.int _ n))=>(g=true->0<=n/\n<len/\isVarO (σ.o τ)=true)/\k d (.k (.ptr τ (o+n.toNat*sz)))
   | .k (.c (.ro row o)),.k (.c (.int _ n))=>(g=true->0<=n/\n<len)/\k d (.k (.c (.ro row (o+n.toNat*sz))))
   | .k (.pel psz rows j o),.k (.c (.int _ n))=>(g=true->0<=n/\n<len)/\k d (.k (.pel psz rows j (o+n.toNat*sz)))
   | .k (.elem τ j o),.k (.c (.int _ n))=>(g=true->0<=n/\n<len/\isArrO (σ.o τ)=true)/\k d (.k (.elem τ j (o+n.toNat*sz)))
   |_,_=>False
 | .sidx d x i,k=>x.evg σ g fun v=>i.evg σ g fun u=>
   match v,u with
   | .k (.c (.str s)),.k (.c (.int _ n))=>(g=true->0<=n/\n<s.length)/\k d (.int .u8 (s.getD n.toNat 0).toNat)
   |_,_=>False
 | .aidx d sz len agg x i,k=>x.evg σ g fun v=>i.evg σ g fun u=>
   match v,u with
   | .agg r,.k (.c (.int _ n))=>(g=true->0<=n/\n<len/\r.length=len*sz)/\k d (ofRow agg (((r.drop (n.toNat*sz)).take sz).map .c))
   |_,_=>False
 | .extr d x i,k=>x.evg σ g fun v=>
   match v with
   | .tup vs=>match vs[i]? with
     |some u=>k d u
     |none=>False
   |_=>False
 | .len d x,k=>x.evg σ g fun v=>
   match v with
   | .k (.c (.list _ _ rows))=>k d (.int .i64 rows.length)
   | .k (.own τ)=>
     match σ.o τ with
     |some (.arr _ _ _ rows)=>k d (.int .i64 rows.length)
     |_=>False
   |_=>False
 | .lenS d x,k=>x.evg σ g fun v=>
   match v with
   | .k (.c (.str s))=>k d (.int .i64 s.length)
   |_=>False
 | .minmax d isMax x ys,k=>x.evg σ g fun v=>
   match v with
   | .k (.c (.int kk n))=>intsP σ g ys fun l=>k d (.int kk (l.foldl (jX isMax) n))
   |_=>False
 |_,_=>False
where
 rowPart (agg:Bool) (off n sz:Nat) (r:List C) (k:V->Prop):Prop:=
  match agg with
  |true=>if off=0/\n=sz then k (.agg r) else k (.agg ((r.drop off).take n))
  |false=>k (.k (.c (r.getD off default)))
 buildP (σ:St) (g:Bool):List (Nat×Nat×AX)->List K->(List K->Prop)->Prop
  |[],row,k=>k row
  |(off,n,x)::ps,row,k=>x.evg σ g fun v=>
    match v.cells with
    |some ks=>(g=true->ks.length=n/\off+n<=row.length)/\buildP σ g ps (splice row off ks) k
    |none=>False
 boundP (σ:St) (g:Bool) (x:Option AX) (n:Int) (k:Int->Prop):Prop:=
  match x with
  |none=>k n
  |some x=>x.evg σ g fun v=>match v with| .k (.c (.int _ m))=>k m|_=>False
 capsP (σ:St) (g:Bool):List AX->(List Cap->Prop)->Prop
  |[],k=>k []
  |x::xs,k=>x.evg σ g fun v=>
    match v with
    | .k (.ptr τ 0)=>(g=true->isVarO (σ.o τ)=true)/\capsP σ g xs fun l=>k (.tok τ::l)
    | .k (.c (.ro row off))=>capsP σ g xs fun l=>k (.ro row off::l)
    |_=>False
 intsP (σ:St) (g:Bool):List AX->(List Int->Prop)->Prop
  |[],k=>k []
  |x::xs,k=>x.evg σ g fun v=>match v with| .k (.c (.int _ m))=>intsP σ g xs fun l=>k (m::l)|_=>False
def nA (σ:St) (x:AX) (K:St->List C->Prop):Prop:=
 (x.ev σ).strip.2=true/\(x.ev (σ.frzs (x.ev σ).strip.1.toks)).strip.2=true/\
 match ((x.ev (σ.frzs (x.ev σ).strip.1.toks)).strip.1).pure with
  |some r=>K (σ.frzs (x.ev σ).strip.1.toks) r
  |none=>False
def oB (σ:St):List (Nat×AX)->(St->List (Nat×List C)->Prop)->Prop
 |[],K=>K σ []
 |(i,x)::ps,K=>nA σ x fun σ1 r=>oB σ1 ps fun σ2 l=>K σ2 ((i,r)::l)
def regN (d:Nat) (r:V):Nat:=
 match r with
 | .k _=>d
 |_=>1000*(d+1)
def putD (σ:St):Option Nat->V->St
 |some d,v=>σ.put d v
 |none,_=>σ
def V.hard:V->List Nat
 | .k (.own _)=>[]
 |v=>v.toks
def jZ (σ:St) (d n:Nat):Nat->Prop
 |0=>True
 |k+1=>(σ.Free n/\(n=d\/(σ.t n).noRef n=true))/\jZ σ d (n+1) k
def zay (σ:St) (d:Option Nat) (r:V) (K:St->Prop):Prop:=
 match d with
 |none=>K σ
 |some d=>jZ σ d (regN d r) (r.reg (regN d r)).2.length/\K ((σ.adds (regN d r) (r.reg (regN d r)).2).put d (r.reg (regN d r)).1)
def mO (P:Program) (σ:St) (d:Option Nat) (f:FuncId) (xs:List AX) (cs:List C) (K:St->Prop):Prop:=
 (∀x∈xs,(x.ev σ).strip.2=true)/\(∀x∈xs,((x.ev σ).strip.1.lend σ).isPure=true)/\
 ∃S:V->Prop,(Spec P f (xs.map (fun x=>((x.ev σ).strip.1.lend σ).norm)++cs.map (fun c=> .k (.c c.norm))) S\/(cs=[]/\Spec P f (xs.map (fun x=>(x.ev σ).strip.1.lend σ)) S))/\
  ∀r,S r->if r.scalar then K (putD σ d r) else zay (σ.frzs (xs.flatMap fun x=>(x.ev σ).strip.1.toks)) d r K
def Cap.live (o:Nat->Option O):Cap->Bool
 | .tok τ=>isVarO (o τ)
 | .ro _ _=>true
def kA (P:Program) (σ:St) (d:Option Nat) (f:FuncId) (xs:List AX) (caps:List Cap) (K:St->Prop):Prop:=
 ∃(T A dead:List Nat) (S:V->(Nat->Option O)->Prop),
  ((xs.map (fun x=>x.ev σ)++caps.map jY).all (V.within T)=true)/\(caps.all (Cap.live σ.o)=true)/\(∀τ,τ∈T-> ∀ob,σ.o τ=some ob->ob.within T=true)/\
  (∀τ,τ∈T->τ∈A\/τ∈dead)/\
  yV P f ((xs.map (fun x=>x.ev σ)++caps.map jY).map V.nrm) (yE T fun τ=>(σ.o τ).map O.nrm) A S/\
  ∀r o',S r o'->(∀τ,τ ∉ T->o' τ=none)/\r.within T=true/\(∀τ ob,o' τ=some ob->ob.within T=true)/\K (putD (σ.back T dead o') d r)
def yC (P:Program) (σ:St):AOp->(St->Prop)->Prop
 | .nilL d e sz,K=>σ.Free d/\K (σ.new d (.arr e sz (some true) []) (.k (.own d)))
 | .alloc d e zero,K=>σ.Free d/\K (σ.new d (.var e (zero.map .c)) (.k (.ptr d 0)))
 | .box d e x,K=>x.evg σ true fun v=>
   match v.cells with
   |some ks=>σ.Free d/\ks.all (Abs.K.noRef d)=true/\K (σ.new d (.var e ks) (.k (.ptr d 0)))
   |none=>False
 | .bslice d e sz zero len ps,K=>oB σ ps fun σ1 l=>
   σ1.Free d/\zero.length=sz/\(∀p∈l,p.1<len/\p.2.length=sz)/\
   K (σ1.new d (.arr e sz (some false) (l.foldl (fun rows p=>rows.set p.1 p.2) (List.replicate len zero))) (.k (.own d)))
 | .store n x y,K=>x.evg σ true fun v=>
   match v with
   | .k (.ptr τ off)=>
     match σ.o τ with
     |some (.var e row)=>y.evg σ true fun u=>
      match u.cells with
      |some ks=>ks.length=n/\off+n<=row.length/\K (σ.setO τ (.var e (splice row off ks)))
      |none=>False
     |_=>False
   | .k (.elem _ _ _)=>nA σ y fun σ1 r=>x.evg σ1 true fun v=>
     match v with
     | .k (.elem τ i off)=>
       match σ1.o τ with
       |some (.arr e sz nl rows)=>r.length=n/\off+n<=sz/\
         K (σ1.setO τ (.arr e sz nl (rows.set i (if off=0/\n=sz then r else splice (rows.getD i []) off r))))
       |_=>False
     |_=>False
   |_=>False
 | .mkslice d e sz bytes zero l c,K=>l.evg σ true fun v=>c.evg σ true fun u=>
   match v,u with
   | .k (.c (.int _ l)),.k (.c (.int _ c))=>
     0<=l/\l<=c/\bytes*c<=281474976710656/\c<=9223372036854775807/\zero.length=sz/\σ.Free d/\
      K (σ.new d (.arr e sz (some false) (List.replicate l.toNat zero)) (.k (.own d)))
   |_,_=>False
 | .slice d sz x lo hi,K=>
   zA (σ.frzs (x.ev σ).strip.1.toks) true (.slice d sz x lo hi) fun d v=>K ((σ.frzs (x.ev σ).strip.1.toks).put d v)
 | .append d e sz bytes x y,K=>x.evg σ true fun v=>srcP σ e sz y fun ys=>
   match v with
   | .k (.own τ)=>
     match σ.o τ with
     |some (.arr e' sz' nl xs)=>e'=e/\sz'=sz/\xs.length+ys.length<=9223372036854775807/\(xs.length+ys.length)*bytes<=140737488355328/\
       K (((σ.scrub τ).setO τ (.arr e sz (nlApp nl ys) (xs++ys))).put d (.k (.own τ)))
     |_=>False
   | .k (.c (.list _ (some true) []))=>σ.Free d/\ys.length<=9223372036854775807/\ys.length*bytes<=140737488355328/\
         K (σ.new d (.arr e sz (nlApp (some true) ys) ys) (.k (.own d)))
   |_=>False
 | .cap d x,K=>x.evg σ true fun v=>
   match v with
   | .k (.c (.list _ _ rows))=> ∀c:Nat,rows.length<=c->c<=9223372036854775807->K (σ.put d (.int .i64 c))
   |_=>False
 | .call d f xs,K=>
   mO P (σ.frzs (xs.flatMap fun x=>(x.ev σ).strip.1.hard)) d f xs [] K\/kA P σ d f xs [] K
 | .callv d x xs,K=>(∃f caps,x.ev σ=.k (.fnk f caps)/\kA P σ d f xs caps K)\/
   ((x.ev (σ.frzs ((x.ev σ).strip.1.toks++xs.flatMap fun x=>(x.ev σ).strip.1.hard))).strip.2=true)/\
   match (x.ev (σ.frzs ((x.ev σ).strip.1.toks++xs.flatMap fun x=>(x.ev σ).strip.1.hard))).strip.1 with
   | .k (.c (.fn f cs))=>mO P (σ.frzs ((x.ev σ).strip.1.toks++xs.flatMap fun x=>(x.ev σ).strip.1.hard)) d f xs cs K
   |_=>False
 |op,K=>zA σ true op fun d v=>K (σ.put d v)
where
 srcP (σ:St) (e sz:Nat) (y:AX) (K:List (List C)->Prop):Prop:=y.evg σ true fun u=>
  match u with
  | .k (.c (.list sz' _ rows))=>(sz'=sz\/rows=[])/\K rows
  | .k (.own τ)=>match σ.o τ with|some (.arr _ sz' _ rows)=>sz'=sz/\K rows|_=>False
  |_=>False
def AOp.isPure:AOp->Bool
 | .mov .. | .pick .. | .build .. | .load .. | .bin .. | .binB .. | .eqAgg .. | .un .. | .conv .. | .faddr .. | .field .. | .iaddr .. | .iaddrA .. | .sidx .. | .aidx .. | .extr .. | .len .. | .lenS .. | .minmax .. | .nilcmp .. | .slstr .. =>true
 |_=>false
def AOp.dst:AOp->Option Nat
 | .mov d _| .nilL d _ _| .pick d _ _ _| .alloc d _ _| .box d _ _| .build d _ _| .bslice d _ _ _ _ _| .load d _ _ _| .nilchk d _| .bin d _ _ _| .binB d _ _ _| .eqAgg d _ _ _ _
 | .nilcmp d _ _| .un d _ _| .conv d _ _| .mkfn d _ _| .mkslice d _ _ _ _ _ _| .slice d _ _ _ _| .slstr d _ _ _| .faddr d _ _| .field d _ _ _ _| .iaddr d _ _ _
 | .iaddrA d _ _ _ _| .sidx d _ _| .aidx d _ _ _ _ _| .extr d _ _| .len d _| .lenS d _| .cap d _| .append d _ _ _ _ _| .minmax d _ _ _=>some d
 | .call d _ _| .callv d _ _=>d
 | .store _ _ _=>none
def uW (P:Program) (i:AI) (K:St->Prop) (σ:St):Prop:=
 match i.g with
 |none=>yC P σ i.op K
 |some (s,want)=>
  match σ.t s with
  | .k (.c (.bool b))=>((b==want)=true->yC P σ i.op K)/\((b==want)=false->K (putD σ i.op.dst .undef))
  | .undef=>K (putD σ i.op.dst .undef)
  |_=>False
def sL (P:Program):List AI->(St->Prop)->St->Prop
 |[],K,σ=>K σ
 |i::l,K,σ=>uW P i (sL P l K) σ
def K.fz:K->K
 | .newl _ sz nl rows=> .c (.list sz nl rows)
 | .c x=> .c x
 |_=> .dead
mutual
def V.fz:V->V
 | .k x=> .k x.fz
 | .agg r=> .agg r
 | .agk r=>match pureRow (r.map K.fz) with|some cs=> .agg cs|none=> .agk (r.map K.fz)
 | .tup vs=> .tup (V.fzL vs)
 |_=> .any
def V.fzL:List V->List V
 |[]=>[]
 |v::vs=>v.fz::V.fzL vs
end
def nB (P:Program) (σ:St) (d:Nat) (f:FuncId) (xs:List AX) (cs:List C) (K:St->Prop):Prop:=
 (∀x∈xs,(x.ev σ).strip.2=true)/\(∀x∈xs,((x.ev σ).strip.1.lend σ).isPure=true)/\
 ∃r:V,Spec P f (xs.map (fun x=>((x.ev σ).strip.1.lend σ).norm)++cs.map (fun c=> .k (.c c.norm))) (fun r'=>r'=r)/\
  (r.scalar=true\/ ∀x∈xs,(x.ev σ).strip.1.toks=[])/\K (σ.put d r.fz)
def uR (σ:St):List (Nat×AX)->(List (Nat×List C)->Prop)->Prop
 |[],k=>k []
 |(i,x)::ps,k=>(x.ev σ).strip.2=true/\match (x.ev σ).strip.1.pure with
  |some r=>uR σ ps fun l=>k ((i,r)::l)
  |none=>False
def yA (P:Program) (σ:St):AOp->(St->Prop)->Prop
 | .call (some d) f xs,K=>nB P σ d f xs [] K
 | .callv (some d) x xs,K=>(x.ev σ).strip.2=true/\
   match (x.ev σ).strip.1 with
   | .k (.c (.fn f cs))=>nB P σ d f xs cs K
   |_=>False
 | .bslice d e sz zero (len+1) ps,K=>uR σ ps fun l=>zero.length=sz/\(∀p∈l,p.1<len+1/\p.2.length=sz)/\
   K (σ.put d (.list sz (some false) (l.foldl (fun rows p=>rows.set p.1 p.2) (List.replicate (len+1) zero))))
 | .slice d sz x lo hi,K=>(x.ev σ).strip.1.toks=[]/\zA σ true (.slice d sz x lo hi) fun d v=>K (σ.put d v)
 |op,K=>yC P σ op K
def wpQ (P:Program) (i:AI) (K:St->Prop) (σ:St):Prop:=
 match i.g with
 |none=>yA P σ i.op K
 |some (s,want)=>
  match σ.t s with
  | .k (.c (.bool b))=>((b==want)=true->yA P σ i.op K)/\((b==want)=false->K (putD σ i.op.dst .undef))
  | .undef=>K (putD σ i.op.dst .undef)
  |_=>False
def wpT (P:Program):DT->(St->Prop)->St->Prop
 | .done,K,σ=>K σ
 | .fail,_,_=>False
 | .top,_,_=>True
 | .one i t,K,σ=>wpQ P i (wpT P t K) σ
 | .alt a b,K,σ=>wpT P a K σ/\wpT P b K σ
def AX.off (d:Nat):AX->Bool
 | .t s=>s !=d
 | .v _=>true
theorem qL {σ:St} {d:Nat} {v:V} {x:AX} (h:x.off d=true):x.ev (σ.put d v)=x.ev σ:=by
 cases x with
 |t s=>
  have:s≠d:=by simpa [AX.off] using h
  simp[AX.ev,St.put,this]
 |v y=>rfl
def AOp.xs:AOp->List AX
 | .mov _ x| .box _ _ x| .load _ _ _ x| .nilchk _ x| .nilcmp _ _ x| .un _ _ x| .conv _ _ x| .faddr _ _ x| .field _ _ _ _ x| .extr _ x _| .len _ x| .lenS _ x| .cap _ x=>[x]
 | .pick _ c a b=>[c,a,b]
 | .build _ _ ps=>ps.map (·.2.2)
 | .bslice _ _ _ _ _ ps=>ps.map (·.2)
 | .store _ x y| .bin _ _ x y| .binB _ _ x y| .eqAgg _ _ _ x y| .append _ _ _ _ x y=>[x,y]
 | .mkfn _ _ xs=>xs
 | .mkslice _ _ _ _ _ l c=>[l,c]
 | .slice _ _ x lo hi| .slstr _ x lo hi=>x::(lo.toList++hi.toList)
 | .iaddr _ _ x i| .iaddrA _ _ _ x i| .sidx _ x i| .aidx _ _ _ _ x i=>[x,i]
 | .call _ _ xs=>xs
 | .callv _ x xs=>x::xs
 | .minmax _ _ x ys=>x::ys
 | .nilL _ _ _| .alloc _ _ _=>[]
section
variable {σ : St} {d : Nat} {v : V}
theorem wD {g:Bool} {x:AX} {k:V->Prop} (h:x.off d=true):AX.evg (σ.put d v) g x k=AX.evg σ g x k:=by
 simp[AX.evg,qL h]
theorem zdT {g:Bool}: ∀(ps:List (Nat×Nat×AX)) (row:List K) (k:List K->Prop),(∀x,x∈ps.map (·.2.2)->x.off d=true)->zA.buildP (σ.put d v) g ps row k=zA.buildP σ g ps row k
 |[],row,k,_=>rfl
 |(o,n,x)::ps,row,k,h=>by
  have hx:=h x (by simp);have ih:=fun row k=>zdT (g:=g) ps row k (fun x hx=>h x (by simp at hx⊢;exact .inr hx))
  simp only[zA.buildP,wD hx,ih]
theorem fU {g:Bool} {x:Option AX} {n:Int} {k:Int->Prop} (h: ∀y,y∈x.toList->y.off d=true):zA.boundP (σ.put d v) g x n k=zA.boundP σ g x n k:=by
 cases x with
 |none=>rfl
 |some x=>simp only[zA.boundP,wD (h x (by simp))]
theorem zdU {g:Bool}: ∀(xs:List AX) (k:List Cap->Prop),(∀x,x∈xs->x.off d=true)->zA.capsP (σ.put d v) g xs k=zA.capsP σ g xs k
 |[],k,_=>rfl
 |x::xs,k,h=>by
  have ih:=fun k=>zdU (g:=g) xs k (fun x hx=>h x (Zy _ hx))
  simp only[zA.capsP,wD (h x Yj),ih];rfl
theorem zdV {g:Bool}: ∀(xs:List AX) (k:List Int->Prop),(∀x,x∈xs->x.off d=true)->zA.intsP (σ.put d v) g xs k=zA.intsP σ g xs k
 |[],k,_=>rfl
 |x::xs,k,h=>by
  have ih:=fun k=>zdV (g:=g) xs k (fun x hx=>h x (Zy _ hx))
  simp only[zA.intsP,wD (h x Yj),ih]
theorem zdW {g:Bool} {op:AOp} {k:Nat->V->Prop} (h: ∀x,x∈op.xs->x.off d=true):zA (σ.put d v) g op k=zA σ g op k:=by
 cases op<;>simp only[AOp.xs,ZJ,Zt,or_false,forall_eq_or_imp,forall_eq,Yo] at h
 case mov=>simp only[zA,qL h]
 case pick=>simp only[zA,wD h.1,qL h.2.1,qL h.2.2]
 case build=>simp only[zA,zdT _ _ _ h]
 case load=>simp only[zA,wD h];rfl
 case nilchk=>simp only[zA,wD h];rfl
 case bin=>simp only[zA,wD h.1,wD h.2]
 case binB=>simp only[zA,wD h.1,wD h.2]
 case eqAgg=>simp only[zA,wD h.1,wD h.2]
 case nilcmp=>simp only[zA,wD h];rfl
 case un=>simp only[zA,wD h]
 case conv=>simp only[zA,wD h]
 case mkfn=>simp only[zA,zdU _ _ h]
 case slice=>simp only[zA,wD h.1,fU (fun y hy=>h.2 y (.inl hy)),fU (fun y hy=>h.2 y (.inr hy))]
 case slstr=>simp only[zA,wD h.1,fU (fun y hy=>h.2 y (.inl hy)),fU (fun y hy=>h.2 y (.inr hy))]
 case faddr=>simp only[zA,wD h];rfl
 case field=>simp only[zA,wD h]
 case iaddr=>simp only[zA,wD h.1,wD h.2];rfl
 case iaddrA=>simp only[zA,wD h.1,wD h.2];rfl
 case sidx=>simp only[zA,wD h.1,wD h.2]
 case aidx=>simp only[zA,wD h.1,wD h.2]
 case extr=>simp only[zA,wD h]
 case len=>simp only[zA,wD h];rfl
 case lenS=>simp only[zA,wD h]
 case minmax=>simp only[zA,wD h.1,zdV _ _ h.2]
 all_goals rfl
def One (F:(Nat->V->Prop)->Prop) (op:AOp) (k:Nat->V->Prop):Prop:= ∃d v,op.dst=some d/\k d v/\ ∀k':Nat->V->Prop,k' d v->F k'
theorem fV {x:Option AX} {n:Int} {F:Int->Prop} (h:zA.boundP σ true x n F): ∃m,F m/\ ∀F':Int->Prop,F' m->zA.boundP σ true x n F':=by
 cases x with
 |none=>exact⟨n,h,fun _ h=>h⟩
 |some x=>
  simp only[zA.boundP,AX.evg] at h⊢;obtain⟨h1,h⟩:=h;generalize (x.ev σ).strip.1=v at h⊢;split at h
  ·exact⟨_,h,fun F' h'=>⟨h1,h'⟩⟩
  ·exact h.elim
theorem zdX: ∀(ps:List (Nat×Nat×AX)) (row:List K) {F:List K->Prop},zA.buildP σ true ps row F-> ∃r,F r/\ ∀F':List K->Prop,F' r->zA.buildP σ true ps row F'
 |[],row,F,h=>⟨row,h,fun _ h=>h⟩
 |(o,n,x)::ps,row,F,h=>by
  simp only[zA.buildP,AX.evg] at h⊢;obtain⟨h1,h⟩:=h;generalize (x.ev σ).strip.1=v at h⊢;split at h
  ·rename_i ks e
   obtain⟨r,hr,hall⟩:=zdX ps _ h.2;exact⟨r,hr,fun F' h'=>⟨h1,h.1,hall F' h'⟩⟩
  ·exact h.elim
theorem zaz: ∀(xs:List AX) {F:List Cap->Prop},zA.capsP σ true xs F-> ∃r,F r/\ ∀F':List Cap->Prop,F' r->zA.capsP σ true xs F'
 |[],F,h=>⟨[],h,fun _ h=>h⟩
 |x::xs,F,h=>by
  simp only[zA.capsP,AX.evg] at h⊢;obtain⟨h1,h⟩:=h;generalize (x.ev σ).strip.1=v at h⊢;split at h
  ·obtain⟨r,hr,hall⟩:=zaz xs h.2
   exact⟨_,hr,fun F' h'=>⟨h1,h.1,hall (fun l=>F' (_::l)) h'⟩⟩
  ·obtain⟨r,hr,hall⟩:=zaz xs h
   exact⟨_,hr,fun F' h'=>⟨h1,hall (fun l=>F' (_::l)) h'⟩⟩
  ·exact h.elim
theorem zdY: ∀(xs:List AX) {F:List Int->Prop},zA.intsP σ true xs F-> ∃r,F r/\ ∀F':List Int->Prop,F' r->zA.intsP σ true xs F'
 |[],F,h=>⟨[],h,fun _ h=>h⟩
 |x::xs,F,h=>by
  simp only[zA.intsP,AX.evg] at h⊢;obtain⟨h1,h⟩:=h;generalize (x.ev σ).strip.1=v at h⊢;split at h
  ·obtain⟨r,hr,hall⟩:=zdY xs h
   exact⟨_,hr,fun F' h'=>⟨h1,hall (fun l=>F' (_::l)) h'⟩⟩
  ·exact h.elim
theorem zdZ {agg:Bool} {off n sz:Nat} {r:List C} {F:V->Prop} (h:zA.rowPart agg off n sz r F): ∃v,F v/\ ∀F':V->Prop,F' v->zA.rowPart agg off n sz r F':=by
 cases agg with
 |false=>exact⟨_,h,fun _ h=>h⟩
 |true=>
  simp only[zA.rowPart] at h⊢;by_cases hc:off=0/\n=sz
  ·simp only[if_pos hc] at h⊢
   exact⟨_,h,fun _ h=>h⟩
  ·simp only[if_neg hc] at h⊢
   exact⟨_,h,fun _ h=>h⟩
theorem zaA {op:AOp} {k:Nat->V->Prop} (h:zA σ true op k):One (fun k'=>zA σ true op k') op k:=by
 cases op
 case mov d x=>exact⟨_,_,rfl,h,fun _ h=>h⟩
 case bin d o x y=>
  simp only[One,zA,AX.evg] at h⊢;obtain⟨h1,h2,h⟩:=h;generalize (AX.ev σ x).strip.1=v at h⊢;generalize (AX.ev σ y).strip.1=u at h⊢;split at h
  ·split at h
   ·exact⟨_,_,rfl,h.2,fun _ hk=>⟨h1,h2,h.1,hk⟩⟩
   ·exact h.elim
  ·exact h.elim
 case binB d o x y=>
  simp only[One,zA,AX.evg] at h⊢;obtain⟨h1,h2,h⟩:=h;generalize (AX.ev σ x).strip.1=v at h⊢;generalize (AX.ev σ y).strip.1=u at h⊢;split at h
  ·exact⟨_,_,rfl,h,fun _ hk=>⟨h1,h2,hk⟩⟩
  ·exact h.elim
 case un d o x=>
  simp only[One,zA,AX.evg] at h⊢;obtain⟨h1,h⟩:=h;generalize (AX.ev σ x).strip.1=v at h⊢;split at h
  ·split at h
   ·exact⟨_,_,rfl,h,fun _ hk=>⟨h1,hk⟩⟩
   ·exact h.elim
  ·exact h.elim
 case load d n agg x=>
  simp only[One,zA,AX.evg] at h⊢;obtain⟨h1,h⟩:=h;generalize (AX.ev σ x).strip.1=v at h⊢;split at h
  ·split at h
   ·exact⟨_,_,rfl,h.2,fun _ hk=>⟨h1,h.1,hk⟩⟩
   ·exact h.elim
  ·obtain⟨v,hv,hall⟩:=zdZ h.2
   exact⟨_,v,rfl,hv,fun k' hk=>⟨h1,h.1,hall (k' _) hk⟩⟩
  ·split at h
   ·obtain⟨v,hv,hall⟩:=zdZ h.2
    exact⟨_,v,rfl,hv,fun k' hk=>⟨h1,h.1,hall (k' _) hk⟩⟩
   ·exact h.elim
  ·exact⟨_,_,rfl,h.2,fun _ hk=>⟨h1,h.1,hk⟩⟩
  ·exact h.elim
 case nilchk d x=>
  simp only[One,zA,AX.evg] at h⊢;obtain⟨h1,h⟩:=h;generalize (AX.ev σ x).strip.1=v at h⊢;split at h
  ·exact⟨_,_,rfl,h.2,fun _ hk=>⟨h1,h.1,hk⟩⟩
  ·exact⟨_,_,rfl,h.2,fun _ hk=>⟨h1,h.1,hk⟩⟩
  ·exact⟨_,_,rfl,h,fun _ hk=>⟨h1,hk⟩⟩
  ·exact⟨_,_,rfl,h,fun _ hk=>⟨h1,hk⟩⟩
  ·exact⟨_,_,rfl,h,fun _ hk=>⟨h1,hk⟩⟩
  ·exact⟨_,_,rfl,h,fun _ hk=>⟨h1,hk⟩⟩
  ·exact h.elim
 case eqAgg d o ts x y=>
  simp only[One,zA,AX.evg] at h⊢;obtain⟨h1,h2,h⟩:=h;generalize (AX.ev σ x).strip.1=v at h⊢;generalize (AX.ev σ y).strip.1=u at h⊢;split at h
  ·split at h
   ·exact⟨_,_,rfl,h,fun _ hk=>⟨h1,h2,hk⟩⟩
   ·exact h.elim
  ·exact h.elim
 case nilcmp d o x=>
  simp only[One,zA,AX.evg] at h⊢;obtain⟨h1,h⟩:=h;generalize (AX.ev σ x).strip.1=v at h⊢;split at h
  ·exact⟨_,_,rfl,h,fun _ hk=>⟨h1,hk⟩⟩
  ·split at h
   ·exact⟨_,_,rfl,h,fun _ hk=>⟨h1,hk⟩⟩
   ·exact h.elim
  ·exact h.elim
 case conv d o x=>
  simp only[One,zA,AX.evg] at h⊢;obtain⟨h1,h⟩:=h;generalize (AX.ev σ x).strip.1=v at h⊢;split at h
  ·exact⟨_,_,rfl,h,fun _ hk=>⟨h1,hk⟩⟩
  ·exact h.elim
 case faddr d o x=>
  simp only[One,zA,AX.evg] at h⊢;obtain⟨h1,h⟩:=h;generalize (AX.ev σ x).strip.1=v at h⊢;split at h
  ·exact⟨_,_,rfl,h.2,fun _ hk=>⟨h1,h.1,hk⟩⟩
  ·exact⟨_,_,rfl,h.2,fun _ hk=>⟨h1,h.1,hk⟩⟩
  ·exact⟨_,_,rfl,h,fun _ hk=>⟨h1,hk⟩⟩
  ·exact⟨_,_,rfl,h,fun _ hk=>⟨h1,hk⟩⟩
  ·exact h.elim
 case field d off n agg x=>
  simp only[One,zA,AX.evg] at h⊢;obtain⟨h1,h⟩:=h;generalize (AX.ev σ x).strip.1=v at h⊢;split at h
  ·exact⟨_,_,rfl,h.2,fun _ hk=>⟨h1,h.1,hk⟩⟩
  ·exact⟨_,_,rfl,h.2,fun _ hk=>⟨h1,h.1,hk⟩⟩
  ·exact h.elim
 case iaddr d sz x y=>
  simp only[One,zA,AX.evg] at h⊢;obtain⟨h1,h2,h⟩:=h;generalize (AX.ev σ x).strip.1=v at h⊢;generalize (AX.ev σ y).strip.1=u at h⊢;split at h
  ·exact⟨_,_,rfl,h.2,fun _ hk=>⟨h1,h2,h.1,hk⟩⟩
  ·split at h
   ·exact⟨_,_,rfl,h.2,fun _ hk=>⟨h1,h2,h.1,hk⟩⟩
   ·exact h.elim
  ·exact h.elim
 case iaddrA d sz len x y=>
  simp only[One,zA,AX.evg] at h⊢;obtain⟨h1,h2,h⟩:=h;generalize (AX.ev σ x).strip.1=v at h⊢;generalize (AX.ev σ y).strip.1=u at h⊢;split at h
  ·exact⟨_,_,rfl,h.2,fun _ hk=>⟨h1,h2,h.1,hk⟩⟩
  ·exact⟨_,_,rfl,h.2,fun _ hk=>⟨h1,h2,h.1,hk⟩⟩
  ·exact⟨_,_,rfl,h.2,fun _ hk=>⟨h1,h2,h.1,hk⟩⟩
  ·exact⟨_,_,rfl,h.2,fun _ hk=>⟨h1,h2,h.1,hk⟩⟩
  ·exact h.elim
 case sidx d x y=>
  simp only[One,zA,AX.evg] at h⊢;obtain⟨h1,h2,h⟩:=h;generalize (AX.ev σ x).strip.1=v at h⊢;generalize (AX.ev σ y).strip.1=u at h⊢;split at h
  ·exact⟨_,_,rfl,h.2,fun _ hk=>⟨h1,h2,h.1,hk⟩⟩
  ·exact h.elim
 case aidx d sz len agg x y=>
  simp only[One,zA,AX.evg] at h⊢;obtain⟨h1,h2,h⟩:=h;generalize (AX.ev σ x).strip.1=v at h⊢;generalize (AX.ev σ y).strip.1=u at h⊢;split at h
  ·exact⟨_,_,rfl,h.2,fun _ hk=>⟨h1,h2,h.1,hk⟩⟩
  ·exact h.elim
 case extr d x i=>
  simp only[One,zA,AX.evg] at h⊢;obtain⟨h1,h⟩:=h;generalize (AX.ev σ x).strip.1=v at h⊢;split at h
  ·split at h
   ·exact⟨_,_,rfl,h,fun _ hk=>⟨h1,hk⟩⟩
   ·exact h.elim
  ·exact h.elim
 case len d x=>
  simp only[One,zA,AX.evg] at h⊢;obtain⟨h1,h⟩:=h;generalize (AX.ev σ x).strip.1=v at h⊢;split at h
  ·exact⟨_,_,rfl,h,fun _ hk=>⟨h1,hk⟩⟩
  ·split at h
   ·exact⟨_,_,rfl,h,fun _ hk=>⟨h1,hk⟩⟩
   ·exact h.elim
  ·exact h.elim
 case lenS d x=>
  simp only[One,zA,AX.evg] at h⊢;obtain⟨h1,h⟩:=h;generalize (AX.ev σ x).strip.1=v at h⊢;split at h
  ·exact⟨_,_,rfl,h,fun _ hk=>⟨h1,hk⟩⟩
  ·exact h.elim
 case build d z ps=>
  simp only[One,zA] at h⊢;obtain⟨r,hr,hall⟩:=zdX ps _ h;exact⟨_,_,rfl,hr,fun k' hk=>hall (fun row=>k' d (ofRow true row)) hk⟩
 case mkfn d f xs=>
  simp only[One,zA] at h⊢;obtain⟨r,hr,hall⟩:=zaz xs h;cases e:tU r with
  |none=>
   simp only[e] at hr;exact⟨_,_,rfl,hr,fun k' hk=>hall _ (by simp only[e];exact hk)⟩
  |some l=>
   simp only[e] at hr;exact⟨_,_,rfl,hr,fun k' hk=>hall _ (by simp only[e];exact hk)⟩
 case minmax d mx x ys=>
  simp only[One,zA,AX.evg] at h⊢;obtain⟨h1,h⟩:=h;generalize (AX.ev σ x).strip.1=v at h⊢;split at h
  ·obtain⟨r,hr,hall⟩:=zdY ys h
   exact⟨_,_,rfl,hr,fun k' hk=>⟨h1,hall _ hk⟩⟩
  ·exact h.elim
 case pick d c x y=>
  simp only[One,zA,AX.evg] at h⊢;obtain⟨h1,h⟩:=h;generalize (AX.ev σ c).strip.1=v at h⊢;generalize (AX.ev σ x).strip=u at h⊢;generalize (AX.ev σ y).strip=t at h⊢;split at h
  ·split at h
   ·exact⟨_,_,rfl,h.2.2,fun _ hk=>⟨h1,h.1,h.2.1,hk⟩⟩
   ·exact⟨_,_,rfl,h.2,fun k' hk=>⟨h1,h.1,hk⟩⟩
   ·exact⟨_,_,rfl,h.2,fun k' hk=>⟨h1,h.1,hk⟩⟩
   ·exact h.elim
  ·exact h.elim
 case slice d sz x lo hi=>
  simp only[One,zA,AX.evg] at h⊢;obtain⟨h1,h⟩:=h;generalize (AX.ev σ x).strip.1=v at h⊢;split at h
  ·obtain⟨l,h,hl⟩:=fV h
   obtain⟨m,h,hm⟩:=fV h;exact⟨_,_,rfl,h.2,fun k' hk=>⟨h1,hl _ (hm _ ⟨h.1,hk⟩)⟩⟩
  ·exact h.elim
 case slstr d x lo hi=>
  simp only[One,zA,AX.evg] at h⊢;obtain⟨h1,h⟩:=h;generalize (AX.ev σ x).strip.1=v at h⊢;split at h
  ·obtain⟨l,h,hl⟩:=fV h
   obtain⟨m,h,hm⟩:=fV h;exact⟨_,_,rfl,h.2,fun k' hk=>⟨h1,hl _ (hm _ ⟨h.1,hk⟩)⟩⟩
  ·exact h.elim
 all_goals exact h.elim
def AOp.plain:AOp->Bool
 | .mov .. | .pick .. | .build .. | .load .. | .nilchk .. | .bin .. | .binB .. | .eqAgg .. | .nilcmp .. | .un .. | .conv .. | .mkfn .. | .slstr .. | .faddr .. | .field .. | .iaddr .. | .iaddrA .. | .sidx .. | .aidx .. | .extr .. | .len .. | .lenS .. | .minmax .. =>true
 |_=>false
theorem vD {P:Program} {op:AOp} (h:op.plain=true) (K:St->Prop):yC P σ op K=zA σ true op fun d v=>K (σ.put d v):=by
 cases op<;>first|rfl|simp[AOp.plain] at h
theorem zpR {d':Nat} {v':V} (h:d≠d'):(σ.put d v).put d' v'=(σ.put d' v').put d v:=by
 simp only[St.put,St.mk.injEq,and_true];funext s;by_cases h1:s=d
 ·subst h1;simp[h]
 ·simp[h1]
def AI.xs (i:AI):List AX:=(match i.g with|some (s,_)=>[.t s]|none=>[])++i.op.xs
end
def zW (r:Option (Prop×V)) (f:V->Prop):Prop:=match r with|some (p,v)=>p/\f v|none=>False
theorem xZ {σ:St} {g:Bool} {x:AX} {k:V->Prop}:AX.evg σ g x k=k (x.ev σ):=by
 simp[AX.evg,V.strip]
def resV:Option (Prop×C)->Option (Prop×V)
 |some (p,c)=>some (p,.k (.c c))
 |none=>none
def vBin (op:BinOp):V->V->Option (Prop×V)
 | .k (.c a),.k (.c b)=>resV (binV op a b)
 |_,_=>none
def vBinB (neg:Bool):V->V->Option (Prop×V)
 | .k (.c (.bool a)),.k (.c (.bool b))=>some (True,.bool (if neg then !(a==b) else a==b))
 |_,_=>none
def mapV (neg:Bool):Option Bool->Option (Prop×V)
 |some q=>some (True,.bool (if neg then !q else q))
 |none=>none
def vEqAgg (neg:Bool) (tys:List EqK):V->V->Option (Prop×V)
 | .agg a,.agg b=>mapV neg (eqRow tys a b)
 |_,_=>none
def mapC:Option C->Option (Prop×V)
 |some c=>some (True,.k (.c c))
 |none=>none
def vUn (op:UnOp):V->Option (Prop×V)
 | .k (.c a)=>mapC (unV op a)
 |_=>none
def vConv (kk:IntKind):V->Option (Prop×V)
 | .k (.c (.int _ n))=>some (True,.int kk (kk.wrap n))
 |_=>none
def vExtr (i:Nat):V->Option (Prop×V)
 | .tup vs=>match vs[i]? with|some u=>some (True,u)|none=>none
 |_=>none
def vLenS:V->Option (Prop×V)
 | .k (.c (.str s))=>some (True,.int .i64 s.length)
 |_=>none
def lenO:Option O->Option (Prop×V)
 |some (.arr _ _ _ rows)=>some (True,.int .i64 rows.length)
 |_=>none
def vLen (o:Nat->Option O):V->Option (Prop×V)
 | .k (.c (.list _ _ rows))=>some (True,.int .i64 rows.length)
 | .k (.own τ)=>lenO (o τ)
 |_=>none
def fW (neg:Bool):Option O->Option (Prop×V)
 |some (.arr _ _ (some b) _)=>some (True,.bool (if neg then !b else b))
 |_=>none
def vNil (o:Nat->Option O) (neg:Bool):V->Option (Prop×V)
 | .k (.c (.list _ (some b) _))=>some (True,.bool (if neg then !b else b))
 | .k (.own τ)=>fW neg (o τ)
 |_=>none
def vSidx:V->V->Option (Prop×V)
 | .k (.c (.str s)),.k (.c (.int _ n))=>some (0<=n/\n<s.length,.int .u8 (s.getD n.toNat 0).toNat)
 |_,_=>none
def vFaddr (o:Nat->Option O) (off:Nat):V->Option (Prop×V)
 | .k (.ptr τ q)=>some (isVarO (o τ)=true,.k (.ptr τ (q+off)))
 | .k (.elem τ i q)=>some (isArrO (o τ)=true,.k (.elem τ i (q+off)))
 | .k (.pel sz rows i q)=>some (True,.k (.pel sz rows i (q+off)))
 | .k (.c (.ro row q))=>some (True,.k (.c (.ro row (q+off))))
 |_=>none
def mP (off n:Nat) (agg:Bool):V->Option (Prop×V)
 | .agg r=>some (off+n<=r.length,ofRow agg (((r.drop off).take n).map .c))
 | .agk r=>some (off+n<=r.length,ofRow agg ((r.drop off).take n))
 |_=>none
def mQ (o:Nat->Option O):V->Option (Prop×V)
 | .k (.ptr τ off)=>some (isVarO (o τ)=true,.k (.ptr τ off))
 | .k (.elem τ i off)=>some (isArrO (o τ)=true,.k (.elem τ i off))
 | .k (.pel sz rows i off)=>some (True,.k (.pel sz rows i off))
 | .k (.c (.ro row off))=>some (True,.k (.c (.ro row off)))
 | .k (.c (.fn f cs))=>some (True,.k (.c (.fn f cs)))
 | .k (.fnk f cs)=>some (True,.k (.fnk f cs))
 |_=>none
def partV (agg:Bool) (off n sz:Nat) (r:List C):V:=
 match agg with
 |true=>if off=0/\n=sz then .agg r else .agg ((r.drop off).take n)
 |false=> .k (.c (r.getD off default))
def loadO (n:Nat) (agg:Bool) (i off:Nat):Option O->Option (Prop×V)
 |some (.var _ row)=>some (off+n<=row.length,ofRow agg ((row.drop off).take n))
 |some (.arr _ sz _ rows)=>some (off+n<=sz,partV agg off n sz (rows.getD i []))
 |_=>none
def isV:Option O->Option O
 |some (.var e row)=>some (.var e row)
 |_=>none
def isA:Option O->Option O
 |some (.arr e sz nl rows)=>some (.arr e sz nl rows)
 |_=>none
def vLoad (o:Nat->Option O) (n:Nat) (agg:Bool):V->Option (Prop×V)
 | .k (.ptr τ off)=>loadO n agg 0 off (isV (o τ))
 | .k (.pel sz rows i off)=>some (off+n<=sz,partV agg off n sz (rows.getD i []))
 | .k (.elem τ i off)=>loadO n agg i off (isA (o τ))
 | .k (.c (.ro row off))=>some (off+n<=row.length,ofRow agg (((row.drop off).take n).map .c))
 |_=>none
def idxO (sz:Nat) (τ:Nat) (n:Int):Option O->Option (Prop×V)
 |some (.arr _ sz' _ rows)=>some (0<=n/\n<rows.length/\sz'=sz,.k (.elem τ n.toNat 0))
 |_=>none
def vIaddr (o:Nat->Option O) (sz:Nat):V->V->Option (Prop×V)
 | .k (.c (.list sz' _ rows)),.k (.c (.int _ n))=>some (0<=n/\n<rows.length/\sz'=sz,.k (.pel sz rows n.toNat 0))
 | .k (.own τ),.k (.c (.int _ n))=>idxO sz τ n (o τ)
 |_,_=>none
def mR (o:Nat->Option O) (sz len:Nat):V->V->Option (Prop×V)
 | .k (.ptr τ q),.k (.c (.int _ n))=>some (0<=n/\n<len/\isVarO (o τ)=true,.k (.ptr τ (q+n.toNat*sz)))
 | .k (.c (.ro row q)),.k (.c (.int _ n))=>some (0<=n/\n<len,.k (.c (.ro row (q+n.toNat*sz))))
 | .k (.pel psz rows j q),.k (.c (.int _ n))=>some (0<=n/\n<len,.k (.pel psz rows j (q+n.toNat*sz)))
 | .k (.elem τ j q),.k (.c (.int _ n))=>some (0<=n/\n<len/\isArrO (o τ)=true,.k (.elem τ j (q+n.toNat*sz)))
 |_,_=>none
def mS (sz len:Nat) (agg:Bool):V->V->Option (Prop×V)
 | .agg r,.k (.c (.int _ n))=>some (0<=n/\n<len/\r.length=len*sz,ofRow agg (((r.drop (n.toNat*sz)).take sz).map .c))
 |_,_=>none
def vPick:V->V->V->Option (Prop×V)
 | .k (.c (.bool cb)),.k (.c (.bool x)),.k (.c (.bool y))=>some (True,.bool (if cb then x else y))
 | .k (.c (.bool cb)),.k (.c (.bool x)),_=>some (cb=true,.bool x)
 | .k (.c (.bool cb)),_,.k (.c (.bool y))=>some (cb=false,.bool y)
 |_,_,_=>none
def vBuild:List (Nat×Nat×V)->List K->Option (Prop×List K)
 |[],row=>some (True,row)
 |(off,n,v)::ps,row=>
  match v.cells with
  |some ks=>match vBuild ps (splice row off ks) with
   |some (p,r)=>some ((ks.length=n/\off+n<=row.length)/\p,r)
   |none=>none
  |none=>none
def rowV:Option (Prop×List K)->Option (Prop×V)
 |some (p,r)=>some (p,ofRow true r)
 |none=>none
def vBound (n:Int):Option V->Option Int
 |none=>some n
 |some (.k (.c (.int _ m)))=>some m
 |some _=>none
def fX (s:List UInt8):Option Int->Option Int->Option (Prop×V)
 |some l,some h=>some (0<=l/\l<=h/\h<=s.length,.str ((s.take h.toNat).drop l.toNat))
 |_,_=>none
def mT (lo hi:Option V):V->Option (Prop×V)
 | .k (.c (.str s))=>fX s (vBound 0 lo) (vBound s.length hi)
 |_=>none
def iA (sz sz':Nat) (nl:Option Bool) (rows:List (List C)):Option Int->Option Int->Option (Prop×V)
 |some l,some h=>some (0<=l/\l<=h/\h<=rows.length/\(sz'=sz\/rows=[]),.list sz nl ((rows.take h.toNat).drop l.toNat))
 |_,_=>none
def pG (sz:Nat) (lo hi:Option V):V->Option (Prop×V)
 | .k (.c (.list sz' nl rows))=>iA sz sz' nl rows (vBound 0 lo) (vBound rows.length hi)
 |_=>none
def tW (o:Nat->Option O):List V->Option (Prop×List Cap)
 |[]=>some (True,[])
 |v::vs=>
  match v,tW o vs with
  | .k (.ptr τ 0),some (p,l)=>some (isVarO (o τ)=true/\p,.tok τ::l)
  | .k (.c (.ro row off)),some (p,l)=>some (p,.ro row off::l)
  |_,_=>none
def fnV (f:FuncId):Option (Prop×List Cap)->Option (Prop×V)
 |some (p,cs)=>match tU cs with
  |some l=>some (p,.k (.c (.fn f l)))
  |none=>some (p,.k (.fnk f cs))
 |none=>none
def nC:List V->Option (List Int)
 |[]=>some []
 | .k (.c (.int _ m))::vs=>(nC vs).map (m:: ·)
 |_::_=>none
def zd0 (isMax:Bool) (kk:IntKind) (n:Int):Option (List Int)->Option (Prop×V)
 |some l=>some (True,.int kk (l.foldl (jX isMax) n))
 |none=>none
def fY (isMax:Bool) (ys:List V):V->Option (Prop×V)
 | .k (.c (.int kk n))=>zd0 isMax kk n (nC ys)
 |_=>none
section
variable {σ : St} {k : Nat -> V -> Prop}
theorem zaB (d:Nat) (op:BinOp) (x y:AX):zA σ true (.bin d op x y) k=zW (vBin op (x.ev σ) (y.ev σ)) (k d):=by
 simp only[zA,xZ];generalize x.ev σ=v;generalize y.ev σ=u;split
 ·rename_i a b
  show _=zW (resV (binV op a b)) (k d);cases binV op a b with
  |none=>rfl
  |some pc=>simp[zW,resV]
 ·rename_i h
  unfold vBin;split
  ·exact absurd rfl (h _ _ rfl)
  ·rfl
theorem zaC (d:Nat) (neg:Bool) (x y:AX):zA σ true (.binB d neg x y) k=zW (vBinB neg (x.ev σ) (y.ev σ)) (k d):=by
 simp only[zA,xZ];generalize x.ev σ=v;generalize y.ev σ=u;unfold vBinB;split<;>simp[zW]
theorem zaD (d:Nat) (neg:Bool) (tys:List EqK) (x y:AX):zA σ true (.eqAgg d neg tys x y) k=zW (vEqAgg neg tys (x.ev σ) (y.ev σ)) (k d):=by
 simp only[zA,xZ];generalize x.ev σ=v;generalize y.ev σ=u;split
 ·rename_i a b
  show _=zW (mapV neg (eqRow tys a b)) (k d);cases eqRow tys a b with
  |none=>rfl
  |some q=>simp[zW,mapV]
 ·rename_i h
  unfold vEqAgg;split
  ·exact absurd rfl (h _ _ rfl)
  ·rfl
theorem zaE (d:Nat) (op:UnOp) (x:AX):zA σ true (.un d op x) k=zW (vUn op (x.ev σ)) (k d):=by
 simp only[zA,xZ];generalize x.ev σ=v;split
 ·rename_i a
  show _=zW (mapC (unV op a)) (k d);cases unV op a with
  |none=>rfl
  |some q=>simp[zW,mapC]
 ·rename_i h
  unfold vUn;split
  ·exact absurd rfl (h _)
  ·rfl
theorem zaF (d:Nat) (kk:IntKind) (x:AX):zA σ true (.conv d kk x) k=zW (vConv kk (x.ev σ)) (k d):=by
 simp only[zA,xZ];generalize x.ev σ=v;unfold vConv;split<;>simp[zW]
theorem zaG (d:Nat) (x:AX):zA σ true (.lenS d x) k=zW (vLenS (x.ev σ)) (k d):=by
 simp only[zA,xZ];generalize x.ev σ=v;unfold vLenS;split<;>simp[zW]
theorem zaH (d:Nat) (x:AX) (i:Nat):zA σ true (.extr d x i) k=zW (vExtr i (x.ev σ)) (k d):=by
 simp only[zA,xZ];generalize x.ev σ=v;unfold vExtr;cases v with
 |tup vs=>simp only[];cases vs[i]?<;>simp[zW]
 |_=>rfl
theorem zaI (d:Nat) (x:AX):zA σ true (.len d x) k=zW (vLen σ.o (x.ev σ)) (k d):=by
 simp only[zA,xZ];generalize x.ev σ=v;unfold vLen;split
 ·simp[zW]
 ·rename_i τ
  show _=zW (lenO (σ.o τ)) (k d);cases σ.o τ with
  |none=>rfl
  |some ob=>cases ob<;>simp[zW,lenO]
 ·simp[zW]
theorem zaJ (d:Nat) (neg:Bool) (x:AX):zA σ true (.nilcmp d neg x) k=zW (vNil σ.o neg (x.ev σ)) (k d):=by
 simp only[zA,xZ];generalize x.ev σ=v;unfold vNil;split
 ·simp[zW]
 ·rename_i τ
  show _=zW (fW neg (σ.o τ)) (k d);cases σ.o τ with
  |none=>rfl
  |some ob=>cases ob with
   |var=>rfl
   |arr e sz nl rows=>cases nl<;>simp[zW,fW]
 ·simp[zW]
theorem zaK (d:Nat) (x y:AX):zA σ true (.sidx d x y) k=zW (vSidx (x.ev σ) (y.ev σ)) (k d):=by
 simp only[zA,xZ];generalize x.ev σ=v;generalize y.ev σ=u;unfold vSidx;split<;>simp[zW]
theorem zaL (d sz len:Nat) (agg:Bool) (x y:AX):zA σ true (.aidx d sz len agg x y) k=zW (mS sz len agg (x.ev σ) (y.ev σ)) (k d):=by
 simp only[zA,xZ];generalize x.ev σ=v;generalize y.ev σ=u;unfold mS;split<;>simp[zW]
theorem zaM (d off:Nat) (x:AX):zA σ true (.faddr d off x) k=zW (vFaddr σ.o off (x.ev σ)) (k d):=by
 simp only[zA,xZ];generalize x.ev σ=v;unfold vFaddr;split<;>simp[zW]
theorem zaN (d:Nat) (x:AX):zA σ true (.nilchk d x) k=zW (mQ σ.o (x.ev σ)) (k d):=by
 simp only[zA,xZ];generalize x.ev σ=v;unfold mQ;split<;>simp[zW]
theorem zaO (d off n:Nat) (agg:Bool) (x:AX):zA σ true (.field d off n agg x) k=zW (mP off n agg (x.ev σ)) (k d):=by
 simp only[zA,xZ];generalize x.ev σ=v;unfold mP;split<;>simp[zW]
theorem zd1 (agg:Bool) (off n sz:Nat) (r:List C) (f:V->Prop):zA.rowPart agg off n sz r f=f (partV agg off n sz r):=by
 cases agg with
 |false=>rfl
 |true=>
  simp only[zA.rowPart,partV];split<;>rfl
theorem zaP (d n:Nat) (agg:Bool) (x:AX):zA σ true (.load d n agg x) k=zW (vLoad σ.o n agg (x.ev σ)) (k d):=by
 simp only[zA,xZ];generalize x.ev σ=v;unfold vLoad;split
 ·rename_i τ off
  show _=zW (loadO n agg 0 off (isV (σ.o τ))) (k d);cases σ.o τ with
  |none=>rfl
  |some ob=>cases ob<;>simp[zW,loadO,isV]
 ·simp[zW,zd1]
 ·rename_i τ i off
  show _=zW (loadO n agg i off (isA (σ.o τ))) (k d);cases σ.o τ with
  |none=>rfl
  |some ob=>cases ob<;>simp[zW,loadO,isA,zd1]
 ·simp[zW]
 ·simp[zW]
theorem zaQ (d sz:Nat) (x y:AX):zA σ true (.iaddr d sz x y) k=zW (vIaddr σ.o sz (x.ev σ) (y.ev σ)) (k d):=by
 simp only[zA,xZ];generalize x.ev σ=v;generalize y.ev σ=u;unfold vIaddr;split
 ·simp[zW]
 ·rename_i τ _ n
  show _=zW (idxO sz τ n (σ.o τ)) (k d);cases σ.o τ with
  |none=>rfl
  |some ob=>cases ob<;>simp[zW,idxO]
 ·simp[zW]
theorem zaR (d sz len:Nat) (x y:AX):zA σ true (.iaddrA d sz len x y) k=zW (mR σ.o sz len (x.ev σ) (y.ev σ)) (k d):=by
 simp only[zA,xZ];generalize x.ev σ=v;generalize y.ev σ=u;unfold mR;split<;>simp[zW]
theorem zaS (d:Nat) (c a b:AX):zA σ true (.pick d c a b) k=zW (vPick (c.ev σ) (a.ev σ) (b.ev σ)) (k d):=by
 simp only[zA,xZ,V.strip];generalize c.ev σ=v;generalize a.ev σ=va;generalize b.ev σ=vb;by_cases hc: ∃cb,v=.k (.c (.bool cb))
 ·obtain⟨cb,rfl⟩:=hc
  by_cases hx: ∃x,va=.k (.c (.bool x))
  ·obtain⟨x,rfl⟩:=hx
   by_cases hy: ∃y,vb=.k (.c (.bool y))
   ·obtain⟨y,rfl⟩:=hy
    simp[vPick,zW]
   ·have e:vPick (.k (.c (.bool cb))) (.k (.c (.bool x))) vb=some (cb=true,.bool x):=by
     unfold vPick;split<;>simp_all
    rw[e];simp only[];split<;>simp_all [zW]
  ·by_cases hy: ∃y,vb=.k (.c (.bool y))
   ·obtain⟨y,rfl⟩:=hy
    have e:vPick (.k (.c (.bool cb))) va (.k (.c (.bool y)))=some (cb=false,.bool y):=by
     unfold vPick;split<;>simp_all
    rw[e];simp only[];split<;>simp_all [zW]
   ·have e:vPick (.k (.c (.bool cb))) va vb=none:=by
     unfold vPick;split<;>simp_all
    rw[e];simp only[];split<;>simp_all [zW]
 ·have e:vPick v va vb=none:=by
   unfold vPick;split<;>simp_all
  rw[e];split
  ·exact absurd ⟨_,rfl⟩ hc
  ·rfl
theorem zpS (ps:List (Nat×Nat×AX)): ∀(row:List K) (f:List K->Prop),zA.buildP σ true ps row f=(match vBuild (ps.map fun p=>(p.1,p.2.1,p.2.2.ev σ)) row with|some (p,r)=>p/\f r|none=>False):=by
 induction ps with
 |nil=>intro row f;simp[zA.buildP,vBuild]
 |cons p ps ih=>
  intro row f;obtain⟨off,n,x⟩:=p;simp only[zA.buildP,Zk,vBuild];rw[xZ];generalize x.ev σ=v;cases v.cells with
  |none=>rfl
  |some ks=>
   simp only[ih];cases vBuild (ps.map fun p=>(p.1,p.2.1,p.2.2.ev σ)) (splice row off ks) with
   |none=>simp
   |some pr=>simp[and_assoc]
theorem zpT (d:Nat) (zero:List C) (ps:List (Nat×Nat×AX)):zA σ true (.build d zero ps) k=zW (rowV (vBuild (ps.map fun p=>(p.1,p.2.1,p.2.2.ev σ)) (zero.map .c))) (k d):=by
 simp only[zA];rw[zpS];cases vBuild (ps.map fun p=>(p.1,p.2.1,p.2.2.ev σ)) (zero.map .c)<;>rfl
theorem zd2 (x:Option AX) (n:Int) (f:Int->Prop):zA.boundP σ true x n f=(match vBound n (x.map fun x=>x.ev σ) with|some m=>f m|none=>False):=by
 cases x with
 |none=>rfl
 |some x=>
  simp only[zA.boundP];rw[xZ];simp only[YA];generalize x.ev σ=v;unfold vBound;split
  ·rfl
  ·rename_i h
   split
   ·rename_i h2
    split at h2<;>simp_all
   ·rfl
theorem zaT (d:Nat) (x:AX) (lo hi:Option AX):zA σ true (.slstr d x lo hi) k=zW (mT (lo.map fun x=>x.ev σ) (hi.map fun x=>x.ev σ) (x.ev σ)) (k d):=by
 simp only[zA,xZ];generalize x.ev σ=v;unfold mT;split
 ·simp only[zd2]
  cases vBound 0 (lo.map fun x=>x.ev σ) with
  |none=>rfl
  |some l=>
   simp only[];rename_i s;cases vBound s.length (hi.map fun x=>x.ev σ)<;>simp[zW,fX]
 ·rename_i h
  first
   |rfl
   |(split<;>first|rfl|exact absurd rfl (h _))
theorem fZ (d sz:Nat) (x:AX) (lo hi:Option AX):zA σ true (.slice d sz x lo hi) k=zW (pG sz (lo.map fun x=>x.ev σ) (hi.map fun x=>x.ev σ) (x.ev σ)) (k d):=by
 simp only[zA,xZ];generalize x.ev σ=v;unfold pG;split
 ·simp only[zd2]
  cases vBound 0 (lo.map fun x=>x.ev σ) with
  |none=>rfl
  |some l=>
   simp only[];rename_i sz' nl rows;cases vBound rows.length (hi.map fun x=>x.ev σ)<;>simp[zW,iA]
 ·rename_i h
  first
   |rfl
   |(split<;>first|rfl|exact absurd rfl (h _ _ _))
theorem zpU (xs:List AX): ∀(f:List Int->Prop),zA.intsP σ true xs f=(match nC (xs.map fun x=>x.ev σ) with|some l=>f l|none=>False):=by
 induction xs with
 |nil=>intro f;rfl
 |cons x xs ih=>
  intro f;simp only[zA.intsP,Zk];rw[xZ];generalize x.ev σ=v;split
  ·rename_i kk m
   rw[ih];show _=(match (nC (xs.map fun x=>x.ev σ)).map (m:: ·) with|some l=>f l|none=>False);cases nC (xs.map fun x=>x.ev σ)<;>rfl
  ·rename_i h
   have e:nC (v::xs.map fun x=>x.ev σ)=none:=by
    unfold nC;split<;>simp_all
   rw[e]
theorem zpV (d:Nat) (isMax:Bool) (x:AX) (ys:List AX):zA σ true (.minmax d isMax x ys) k=zW (fY isMax (ys.map fun x=>x.ev σ) (x.ev σ)) (k d):=by
 simp only[zA,xZ];generalize x.ev σ=v;unfold fY;split
 ·rw[zpU]
  cases nC (ys.map fun x=>x.ev σ)<;>simp[zW,zd0]
 ·rename_i h
  first
   |rfl
   |(split<;>first|rfl|exact absurd rfl (h _ _))
theorem zpW (xs:List AX): ∀(f:List Cap->Prop),zA.capsP σ true xs f=(match tW σ.o (xs.map fun x=>x.ev σ) with|some (p,l)=>p/\f l|none=>False):=by
 induction xs with
 |nil=>intro f;simp[zA.capsP,tW]
 |cons x xs ih=>
  intro f;simp only[zA.capsP,Zk];rw[xZ];generalize x.ev σ=v;simp only[tW];split
  ·rw[ih]
   cases tW σ.o (xs.map fun x=>x.ev σ) with
   |none=>simp
   |some pl=>simp[and_assoc]
  ·rw[ih]
   cases tW σ.o (xs.map fun x=>x.ev σ) with
   |none=>simp
   |some pl=>simp
  ·rename_i h1 h2
   split
   ·rename_i h3
    split at h3
    ·exact absurd rfl (h1 _)
    ·exact absurd rfl (h2 _ _)
    ·simp at h3
   ·rfl
theorem zpX (d:Nat) (f:FuncId) (xs:List AX):zA σ true (.mkfn d f xs) k=zW (fnV f (tW σ.o (xs.map fun x=>x.ev σ))) (k d):=by
 simp only[zA];rw[zpW];cases tW σ.o (xs.map fun x=>x.ev σ) with
 |none=>rfl
 |some pl=>
  obtain⟨p,cs⟩:=pl;simp only[fnV];cases tU cs<;>simp[zW]
end
def Rl (m:Bool) (τ:Nat) (u w:V):Prop:=match m with|true=>w=u/\u.noRef τ=true|false=>w=u.scrub τ
theorem K.scrub_noRef {τ:Nat} {x:K} (h:x.noRef τ=true):x.scrub τ=x:=by
 cases x<;>simp_all [K.scrub,K.noRef]
theorem eA {τ:Nat}: ∀{r:List K},r.all (K.noRef τ)=true->r.map (K.scrub τ)=r
 |[],_=>rfl
 |k::r,h=>by
  simp only[Yz,Zr] at h;simp only[Zk,K.scrub_noRef h.1,eA h.2]
section
variable {m : Bool} {τ : Nat}
theorem Rl.k {u:V} {y:K} (h:Rl m τ u (.k y)): ∃x,u=.k x/\y=x.scrub τ/\(m=true->x.noRef τ=true):=by
 cases m with
 |true=>
  obtain⟨h1,h2⟩:=h;subst h1;exact⟨y,rfl,(K.scrub_noRef (by simpa [V.noRef] using h2)).symm,fun _=>by simpa [V.noRef] using h2⟩
 |false=>
  cases u with
  |k x=>simp only[Rl,V.scrub,V.k.injEq] at h;exact⟨x,rfl,h,by simp⟩
  |_=>simp[Rl,V.scrub] at h
theorem Rl.agg {u:V} {r:List C} (h:Rl m τ u (.agg r)):u=.agg r:=by
 cases m with
 |true=>exact h.1.symm
 |false=>cases u<;>simp_all [Rl,V.scrub]
theorem Rl.agk {u:V} {r':List K} (h:Rl m τ u (.agk r')): ∃r,u=.agk r/\r'=r.map (K.scrub τ)/\(m=true->r.all (K.noRef τ)=true):=by
 cases m with
 |true=>
  obtain⟨h1,h2⟩:=h;subst h1;have h3:r'.all (K.noRef τ)=true:=by simpa only[V.noRef] using h2
  exact⟨r',rfl,(eA h3).symm,fun _=>h3⟩
 |false=>
  cases u with
  |agk r=>simp only[Rl,V.scrub,V.agk.injEq] at h;exact⟨r,rfl,h,by simp⟩
  |_=>simp[Rl,V.scrub] at h
theorem Rl.tup {u:V} {vs:List V} (h:Rl m τ u (.tup vs)):m=true/\u=.tup vs/\V.noRefL τ vs=true:=by
 cases m with
 |true=>obtain⟨h1,h2⟩:=h;subst h1;exact⟨rfl,rfl,by simpa only[V.noRef] using h2⟩
 |false=>cases u<;>simp[Rl,V.scrub] at h
theorem Rl.in_k {x:K} (h:m=true->x.noRef τ=true):Rl m τ (.k x) (.k (x.scrub τ)):=by
 cases m with
 |true=>have:=h rfl;exact⟨by rw[K.scrub_noRef this],by simpa only[V.noRef] using this⟩
 |false=>rfl
theorem Rl.c (a:C):Rl m τ (.k (.c a)) (.k (.c a)):=Rl.in_k (x:=.c a) fun _=>rfl
theorem Rl.aggI (r:List C):Rl m τ (.agg r) (.agg r):=by cases m<;>simp[Rl,V.scrub,V.noRef]
theorem Rl.of {u w:V} (h1:u.scrub τ=w) (h2:m=true->u.noRef τ=true/\u.scrub τ=u):Rl m τ u w:=by
 cases m with
 |true=>obtain⟨a,b⟩:=h2 rfl;exact⟨by rw[<-h1,b],a⟩
 |false=>exact h1.symm
theorem zpY {x:K} {a:C} (h:K.c a=x.scrub τ):x=.c a:=by
 cases x<;>simp only[K.scrub] at h<;>(try split at h)<;>simp_all
theorem zaU {x:K} {s:Nat} (h:K.own s=x.scrub τ):x=.own s/\s≠τ:=by
 cases x<;>simp only[K.scrub] at h<;>(try split at h)<;>simp_all
theorem eB {x:K} {s q:Nat} (h:K.ptr s q=x.scrub τ):x=.ptr s q/\s≠τ:=by
 cases x<;>simp only[K.scrub] at h<;>(try split at h)<;>simp_all
theorem eC {x:K} {s i q:Nat} (h:K.elem s i q=x.scrub τ):x=.elem s i q/\s≠τ:=by
 cases x<;>simp only[K.scrub] at h<;>(try split at h)<;>simp_all
theorem eE {x:K} {sz i q:Nat} {rows:List (List C)} (h:K.pel sz rows i q=x.scrub τ):x=.pel sz rows i q:=by
 cases x<;>simp only[K.scrub] at h<;>(try split at h)<;>simp_all
theorem zpZ {x:K} {f:FuncId} {cs:List Cap} (h:K.fnk f cs=x.scrub τ):x=.fnk f cs/\cs.all (Cap.noRef τ)=true:=by
 cases x<;>simp only[K.scrub] at h<;>(try split at h)<;>simp_all
theorem Rl.kc {u:V} {a:C} (h:Rl m τ u (.k (.c a))):u=.k (.c a):=by
 obtain⟨x,rfl,hx,_⟩:=h.k;rw[zpY hx]
theorem zd3: ∀(r:List K),pureRow (r.map (K.scrub τ))=pureRow r
 |[]=>rfl
 |k::r=>by
  have ih:=zd3 r;cases k<;>simp only[Zk,K.scrub]<;>(try split)<;>simp[pureRow,ih]
theorem zd4 (agg:Bool) (r:List K):(ofRow agg r).scrub τ=ofRow agg (r.map (K.scrub τ)):=by
 cases agg with
 |true=>
  simp only[ofRow,if_true,zd3];cases pureRow r<;>rfl
 |false=>
  match r with
  |[]=>rfl
  |[x]=>rfl
  |_::_::_=>rfl
theorem zp0 (agg:Bool) {r:List K} (h:r.all (K.noRef τ)=true):(ofRow agg r).noRef τ=true:=by
 cases agg with
 |true=>
  simp only[ofRow,if_true];cases pureRow r with
  |none=>simpa only[V.noRef] using h
  |some cs=>simp[V.noRef]
 |false=>
  match r with
  |[]=>rfl
  |[x]=>simpa [ofRow,V.noRef] using h
  |_::_::_=>rfl
theorem Rl.row {agg:Bool} {r:List K} (h:m=true->r.all (K.noRef τ)=true):Rl m τ (ofRow agg r) (ofRow agg (r.map (K.scrub τ))):=
 Rl.of (zd4 agg r) fun hm=>⟨zp0 agg (h hm),by rw[zd4,eA (h hm)]⟩
theorem zp1 (r:List C):(r.map K.c).map (K.scrub τ)=r.map K.c:=by simp[K.scrub]
theorem zp2 (r:List C):(r.map K.c).all (K.noRef τ)=true:=by induction r<;>simp_all [K.noRef]
theorem Rl.rowc {agg:Bool} (r:List C):Rl m τ (ofRow agg (r.map .c)) (ofRow agg (r.map .c)):=by
 have:=Rl.row (m:=m) (τ:=τ) (agg:=agg) (r:=r.map .c) fun _=>zp2 r
 rwa [zp1] at this
structure OR (m:Bool) (τ:Nat) (o o1:Nat->Option O):Prop where
 eq: ∀s,s≠τ->o1 s=(o s).map (O.scrub τ)
 nr:m=true-> ∀s ob,s≠τ->o s=some ob->ob.noRef τ=true
def zO (m:Bool) (τ:Nat) (r1 r:Option (Prop×V)):Prop:= ∀p1 w,r1=some (p1,w)->p1-> ∃p u,r=some (p,u)/\p/\Rl m τ u w
variable {o o1 : Nat -> Option O} {v w v' w' v'' w'' : V}
theorem zO.same {r:Option (Prop×V)} (h: ∀p w,r=some (p,w)-> ∃a,w=.k (.c a)):zO m τ r r:=by
 intro p w e hp;obtain⟨a,rfl⟩:=h p w e;exact⟨p,_,e,hp,Rl.c a⟩
theorem zO.no {r:Option (Prop×V)}:zO m τ none r:=by intro p w h;cases h
theorem zO.some {p p1:Prop} {u w:V} (h:p1->p) (hr:Rl m τ u w):zO m τ (.some (p1,w)) (.some (p,u)):=by
 intro q x e hq;cases e;exact⟨p,u,rfl,h hq,hr⟩
theorem zaV (ob:Option O):isVarO (ob.map (O.scrub τ))=isVarO ob:=by
 cases ob with
 |none=>rfl
 |some ob=>cases ob<;>rfl
theorem zaW (ob:Option O):isArrO (ob.map (O.scrub τ))=isArrO ob:=by
 cases ob with
 |none=>rfl
 |some ob=>cases ob<;>rfl
theorem zp3 (op:BinOp) (h1:Rl m τ v w) (h2:Rl m τ v' w'):zO m τ (vBin op w w') (vBin op v v'):=by
 unfold vBin;split
 ·rw[h1.kc,h2.kc]
  refine zO.same fun p x e=>?_
  unfold resV at e;split at e<;>simp at e
  exact⟨_,e.2.symm⟩
 ·exact zO.no
theorem zp4 (neg:Bool) (h1:Rl m τ v w) (h2:Rl m τ v' w'):zO m τ (vBinB neg w w') (vBinB neg v v'):=by
 unfold vBinB;split
 ·rw[h1.kc,h2.kc]
  exact zO.some id (Rl.c _)
 ·exact zO.no
theorem zp5 (neg:Bool) (tys:List EqK) (h1:Rl m τ v w) (h2:Rl m τ v' w'):zO m τ (vEqAgg neg tys w w') (vEqAgg neg tys v v'):=by
 unfold vEqAgg;split
 ·rw[h1.agg,h2.agg]
  refine zO.same fun p x e=>?_
  unfold mapV at e;split at e<;>simp at e
  exact⟨_,e.2.symm⟩
 ·exact zO.no
theorem zp6 (op:UnOp) (h1:Rl m τ v w):zO m τ (vUn op w) (vUn op v):=by
 unfold vUn;split
 ·rw[h1.kc]
  refine zO.same fun p x e=>?_
  unfold mapC at e;split at e<;>simp at e
  exact⟨_,e.2.symm⟩
 ·exact zO.no
theorem zp7 (kk:IntKind) (h1:Rl m τ v w):zO m τ (vConv kk w) (vConv kk v):=by
 unfold vConv;split
 ·rw[h1.kc];exact zO.some id (Rl.c _)
 ·exact zO.no
theorem zd5: ∀{vs:List V} {i:Nat} {u:V},V.noRefL τ vs=true->vs[i]?=some u->u.noRef τ=true
 |[],i,u,_,e=>by simp at e
 |v::vs,0,u,h,e=>by simp[V.noRefL] at h e;rw[<-e];exact h.1
 |v::vs,i+1,u,h,e=>by simp[V.noRefL] at h e;exact zd5 h.2 e
theorem zp8 (i:Nat) (h1:Rl m τ v w):zO m τ (vExtr i w) (vExtr i v):=by
 unfold vExtr;split
 ·rename_i vs
  obtain⟨rfl,rfl,h⟩:=h1.tup;simp only[];split
  ·rename_i u e
   exact zO.some id ⟨rfl,zd5 h e⟩
  ·exact zO.no
 ·exact zO.no
theorem zp9 (h1:Rl m τ v w):zO m τ (vLenS w) (vLenS v):=by
 unfold vLenS;split
 ·rw[h1.kc];exact zO.some id (Rl.c _)
 ·exact zO.no
theorem zqa (ho:OR m τ o o1) (h1:Rl m τ v w):zO m τ (vLen o1 w) (vLen o v):=by
 unfold vLen;split
 ·rw[h1.kc];exact zO.some id (Rl.c _)
 ·rename_i s
  obtain⟨x,rfl,hx,hn⟩:=h1.k;obtain⟨rfl,hs⟩:=zaU hx;simp only[];rw[ho.eq s hs];cases o s with
  |none=>exact zO.no
  |some ob=>
   cases ob with
   |var=>exact zO.no
   |arr=>exact zO.some id (Rl.c _)
 ·exact zO.no
theorem zqb (neg:Bool) (ho:OR m τ o o1) (h1:Rl m τ v w):zO m τ (vNil o1 neg w) (vNil o neg v):=by
 unfold vNil;split
 ·rw[h1.kc];exact zO.some id (Rl.c _)
 ·rename_i s
  obtain⟨x,rfl,hx,hn⟩:=h1.k;obtain⟨rfl,hs⟩:=zaU hx;simp only[];rw[ho.eq s hs];cases o s with
  |none=>exact zO.no
  |some ob=>
   cases ob with
   |var=>exact zO.no
   |arr e sz nl rows=>
    refine zO.same fun p x e=>?_
    simp only[Option.map,O.scrub] at e;unfold fW at e;split at e<;>simp at e
    exact⟨_,e.2.symm⟩
 ·exact zO.no
theorem zqc (h1:Rl m τ v w) (h2:Rl m τ v' w'):zO m τ (vSidx w w') (vSidx v v'):=by
 unfold vSidx;split
 ·rw[h1.kc,h2.kc];exact zO.some id (Rl.c _)
 ·exact zO.no
theorem zaX {s q q':Nat} (hs:s≠τ):Rl m τ (.k (.ptr s q')) (.k (.ptr s q')):=by
 have:=Rl.in_k (m:=m) (τ:=τ) (x:=.ptr s q') (fun _=>by simp[K.noRef,hs]);simpa [K.scrub,hs] using this
theorem eG {s i q':Nat} (hs:s≠τ):Rl m τ (.k (.elem s i q')) (.k (.elem s i q')):=by
 have:=Rl.in_k (m:=m) (τ:=τ) (x:=.elem s i q') (fun _=>by simp[K.noRef,hs]);simpa [K.scrub,hs] using this
theorem eH {sz i q':Nat} {rows:List (List C)}:Rl m τ (.k (.pel sz rows i q')) (.k (.pel sz rows i q')):=Rl.in_k (x:=.pel sz rows i q') (fun _=>rfl)
theorem zqd {f:FuncId} {cs:List Cap} (h:cs.all (Cap.noRef τ)=true):Rl m τ (.k (.fnk f cs)) (.k (.fnk f cs)):=by
 have:=Rl.in_k (m:=m) (τ:=τ) (x:=.fnk f cs) (fun _=>by simpa [K.noRef] using h);simpa only[K.scrub,h,if_true] using this
theorem zqe (off:Nat) (ho:OR m τ o o1) (h1:Rl m τ v w):zO m τ (vFaddr o1 off w) (vFaddr o off v):=by
 unfold vFaddr;split
 ·rename_i s q
  obtain⟨x,rfl,hx,hn⟩:=h1.k;obtain⟨rfl,hs⟩:=eB hx;simp only[];rw[ho.eq s hs,zaV];exact zO.some id (zaX (q:=0) hs)
 ·rename_i s i q
  obtain⟨x,rfl,hx,hn⟩:=h1.k;obtain⟨rfl,hs⟩:=eC hx;simp only[];rw[ho.eq s hs,zaW];exact zO.some id (eG hs)
 ·obtain⟨x,rfl,hx,hn⟩:=h1.k
  rw[eE hx];exact zO.some id eH
 ·rw[h1.kc];exact zO.some id (Rl.c _)
 ·exact zO.no
theorem zqf (ho:OR m τ o o1) (h1:Rl m τ v w):zO m τ (mQ o1 w) (mQ o v):=by
 unfold mQ;split
 ·rename_i s q
  obtain⟨x,rfl,hx,hn⟩:=h1.k;obtain⟨rfl,hs⟩:=eB hx;simp only[];rw[ho.eq s hs,zaV];exact zO.some id (zaX (q:=0) hs)
 ·rename_i s i q
  obtain⟨x,rfl,hx,hn⟩:=h1.k;obtain⟨rfl,hs⟩:=eC hx;simp only[];rw[ho.eq s hs,zaW];exact zO.some id (eG hs)
 ·obtain⟨x,rfl,hx,hn⟩:=h1.k
  rw[eE hx];exact zO.some id eH
 ·rw[h1.kc];exact zO.some id (Rl.c _)
 ·rw[h1.kc];exact zO.some id (Rl.c _)
 ·obtain⟨x,rfl,hx,hn⟩:=h1.k
  obtain⟨rfl,hs⟩:=zpZ hx;exact zO.some id (zqd hs)
 ·exact zO.no
theorem zqg (off n:Nat) (agg:Bool) (h1:Rl m τ v w):zO m τ (mP off n agg w) (mP off n agg v):=by
 unfold mP;split
 ·rw[h1.agg];exact zO.some id (Rl.rowc _)
 ·obtain⟨r,rfl,rfl,hn⟩:=h1.agk
  refine zO.some (by simp) ?_;rw[<-List.map_drop,<-Xy];refine Rl.row fun hm=>?_
  have:=hn hm;rw[ZA] at this⊢;exact fun x hx=>this x (List.mem_of_mem_drop (Xf hx))
 ·exact zO.no
theorem zd6 (agg:Bool) (off n sz:Nat) (r:List C):Rl m τ (partV agg off n sz r) (partV agg off n sz r):=by
 cases agg with
 |true=>simp only[partV];split<;>exact Rl.aggI _
 |false=>exact Rl.c _
theorem zqh (n:Nat) (agg:Bool) (ho:OR m τ o o1) (h1:Rl m τ v w):zO m τ (vLoad o1 n agg w) (vLoad o n agg v):=by
 unfold vLoad;split
 ·rename_i s q
  obtain⟨x,rfl,hx,hn⟩:=h1.k;obtain⟨rfl,hs⟩:=eB hx;simp only[];rw[ho.eq s hs];cases e:o s with
  |none=>exact zO.no
  |some ob=>
   cases ob with
   |arr=>exact zO.no
   |var t row=>
    simp only[Option.map,O.scrub,isV,loadO];refine zO.some (by simp) ?_;rw[<-List.map_drop,<-Xy];refine Rl.row fun hm=>?_
    have:=ho.nr hm s _ hs e;simp only[O.noRef] at this;rw[ZA] at this⊢;exact fun x hx=>this x (List.mem_of_mem_drop (Xf hx))
 ·obtain⟨x,rfl,hx,hn⟩:=h1.k
  rw[eE hx];exact zO.some id (zd6 _ _ _ _ _)
 ·rename_i s i q
  obtain⟨x,rfl,hx,hn⟩:=h1.k;obtain⟨rfl,hs⟩:=eC hx;simp only[];rw[ho.eq s hs];cases e:o s with
  |none=>exact zO.no
  |some ob=>
   cases ob with
   |var=>exact zO.no
   |arr=>exact zO.some id (zd6 _ _ _ _ _)
 ·rw[h1.kc];exact zO.some id (Rl.rowc _)
 ·exact zO.no
theorem zqi (sz:Nat) (ho:OR m τ o o1) (h1:Rl m τ v w) (h2:Rl m τ v' w'):zO m τ (vIaddr o1 sz w w') (vIaddr o sz v v'):=by
 unfold vIaddr;split
 ·rw[h1.kc,h2.kc];exact zO.some id eH
 ·rename_i s k n
  obtain⟨x,rfl,hx,hn⟩:=h1.k;obtain⟨rfl,hs⟩:=zaU hx;rw[h2.kc];simp only[];rw[ho.eq s hs];cases e:o s with
  |none=>exact zO.no
  |some ob=>
   cases ob with
   |var=>exact zO.no
   |arr=>exact zO.some id (eG hs)
 ·exact zO.no
theorem zqj (sz len:Nat) (ho:OR m τ o o1) (h1:Rl m τ v w) (h2:Rl m τ v' w'):zO m τ (mR o1 sz len w w') (mR o sz len v v'):=by
 unfold mR;split
 ·rename_i s q k n
  obtain⟨x,rfl,hx,hn⟩:=h1.k;obtain⟨rfl,hs⟩:=eB hx;rw[h2.kc];simp only[];rw[ho.eq s hs,zaV];exact zO.some id (zaX (q:=0) hs)
 ·rw[h1.kc,h2.kc];exact zO.some id (Rl.c _)
 ·obtain⟨x,rfl,hx,hn⟩:=h1.k
  rw[eE hx,h2.kc];exact zO.some id eH
 ·rename_i s j q k n
  obtain⟨x,rfl,hx,hn⟩:=h1.k;obtain⟨rfl,hs⟩:=eC hx;rw[h2.kc];simp only[];rw[ho.eq s hs,zaW];exact zO.some id (eG hs)
 ·exact zO.no
theorem zqk (sz len:Nat) (agg:Bool) (h1:Rl m τ v w) (h2:Rl m τ v' w'):zO m τ (mS sz len agg w w') (mS sz len agg v v'):=by
 unfold mS;split
 ·rw[h1.agg,h2.kc];exact zO.some id (Rl.rowc _)
 ·exact zO.no
theorem eI {n:Int} {x y:Option V} (h:match x,y with|none,none=>True|some a,some b=>Rl m τ a b|_,_=>False) {l:Int} (e:vBound n y=some l):vBound n x=some l:=by
 match x,y,h with
 |none,none,_=>exact e
 |some a,some b,h=>
  match b,e with
  | .k (.c (.int k q)),e=>rw[h.kc];exact e
abbrev RlO (m:Bool) (τ:Nat) (x y:Option V):Prop:=match x,y with|none,none=>True|some a,some b=>Rl m τ a b|_,_=>False
theorem zql {lo hi lo' hi':Option V} (hl:RlO m τ lo lo') (hh:RlO m τ hi hi') (h1:Rl m τ v w):zO m τ (mT lo' hi' w) (mT lo hi v):=by
 unfold mT;split
 ·rename_i s
  rw[h1.kc];simp only[];cases e1:vBound 0 lo' with
  |none=>simp only[fX];exact zO.no
  |some l=>
   cases e2:vBound (s.length:Int) hi' with
   |none=>simp only[fX];exact zO.no
   |some r=>
    rw[eI hl e1,eI hh e2];exact zO.some id (Rl.c _)
 ·exact zO.no
theorem zqm (sz:Nat) {lo hi lo' hi':Option V} (hl:RlO m τ lo lo') (hh:RlO m τ hi hi') (h1:Rl m τ v w):zO m τ (pG sz lo' hi' w) (pG sz lo hi v):=by
 unfold pG;split
 ·rename_i sz' nl rows
  rw[h1.kc];simp only[];cases e1:vBound 0 lo' with
  |none=>simp only[iA];exact zO.no
  |some l=>
   cases e2:vBound (rows.length:Int) hi' with
   |none=>simp only[iA];exact zO.no
   |some r=>
    rw[eI hl e1,eI hh e2];exact zO.some id (Rl.c _)
 ·exact zO.no
theorem zqn (h1:Rl m τ v w) (h2:Rl m τ v' w') (h3:Rl m τ v'' w''):zO m τ (vPick w w' w'') (vPick v v' v''):=by
 intro p1 x e hp;unfold vPick at e;split at e
 ·rw[h1.kc,h2.kc,h3.kc]
  cases e;exact⟨_,_,rfl,hp,Rl.c _⟩
 ·rename_i cb a hno
  rw[h1.kc,h2.kc];cases e;by_cases hb: ∃y,v''=.k (.c (.bool y))
  ·obtain⟨y,rfl⟩:=hb
   refine⟨_,_,rfl,trivial,?_⟩;rw[hp];exact Rl.c _
  ·exact⟨cb=true,.bool a,vPick.eq_2 _ _ _ fun y h=>hb ⟨y,h⟩,hp,Rl.c _⟩
 ·rename_i cb y hno
  rw[h1.kc,h3.kc];cases e;by_cases hb: ∃y,v'=.k (.c (.bool y))
  ·obtain⟨a,rfl⟩:=hb
   refine⟨_,_,rfl,trivial,?_⟩;rw[hp];exact Rl.c _
  ·exact⟨cb=false,.bool y,vPick.eq_3 _ _ _ fun y h=>hb ⟨y,h⟩,hp,Rl.c _⟩
 ·cases e
end
def AOp.special:AOp->Bool
 | .call (some _) _ _| .callv (some _) _ _| .slice .. =>true
 | .bslice _ _ _ _ (_+1) _=>true
 |_=>false
def AOp.thru:AOp->Bool
 | .mov .. | .pick .. | .load .. | .nilchk .. | .bin .. | .binB .. | .eqAgg .. | .nilcmp .. | .un .. | .conv .. | .slstr .. | .faddr .. | .field .. | .iaddr .. | .iaddrA .. | .sidx .. | .aidx .. | .extr .. | .len .. | .lenS .. | .slice .. =>true
 |_=>false
section
variable {m : Bool} {τ : Nat} {σ σ1 : St} {P : Program}
def mU (m:Bool) (τ:Nat) (σ σ1:St) (d:Option Nat) (K:St->Prop) (F:(St->Prop)->Prop):Prop:=
 ∃e u w,d=some e/\Rl m τ u w/\K (σ1.put e w)/\ ∀K':St->Prop,K' (σ.put e u)->F K'
theorem uC {r1 r:Option (Prop×V)} {d:Nat} {K:St->Prop} (ht:zO m τ r1 r) (h:zW r1 fun w=>K (σ1.put d w)):
  mU m τ σ σ1 (some d) K fun K'=>zW r fun u=>K' (σ.put d u):=by
 unfold zW at h;split at h
 ·rename_i p w
  obtain⟨p',u,rfl,hp',hr⟩:=ht p w rfl h.1;exact⟨d,u,w,rfl,hr,h.2,fun K' hk=>⟨hp',hk⟩⟩
 ·exact h.elim
theorem zaY {op:AOp} (hop:op.thru=true) (hx: ∀x,x∈op.xs->Rl m τ (x.ev σ) (x.ev σ1)) (ho:OR m τ σ.o σ1.o) {K:St->Prop} (h:yA P σ1 op K):
  mU m τ σ σ1 op.dst K fun K'=>yA P σ op K':=by
 have pl: ∀{op:AOp},op.plain=true-> ∀(σ:St) (K:St->Prop),yA P σ op K=zA σ true op fun d v=>K (σ.put d v):=by
  intro op hp σ K;cases op<;>first|rfl|simp[AOp.plain] at hp
 cases op<;>simp only[AOp.xs,ZJ,Zt,or_false,forall_eq_or_imp,forall_eq,Yo] at hx
 case mov d x=>exact⟨d,_,_,rfl,hx,h,fun K' hk=>hk⟩
 case pick=>rw[pl rfl,zaS] at h;obtain⟨e,u,w,h1,h2,h3,h4⟩:=uC (σ:=σ) (zqn hx.1 hx.2.1 hx.2.2) h;exact⟨e,u,w,h1,h2,h3,fun K' hk=>by show yA P σ _ K';rw[pl rfl,zaS];exact h4 K' hk⟩
 case load=>rw[pl rfl,zaP] at h;obtain⟨e,u,w,h1,h2,h3,h4⟩:=uC (σ:=σ) (zqh _ _ ho hx) h;exact⟨e,u,w,h1,h2,h3,fun K' hk=>by show yA P σ _ K';rw[pl rfl,zaP];exact h4 K' hk⟩
 case nilchk=>rw[pl rfl,zaN] at h;obtain⟨e,u,w,h1,h2,h3,h4⟩:=uC (σ:=σ) (zqf ho hx) h;exact⟨e,u,w,h1,h2,h3,fun K' hk=>by show yA P σ _ K';rw[pl rfl,zaN];exact h4 K' hk⟩
 case bin=>rw[pl rfl,zaB] at h;obtain⟨e,u,w,h1,h2,h3,h4⟩:=uC (σ:=σ) (zp3 _ hx.1 hx.2) h;exact⟨e,u,w,h1,h2,h3,fun K' hk=>by show yA P σ _ K';rw[pl rfl,zaB];exact h4 K' hk⟩
 case binB=>rw[pl rfl,zaC] at h;obtain⟨e,u,w,h1,h2,h3,h4⟩:=uC (σ:=σ) (zp4 _ hx.1 hx.2) h;exact⟨e,u,w,h1,h2,h3,fun K' hk=>by show yA P σ _ K';rw[pl rfl,zaC];exact h4 K' hk⟩
 case eqAgg=>rw[pl rfl,zaD] at h;obtain⟨e,u,w,h1,h2,h3,h4⟩:=uC (σ:=σ) (zp5 _ _ hx.1 hx.2) h;exact⟨e,u,w,h1,h2,h3,fun K' hk=>by show yA P σ _ K';rw[pl rfl,zaD];exact h4 K' hk⟩
 case nilcmp=>rw[pl rfl,zaJ] at h;obtain⟨e,u,w,h1,h2,h3,h4⟩:=uC (σ:=σ) (zqb _ ho hx) h;exact⟨e,u,w,h1,h2,h3,fun K' hk=>by show yA P σ _ K';rw[pl rfl,zaJ];exact h4 K' hk⟩
 case un=>rw[pl rfl,zaE] at h;obtain⟨e,u,w,h1,h2,h3,h4⟩:=uC (σ:=σ) (zp6 _ hx) h;exact⟨e,u,w,h1,h2,h3,fun K' hk=>by show yA P σ _ K';rw[pl rfl,zaE];exact h4 K' hk⟩
 case conv=>rw[pl rfl,zaF] at h;obtain⟨e,u,w,h1,h2,h3,h4⟩:=uC (σ:=σ) (zp7 _ hx) h;exact⟨e,u,w,h1,h2,h3,fun K' hk=>by show yA P σ _ K';rw[pl rfl,zaF];exact h4 K' hk⟩
 case faddr=>rw[pl rfl,zaM] at h;obtain⟨e,u,w,h1,h2,h3,h4⟩:=uC (σ:=σ) (zqe _ ho hx) h;exact⟨e,u,w,h1,h2,h3,fun K' hk=>by show yA P σ _ K';rw[pl rfl,zaM];exact h4 K' hk⟩
 case field=>rw[pl rfl,zaO] at h;obtain⟨e,u,w,h1,h2,h3,h4⟩:=uC (σ:=σ) (zqg _ _ _ hx) h;exact⟨e,u,w,h1,h2,h3,fun K' hk=>by show yA P σ _ K';rw[pl rfl,zaO];exact h4 K' hk⟩
 case iaddr=>rw[pl rfl,zaQ] at h;obtain⟨e,u,w,h1,h2,h3,h4⟩:=uC (σ:=σ) (zqi _ ho hx.1 hx.2) h;exact⟨e,u,w,h1,h2,h3,fun K' hk=>by show yA P σ _ K';rw[pl rfl,zaQ];exact h4 K' hk⟩
 case iaddrA=>rw[pl rfl,zaR] at h;obtain⟨e,u,w,h1,h2,h3,h4⟩:=uC (σ:=σ) (zqj _ _ ho hx.1 hx.2) h;exact⟨e,u,w,h1,h2,h3,fun K' hk=>by show yA P σ _ K';rw[pl rfl,zaR];exact h4 K' hk⟩
 case sidx=>rw[pl rfl,zaK] at h;obtain⟨e,u,w,h1,h2,h3,h4⟩:=uC (σ:=σ) (zqc hx.1 hx.2) h;exact⟨e,u,w,h1,h2,h3,fun K' hk=>by show yA P σ _ K';rw[pl rfl,zaK];exact h4 K' hk⟩
 case aidx=>rw[pl rfl,zaL] at h;obtain⟨e,u,w,h1,h2,h3,h4⟩:=uC (σ:=σ) (zqk _ _ _ hx.1 hx.2) h;exact⟨e,u,w,h1,h2,h3,fun K' hk=>by show yA P σ _ K';rw[pl rfl,zaL];exact h4 K' hk⟩
 case extr=>rw[pl rfl,zaH] at h;obtain⟨e,u,w,h1,h2,h3,h4⟩:=uC (σ:=σ) (zp8 _ hx) h;exact⟨e,u,w,h1,h2,h3,fun K' hk=>by show yA P σ _ K';rw[pl rfl,zaH];exact h4 K' hk⟩
 case len=>rw[pl rfl,zaI] at h;obtain⟨e,u,w,h1,h2,h3,h4⟩:=uC (σ:=σ) (zqa ho hx) h;exact⟨e,u,w,h1,h2,h3,fun K' hk=>by show yA P σ _ K';rw[pl rfl,zaI];exact h4 K' hk⟩
 case lenS=>rw[pl rfl,zaG] at h;obtain⟨e,u,w,h1,h2,h3,h4⟩:=uC (σ:=σ) (zp9 hx) h;exact⟨e,u,w,h1,h2,h3,fun K' hk=>by show yA P σ _ K';rw[pl rfl,zaG];exact h4 K' hk⟩
 case slstr d x lo hi=>
  have bd: ∀(y:Option AX),(∀z,z∈y.toList->Rl m τ (z.ev σ) (z.ev σ1))->RlO m τ (y.map fun x=>x.ev σ) (y.map fun x=>x.ev σ1):=by
   intro y hy;cases y with
   |none=>trivial
   |some z=>exact hy z (by simp)
  rw[pl rfl,zaT] at h;obtain⟨e,u,w,h1,h2,h3,h4⟩:=uC (σ:=σ) (zql (bd lo fun z hz=>hx.2 z (.inl hz)) (bd hi fun z hz=>hx.2 z (.inr hz)) hx.1) h;exact⟨e,u,w,h1,h2,h3,fun K' hk=>by show yA P σ _ K';rw[pl rfl,zaT];exact h4 K' hk⟩
 case slice d sz x lo hi=>
  have bd: ∀(y:Option AX),(∀z,z∈y.toList->Rl m τ (z.ev σ) (z.ev σ1))->RlO m τ (y.map fun x=>x.ev σ) (y.map fun x=>x.ev σ1):=by
   intro y hy;cases y with
   |none=>trivial
   |some z=>exact hy z (by simp)
  simp only[yA,fZ] at h;have h4':=h.2;have hpure: ∃sz' nl rows,x.ev σ1=.k (.c (.list sz' nl rows)):=by
   unfold zW pG at h4';split at h4'
   ·rename_i e
    split at e
    ·rename_i e2;exact⟨_,_,_,e2⟩
    ·cases e
   ·exact h4'.elim
  obtain⟨sz',nl,rows,hp⟩:=hpure;have hxe:x.ev σ=.k (.c (.list sz' nl rows)):=Rl.kc (m:=m) (τ:=τ) (by rw[<-hp];exact hx.1);obtain⟨e,u,w,h1,h2,h3,h4⟩:=uC (σ:=σ) (zqm sz (bd lo fun z hz=>hx.2 z (.inl hz)) (bd hi fun z hz=>hx.2 z (.inr hz)) hx.1) h.2;refine⟨e,u,w,h1,h2,h3,fun K' hk=>?_⟩;simp only[yA,fZ];exact⟨by rw[hxe];rfl,h4 K' hk⟩
 all_goals exact absurd hop (by simp[AOp.thru])
theorem Rl.undef {u:V} (h:Rl m τ u .undef):u=.undef:=by
 cases m with
 |true=>exact h.1.symm
 |false=>cases u<;>simp_all [Rl,V.scrub]
theorem Rl.undefI:Rl m τ .undef .undef:=by cases m<;>simp[Rl,V.scrub,V.noRef]
theorem zaZ {i:AI} {T:AOp->Bool} (hT: ∀op,T op=true->(∃e,op.dst=some e)/\((∀x,x∈op.xs->Rl m τ (x.ev σ) (x.ev σ1))-> ∀{K:St->Prop},yA P σ1 op K->mU m τ σ σ1 op.dst K fun K'=>yA P σ op K'))
  (hop:T i.op=true) (hx: ∀x,x∈i.xs->Rl m τ (x.ev σ) (x.ev σ1)) {K:St->Prop} (h:wpQ P i K σ1):
  mU m τ σ σ1 i.op.dst K fun K'=>wpQ P i K' σ:=by
 obtain⟨g,op⟩:=i;obtain⟨⟨e0,he0⟩,hT⟩:=hT op hop;have hT: ∀{K:St->Prop},yA P σ1 op K->mU m τ σ σ1 op.dst K fun K'=>yA P σ op K':=hT (fun x hx'=>hx x (by simp[AI.xs,hx']))
 cases g with
 |none=>exact hT h
 |some sw=>
  obtain⟨s,want⟩:=sw;have hs:Rl m τ (σ.t s) (σ1.t s):=hx (.t s) (by simp[AI.xs]);simp only[wpQ] at h;split at h
  ·rename_i b hb
   rw[hb] at hs;have hs':=hs.kc;by_cases hq:(b==want)=true
   ·obtain⟨e,u,w,h1,h2,h3,h4⟩:=hT (h.1 hq)
    refine⟨e,u,w,h1,h2,h3,fun K' hk=>?_⟩;simp only[wpQ,hs'];exact⟨fun _=>h4 K' hk,fun hn=>by rw[hq] at hn;simp at hn⟩
   ·have hq':(b==want)=false:=by simpa using hq
    have hk:=h.2 hq';simp only[he0,putD] at hk;refine⟨e0,.undef,.undef,he0,Rl.undefI,hk,fun K' hk'=>?_⟩;simp only[wpQ,hs',he0,putD];exact⟨fun hn=>absurd hn hq,fun _=>hk'⟩
  ·rename_i hb
   rw[hb] at hs;have hs':=hs.undef;simp only[he0,putD] at h;refine⟨e0,.undef,.undef,he0,Rl.undefI,h,fun K' hk'=>?_⟩;simp only[wpQ,hs',he0,putD];exact hk'
  ·exact h.elim
theorem zd7 {op:AOp} (h:op.thru=true): ∃e,op.dst=some e:=by cases op<;>first|exact⟨_,rfl⟩|simp[AOp.thru] at h
def AX.offL (d:Nat):AX->Bool
 | .t s=>s !=d
 | .v (.k (.c _))=>true
 | .v (.agg _)=>true
 |_=>false
def AOp.makes:AOp->Option (Nat×O)
 | .nilL d e sz=>some (d,.arr e sz (some true) [])
 | .alloc d e zero=>some (d,.var e (zero.map .c))
 | .bslice d e sz zero 0 []=>if zero.length=sz then some (d,.arr e sz (some false) []) else none
 |_=>none
def O.hand (d:Nat):O->V
 | .var _ _=> .k (.ptr d 0)
 | .arr _ _ _ _=> .k (.own d)
theorem zd8 {op:AOp} {d:Nat} {ob:O} (h:op.makes=some (d,ob)) (σ:St) (K:St->Prop):yA P σ op K ↔ (σ.Free d/\K (σ.new d ob (ob.hand d))):=by
 cases op<;>simp only[AOp.makes] at h
 case nilL=>simp only[Zh,Xd] at h;obtain⟨rfl,rfl⟩:=h;exact Xp
 case alloc=>simp only[Zh,Xd] at h;obtain⟨rfl,rfl⟩:=h;exact Xp
 case bslice d e sz zero len ps=>
  cases len with
  |succ=>simp at h
  |zero=>
   cases ps with
   |cons=>simp at h
   |nil=>
    simp only[] at h;split at h
    ·rename_i hz
     simp only[Zh,Xd] at h;obtain⟨rfl,rfl⟩:=h;simp only[yA,yC,oB,List.foldl_nil,Zt,List.replicate_zero,hz,false_implies,implies_true,true_and];exact Xp
    ·cases h
 all_goals cases h
def AOp.thruN (op:AOp):Bool:=op.thru||op.special
theorem za0 (d:Nat): ∀(r:V),r.fz.noRef d=true/\True
 | .k x=>⟨by cases x<;>rfl,trivial⟩
 | .agg r=>⟨rfl,trivial⟩
 | .agk r=>⟨by
   simp only[V.fz]
   cases e:pureRow (r.map Abs.K.fz) with
   |some cs=>rfl
   |none=>
    simp only[V.noRef,ZA,ZH]
    rintro x ⟨y,_,rfl⟩
    cases y<;>rfl,trivial⟩
 | .tup vs=>⟨by
   simp only[V.fz,V.noRef]
   have: ∀(l:List V),(∀v:V,v∈l->(v.fz.noRef d=true/\True))->V.noRefL d (V.fzL l)=true:=by
    intro l
    induction l with
    |nil=>intro _;rfl
    |cons v l ih=>intro h;simp only[V.fzL,V.noRefL,Zr];exact⟨(h v (by simp)).1,ih fun x hx=>h x (by simp[hx])⟩
   exact this vs fun v _=>za0 d v,trivial⟩
 | .undef=>⟨rfl,trivial⟩
 | .any=>⟨rfl,trivial⟩
theorem zd9 {d e:Nat} {f:FuncId} {xs:List AX} {cs:List C} (hx: ∀x,x∈xs->Rl true d (x.ev σ) (x.ev σ1)) (ho:OR true d σ.o σ1.o) {K:St->Prop} (h:nB P σ1 e f xs cs K):
  mU true d σ σ1 (some e) K fun K'=>nB P σ e f xs cs K':=by
 obtain⟨h1,h2,r,h3,h4,h5⟩:=h;have he: ∀x,x∈xs->x.ev σ1=x.ev σ:=fun x hm=>(hx x hm).1
 have hl: ∀x,x∈xs->(x.ev σ1).strip.1.lend σ1=(x.ev σ).strip.1.lend σ:=by
  intro x hm;have hn:=(hx x hm).2;rw[he x hm];simp only[V.strip];cases hv:x.ev σ with
  |k y=>
   rw[hv] at hn;cases y with
   |own s=>
    have hs:s≠d:=by simpa [V.noRef,Abs.K.noRef] using hn
    simp only[V.lend];rw[ho.eq s hs];cases σ.o s with
    |none=>rfl
    |some ob=>cases ob<;>rfl
   |_=>rfl
  |_=>rfl
 refine⟨e,r.fz,r.fz,rfl,⟨rfl,(za0 d r).1⟩,h5,fun K' hk=>⟨fun x hm=>rfl,fun x hm=>by rw[<-hl x hm];exact h2 x hm,r,?_,?_,hk⟩⟩
 ·have:xs.map (fun x=>((x.ev σ).strip.1.lend σ).norm)=xs.map (fun x=>((x.ev σ1).strip.1.lend σ1).norm):=Xj fun x hm=>by rw[hl x hm]
  rw[this];exact h3
 ·rcases h4 with h4|h4
  ·exact .inl h4
  ·exact .inr fun x hm=>by rw[<-he x hm];exact h4 x hm
theorem zea {d:Nat}: ∀{ps:List (Nat×AX)} (hx: ∀x,x∈ps.map (·.2)->Rl true d (x.ev σ) (x.ev σ1)) {k:List (Nat×List C)->Prop},uR σ1 ps k->uR σ ps k
 |[],_,k,h=>h
 |(i,x)::ps,hx,k,h=>by
  simp only[uR] at h⊢;have e:=(hx x (by simp)).1;rw[e] at h;refine⟨h.1,?_⟩;have h2:=h.2;split at h2
  ·exact zea (ps:=ps) (fun x hm=>hx x (by simp only[Zk,ZJ];exact .inr hm)) h2
  ·exact h2
theorem zeb: ∀{ps:List (Nat×AX)} {k:List (Nat×List C)->Prop},uR σ ps k-> ∃l,k l/\ ∀k':List (Nat×List C)->Prop,k' l->uR σ ps k'
 |[],k,h=>⟨[],h,fun _ h=>h⟩
 |(i,x)::ps,k,h=>by
  simp only[uR] at h⊢;obtain⟨h1,h⟩:=h;split at h
  ·obtain⟨l,hl,hall⟩:=zeb h
   exact⟨_,hl,fun k' hk=>⟨h1,hall _ hk⟩⟩
  ·exact h.elim
theorem zqo {d:Nat} {op:AOp} (hop:op.thruN=true) (hx: ∀x,x∈op.xs->Rl true d (x.ev σ) (x.ev σ1)) (ho:OR true d σ.o σ1.o) {K:St->Prop} (h:yA P σ1 op K):
  mU true d σ σ1 op.dst K fun K'=>yA P σ op K':=by
 by_cases ht:op.thru=true
 ·exact zaY ht hx ho h
 ·have hs:op.special=true:=by simpa [AOp.thruN,ht] using hop
  cases op
  case call dd f xs=>
   cases dd with
   |none=>simp[AOp.special] at hs
   |some dd=>exact zd9 hx ho h
  case callv dd x xs=>
   cases dd with
   |none=>simp[AOp.special] at hs
   |some dd=>
    simp only[yA] at h;have ex:=(hx x (by simp[AOp.xs])).1;rw[ex] at h;obtain⟨h1,h⟩:=h;have e2:(x.ev σ).strip.1=x.ev σ:=rfl;rw[e2] at h;split at h
    ·rename_i f cs hf
     obtain⟨e,u,w,g1,g2,g3,g4⟩:=zd9 (fun x hm=>hx x (by simp[AOp.xs,hm])) ho h;refine⟨e,u,w,g1,g2,g3,fun K' hk=>?_⟩;simp only[yA];refine⟨h1,?_⟩;rw[e2,hf];exact g4 K' hk
    ·exact h.elim
  case bslice dd e sz zero len ps=>
   cases len with
   |zero=>simp[AOp.special] at hs
   |succ len=>
    simp only[yA] at h;obtain⟨l,hl,hall⟩:=zeb (zea hx h);refine⟨dd,_,_,rfl,⟨rfl,rfl⟩,hl.2.2,fun K' hk=>?_⟩;simp only[yA];exact hall _ ⟨hl.1,hl.2.1,hk⟩
  case slice=>simp[AOp.thru] at ht
  all_goals exact absurd hs (by simp[AOp.special])
theorem zqp {op:AOp} (h:op.thruN=true): ∃e,op.dst=some e:=by
 cases op
 case call d f xs=>cases d<;>first|exact⟨_,rfl⟩|simp[AOp.thruN,AOp.thru,AOp.special] at h
 case callv d f xs=>cases d<;>first|exact⟨_,rfl⟩|simp[AOp.thruN,AOp.thru,AOp.special] at h
 all_goals first|exact⟨_,rfl⟩|simp[AOp.thruN,AOp.thru,AOp.special] at h
theorem zec {d:Nat} {ob:O} {v:V} (hf:σ.Free d) {x:AX} (hx:x.offL d=true):Rl true d (x.ev σ) (x.ev (σ.new d ob v)):=by
 cases x with
 |t s=>
  have hs:s≠d:=by simpa [AX.offL] using hx
  refine⟨?_,hf.1 s hs⟩;simp[AX.ev,St.new,St.put,St.setO,hs]
 |v y=>
  refine⟨rfl,?_⟩
  match y,hx with
  | .k (.c _),_=>rfl
  | .agg _,_=>rfl
theorem zed {d:Nat} {ob:O} {v:V} (hf:σ.Free d):OR true d σ.o (σ.new d ob v).o:=by
 refine⟨fun s hs=>?_,fun _ s ob hs h=>hf.2 s ob h hs⟩;have e:(σ.new d ob v).o s=σ.o s:=by simp[St.new,St.put,St.setO,hs]
 rw[e];cases h:σ.o s with
 |none=>rfl
 |some x=>
  have:=hf.2 s x h hs;cases x with
  |arr=>rfl
  |var e row=>
   simp only[Option.map,O.scrub];rw[eA (by simpa only[O.noRef] using this)]
theorem zee {d e:Nat} {ob:O} {v u:V} (h:e≠d):(σ.put e u).new d ob v=(σ.new d ob v).put e u:=by
 simp only[St.new,St.put,St.setO,St.mk.injEq,and_true];funext s;by_cases h1:s=d
 ·subst h1;simp[Ne.symm h]
 ·simp[h1]
theorem zef {d e:Nat} {u:V} (hf:σ.Free d) (hu:u.noRef d=true):(σ.put e u).Free d:=by
 refine⟨fun s hs=>?_,hf.2⟩;simp only[St.put];split
 ·exact hu
 ·exact hf.1 s hs
theorem zqq {j:AI} {op:AOp} {d:Nat} {ob:O} (hm:op.makes=some (d,ob)) (hj:j.op.thruN=true) (hd:j.op.dst≠some d) (hx: ∀x,x∈j.xs->x.offL d=true) {K:St->Prop}
  (h:wpQ P ⟨none,op⟩ (wpQ P j K) σ):wpQ P j (wpQ P ⟨none,op⟩ K) σ:=by
 obtain⟨hf,h⟩:=(zd8 hm σ _).1 h;obtain⟨e,u,w,he,hr,hk,hall⟩:=zaZ (m:=true) (τ:=d) (σ:=σ) (P:=P) (i:=j) (T:=AOp.thruN) (fun op hop=>⟨zqp hop,fun hx {K} h=>zqo hop hx (zed hf) h⟩) hj (fun x hm=>zec hf (hx x hm)) h;obtain⟨rfl,hu⟩:=hr;refine hall _ ((zd8 hm _ _).2 ⟨zef hf hu,?_⟩);have hne:e≠d:=fun h=>hd (by rw[he,h])
 rw[zee hne];exact hk
theorem zeg {e:Nat} {u:V} {t sz:Nat} {y:AX} (hy:y.off e=true) (k:List (List C)->Prop):yC.srcP (σ.put e u) t sz y k=yC.srcP σ t sz y k:=by
 simp only[yC.srcP,wD hy];rfl
theorem zqr {d:Nat} {ob:O} {v:V} {x:AX} (hx:x.offL d=true):Rl false τ (x.ev σ) (x.ev (((σ.scrub τ).setO τ ob).put d v)):=by
 cases x with
 |t s=>
  have hs:s≠d:=by simpa [AX.offL] using hx
  simp[Rl,AX.ev,St.put,St.setO,St.scrub,hs]
 |v y=>
  match y,hx with
  | .k (.c _),_=>rfl
  | .agg _,_=>rfl
theorem zqs {d:Nat} {ob:O} {v:V}:OR false τ σ.o (((σ.scrub τ).setO τ ob).put d v).o:=by
 refine⟨fun s hs=>?_,fun h=>by cases h⟩;simp[St.put,St.setO,St.scrub,hs]
def za1 (σ:St) (d t sz bytes:Nat) (K:St->Prop) (v:V) (ys:List (List C)):Prop:=
 match v with
 | .k (.own τ)=>
   match σ.o τ with
   |some (.arr e' sz' nl xs)=>e'=t/\sz'=sz/\xs.length+ys.length<=9223372036854775807/\(xs.length+ys.length)*bytes<=140737488355328/\
     K (((σ.scrub τ).setO τ (.arr t sz (nlApp nl ys) (xs++ys))).put d (.k (.own τ)))
   |_=>False
 | .k (.c (.list _ (some true) []))=>σ.Free d/\ys.length<=9223372036854775807/\ys.length*bytes<=140737488355328/\
       K (σ.new d (.arr t sz (nlApp (some true) ys) ys) (.k (.own d)))
 |_=>False
theorem za2 {d t sz bytes:Nat} {x y:AX} {σ:St} {K:St->Prop}:wpQ P ⟨none,.append d t sz bytes x y⟩ K σ=yC.srcP σ t sz y fun ys=>za1 σ d t sz bytes K (x.ev σ) ys:=by
 show yC P σ (.append d t sz bytes x y) K=_;simp only[yC,xZ];rfl
theorem zqt {t sz:Nat} {y:AX} {k:List (List C)->Prop} (h:yC.srcP σ t sz y k): ∃ys,(∀k:List (List C)->Prop,k ys->yC.srcP σ t sz y k)/\k ys:=by
 simp only[yC.srcP,xZ] at h⊢;split at h
 ·exact⟨_,fun k hk=>⟨h.1,hk⟩,h.2⟩
 ·split at h
  ·exact⟨_,fun k hk=>⟨h.1,hk⟩,h.2⟩
  ·exact h.elim
 ·exact h.elim
theorem zqu {j:AI} {d t sz bytes:Nat} {x y:AX} (hj:j.op.thru=true) (hd:j.op.dst≠some d) (hx: ∀x,x∈j.xs->x.offL d=true) (hxe: ∀e,j.op.dst=some e->x.off e=true/\y.off e=true) {K:St->Prop}
  (h:wpQ P ⟨none,.append d t sz bytes x y⟩ (wpQ P j K) σ):wpQ P j (wpQ P ⟨none,.append d t sz bytes x y⟩ K) σ:=by
 rw[za2] at h;obtain⟨ys,hs,h⟩:=zqt h;unfold za1 at h;split at h
 ·rename_i τ hxv
  split at h
  ·rename_i e' sz' nl xs hob
   obtain⟨rfl,rfl,h1,h2,h⟩:=h;obtain⟨e,u,w,he,hr,hk,hall⟩:=zaZ (m:=false) (τ:=τ) (σ:=σ) (P:=P) (i:=j) (T:=AOp.thru) (fun op hop=>⟨zd7 hop,fun hx {K} h=>zaY hop hx zqs h⟩) hj (fun x hm=>zqr (hx x hm)) h;refine hall _ ?_;obtain⟨ox,oy⟩:=hxe e he;have hne:e≠d:=fun h=>hd (by rw[he,h])
   rw[za2,zeg oy];refine hs _ ?_;rw[qL ox,hxv];unfold za1;simp only[];have hob':(σ.put e u).o τ=some (.arr e' sz' nl xs):=hob;rw[hob'];refine⟨rfl,rfl,h1,h2,?_⟩;have e3:(((σ.put e u).scrub τ).setO τ (.arr e' sz' (nlApp nl ys) (xs++ys))).put d (.k (.own τ))=(((σ.scrub τ).setO τ (.arr e' sz' (nlApp nl ys) (xs++ys))).put d (.k (.own τ))).put e w:=by
    have hw:w=u.scrub τ:=hr;subst hw;simp only[St.put,St.setO,St.scrub,St.mk.injEq,and_true];funext s;by_cases h1:s=e
    ·subst h1;simp[hne]
    ·simp[h1]
   rw[e3];exact hk
  ·exact h.elim
 ·rename_i a hxv
  obtain⟨hf,h1,h2,h⟩:=h;obtain⟨e,u,w,he,hr,hk,hall⟩:=zaZ (m:=true) (τ:=d) (σ:=σ) (P:=P) (i:=j) (T:=AOp.thru) (fun op hop=>⟨zd7 hop,fun hx {K} h=>zaY hop hx (zed hf) h⟩) hj (fun x hm=>zec hf (hx x hm)) h;obtain⟨rfl,hu⟩:=hr;refine hall _ ?_;obtain⟨ox,oy⟩:=hxe e he;have hne:e≠d:=fun h=>hd (by rw[he,h])
  rw[za2,zeg oy];refine hs _ ?_;rw[qL ox,hxv];refine⟨zef hf hu,h1,h2,?_⟩;rw[zee hne];exact hk
 ·exact h.elim
def za3 (i j:AI):Bool:=i.g.isNone&&match i.op.makes with
 |some (d,_)=>j.op.thruN&&j.op.dst !=some d&&j.xs.all (AX.offL d)
 |none=>match i.op with
  | .append d _ _ _ x y=>j.op.thru&&j.op.dst !=some d&&j.xs.all (AX.offL d)&&(match j.op.dst with|some e=>x.off e&&y.off e|none=>false)
  |_=>false
theorem zqv {i j:AI} (hij:za3 i j=true) {K:St->Prop} (h:wpQ P i (wpQ P j K) σ):wpQ P j (wpQ P i K) σ:=by
 obtain⟨g,op⟩:=i;simp only[za3,Zr] at hij;obtain⟨hg,hij⟩:=hij;cases g with
 |some=>simp at hg
 |none=>
  cases hm:op.makes with
  |some p=>
   obtain⟨d,ob⟩:=p;rw[hm] at hij;simp only[Zr,bne_iff_ne,ZA] at hij;exact zqq hm hij.1.1 hij.1.2 hij.2 h
  |none=>
   rw[hm] at hij;cases op
   case append d t sz bytes x y=>
    simp only[Zr,bne_iff_ne,ZA] at hij;refine zqu hij.1.1.1 hij.1.1.2 hij.1.2 (fun e he=>?_) h;have:=hij.2;rw[he] at this;simpa using this
   all_goals exact absurd hij (by simp)
end
def AOp.plainQ (op:AOp):Bool:=op.special||op.plain
section
variable {P : Program} {σ : St} {d : Nat} {v : V}
def eJ (F:St->(St->Prop)->Prop) (xs:List AX) (e:Nat) (σ:St) (K:St->Prop):Prop:=
 ∃u,K (σ.put e u)/\(∀K':St->Prop,K' (σ.put e u)->F σ K')/\
  ∀(d:Nat) (v:V),(∀x,x∈xs->x.off d=true)-> ∀K':St->Prop,K' ((σ.put d v).put e u)->F (σ.put d v) K'
theorem zeh {e:Nat} {f:FuncId} {xs:List AX} {cs:List C} {K:St->Prop} (h:nB P σ e f xs cs K):eJ (fun σ K=>nB P σ e f xs cs K) xs e σ K:=by
 obtain⟨h1,h2,r,h3,h4,h5⟩:=h;refine⟨r.fz,h5,fun K' hk=>⟨h1,h2,r,h3,h4,hk⟩,fun d v hx K' hk=>?_⟩;have he: ∀x∈xs,x.ev (σ.put d v)=x.ev σ:=fun x hm=>qL (hx x hm)
 refine⟨fun x hm=>by rw[he x hm];exact h1 x hm,fun x hm=>by rw[he x hm];exact h2 x hm,r,?_,?_,hk⟩
 ·have:xs.map (fun x=>((x.ev (σ.put d v)).strip.1.lend (σ.put d v)).norm)=xs.map (fun x=>((x.ev σ).strip.1.lend σ).norm):=
   Xj fun x hm=>by rw[he x hm];rfl
  rw[this];exact h3
 ·rcases h4 with h4|h4
  ·exact .inl h4
  ·exact .inr fun x hm=>by rw[he x hm];exact h4 x hm
theorem zei: ∀{ps:List (Nat×AX)} {k:List (Nat×List C)->Prop},uR σ ps k-> ∃l,k l/\(∀k':List (Nat×List C)->Prop,k' l->uR σ ps k')
 |[],k,h=>⟨[],h,fun _ h=>h⟩
 |(i,x)::ps,k,h=>by
  simp only[uR] at h⊢;obtain⟨h1,h⟩:=h;split at h
  ·rename_i r hr
   obtain⟨l,hl,hall⟩:=zei h;exact⟨_,hl,fun k' hk=>⟨h1,hall (fun l=>k' ((i,r)::l)) hk⟩⟩
  ·exact h.elim
theorem zej: ∀{ps:List (Nat×AX)} {k:List (Nat×List C)->Prop},(∀x,x∈ps.map (·.2)->x.off d=true)->uR (σ.put d v) ps k=uR σ ps k
 |[],k,_=>rfl
 |(i,x)::ps,k,h=>by
  have hx:=h x (by simp);have ih:=fun k=>zej (ps:=ps) (k:=k) (fun x hx=>h x (by simp at hx⊢;exact .inr hx))
  simp only[uR,qL hx,ih]
theorem zqw {op:AOp} (hp:op.plain=true) {K:St->Prop} (h:yC P σ op K): ∃e,op.dst=some e/\eJ (fun σ K=>yC P σ op K) op.xs e σ K:=by
 rw[vD hp] at h;obtain⟨e,u,hd,hk,hall⟩:=zaA h;refine⟨e,hd,u,hk,fun K' hk'=>by show yC P σ op K';rw[vD hp];exact hall _ hk',fun d v hx K' hk'=>?_⟩;show yC P (σ.put d v) op K';rw[vD hp,zdW hx];exact hall _ hk'
theorem eK {op:AOp} (h:op.special=false):(fun(σ:St) (K:St->Prop)=>yA P σ op K)=fun σ K=>yC P σ op K:=by
 cases op
 case call d f xs=>cases d with
  |none=>rfl
  |some d=>simp[AOp.special] at h
 case callv d x xs=>cases d with
  |none=>rfl
  |some d=>simp[AOp.special] at h
 case bslice d e sz zero len ps=>cases len with
  |zero=>rfl
  |succ n=>simp[AOp.special] at h
 case slice=>simp[AOp.special] at h
 all_goals rfl
theorem za4 {op:AOp} (hp:op.plainQ=true) {K:St->Prop} (h:yA P σ op K): ∃e,op.dst=some e/\eJ (fun σ K=>yA P σ op K) op.xs e σ K:=by
 by_cases hs:op.special=true
 case neg=>
  have hs':op.special=false:=by simpa using hs
  have hp':op.plain=true:=by simpa [AOp.plainQ,hs'] using hp
  have he:=eK (P:=P) hs';have h':yC P σ op K:=by rw[<-congrFun (congrFun he σ) K];exact h
  rw[he];exact zqw hp' h'
 cases op
 case call d f xs=>
  cases d with
  |none=>simp[AOp.special] at hs
  |some d=>exact⟨d,rfl,zeh h⟩
 case callv d x xs=>
  cases d with
  |none=>simp[AOp.special] at hs
  |some d=>
   refine⟨d,rfl,?_⟩;simp only[yA] at h;obtain⟨h1,h⟩:=h;split at h
   ·rename_i f cs hf
    obtain⟨u,hk,a1,a2⟩:=zeh h;refine⟨u,hk,fun K' hk'=>?_,fun d' v hx K' hk'=>?_⟩
    ·simp only[yA,hf];exact⟨h1,a1 K' hk'⟩
    ·have hx0:x.ev (σ.put d' v)=x.ev σ:=qL (hx x (by simp[AOp.xs]))
     simp only[yA,hx0,hf];exact⟨h1,a2 d' v (fun y hy=>hx y (by simp[AOp.xs,hy])) K' hk'⟩
   ·exact h.elim
 case slice d sz x lo hi=>
  refine⟨d,rfl,?_⟩;simp only[yA] at h;obtain⟨h1,h⟩:=h;obtain⟨e,u,hd,hk,hall⟩:=zaA h;cases hd;refine⟨u,hk,fun K' hk'=>⟨h1,hall _ hk'⟩,fun d' v hx K' hk'=>?_⟩;have hx0:x.ev (σ.put d' v)=x.ev σ:=qL (hx x (by simp[AOp.xs]));simp only[yA,hx0];refine⟨h1,?_⟩;rw[zdW hx];exact hall _ hk'
 case bslice d e sz zero len ps=>
  cases len with
  |zero=>simp[AOp.special] at hs
  |succ len=>
   refine⟨d,rfl,?_⟩;simp only[yA] at h;obtain⟨l,hl,hall⟩:=zei h;refine⟨_,hl.2.2,fun K' hk'=>?_,fun d' v hx K' hk'=>?_⟩
   ·simp only[yA];exact hall _ ⟨hl.1,hl.2.1,hk'⟩
   ·simp only[yA]
    rw[zej hx];exact hall _ ⟨hl.1,hl.2.1,hk'⟩
 all_goals exact absurd hs (by simp[AOp.special])
theorem zqx {op:AOp} (hp:op.plainQ=true): ∃e,op.dst=some e:=by
 cases op
 case call d f xs=>cases d<;>first|exact⟨_,rfl⟩|simp[AOp.plainQ,AOp.special,AOp.plain] at hp
 case callv d x xs=>cases d<;>first|exact⟨_,rfl⟩|simp[AOp.plainQ,AOp.special,AOp.plain] at hp
 all_goals first|exact⟨_,rfl⟩|simp[AOp.plainQ,AOp.special,AOp.plain] at hp
theorem zek {i:AI} (hp:i.op.plainQ=true) {K:St->Prop} (h:wpQ P i K σ): ∃e,i.op.dst=some e/\eJ (fun σ K=>wpQ P i K σ) i.xs e σ K:=by
 obtain⟨g,op⟩:=i;cases g with
 |none=>
  obtain⟨e,hd,u,hk,h1,h2⟩:=za4 hp h;exact⟨e,hd,u,hk,h1,fun d v hx K' hk'=>h2 d v (fun x hx'=>hx x (by simp[AI.xs,hx'])) K' hk'⟩
 |some sw=>
  obtain⟨s,want⟩:=sw;obtain⟨e0,he0⟩:=zqx hp;have hsd: ∀(d:Nat) (v:V),(∀x,x∈AI.xs ⟨some (s,want),op⟩->x.off d=true)->(σ.put d v).t s=σ.t s:=by
   intro d v hx;have:=hx (.t s) (by simp[AI.xs]);exact qL (σ:=σ) (v:=v) this
  have hop: ∀(d:Nat),(∀x,x∈AI.xs ⟨some (s,want),op⟩->x.off d=true)-> ∀x,x∈op.xs->x.off d=true:=fun d hx x hx'=>hx x (by simp[AI.xs,hx'])
  simp only[wpQ] at h;split at h
  ·rename_i b hb
   by_cases hq:(b==want)=true
   ·obtain⟨e,hd,u,hk,h1,h2⟩:=za4 hp (h.1 hq)
    refine⟨e,hd,u,hk,fun K' hk'=>?_,fun d v hx K' hk'=>?_⟩
    ·simp only[wpQ,hb]
     exact⟨fun _=>h1 K' hk',fun hn=>by rw[hq] at hn;simp at hn⟩
    ·simp only[wpQ,hsd d v hx,hb]
     exact⟨fun _=>h2 d v (hop d hx) K' hk',fun hn=>by rw[hq] at hn;simp at hn⟩
   ·have hq':(b==want)=false:=by simpa using hq
    have hk:=h.2 hq';simp only[he0,putD] at hk;refine⟨e0,he0,.undef,hk,fun K' hk'=>?_,fun d v hx K' hk'=>?_⟩
    ·simp only[wpQ,hb,he0,putD]
     exact⟨fun hn=>absurd hn hq,fun _=>hk'⟩
    ·simp only[wpQ,hsd d v hx,hb,he0,putD]
     exact⟨fun hn=>absurd hn hq,fun _=>hk'⟩
  ·rename_i hb
   simp only[he0,putD] at h;refine⟨e0,he0,.undef,h,fun K' hk'=>?_,fun d v hx K' hk'=>?_⟩
   ·simp only[wpQ,hb,he0,putD];exact hk'
   ·simp only[wpQ,hsd d v hx,hb,he0,putD];exact hk'
  ·exact h.elim
theorem zqy {d:Nat} {v u:V}:(σ.put d v).put d u=σ.put d u:=by
 simp only[St.put,St.mk.injEq,and_true];funext s;by_cases h:s=d<;>simp[h]
theorem zqz {d:Nat}:σ.put d (σ.t d)=σ:=by
 have:(fun s=>if s=d then σ.t d else σ.t s)=σ.t:=by
  funext s;by_cases h:s=d<;>simp[h]
 simp only[St.put,this]
def za5 (i j:AI):Bool:=i.op.plainQ&&j.op.plainQ&&match i.op.dst,j.op.dst with
 |some d,some e=>d !=e&&j.xs.all (AX.off d)&&i.xs.all (AX.off e)
 |_,_=>false
theorem zqA {i j:AI} (hij:za5 i j=true) {K:St->Prop} (h:wpQ P i (wpQ P j K) σ):wpQ P j (wpQ P i K) σ:=by
 simp only[za5,Zr] at hij;obtain⟨⟨pi,pj⟩,hij⟩:=hij;obtain⟨d,hd,u,hk,_,i2⟩:=zek pi h;obtain⟨e,he,u',hk',_,j2⟩:=zek pj hk;rw[hd,he] at hij;simp only[Zr,ZA,bne_iff_ne] at hij;obtain⟨⟨hne,hxj⟩,hxi⟩:=hij;have j3:=j2 d (σ.t d) hxj;simp only[zqy,zqz] at j3;refine j3 _ ?_;refine i2 e u' hxi K ?_;rw[zpR (Ne.symm hne)];exact hk'
def mV (i j:AI):Bool:=za5 i j||za3 i j
theorem swap {i j:AI} (hij:mV i j=true) {K:St->Prop} (h:wpQ P i (wpQ P j K) σ):wpQ P j (wpQ P i K) σ:=by
 simp only[mV,Yp] at hij;rcases hij with hij|hij
 ·exact zqA hij h
 ·exact zqv hij h
def yO (P:Program):List AI->(St->Prop)->St->Prop
 |[],K,σ=>K σ
 |i::l,K,σ=>wpQ P i (yO P l K) σ
theorem zel {x:AX} {K K':St->List C->Prop} (hk: ∀σ l,K σ l->K' σ l) (h:nA σ x K):nA σ x K':=by
 unfold nA at h⊢;refine⟨h.1,h.2.1,?_⟩;have h2:=h.2.2;split at h2
 ·exact hk _ _ h2
 ·exact h2.elim
theorem zem: ∀{ps:List (Nat×AX)} {σ:St} {K K':St->List (Nat×List C)->Prop},(∀σ l,K σ l->K' σ l)->oB σ ps K->oB σ ps K'
 |[],σ,K,K',hk,h=>hk _ _ h
 |(i,x)::ps,σ,K,K',hk,h=>zel (fun σ1 r h=>zem (fun σ2 l h=>hk _ _ h) h) h
theorem zen {d:Option Nat} {f:FuncId} {xs:List AX} {cs:List C} {K K':St->Prop} (hk: ∀σ,K σ->K' σ) (h:mO P σ d f xs cs K):mO P σ d f xs cs K':=by
 obtain⟨h1,h2,S,h3,h4⟩:=h;refine⟨h1,h2,S,h3,fun r hr=>?_⟩;have:=h4 r hr;split at this
 ·rename_i hs;rw[if_pos hs];exact hk _ this
 ·rename_i hs
  rw[if_neg hs];cases d with
  |none=>exact hk _ this
  |some d=>exact⟨this.1,hk _ this.2⟩
theorem zeo {d:Option Nat} {f:FuncId} {xs:List AX} {caps:List Cap} {K K':St->Prop} (hk: ∀σ,K σ->K' σ) (h:kA P σ d f xs caps K):kA P σ d f xs caps K':=by
 obtain⟨T,A,dead,S,h1,h0,h2,h3,h4,h5⟩:=h;exact⟨T,A,dead,S,h1,h0,h2,h3,h4,fun r o' hr=>let ⟨a,b,c,e⟩:=h5 r o' hr;⟨a,b,c,hk _ e⟩⟩
theorem zep {op:AOp} {k k':Nat->V->Prop} (hk: ∀d v,k d v->k' d v) (h:zA σ true op k):zA σ true op k':=by
 obtain⟨d,v,_,h1,h2⟩:=zaA h;exact h2 k' (hk _ _ h1)
set_option maxHeartbeats 400000 in
theorem za6 {op:AOp} {K K':St->Prop} (hk: ∀σ,K σ->K' σ) (h:yC P σ op K):yC P σ op K':=by
 cases op
 case nilL=>exact⟨h.1,hk _ h.2⟩
 case alloc=>exact⟨h.1,hk _ h.2⟩
 case box d e x=>
  simp only[yC,AX.evg] at h⊢;refine⟨h.1,?_⟩;have h2:=h.2;generalize (AX.ev σ x).strip.1.cells=cs at h2⊢;cases cs with
  |some ks=>exact⟨h2.1,h2.2.1,hk _ h2.2.2⟩
  |none=>exact h2.elim
 case bslice=>exact zem (fun σ l h=>⟨h.1,h.2.1,h.2.2.1,hk _ h.2.2.2⟩) h
 case store n x y=>
  simp only[yC,AX.evg] at h⊢;refine⟨h.1,?_⟩;have h2:=h.2;generalize (AX.ev σ x).strip.1=v at h2⊢;split at h2
  ·split at h2
   ·refine⟨h2.1,?_⟩
    have h3:=h2.2;generalize (AX.ev σ y).strip.1=u at h3⊢;generalize u.cells=cs at h3⊢;cases cs with
    |some ks=>exact⟨h3.1,h3.2.1,hk _ h3.2.2⟩
    |none=>exact h3.elim
   ·exact h2.elim
  ·refine zel (fun σ1 r h3=>?_) h2
   refine⟨h3.1,?_⟩;have h4:=h3.2;generalize (AX.ev σ1 x).strip.1=v at h4⊢;split at h4
   ·split at h4
    ·exact⟨h4.1,h4.2.1,hk _ h4.2.2⟩
    ·exact h4.elim
   ·exact h4.elim
  ·exact h2.elim
 case mkslice d e sz bytes zero l c=>
  simp only[yC,AX.evg] at h⊢;refine⟨h.1,h.2.1,?_⟩;have h2:=h.2.2;generalize (AX.ev σ l).strip.1=v at h2⊢;generalize (AX.ev σ c).strip.1=u at h2⊢;split at h2
  ·exact⟨h2.1,h2.2.1,h2.2.2.1,h2.2.2.2.1,h2.2.2.2.2.1,h2.2.2.2.2.2.1,hk _ h2.2.2.2.2.2.2⟩
  ·exact h2.elim
 case slice d sz x lo hi=>
  simp only[yC] at h⊢;exact zep (fun d v h=>hk _ h) h
 case append d e sz bytes x y=>
  simp only[yC,yC.srcP,AX.evg] at h⊢;refine⟨h.1,h.2.1,?_⟩;have h2:=h.2.2;generalize (AX.ev σ x).strip.1=v at h2⊢;generalize (AX.ev σ y).strip.1=u at h2⊢;split at h2
  ·refine⟨h2.1,?_⟩
   have h3:=h2.2;split at h3
   ·split at h3
    ·exact⟨h3.1,h3.2.1,h3.2.2.1,h3.2.2.2.1,hk _ h3.2.2.2.2⟩
    ·exact h3.elim
   ·exact⟨h3.1,h3.2.1,h3.2.2.1,hk _ h3.2.2.2⟩
   ·exact h3.elim
  ·split at h2
   ·refine⟨h2.1,?_⟩
    have h3:=h2.2;split at h3
    ·split at h3
     ·exact⟨h3.1,h3.2.1,h3.2.2.1,h3.2.2.2.1,hk _ h3.2.2.2.2⟩
     ·exact h3.elim
    ·exact⟨h3.1,h3.2.1,h3.2.2.1,hk _ h3.2.2.2⟩
    ·exact h3.elim
   ·exact h2.elim
  ·exact h2.elim
 case cap d x=>
  simp only[yC,AX.evg] at h⊢;refine⟨h.1,?_⟩;have h2:=h.2;generalize (AX.ev σ x).strip.1=v at h2⊢;split at h2
  ·exact fun c h3 h4=>hk _ (h2 c h3 h4)
  ·exact h2.elim
 case call=>exact h.imp (zen hk) (zeo hk)
 case callv d x xs=>
  simp only[yC] at h⊢;rcases h with⟨f,caps,h1,h2⟩|h
  ·exact .inl ⟨f,caps,h1,zeo hk h2⟩
  refine .inr ⟨h.1,?_⟩;have h2:=h.2;generalize σ.frzs ((AX.ev σ x).strip.1.toks++xs.flatMap fun x=>(AX.ev σ x).strip.1.hard)=σ' at h2⊢;generalize (AX.ev σ' x).strip.1=v at h2⊢;split at h2
  ·exact zen hk h2
  ·exact h2.elim
 all_goals
  rw[vD rfl] at h⊢;exact zep (fun d v h=>hk _ h) h
theorem zeq {op:AOp} {K K':St->Prop} (hk: ∀σ,K σ->K' σ) (h:yA P σ op K):yA P σ op K':=by
 by_cases hp:op.special=true
 ·obtain⟨e,_,u,h1,h2,_⟩:=za4 (by simp[AOp.plainQ,hp]) h
  exact h2 _ (hk _ h1)
 ·have he:=eK (P:=P) (op:=op) (by simpa using hp)
  rw[congrFun (congrFun he σ) K] at h;rw[congrFun (congrFun he σ) K'];exact za6 hk h
theorem pH {i:AI} {K K':St->Prop} (hk: ∀σ,K σ->K' σ) (h:wpQ P i K σ):wpQ P i K' σ:=by
 obtain⟨g,op⟩:=i;cases g with
 |none=>exact zeq hk h
 |some sw=>
  obtain⟨s,want⟩:=sw;simp only[wpQ] at h⊢;split at h
  ·rename_i hb;exact⟨fun hq=>zeq hk (h.1 hq),fun hq=>hk _ (h.2 hq)⟩
  ·exact hk _ h
  ·exact h.elim
end
def oC (acc:List Nat):List (List Nat)->List Nat
 |[]=>acc
 |p::ps=>oC (acc++[p.foldl (fun m j=>m|||(1<<<j|||acc.getD j 0)) 0]) ps
def rQ (pre:List (List Nat)) (T:List Nat) (k:Nat):Bool:=(pre.getD k []).all fun e=> !T.contains e
def zer (ais:List AI) (anc:List Nat) (T:List Nat) (i:Nat):Bool:=
 T.all fun j=>j==i||mV (ais.getD i default) (ais.getD j default)||(anc.getD j 0).testBit i
def mkT (ais:List AI) (pre:List (List Nat)) (anc:List Nat):Nat->List Nat->DT
 |0,T=>if T.isEmpty then .done else .fail
 |f+1,T=>
  if T.isEmpty then .done else
  match (T.filter (rQ pre T)).find? (zer ais anc T) with
  |some i=> .one (ais.getD i default) (mkT ais pre anc f (T.filter fun k=>k !=i))
  |none=>(T.filter (rQ pre T)).foldr (fun i t=> .alt (.one (ais.getD i default) (mkT ais pre anc f (T.filter fun k=>k !=i))) t) .top
section
variable {P : Program} {ais : List AI} {pre : List (List Nat)} {anc : List Nat}
inductive Valid (pre:List (List Nat)):List Nat->List Nat->Prop where
 |nil:Valid pre [] []
 |cons {T l:List Nat} {i:Nat}:i∈T->rQ pre T i=true->Valid pre (T.filter fun k=>k !=i) l->Valid pre T (i::l)
inductive Reach (pre:List (List Nat)):Nat->Nat->Prop where
 |here {k i:Nat}:i∈pre.getD k []->Reach pre k i
 |there {k j i:Nat}:j∈pre.getD k []->Reach pre j i->Reach pre k i
theorem Reach.trans {k j i:Nat} (h:Reach pre k j) (h2:Reach pre j i):Reach pre k i:=by
 induction h with
 |here hm=>exact .there hm h2
 |there hm _ ih=>exact .there hm (ih h2)
def kB (pre:List (List Nat)) (anc:List Nat):Prop:= ∀k i,(anc.getD k 0).testBit i=true->Reach pre k i
theorem zes {acc:List Nat}: ∀(p:List Nat) (m:Nat) {x:Nat},(p.foldl (fun m j=>m|||(1<<<j|||acc.getD j 0)) m).testBit x=true->m.testBit x=true\/ ∃j∈p,x=j\/(acc.getD j 0).testBit x=true
 |[],m,x,h=> .inl h
 |j::p,m,x,h=>by
  simp only[YU] at h;rcases zes p _ h with h|⟨j',hj,h⟩
  ·rw[Nat.testBit_or,Nat.testBit_or,XW,Nat.testBit_two_pow,Yp,Yp,decide_eq_true_eq] at h
   rcases h with h|h|h
   ·exact .inl h
   ·exact .inr ⟨j,Yj,.inl h.symm⟩
   ·exact .inr ⟨j,Yj,.inr h⟩
  ·exact .inr ⟨j',Zy _ hj,h⟩
theorem iB: ∀(ps:List (List Nat)) (acc:List Nat) (done:List (List Nat)),pre=done++ps->acc.length=done.length->kB pre acc->kB pre (oC acc ps)
 |[],acc,done,_,_,h=>h
 |p::ps,acc,done,hp,hl,h=>by
  simp only[oC];refine iB ps _ (done++[p]) (by simp[hp]) (by simp[hl]) (fun k i hi=>?_);by_cases hk:k<acc.length
  ·rw[Zi,ZL hk,<-Zi] at hi
   exact h k i hi
  ·by_cases hk2:k=acc.length
   ·subst hk2
    rw[Zi,ZM (Zw _)] at hi;simp only[Xi,List.getElem?_cons_zero,YZ] at hi;have hpk:pre.getD acc.length []=p:=by rw[hp,hl];simp[Zi]
    rcases zes p 0 hi with hi|⟨j,hj,hi⟩
    ·simp at hi
    ·rcases hi with rfl|hi
     ·exact .here (by rw[hpk];exact hj)
     ·exact .there (by rw[hpk];exact hj) (h j i hi)
   ·rw[Zi,ZM (by omega)] at hi
    have:k-acc.length≠0:=by omega
    obtain⟨m,hm⟩:=Nat.exists_eq_succ_of_ne_zero this;rw[hm] at hi;simp at hi
def rR (pre:List (List Nat)) (N T:List Nat):Prop:= ∀k,k∈N->k ∉ T-> ∀e,e∈pre.getD k []->e ∉ T
theorem Reach.gone {N T:List Nat} (hc:rR pre N T) (hN: ∀k e,e∈pre.getD k []->e∈N) {k i:Nat} (hr:Reach pre k i) (hk: ∀e,e∈pre.getD k []->e ∉ T):i ∉ T:=by
 induction hr with
 |here hm=>exact hk _ hm
 |there hm _ ih=>exact ih (hc _ (hN _ _ hm) (hk _ hm))
theorem qM {T:List Nat} {k:Nat}:rQ pre T k=true ↔ ∀e,e∈pre.getD k []->e ∉ T:=by
 simp[rQ]
theorem tK {T:List Nat} {i k:Nat}:k∈T.filter (fun k=>k !=i) ↔ k∈T/\k≠i:=by simp
theorem za7 {T:List Nat} {i k:Nat} (h:rQ pre T k=true):rQ pre (T.filter fun k=>k !=i) k=true:=by
 rw[qM] at h⊢;exact fun e he hm=>h e he (tK.1 hm).1
theorem rR.out {N T:List Nat} (hc:rR pre N T) {i:Nat} (hr:rQ pre T i=true):rR pre N (T.filter fun k=>k !=i):=by
 intro k hk hkT e he hm;have he2:=(tK.1 hm).1;by_cases h:k=i
 ·subst h
  exact qM.1 hr e he he2
 ·exact hc k hk (fun hk2=>hkT (tK.2 ⟨hk2,h⟩)) e he he2
theorem zet {T:List Nat} {i j:Nat}:(T.filter fun k=>k !=i).filter (fun k=>k !=j)=(T.filter fun k=>k !=j).filter (fun k=>k !=i):=by
 rw[List.filter_filter,List.filter_filter];congr 1;funext k;exact Bool.and_comm _ _
theorem Valid.split {N:List Nat} (hN: ∀k e,e∈pre.getD k []->e∈N) {f:Nat}: ∀{T l:List Nat},Valid pre T l->rR pre N T->f∈T->rQ pre T f=true->
  ∃l1 l2,l=l1++f::l2/\Valid pre (T.filter fun k=>k !=f) (l1++l2)/\ ∀j,j∈l1->j∈T/\j≠f/\ ¬Reach pre j f:=by
 intro T l h
 induction h with
 |nil=>intro _ hf;simp at hf
 |cons hi hr hv ih=>
  rename_i T l i;intro hc hf hfr;by_cases h:i=f
  ·subst h
   exact⟨[],l,rfl,hv,by simp⟩
  ·obtain⟨l1,l2,rfl,hv2,hj⟩:=ih (hc.out hr) (tK.2 ⟨hf,Ne.symm h⟩) (za7 hfr)
   refine⟨i::l1,l2,rfl,?_,fun j hjm=>?_⟩
   ·rw[zet] at hv2
    exact .cons (tK.2 ⟨hi,h⟩) (za7 hr) hv2
   ·rcases ZJ.1 hjm with rfl|hjm
    ·exact⟨hi,h,fun hre=>hre.gone hc hN (qM.1 hr) hf⟩
    ·obtain⟨a,b,c⟩:=hj j hjm
     exact⟨(tK.1 a).1,b,c⟩
theorem sX: ∀{l:List AI} {K K':St->Prop} {σ:St},(∀σ,K σ->K' σ)->yO P l K σ->yO P l K' σ
 |[],_,_,σ,hk,h=>hk σ h
 |i::l,K,K',σ,hk,h=>pH (fun σ h=>sX hk h) h
theorem eL {i:AI}: ∀{l1 l2:List AI} {K:St->Prop} {σ:St},(∀j,j∈l1->mV i j=true)->wpQ P i (yO P (l1++l2) K) σ->yO P (l1++i::l2) K σ
 |[],l2,K,σ,_,h=>h
 |j::l1,l2,K,σ,hj,h=>by
  simp only[ZQ,yO] at h⊢;exact pH (fun σ h=>eL (fun j hm=>hj j (Zy _ hm)) h) (swap (hj j Yj) h)
theorem za8 (ha:kB pre anc) {N:List Nat} (hN: ∀k e,e∈pre.getD k []->e∈N) {K:St->Prop}: ∀(f:Nat) (T l:List Nat) (σ:St),rR pre N T->Valid pre T l->wpT P (mkT ais pre anc f T) K σ->
  yO P (l.map fun i=>ais.getD i default) K σ
 |0,T,l,σ,hc,hv,h=>by
  simp only[mkT] at h;split at h
  ·rename_i he
   have:T=[]:=by simpa using he
   subst this;cases hv with
   |nil=>exact h
   |cons hi=>simp at hi
  ·exact h.elim
 |f+1,T,l,σ,hc,hv,h=>by
  simp only[mkT] at h;split at h
  ·rename_i he
   have:T=[]:=by simpa using he
   subst this;cases hv with
   |nil=>exact h
   |cons hi=>simp at hi
  ·rename_i hne
   split at h
   ·rename_i i hfind
    have hfree:=List.find?_some hfind;have hm:=List.mem_of_find?_eq_some hfind;obtain⟨hiT,hir⟩:=Yh.1 hm;obtain⟨l1,l2,rfl,hv2,hj⟩:=hv.split hN hc hiT hir;simp only[wpT] at h;have h2:wpQ P (ais.getD i default) (yO P ((l1++l2).map fun i=>ais.getD i default) K) σ:=
     pH (fun σ h=>za8 ha hN f _ _ σ (hc.out hir) hv2 h) h
    rw[ZS] at h2;rw[ZS,Zk];refine eL (fun x hx=>?_) h2;obtain⟨j,hjm,rfl⟩:=ZH.1 hx;obtain⟨g1,g2,g3⟩:=hj j hjm;simp only[zer,ZA,Yp,beq_iff_eq] at hfree;rcases hfree j g1 with(h3|h3)|h3
    ·exact absurd h3 g2
    ·exact h3
    ·exact absurd (ha j i h3) g3
   ·cases hv with
    |nil=>simp at hne
    |cons hi hr hv2=>
     rename_i l i;have key: ∀(rs:List Nat),i∈rs->wpT P (rs.foldr (fun i t=>DT.alt (.one (ais.getD i default) (mkT ais pre anc f (T.filter fun k=>k !=i))) t) .top) K σ->
       wpQ P (ais.getD i default) (wpT P (mkT ais pre anc f (T.filter fun k=>k !=i)) K) σ:=by
      intro rs
      induction rs with
      |nil=>intro h;simp at h
      |cons j rs ih=>
       intro hm h;simp only[List.foldr_cons,wpT] at h;rcases ZJ.1 hm with rfl|hm
       ·exact h.1
       ·exact ih hm h.2
     have h2:=key _ (Yh.2 ⟨hi,hr⟩) h;simp only[Zk,yO];exact pH (fun σ h=>za8 ha hN f _ _ σ (hc.out hr) hv2 h) h2
end
def xH (o:Oper):List Nat:=(o.after.toList.filter fun e=>Region.binds .any e).map (·.on)
def nD (ais:List AI) (pre:List (List Nat)):DT:=mkT ais pre (oC [] pre) ais.length (List.range ais.length)
def iC (k:Nat) (a:AI):List AI->List Nat->Bool
 |[],_=>true
 |b::bs,p::ps=>(mV a b||p.testBit k)&&iC k a bs ps
 |_::_,[]=>false
def nE:Nat->List AI->List Nat->Bool
 |_,[],_=>true
 |k,a::az,_::ps=>iC k a az ps&&nE (k+1) az ps
 |_,_::_,[]=>false
def eM (ais:List AI) (pre:List (List Nat)):Bool:=nE 0 ais (oC [] pre)
theorem zeu {k:Nat} {a:AI}: ∀(bs:List AI) (ps:List Nat),iC k a bs ps=true-> ∀i b,bs[i]?=some b->mV a b=true\/(ps.getD i 0).testBit k=true
 |[],_,_,i,b,hb=>by simp at hb
 |b'::bs,[],h,i,b,hb=>by simp[iC] at h
 |b'::bs,p::ps,h,i,b,hb=>by
  simp only[iC,Zr,Yp] at h;cases i with
  |zero=>simp at hb;subst hb;simpa using h.1
  |succ i=>simpa using zeu bs ps h.2 i b (by simpa using hb)
theorem za9: ∀(az:List AI) (ps:List Nat) (k:Nat),nE k az ps=true-> ∀i j a b,i<j->az[i]?=some a->az[j]?=some b->mV a b=true\/(ps.getD j 0).testBit (k+i)=true
 |[],_,_,_,i,j,a,b,_,ha,_=>by simp at ha
 |a'::az,[],k,h,_,_,_,_,_,_,_=>by simp[nE] at h
 |a'::az,p::ps,k,h,i,j,a,b,hij,ha,hb=>by
  simp only[nE,Zr] at h;cases j with
  |zero=>omega
  |succ j=>
   cases i with
   |zero=>
    simp at ha;subst ha;simpa using zeu az ps h.1 j b (by simpa using hb)
   |succ i=>
    have:=za9 az ps (k+1) h.2 i j a b (by omega) (by simpa using ha) (by simpa using hb);rw[show k+(i+1)=k+1+i from by omega];simpa using this
theorem zba {P:Program} {ais:List AI} {pre:List (List Nat)} {anc:List Nat} (ha:kB pre anc) (hok:nE 0 ais anc=true) {n:Nat} (hn:n=ais.length) (hN: ∀k e,e∈pre.getD k []->e∈List.range n) (hlt: ∀k e,e∈pre.getD k []->e<k) {K:St->Prop}:
  ∀(m k:Nat) (T l:List Nat) (σ:St),n=k+m->(∀i,i∈T ↔ k<=i/\i<n)->rR pre (List.range n) T->Valid pre T l->yO P ((YF k m).map fun i=>ais.getD i default) K σ->
  yO P (l.map fun i=>ais.getD i default) K σ
 |0,k,T,l,σ,hk,hT,hc,hv,h=>by
  cases hv with
  |nil=>exact h
  |cons hi=>have:=(hT _).1 hi;omega
 |m+1,k,T,l,σ,hk,hT,hc,hv,h=>by
  have hkT:k∈T:=(hT k).2 (by omega);have hkr:rQ pre T k=true:=qM.2 fun e he hm=>by
   have:=hlt k e he;have:=(hT e).1 hm;omega
  obtain⟨l1,l2,rfl,hv2,hj⟩:=hv.split hN hc hkT hkr;rw[Xo,Zk] at h;have hT2: ∀i,i∈T.filter (fun x=>x !=k) ↔ k+1<=i/\i<n:=fun i=>by
   rw[tK,hT];omega
  have h2:wpQ P (ais.getD k default) (yO P ((l1++l2).map fun i=>ais.getD i default) K) σ:=
   pH (fun σ h=>zba ha hok hn hN hlt m (k+1) _ _ σ (by omega) hT2 (hc.out hkr) hv2 h) h
  rw[ZS] at h2;rw[ZS,Zk];refine eL (fun x hx=>?_) h2;obtain⟨j,hjm,rfl⟩:=ZH.1 hx;obtain⟨g1,g2,g3⟩:=hj j hjm;have g4:=(hT j).1 g1;have g5:k<ais.length:=by omega
  have g6:j<ais.length:=by omega
  have e1:ais.getD k default=ais[k]:=by simp[Zi,g5]
  have e2:ais.getD j default=ais[j]:=by simp[Zi,g6]
  rcases za9 ais anc 0 hok k j ais[k] ais[j] (by omega) (by simp[g5]) (by simp[g6]) with h3|h3
  ·rw[e1,e2];exact h3
  ·rw[ZY] at h3
   exact absurd (ha j k h3) g3
def qN:Nat->List (List Nat)->Bool
 |_,[]=>true
 |k,p::ps=>p.all (fun e=>decide (e<k))&&qN (k+1) ps
theorem nF: ∀(ps:List (List Nat)) (k:Nat),qN k ps=true-> ∀i e,e∈ps.getD i []->e<k+i
 |[],k,_,i,e,he=>by simp at he
 |p::ps,k,h,i,e,he=>by
  simp only[qN,Zr,ZA,decide_eq_true_eq] at h;cases i with
  |zero=>exact h.1 e (by simpa using he)
  |succ i=>
   have:=nF ps (k+1) h.2 i e (by simpa using he);omega
def uG (n:Nat) (listed:Array Bool):List Nat:=(List.range n).filter fun i=> !listed.getD i true
theorem zbb {ops:Array Oper} {i:Nat} {o:Oper} (h:ops[i]?=some o):(ops.toList.map xH).getD i []=xH o:=by
 simp[Zi,Zz,h]
theorem zev {n:Nat} {listed:Array Bool} (hs:listed.size=n) {e:Nat}:e∈uG n listed ↔ e<n/\listed.getD e false=false:=by
 simp only[uG,Yh,Z2];constructor
 ·rintro⟨h1,h2⟩
  refine⟨h1,?_⟩;have:e<listed.size:=by omega
  simp[ZW,this] at h2⊢;exact h2
 ·rintro⟨h1,h2⟩
  refine⟨h1,?_⟩;have:e<listed.size:=by omega
  simp[ZW,this] at h2⊢;exact h2
theorem zew {ops:Array Oper} {listed:Array Bool} (hs:listed.size=ops.size) (hp:qN 0 (ops.toList.map xH)=true) {i:Nat}:
  i∈Region.ready .any ops listed ↔ i∈uG ops.size listed/\rQ (ops.toList.map xH) (uG ops.size listed) i=true:=by
 simp only[Region.ready,Yh,Z2,Zr,uG];constructor
 ·rintro⟨h1,h2,h3⟩
  refine⟨⟨h1,h2⟩,qM.2 fun e he hm=>?_⟩;have ho:ops[i]?=some ops[i]:=by simp[h1]
  rw[zbb ho] at he;rw[ho] at h3;simp only[YA,YZ,Array.all_eq_true_iff_forall_mem,Yp,Xn] at h3;simp only[xH,ZH,Yh,Array.mem_toList_iff] at he;obtain⟨ed,⟨m1,m2⟩,rfl⟩:=he;rcases h3 ed m1 with h4|h4
  ·rw[h4] at m2;simp at m2
  ·have:=(zev hs).1 (show ed.on∈uG ops.size listed from hm)
   rw[this.2] at h4;simp at h4
 ·rintro⟨⟨h1,h2⟩,h3⟩
  refine⟨h1,h2,?_⟩;have ho:ops[i]?=some ops[i]:=by simp[h1]
  have h3':=qM.1 h3;rw[zbb ho] at h3';rw[ho];simp only[YA,YZ,Array.all_eq_true_iff_forall_mem,Yp,Xn];intro ed hed;by_cases hb:Region.binds .any ed=true
  ·right
   have hm:ed.on∈xH ops[i]:=by simp only[xH,ZH,Yh,Array.mem_toList_iff];exact⟨ed,⟨hed,hb⟩,rfl⟩
   have hlt:=nF _ 0 hp i ed.on (by rw[zbb ho];exact hm);have:=h3' _ hm;have h4: ¬(ed.on<ops.size/\listed.getD ed.on false=false):=fun h=>this ((zev hs).2 h)
   have:ed.on<ops.size:=by omega
   simpa [this] using h4
  ·left;simpa using hb
theorem zex {n:Nat} {listed:Array Bool} (hs:listed.size=n) (i:Nat):uG n (listed.setIfInBounds i true)=(uG n listed).filter fun k=>k !=i:=by
 simp only[uG,List.filter_filter];refine List.filter_congr fun k hk=>?_
 have hk':k<listed.size:=by rw[hs];exact Z2.1 hk
 by_cases h:k=i
 ·subst h;simp[ZW,hk']
 ·have h':i≠k:=Ne.symm h
  simp[ZW,Yi,h,h']
theorem zqB {T:List Nat} {i:Nat} (h:i∈T):(T.filter fun k=>k !=i).length<T.length:=by
 refine List.length_filter_lt_length_iff_exists.2 ⟨i,h,by simp⟩
theorem eP {ops:Array Oper} (hp:qN 0 (ops.toList.map xH)=true): ∀(fuel t:Nat) (listed:Array Bool),listed.size=ops.size->(uG ops.size listed).length<=fuel->
  Valid (ops.toList.map xH) (uG ops.size listed) (Region.linearise.go .any ops fuel t listed [])
 |0,t,listed,hs,hl=>by
  have:uG ops.size listed=[]:=by
   cases h:uG ops.size listed with
   |nil=>rfl
   |cons a b=>rw[h] at hl;simp at hl
  rw[this];simp only[Region.linearise.go];exact .nil
 |fuel+1,t,listed,hs,hl=>by
  simp only[Region.linearise.go];change Valid _ _ (match (Region.ready .any ops listed)[t % (Region.ready .any ops listed).length]? with
   |some i=>Region.linearise.go .any ops fuel (t/(Region.ready .any ops listed).length) (listed.setIfInBounds i true) [i]
   |none=>[].reverse)
  cases hi:(Region.ready .any ops listed)[t % (Region.ready .any ops listed).length]? with
  |none=>
   have hnil:Region.ready .any ops listed=[]:=by
    cases hr:Region.ready .any ops listed with
    |nil=>rfl
    |cons x xs=>
     rw[hr] at hi;have hlt:t % (x::xs).length<(x::xs).length:=XE _ (by simp);simp at hi;simp at hlt;omega
   have hT:uG ops.size listed=[]:=by
    apply Classical.byContradiction;intro hne;obtain⟨x,hx⟩:=XD _ hne;have: ∃m,m∈uG ops.size listed/\ ∀y,y∈uG ops.size listed->m<=y:=by
     clear hi hnil hl
     induction x using Nat.strongRecOn with
     |_ x ih=>
      by_cases h: ∃y,y∈uG ops.size listed/\y<x
      ·obtain⟨y,hy,hlt⟩:=h
       exact ih y hlt hy
      ·exact⟨x,hx,fun y hy=>Xu fun hlt=>h ⟨y,hy,hlt⟩⟩
    obtain⟨m,hm,hmin⟩:=this;have:m∈Region.ready .any ops listed:=(zew hs hp).2 ⟨hm,qM.2 fun e he hme=>by
     have:=nF _ 0 hp m e he
     have:=hmin e hme
     omega⟩
    rw[hnil] at this;simp at this
   rw[hT];exact .nil
  |some i=>
   simp only[];rw[linearise_go_acc,List.reverse_singleton,List.singleton_append];obtain⟨h1,h2⟩:=(zew hs hp).1 (ZP hi);refine .cons h1 h2 ?_;rw[<-zex hs];refine eP hp fuel _ _ (by simp[hs]) ?_;rw[zex hs];have:=zqB h1;omega
theorem kC (n:Nat):uG n (YX n false)=List.range n:=by
 simp only[uG];refine List.filter_eq_self.2 fun i hi=>?_
 have:i<n:=Z2.1 hi;simp[ZW,this]
theorem zqC {P:Program} {ops:Array Oper} {ais:List AI} (hal:ais.length=ops.size) (hp:qN 0 (ops.toList.map xH)=true) {K:St->Prop} {σ:St}
  (h:(eM ais (ops.toList.map xH)=true/\yO P ais K σ)\/wpT P (nD ais (ops.toList.map xH)) K σ) (t:Nat):
  (∀i,i∈Region.linearise .any ops t->i<ops.size)/\yO P ((Region.linearise .any ops t).map fun i=>ais.getD i default) K σ:=by
 have hv:=eP hp ops.size t (YX ops.size false) (by simp) (by rw[kC];simp);rw[kC] at hv;have hN: ∀k e,e∈(ops.toList.map xH).getD k []->e∈List.range ops.size:=by
  intro k e he;have:=nF _ 0 hp k e he;have hk:k<ops.size:=by
   apply Classical.byContradiction;intro hk;have:(ops.toList.map xH).getD k []=[]:=by
    rw[Zi,Xe (by simp;omega)];rfl
   rw[this] at he;simp at he
  exact Z2.2 (by omega)
 have ha:=iB (pre:=ops.toList.map xH) _ [] [] rfl rfl (fun k i hi=>by simp at hi);have hc:rR (ops.toList.map xH) (List.range ops.size) (List.range ops.size):=fun k hk hk2=>absurd hk hk2
 constructor
 ·have: ∀{T l:List Nat},Valid (ops.toList.map xH) T l-> ∀i,i∈l->i∈T:=by
   intro T l h
   induction h with
   |nil=>intro i hi;simp at hi
   |cons hi _ _ ih=>
    intro j hj;rcases ZJ.1 hj with rfl|hj
    ·exact hi
    ·exact(tK.1 (ih j hj)).1
  exact fun i hi=>Z2.1 (this hv i hi)
 ·rcases h with⟨h1,h2⟩|h
  ·refine zba ha h1 hal.symm hN (fun k e he=>by have:=nF _ 0 hp k e he;omega) ops.size 0 _ _ σ (by omega) (fun i=>by simp) hc hv ?_
   have e:(YF 0 ops.size).map (fun i=>ais.getD i default)=ais:=by
    refine Xg (by simp[hal]) fun i h3 h4=>?_
    simp[Zi,h4]
   rw[e];exact h2
  ·unfold nD at h
   rw[hal] at h;exact za8 ha hN ops.size _ _ σ hc hv h
theorem Valid.nil_of {pre:List (List Nat)} {l:List Nat} (h:Valid pre [] l):l=[]:=by
 cases h with
 |nil=>rfl
 |cons hi=>simp at hi
theorem Valid.last {pre:List (List Nat)} {N:List Nat} (hN: ∀k e,e∈pre.getD k []->e∈N) {m:Nat}: ∀{T l:List Nat},Valid pre T l->rR pre N T->m∈T->(∀k,k∈T->k≠m->Reach pre m k)->
  ∃l',l=l'++[m]/\Valid pre (T.filter fun k=>k !=m) l':=by
 intro T l h
 induction h with
 |nil=>intro _ hm;simp at hm
 |cons hi hr hv ih=>
  rename_i T l i;intro hc hm hw;by_cases h:i=m
  ·subst h
   have he:T.filter (fun k=>k !=i)=[]:=by
    refine List.filter_eq_nil_iff.2 fun k hk=>?_
    simp only[bne_iff_ne,ne_eq,Decidable.not_not];by_cases hki:k=i
    ·exact hki
    ·exact absurd hk ((hw k hk hki).gone hc hN (qM.1 hr))
   rw[he] at hv⊢;exact⟨[],by rw[hv.nil_of];rfl,.nil⟩
  ·obtain⟨l',rfl,hv2⟩:=ih (hc.out hr) (tK.2 ⟨hm,Ne.symm h⟩) (fun k hk hkm=>hw k (tK.1 hk).1 hkm)
   refine⟨i::l',rfl,?_⟩;rw[zet] at hv2;exact .cons (tK.2 ⟨hi,h⟩) (za7 hr) hv2
def eQ (n:Nat) (anc:List Nat):Nat->Bool
 |0=>true
 |m+1=>eQ n anc m&&(List.range (n+m)).all fun k=>(anc.getD (n+m) 0).testBit k
def eR (az aS:List AI) (pre:List (List Nat)):Bool:=nE 0 az (oC [] (pre.take az.length))&&eQ az.length (oC [] pre) aS.length
theorem iD {pre:List (List Nat)} {j k:Nat} (h:k<j):(pre.take j).getD k []=pre.getD k []:=by
 rw[Zi,Zi,Z6,if_pos h]
theorem Reach.cut {pre:List (List Nat)} (hlt: ∀k e,e∈pre.getD k []->e<k) {j k i:Nat} (h:Reach pre k i):k<j->Reach (pre.take j) k i:=by
 induction h with
 |here hm=>intro hk;exact .here (by rw[iD hk];exact hm)
 |there hm _ ih=>intro hk;exact .there (by rw[iD hk];exact hm) (ih (by have:=hlt _ _ hm;omega))
theorem Valid.cut {pre:List (List Nat)} {j:Nat} {T l:List Nat} (h:Valid pre T l):(∀i,i∈T->i<j)->Valid (pre.take j) T l:=by
 induction h with
 |nil=>intro _;exact .nil
 |cons hi hr _ ih=>
  intro hT;refine .cons hi (qM.2 fun e he=>qM.1 hr e ?_) (ih fun i hm=>hT i (tK.1 hm).1);rw[iD (hT _ hi)] at he;exact he
theorem Valid.tail {pre:List (List Nat)} {anc:List Nat} (ha:kB pre anc) (hlt: ∀k e,e∈pre.getD k []->e<k) (n:Nat):
  ∀(m:Nat) (T l:List Nat),eQ n anc m=true->(∀i,i∈T ↔ i<n+m)->Valid (pre.take (n+m)) T l-> ∃T' l',l=l'++YF n m/\(∀i,i∈T' ↔ i<n)/\Valid (pre.take n) T' l'
 |0,T,l,_,hT,hv=>⟨T,l,by simp,hT,hv⟩
 |m+1,T,l,hok,hT,hv=>by
  simp only[eQ,Zr,ZA] at hok;have hN: ∀k e,e∈(pre.take (n+m+1)).getD k []->e∈List.range (n+m):=fun k e he=>by
   by_cases hk:k<n+m+1
   ·rw[iD hk] at he;exact Z2.2 (by have:=hlt k e he;omega)
   ·rw[Zi,Z6,if_neg hk] at he;simp at he
  have hc:rR (pre.take (n+m+1)) (List.range (n+m)) T:=fun k hk hk2=>absurd ((hT k).2 (by have:=Z2.1 hk;omega)) hk2
  obtain⟨l',rfl,hv2⟩:=Valid.last hN hv hc (m:=n+m) ((hT _).2 (by omega)) (fun k hk hkm=>(ha _ _ (hok.2 k (Z2.2 (by have:=(hT k).1 hk;omega)))).cut hlt (by omega));have hT2: ∀i,i∈T.filter (fun k=>k !=n+m) ↔ i<n+m:=fun i=>by
   rw[tK,hT];omega
  have hv3:=hv2.cut (j:=n+m) fun i hi=>(hT2 i).1 hi
  rw[List.take_take,YV (by omega)] at hv3;obtain⟨T',l2,rfl,h1,h2⟩:=Valid.tail ha hlt n m _ _ hok.1 hT2 hv3;exact⟨T',l2,by rw[List.range'_concat,Z3,Xs],h1,h2⟩
theorem zqD {P:Program} {ops:Array Oper} {az aS:List AI} (hal:(az++aS).length=ops.size) (hp:qN 0 (ops.toList.map xH)=true) {K:St->Prop} {σ:St}
  (hok:eR az aS (ops.toList.map xH)=true) (h:yO P az K σ) (t:Nat):
  ∃l',Region.linearise .any ops t=l'++YF az.length aS.length/\(∀i,i∈l'->i<ops.size)/\yO P (l'.map fun i=>(az++aS).getD i default) K σ:=by
 have hm:az.length+aS.length=ops.size:=by simpa using hal
 have hv:=eP hp ops.size t (YX ops.size false) (by simp) (by rw[kC];simp);rw[kC] at hv;have hlt: ∀k e,e∈(ops.toList.map xH).getD k []->e<k:=fun k e he=>by have:=nF _ 0 hp k e he;omega
 have ha:=iB (pre:=ops.toList.map xH) _ [] [] rfl rfl (fun k i hi=>by simp at hi);have ha2:=iB (pre:=(ops.toList.map xH).take az.length) _ [] [] rfl rfl (fun k i hi=>by simp at hi);simp only[eR,Zr] at hok;obtain⟨T',l',e,hT,hv2⟩:=Valid.tail ha hlt az.length aS.length _ _ hok.2 (fun i=>by rw[Z2,hm]) (by rw[hm,Z7 (by simp)];exact hv);have hlt2: ∀k e,e∈((ops.toList.map xH).take az.length).getD k []->k<az.length/\e<k:=fun k e he=>by
  by_cases hk:k<az.length
  ·rw[iD hk] at he;exact⟨hk,hlt k e he⟩
  ·rw[Zi,Z6,if_neg hk] at he;simp at he
 have hin: ∀{T l:List Nat},Valid ((ops.toList.map xH).take az.length) T l-> ∀i,i∈l->i∈T:=by
  intro T l h
  induction h with
  |nil=>intro i hi;simp at hi
  |cons hi _ _ ih=>
   intro j hj;rcases ZJ.1 hj with rfl|hj
   ·exact hi
   ·exact(tK.1 (ih j hj)).1
 refine⟨l',e,fun i hi=>by have:=(hT i).1 (hin hv2 i hi);omega,?_⟩;have key:=zba (P:=P) (K:=K) ha2 hok.1 (n:=az.length) rfl (fun k e he=>Z2.2 (by have:=hlt2 k e he;omega)) (fun k e he=>(hlt2 k e he).2) az.length 0 _ _ σ (by omega) (fun i=>by rw[hT];omega) (fun k hk hk2=>absurd ((hT k).2 (Z2.1 hk)) hk2) hv2 (by
  have e:(YF 0 az.length).map (fun i=>az.getD i default)=az:=by
   refine Xg (by simp) fun i h3 h4=>?_
   simp[Zi,h4]
  rw[e];exact h)
 have e2:(l'.map fun i=>(az++aS).getD i default)=l'.map fun i=>az.getD i default:=by
  refine Xj fun i hi=>?_
  have:=(hT i).1 (hin hv2 i hi);rw[Zi,Zi,ZL this]
 rw[e2];exact key
section
variable {P : Program} {K : St -> Prop}
def wI (P:Program) (ais:List AI) (c:Nat) (K:St->Prop):List Nat->St->Prop
 |[],σ=>K σ
 |i::l,σ=>if i=c then uW P (ais.getD i default) (wI P ais c K l) σ else wpQ P (ais.getD i default) (wI P ais c K l) σ
def eS (ais:List AI) (c:Nat) (pre:List (List Nat)):Bool:=eM ais pre&&((List.range c).all (fun k=>((oC [] pre).getD c 0).testBit k)&&(List.range (ais.length-(c+1))).all fun j=>((oC [] pre).getD (c+1+j) 0).testBit c)
theorem eT {ais:List AI} {c:Nat}: ∀{l1 l2:List Nat} {σ:St},(∀i,i∈l1->i≠c)->(wI P ais c K (l1++l2) σ ↔ yO P (l1.map fun i=>ais.getD i default) (wI P ais c K l2) σ)
 |[],_,_,_=>Xp
 |i::l1,l2,σ,h=>by
  rw[ZQ,wI,if_neg (h i Yj),Zk,yO];have e:wI P ais c K (l1++l2)=yO P (l1.map fun i=>ais.getD i default) (wI P ais c K l2):=funext fun σ=>propext (eT fun j hj=>h j (Zy _ hj))
  rw[e]
theorem zey: ∀{a b:List AI} {K:St->Prop} {σ:St},yO P (a++b) K σ ↔ yO P a (yO P b K) σ
 |[],_,_,_=>Xp
 |i::a,b,K,σ=>by
  rw[ZQ,yO,yO];have e:yO P (a++b) K=yO P a (yO P b K):=funext fun σ=>propext zey
  rw[e]
theorem zbc (hmono: ∀{i:AI} {K K':St->Prop} {σ:St},(∀σ,K σ->K' σ)->uW P i K σ->uW P i K' σ) {ais:List AI} {pre:List (List Nat)} {anc:List Nat} (ha:kB pre anc) (hok:nE 0 ais anc=true) {n:Nat} (hn:n=ais.length) (hN: ∀k e,e∈pre.getD k []->e∈List.range n) (hlt: ∀k e,e∈pre.getD k []->e<k)
  {c:Nat} (hb: ∀k,k<c->Reach pre c k) (hf: ∀j,c<j->j<n->Reach pre j c):
  ∀(m k:Nat) (T l:List Nat) (σ:St),n=k+m->(∀i,i∈T ↔ k<=i/\i<n)->rR pre (List.range n) T->Valid pre T l->wI P ais c K (YF k m) σ->wI P ais c K l σ
 |0,k,T,l,σ,hk,hT,hc,hv,h=>by
  cases hv with
  |nil=>exact h
  |cons hi=>have:=(hT _).1 hi;omega
 |m+1,k,T,l,σ,hk,hT,hc,hv,h=>by
  have hkT:k∈T:=(hT k).2 (by omega);have hkr:rQ pre T k=true:=qM.2 fun e he hm=>by
   have:=hlt k e he;have:=(hT e).1 hm;omega
  obtain⟨l1,l2,rfl,hv2,hj⟩:=hv.split hN hc hkT hkr;have hT2: ∀i,i∈T.filter (fun x=>x !=k) ↔ k+1<=i/\i<n:=fun i=>by
   rw[tK,hT];omega
  rw[Xo,wI] at h;by_cases hkc:k=c
  ·have hl1:l1=[]:=by
    cases l1 with
    |nil=>rfl
    |cons j r=>
     obtain⟨g1,g2,g3⟩:=hj j Yj;have g4:=(hT j).1 g1;exact absurd (hkc▸hf j (by omega) g4.2) g3
   subst hl1;rw[if_pos hkc] at h;rw[Yd,wI,if_pos hkc];exact hmono (fun σ h=>zbc hmono ha hok hn hN hlt hb hf m (k+1) _ _ σ (by omega) hT2 (hc.out hkr) hv2 h) h
  ·rw[if_neg hkc] at h
   have hl1: ∀i,i∈l1->i≠c:=fun i hi e=>by
    obtain⟨g1,g2,g3⟩:=hj i hi;have g4:=(hT i).1 g1;subst e;exact g3 (hb k (by omega))
   have ek:wI P ais c K (k::l2)=wpQ P (ais.getD k default) (wI P ais c K l2):=funext fun σ=>by rw[wI,if_neg hkc]
   rw[eT hl1,ek];have h2:wpQ P (ais.getD k default) (yO P (l1.map fun i=>ais.getD i default) (wI P ais c K l2)) σ:=
    pH (fun σ h=>(eT hl1).1 (zbc hmono ha hok hn hN hlt hb hf m (k+1) _ _ σ (by omega) hT2 (hc.out hkr) hv2 h)) h
   have h3:=eL (i:=ais.getD k default) (l1:=l1.map fun i=>ais.getD i default) (l2:=[]) (K:=wI P ais c K l2) (σ:=σ) (fun x hx=>?_) (by rw[Ze];exact h2)
   ·exact zey.1 h3
   ·obtain⟨j,hjm,rfl⟩:=ZH.1 hx
    obtain⟨g1,g2,g3⟩:=hj j hjm;have g4:=(hT j).1 g1;have g5:k<ais.length:=by omega
    have g6:j<ais.length:=by omega
    have e1:ais.getD k default=ais[k]:=by simp[Zi,g5]
    have e2:ais.getD j default=ais[j]:=by simp[Zi,g6]
    rcases za9 ais anc 0 hok k j ais[k] ais[j] (by omega) (by simp[g5]) (by simp[g6]) with h3|h3
    ·rw[e1,e2];exact h3
    ·rw[ZY] at h3
     exact absurd (ha j k h3) g3
theorem zqE (hmono: ∀{i:AI} {K K':St->Prop} {σ:St},(∀σ,K σ->K' σ)->uW P i K σ->uW P i K' σ) {ops:Array Oper} {ais:List AI} (hal:ais.length=ops.size) (hp:qN 0 (ops.toList.map xH)=true) {c:Nat} {σ:St} (hok:eS ais c (ops.toList.map xH)=true)
  (h:wI P ais c K (List.range ais.length) σ) (t:Nat):(∀i,i∈Region.linearise .any ops t->i<ops.size)/\wI P ais c K (Region.linearise .any ops t) σ:=by
 have hv:=eP hp ops.size t (YX ops.size false) (by simp) (by rw[kC];simp);rw[kC] at hv;have hN: ∀k e,e∈(ops.toList.map xH).getD k []->e∈List.range ops.size:=by
  intro k e he;have:=nF _ 0 hp k e he;have hk:k<ops.size:=by
   apply Classical.byContradiction;intro hk;have:(ops.toList.map xH).getD k []=[]:=by
    rw[Zi,Xe (by simp;omega)];rfl
   rw[this] at he;simp at he
  exact Z2.2 (by omega)
 have ha:=iB (pre:=ops.toList.map xH) _ [] [] rfl rfl (fun k i hi=>by simp at hi);have hc:rR (ops.toList.map xH) (List.range ops.size) (List.range ops.size):=fun k hk hk2=>absurd hk hk2
 simp only[eS,Zr,ZA] at hok;obtain⟨h1,h2,h3⟩:=hok;constructor
 ·have: ∀{T l:List Nat},Valid (ops.toList.map xH) T l-> ∀i,i∈l->i∈T:=by
   intro T l h
   induction h with
   |nil=>intro i hi;simp at hi
   |cons hi _ _ ih=>
    intro j hj;rcases ZJ.1 hj with rfl|hj
    ·exact hi
    ·exact(tK.1 (ih j hj)).1
  exact fun i hi=>Z2.1 (this hv i hi)
 ·refine zbc hmono ha h1 hal.symm hN (fun k e he=>by have:=nF _ 0 hp k e he;omega) (c:=c) (fun k hk=>ha _ _ (h2 k (Z2.2 hk))) (fun j hj hjn=>?_) ops.size 0 _ _ σ (by omega) (fun i=>by simp) hc hv ?_
  ·have:=h3 (j-(c+1)) (Z2.2 (by omega))
   rw[show c+1+(j-(c+1))=j by omega] at this;exact ha _ _ this
  ·rw[List.range_eq_range',hal] at h;exact h
theorem zez {ais:List AI} {c:Nat}: ∀(r:List AI) (k:Nat) {σ:St},(∀i,ais[k+i]?=r[i]?)->c<k->(wI P ais c K (YF k r.length) σ ↔ yO P r K σ)
 |[],_,_,_,_=>Xp
 |x::r,k,σ,hr,hk=>by
  have e0:ais.getD k default=x:=by
   have:=hr 0;rw[Yf] at this;rw[Zi,this];rfl
  rw[Zo,Xo,wI,if_neg (by omega),e0,yO];have e:wI P ais c K (YF (k+1) r.length)=yO P r K:=funext fun σ=>propext (zez r (k+1) (fun i=>by have:=hr (i+1);rw[show k+1+i=k+(i+1) by omega];simpa using this) (by omega))
  rw[e]
theorem zqF {az r:List AI} {x:AI} {σ:St} (h:yO P az (uW P x (yO P r K)) σ):wI P (az++x::r) az.length K (List.range (az++x::r).length) σ:=by
 have e1:List.range (az++x::r).length=YF 0 az.length++(az.length::YF (az.length+1) r.length):=by
  rw[List.range_eq_range',Zq,Zo,Y8 r.length 1,<-YK];rw[show az.length+1+r.length=az.length+(r.length+1) by omega,<-List.range'_append_1,ZY,Xo]
 have e2:((YF 0 az.length).map fun i=>(az++x::r).getD i default)=az:=by
  refine Xg (by simp) fun i h3 h4=>?_
  simp[Zi,ZL h4,h4]
 have e3:(az++x::r).getD az.length default=x:=by simp[Zi]
 have e4:wI P (az++x::r) az.length K (YF (az.length+1) r.length)=yO P r K:=funext fun σ=>propext (zez r (az.length+1) (fun i=>by
  rw[ZM (by omega),show az.length+1+i-az.length=i+1 by omega];rfl) (by omega))
 have e5:wI P (az++x::r) az.length K (az.length::YF (az.length+1) r.length)=uW P x (yO P r K):=funext fun σ=>by rw[wI,if_pos rfl,e3,e4]
 rw[e1,eT (fun i hi=>by have:=(List.mem_range'_1.1 hi).2;omega),e2,e5];exact h
end
def AE.then (next:St->Prop) (Q:AE->St->Prop):AE->St->Prop
 | .normal,σ=>next σ
 |e,σ=>Q e σ
def AE.inBlock (id:Nat) (Q:AE->St->Prop):AE->St->Prop
 | .exit id',σ=>if id'=id then Q .normal σ else Q (.exit id') σ
 |e,σ=>Q e σ
def St.le (σ σ':St):Prop:= ∀w0 Z0 κ fr w,Inv w0 Z0 κ σ fr w-> ∃κ',Inv w0 Z0 κ' σ' fr w
def Wk (K:St->Prop) (σ:St):Prop:= ∃σ',σ.le σ'/\K σ'
def qO (P:Program):List AI->(St->Prop)->St->Prop
 |[],K,σ=>Wk K σ
 |i::l,K,σ=>Wk (uW P i (qO P l K)) σ
def awp (P:Program):AC->(AE->St->Prop)->St->Prop
 | .skip,Q,σ=>Q .normal σ
 | .region ops,Q,σ=>qO P ops (Q .normal) σ
 | .draw ops pre,Q,σ=>((eM ops pre=true/\yO P ops (Q .normal) σ)\/wpT P (nD ops pre) (Q .normal) σ)\/
   (∃az aS,ops=az++aS/\eR az aS pre=true/\yO P az (sL P aS (Q .normal)) σ)\/
   ∃c,eS ops c pre=true/\wI P ops c (Q .normal) (List.range ops.length) σ
 | .seq a b,Q,σ=>awp P a (AE.then (Wk (awp P b Q)) Q) σ
 | .cond c a b,Q,σ=>c.evg σ true fun v=>
   match v with
   | .k (.c (.bool t))=>(t=true->Wk (awp P a Q) σ)/\(t=false->Wk (awp P b Q) σ)
   |_=>False
 | .block id a,Q,σ=>Wk (awp P a (AE.inBlock id Q)) σ
 | .loop a,Q,σ=> ∃I:Nat->St->Prop,Wk (fun σ'=> ∃n,I n σ') σ/\ ∀n σ',I n σ'->Wk (awp P a (AE.then (Wk fun σ''=> ∃m,m<n/\I m σ'') Q)) σ'
 | .exit id,Q,σ=>Q (.exit id) σ
 | .ret,Q,σ=>Q .ret σ
def AI.avoids (kp:Nat->Bool) (i:AI):Bool:=match i.op.dst with|some d=> !kp d|none=>true
def AC.avoids (kp:Nat->Bool):AC->Bool
 | .region l=>l.all (AI.avoids kp)
 | .draw l _=>l.all (AI.avoids kp)
 | .seq a b=>a.avoids kp&&b.avoids kp
 | .cond _ a b=>a.avoids kp&&b.avoids kp
 | .block _ a=>a.avoids kp
 | .loop a=>a.avoids kp
 |_=>true
def kD:Value->Option C
 | .int k n=>some (.int k n)
 | .bool b=>some (.bool b)
 | .string s=>some (.str s.data.toList)
 | .slice none 0 0=>some (.list 0 (some true) [])
 | .nilFunc=>some .nilf
 | .pointer none=>some .nilp
 |_=>none
def zbd:Value->Option V
 | .agg cs=>(cs.toList.mapM kD).map .agg
 |v=>(kD v).map fun c=> .k (.c c)
def ax:Operand->Option AX
 | .tmp t=>some (.t t)
 | .const v=>(zbd v).map .v
 | .func f=>some (.v (.k (.c (.fn f []))))
 | .global _=>none
def axO:Option Operand->Option (Option AX)
 |none=>some none
 |some x=>(ax x).map some
def axs (l:List Operand):Option (List AX):=l.mapM ax
def yW (P:Program) (t:TypeId):Option Nat:=(P.info? t).map (·.size)
def qP (P:Program) (t:TypeId):Option (List C):=(P.info? t).bind fun i=>i.zero.bind fun z=>z.cells.toList.mapM kD
def uH (P:Program) (t:TypeId):Option Bool:=(P.underlying t).map fun| .struct _| .array _ _=>true|_=>false
def nG (P:Program):Nat->List Field->Option (List EqK)
 |_,[]=>some []
 |i,f::fs=>
  if f.offset==i&&f.name != "_" &&(uH P f.type==some false) then
   match P.underlying f.type with
   |some (.int _)=>(nG P (i+1) fs).map (.int:: ·)
   |some .bool=>(nG P (i+1) fs).map (.bool:: ·)
   |some .string=>(nG P (i+1) fs).map (.str:: ·)
   |_=>none
  else none
def pI (P:Program):Nat->List Field->Option (List EqK)
 |_,[]=>some []
 |i,f::fs=>
  if f.offset==i&&f.name != "_" then
   match P.underlying f.type with
   |some (.int _)=>(pI P (i+1) fs).map (.int:: ·)
   |some .bool=>(pI P (i+1) fs).map (.bool:: ·)
   |some .string=>(pI P (i+1) fs).map (.str:: ·)
   |some (.struct gs)=>
    match nG P 0 gs.toList,yW P f.type with
    |some ts,some n=>if P.stoodInHeld f.type=false/\n=ts.length then(pI P (i+n) fs).map (ts++ ·) else none
    |_,_=>none
   |_=>none
  else none
def eU (P:Program) (fs:Array Field):Option (List (Nat×Nat)):=fs.toList.mapM fun f=>(P.info? f.type).map fun i=>(f.offset,i.size)
def zbe (P:Program) (t:TypeId) (parts:List (Nat×Operand)):Option (List (Nat×Nat×AX)):=
 match P.underlying t with
 |some (.struct fs)=>do
   let ps<-eU P fs
   parts.mapM fun(i,x)=>do
    let p<-ps[i]?
    let x<-ax x
    pure (p.1,p.2,x)
 |some (.array _ e)=>do
   let n<-yW P e
   parts.mapM fun(i,x)=>do
    let x<-ax x
    pure (i*n,n,x)
 |_=>none
def sM (P:Program) (t:TypeId):Option TypeId:=match P.underlying t with|some (.slice e)=>some e|_=>none
def cEq (P:Program) (d:Nat) (op:BinOp) (t:TypeId) (x y:Operand):Option AOp:=
 match P.underlying t with
 |some .bool=>do pure (.binB d (op==.neq) (<-ax x) (<-ax y))
 |some (.int _)=>do pure (.bin d op (<-ax x) (<-ax y))
 |some .string=>do pure (.bin d op (<-ax x) (<-ax y))
 |some (.struct fs)=>do
   let ts<-pI P 0 fs.toList
   if P.stoodInHeld t=false/\P.eqGuardType P.depth t=false then pure (.eqAgg d (op==.neq) ts (<-ax x) (<-ax y)) else none
 |some (.slice _)=>
  match x,y with
  |x,.const (.slice none 0 0)=>do pure (.nilcmp d (op==.neq) (<-ax x))
  | .const (.slice none 0 0),y=>do pure (.nilcmp d (op==.neq) (<-ax y))
  |_,_=>none
 |_=>none
def zbf (P:Program) (n:Nat) (e:TypeId) (d:Nat) (x:Operand) (lo hi:Option AX):Option AOp:=
 match x,lo,hi with
 | .global g,none,none=>
   match fT g with
   |some l=>if n=l.length/\0<n/\(yW P e).isSome=true then some (.mov d (.v (.k (.c (.gl g))))) else none
   |none=>none
 |_,_,_=>none
theorem iE {P:Program} {n:Nat} {e:TypeId} {d:Nat} {x:Operand} {lo hi:Option AX} {op:AOp} (h:zbf P n e d x lo hi=some op):
  ∃g l,x=.global g/\lo=none/\hi=none/\fT g=some l/\n=l.length/\0<n/\(yW P e).isSome=true/\op=.mov d (.v (.k (.c (.gl g)))):=by
 unfold zbf at h;split at h
 ·rename_i g
  split at h
  ·rename_i l hl
   split at h
   ·rename_i hc
    cases h;exact⟨g,l,rfl,rfl,rfl,hl,hc.1,hc.2.1,hc.2.2,rfl⟩
   ·cases h
  ·cases h
 ·cases h
def cOp (P:Program) (o:Oper):Option AOp:=
 match o.op,o.dst with
 | .move x,some d=>(ax x).map (.mov d)
 | .assign (.const (.slice none 0 0)),some d=>do
   let e<-sM P o.type
   let n<-yW P e
   pure (.nilL d e n)
 | .assign x,some d=>(ax x).map (.mov d)
 | .pick c a b,some d=>do pure (.pick d (<-ax c) (<-ax a) (<-ax b))
 | .alloc e,some d=>(qP P e).map (.alloc d e)
 | .box e x,some d=>(ax x).map (.box d e)
 | .build t ps,some d=>do pure (.build d (<-qP P t) (<-zbe P t ps.toList))
 | .buildSlice t len ps,some d=>do
   let e<-sM P t
   let n<-yW P e
   let z<-qP P e
   let l<-ps.toList.mapM fun(i,x)=>(ax x).map fun x=>(i,x)
   if 0<n/\len*n<=2 ^ 24 then pure (.bslice d e n z len l) else none
 | .load t x,some d=>do
   let n<-yW P t
   if 0<n then pure (.load d n (<-uH P t) (<-ax x)) else none
 | .store t x y,none=>do pure (.store (<-yW P t) (<-ax x) (<-ax y))
 | .nilCheck x,some d=>(ax x).map (.nilchk d)
 | .binOp op t x y _,some d=>
   if op=.eql\/op=.neq then cEq P d op t x y else do pure (.bin d op (<-ax x) (<-ax y))
 | .unOp op _ x,some d=>(ax x).map (.un d op)
 | .convert src dst x,some d=>
   match P.underlying src,P.underlying dst with
   |some (.int _),some (.int k)=>(ax x).map (.conv d k)
   |_,_=>none
 | .makeFunc (.func f) first caps,some d=>if first.size=0 then(axs caps.toList).map (.mkfn d f) else none
 | .makeSlice t l c,some d=>do
   let e<-sM P t
   let n<-yW P e
   let i<-P.info? e
   if 0<n then pure (.mkslice d e n i.bytes (<-qP P e) (<-ax l) (<-ax c)) else none
 | .slice t x lo hi none,some d=>do
   let lo<-axO lo
   let hi<-axO hi
   match P.underlying t with
   |some .string=>pure (.slstr d (<-ax x) lo hi)
   |some (.slice e)=>pure (.slice d (<-yW P e) (<-ax x) lo hi)
   |some (.array n e)=>zbf P n e d x lo hi
   |_=>none
 | .fieldAddr s x f,some d=>
   match P.underlying s with
   |some (.struct fs)=>do
     let f<-fs[f]?
     let n<-yW P f.type
     if 0<n then pure (.faddr d f.offset (<-ax x)) else none
   |_=>none
 | .field s x f,some d=>
   match P.underlying s with
   |some (.struct fs)=>do
     let f<-fs[f]?
     let n<-yW P f.type
     if 0<n then pure (.field d f.offset n (<-uH P f.type) (<-ax x)) else none
   |_=>none
 | .indexAddr t x i,some d=>
   match P.underlying t with
   |some (.slice e)=>do
     let n<-yW P e
     if 0<n then pure (.iaddr d n (<-ax x) (<-ax i)) else none
   |some (.array len e)=>do
     let n<-yW P e
     if 0<n then pure (.iaddrA d n len (<-ax x) (<-ax i)) else none
   |_=>none
 | .index t x i,some d=>
   match P.underlying t with
   |some .string=>do pure (.sidx d (<-ax x) (<-ax i))
   |some (.array len e)=>do
     let n<-yW P e
     if 0<n then pure (.aidx d n len (<-uH P e) (<-ax x) (<-ax i)) else none
   |_=>none
 | .extract x i,some d=>do pure (.extr d (<-ax x) i)
 | .call c,d=>
   match c.callee with
   | .value (.func f)=>(axs c.args.toList).map (.call d f)
   | .value (.tmp t)=>(axs c.args.toList).map (.callv d (.t t))
   | .builtin b=>
     match b,d,c.args.toList,c.argTypes.toList with
     | .len,some d,[x],[t]=>
       match P.underlying t with
       |some (.slice _)=>(ax x).map (.len d)
       |some .string=>(ax x).map (.lenS d)
       |_=>none
     | .cap,some d,[x],[t]=>
       match P.underlying t with
       |some (.slice _)=>(ax x).map (.cap d)
       |_=>none
     | .append,some d,[x,y],[t,t']=>do
       let e<-sM P t
       let i<-P.info? e
       let z<-i.zero
       let x<-ax x
       let y<-ax y
       if 0<i.size/\z.cells.size=i.size/\t'=t then pure (.append d e i.size i.bytes x y) else none
     | .max,some d,x::ys,_=>do pure (.minmax d true (<-ax x) (<-axs ys))
     | .min,some d,x::ys,_=>do pure (.minmax d false (<-ax x) (<-axs ys))
     |_,_,_,_=>none
   |_=>none
 |_,_=>none
def cAI (P:Program) (n:Nat) (ops:Array Oper) (o:Oper):Option AI:=do
 let a<-cOp P o
 if (match o.dst with|some d=>decide (d<n)|none=>true) then
  match o.guard with
  |none=>pure ⟨none,a⟩
  |some (j,want)=>
   let o'<-ops[j]?
   let s<-o'.dst
   if s<n then pure ⟨some (s,want),a⟩ else none
 else none
def AC.bad:AC:=.cond (.v .any) .skip .skip
def zbg:Option AC->Option AC
 |some c=>some c
 |none=>some .bad
def vS (P:Program) (n:Nat):Code->Option AC
 | .skip=>some .skip
 | .region _ ops draw=>zbg ((ops.toList.mapM (cAI P n ops)).bind fun l=>
   if draw then(if P.follows .mixedOrders&&qN 0 (ops.toList.map xH) then some (.draw l (ops.toList.map xH)) else none) else some (.region l))
 | .seq a b=>do pure (.seq (<-vS P n a) (<-vS P n b))
 | .cond c a b=>do pure (.cond (<-ax c) (<-vS P n a) (<-vS P n b))
 | .block i a=>(vS P n a).map (.block i)
 | .loop a=>(vS P n a).map .loop
 | .exit i=>some (.exit i)
 | .ret=>some .ret
 |_=>some .bad
inductive RX where
 |t (s:Nat)
 |cell (a n:Nat) (agg:Bool)
 deriving Inhabited
def mW (P:Program) (l:List ResultVar):Option (List RX):=l.mapM fun
 | .tmp t=>some (.t t)
 | .cell a t=>do pure (.cell a (<-yW P t) (<-uH P t))
structure AF where
 n:Nat
 body:AC
 res:List RX
 deriving Inhabited
def zH (P:Program) (f:FuncId):Option AF:=do
 let fn<-P.funcs[f]?
 let c<-fn.body
 let a<-vS P fn.ntmps c
 let r<-mW P fn.results.toList
 if fn.name== "runtime.NumGoroutine" then none else pure ⟨fn.ntmps,a,r⟩
theorem qQ (b o j:Nat):(⟨b,o,none⟩:Addr).add j=⟨b,o+j,none⟩:=by
 unfold Addr.add;split
 ·subst_vars;simp
 ·rfl
section rep
variable {w w' : World} {Z Z' : Bk -> Prop} {κ κ' : Kap} {o o' : Nat -> Option O}
theorem yG.mono (hs:xY Z w w') (hz: ∀b,Z b->Z' b) {r:List C} {cs:List Value} (h:yG w Z r cs):yG w' Z' r cs:=
 ⟨h.1,fun j c v hc hv=>(h.2 j c v hc hv).mono hs hz⟩
theorem qJ.mono (hs:xY Z w w') (hz: ∀b,Z b->Z' b) {sz:Nat} {rows:List (List C)} {b q:Nat} (h:qJ w Z sz rows b q):qJ w' Z' sz rows b q:=by
 refine⟨fun hr=>hz _ (h.1 hr),h.2.1,fun i j r c hr hc=>?_⟩;obtain⟨v,hv,hp⟩:=h.2.2 i j r c hr hc;refine⟨v,?_,hp.mono hs hz⟩;rw[World.cell?_of_block (w:=w) (a:=⟨b,q+(i*sz+j),none⟩) (hs (sz,b) (h.1 (by rintro rfl;simp at hr)))];exact hv
theorem zK.pure_any {r:V} {v:Value} (hp:r.isPure=true) (h:zK w Z κ o r v):zK w Z κ' o' r v:=by
 cases r with
 |k x=>
  cases x<;>simp[V.isPure] at hp
  simpa [zK,yU] using h
 |agg r=>simpa [zK] using h
 |_=>simp[V.isPure] at hp
theorem yI.refl (x:Option O):yI x x:=by
 rcases x with _|(⟨e,row⟩|⟨e,sz,nl,rows⟩)
 ·trivial
 ·rfl
 ·exact⟨rfl,rfl,rfl⟩
theorem yI.var {x y:Option O} (h:yI x y) {e:TypeId} {row:List K} (hy:y=some (.var e row)): ∃row',x=some (.var e row'):=by
 subst hy;rcases x with _|(⟨e',row'⟩|⟨e',sz,nl,rows⟩)
 ·exact h.elim
 ·obtain rfl:e=e':=h
  exact⟨_,rfl⟩
 ·exact h.elim
theorem yI.arr {x y:Option O} (h:yI x y) {e:TypeId} {sz:Nat} {nl:Option Bool} {rows:List (List C)} (hy:y=some (.arr e sz nl rows)): ∃nl' rows',x=some (.arr e sz nl' rows')/\rows'.length=rows.length:=by
 subst hy;rcases x with _|(⟨e',row'⟩|⟨e',sz',nl',rows'⟩)
 ·exact h.elim
 ·exact h.elim
 ·obtain⟨rfl,rfl,hl⟩:=h
  exact⟨_,_,rfl,hl.symm⟩
theorem uQ.mono (hs:xY Z w w') (hz: ∀b,Z b->Z' b) {τs:Nat->Prop} (ht:yZ τs o o' κ κ' w w') {c:Cap} (hc: ∀τ,c.noRef τ=false->τs τ) {v:Value}
  (h:uQ w Z κ o c v):uQ w' Z' κ' o' c v:=by
 cases c with
 |tok τ=>
  obtain⟨h1,h2,_⟩:=ht τ (hc τ (by simp[Cap.noRef]));simp only[uQ] at h⊢;rw[h2];intro e row hr;obtain⟨row',hr'⟩:=h1.var hr;exact h e row' hr'
 |ro row off=>exact PRep.mono hs hz h
theorem yU.mono (hs:xY Z w w') (hz: ∀b,Z b->Z' b) {τs:Nat->Prop} (ht:yZ τs o o' κ κ' w w') {x:K} (hx: ∀τ,x.noRef τ=false->τs τ) {v:Value}
  (h:yU w Z κ o x v):yU w' Z' κ' o' x v:=by
 cases x with
 |c x=>exact PRep.mono hs hz h
 |own τ=>
  obtain⟨h1,h2,h3⟩:=ht τ (hx τ (by simp[K.noRef]));simp only[yU] at h⊢;rw[h2];intro e sz nl rows hr;obtain⟨nl',rows',hr',hl⟩:=h1.arr hr;rcases h e sz nl' rows' hr' with h|⟨b,cur,cap,hk,hb,hc,hv⟩
  ·exact .inl h
  ·obtain⟨cur',hb',hsz⟩:=h3 (by simp[hr']) b hk cur e (0,0) hb
   exact .inr ⟨b,cur',cap,hk,hb',by rw[hsz];exact hc,by rw[<-hl];exact hv⟩
 |ptr τ off=>
  obtain⟨h1,h2,_⟩:=ht τ (hx τ (by simp[K.noRef]));simp only[yU] at h⊢;rw[h2];intro e row hr;obtain⟨row',hr'⟩:=h1.var hr;exact h e row' hr'
 |elem τ i off=>
  obtain⟨h1,h2,_⟩:=ht τ (hx τ (by simp[K.noRef]));simp only[yU] at h⊢;rw[h2];intro e sz nl rows hr;obtain⟨nl',rows',hr',hl⟩:=h1.arr hr;rw[<-hl];exact h e sz nl' rows' hr'
 |pel sz rows i off=>
  obtain⟨b,q,hv,hi,hl⟩:=h;exact⟨b,q,hv,hi,hl.mono hs hz⟩
 |fnk f caps=>
  obtain⟨vs,hv,hl,hc⟩:=h;refine⟨vs,hv,hl,fun j c hj=>?_⟩;obtain⟨u,hu,hr⟩:=hc j c hj;refine⟨u,hu,hr.mono hs hz ht (fun τ hτ=>hx τ ?_)⟩;simp only[K.noRef,YP];exact⟨c,ZP hj,by simp[hτ]⟩
 |newl e sz nl rows=>exact h.elim
 |dead=>trivial
theorem yB.mono (hs:xY Z w w') (hz: ∀b,Z b->Z' b) {τs:Nat->Prop} (ht:yZ τs o o' κ κ' w w') {r:List K} (hr: ∀τ x,x∈r->x.noRef τ=false->τs τ) {cs:List Value}
  (h:yB w Z κ o r cs):yB w' Z' κ' o' r cs:=
 ⟨h.1,fun j k v hk hv=>⟨(h.2 j k v hk hv).1,(h.2 j k v hk hv).2.mono hs hz ht (fun τ hτ=>hr τ k (ZP hk) hτ)⟩⟩
mutual
theorem zK.mono (hs:xY Z w w') (hz: ∀b,Z b->Z' b) {τs:Nat->Prop} (ht:yZ τs o o' κ κ' w w') {x:V} (hx: ∀τ,x.noRef τ=false->τs τ) {v:Value}
  (h:zK w Z κ o x v):zK w' Z' κ' o' x v:=by
 match x with
 | .k x=>exact⟨h.1,h.2.mono hs hz ht (fun τ hτ=>hx τ (by simpa [V.noRef] using hτ))⟩
 | .agg r=>obtain⟨cs,hv,hr⟩:=h;exact⟨cs,hv,hr.mono hs hz⟩
 | .agk r=>
   obtain⟨cs,hv,hr⟩:=h;exact⟨cs,hv,hr.mono hs hz ht (fun τ k hk hτ=>hx τ (by simp only[V.noRef,YP];exact⟨k,hk,by simp[hτ]⟩))⟩
 | .tup vs=>
   obtain⟨us,hv,hl,hr⟩:=h;exact⟨us,hv,hl,VRepL.mono hs hz ht (fun τ hτ=>hx τ (by simpa [V.noRef] using hτ)) hr⟩
 | .undef=>exact h
 | .any=>trivial
theorem VRepL.mono (hs:xY Z w w') (hz: ∀b,Z b->Z' b) {τs:Nat->Prop} (ht:yZ τs o o' κ κ' w w') {xs:List V} (hx: ∀τ,V.noRefL τ xs=false->τs τ) {vs:List Value}
  (h:VRepL w Z κ o xs vs):VRepL w' Z' κ' o' xs vs:=by
 match xs,vs with
 |[],_=>trivial
 |_::_,[]=>trivial
 |x::xs,v::vs=>
  refine⟨zK.mono hs hz ht (fun τ hτ=>hx τ (by simp[V.noRefL,hτ])) h.1,VRepL.mono hs hz ht (fun τ hτ=>hx τ ?_) h.2⟩;simp[V.noRefL,hτ]
end
theorem wB.mono (hs:xY Z w w') (hz: ∀b,Z b->Z' b) {τs:Nat->Prop} (ht:yZ τs o o' κ κ' w w') {τ:Nat} (hκ:κ' τ=κ τ) (hb: ∀b,κ τ=some b->w'.heap[b]?=w.heap[b]?)
  {ob:O} (hx: ∀τ',ob.noRef τ'=false->τs τ') (h:wB w Z κ o τ ob):wB w' Z' κ' o' τ ob:=by
 cases ob with
 |var e row=>
  obtain⟨b,cur,hk,hb',hr⟩:=h;refine⟨b,cur,by rw[hκ];exact hk,by rw[hb b hk];exact hb',hr.mono hs hz ht (fun τ' k hk' hn=>hx τ' ?_)⟩;simp only[O.noRef,YP];exact⟨k,hk',by simp[hn]⟩
 |arr e sz nl rows=>
  rcases h with⟨hk,h⟩|⟨b,cur,cap,hk,hb',h0,hc,hl,hm,hn,hz',hrr⟩
  ·exact .inl ⟨by rw[hκ];exact hk,h⟩
  ·refine .inr ⟨b,cur,cap,by rw[hκ];exact hk,by rw[hb b hk];exact hb',h0,hc,hl,hm,hn,hz',fun i j r c hr hc'=>?_⟩
   obtain⟨v,hv,hp⟩:=hrr i j r c hr hc';exact⟨v,hv,hp.mono hs hz⟩
end rep
theorem wC.refl (w:World):wC w w:=⟨rfl,rfl,rfl,Zw _,fun _ _=>rfl⟩
theorem KeptB.trans' {a:Base} {b c:World} (h:KeptB a b) (k:wC b c):KeptB a c:=
 ⟨k.os.trans h.os,k.tape.trans h.tape,k.output.trans h.output,ZX h.size k.size,fun i hi=>(k.block i (ZO (a.lt i hi) h.size)).trans (h.block i hi)⟩
theorem wC.trans' {a b c:World} (h:wC a b) (k:wC b c):wC a c:=KeptB.trans' h k
theorem wC.le {a b:World} (h:wC a b):a.heap.size<=b.heap.size:=h.size
theorem KeptB.fresh {a:Base} {b:World} (h:KeptB a b) {k:Nat} (hk:b.heap.size<=k): ¬a.B k:=fun hb=>by
 have:=a.lt k hb;have:=h.size;omega
section inv
variable {w0 : Base} {w : World} {Z0 : Bk -> Prop} {κ : Kap} {σ : St} {fr : Array Value}
theorem Inv.put (h:Inv w0 Z0 κ σ fr w) {d:Nat} {v:V} {u:Value} (hd:d<fr.size) (hv:zK w (Zof w0 Z0 κ σ.o w) κ σ.o v u):
  Inv w0 Z0 κ (σ.put d v) (fr.setIfInBounds d u) w:=by
 refine⟨h.kept,h.glob,h.own,h.inj,h.objs,fun s=>?_⟩;show zK w (Zof w0 Z0 κ σ.o w) κ σ.o (if s=d then v else σ.t s) _;by_cases hs:s=d
 ·subst hs;simp[hd,hv]
 ·simp only[hs,if_false]
  have:=h.tmps s;simpa [ZW,Yi,Ne.symm hs] using this
theorem zK.strip {w:World} {Z:Bk->Prop} {κ:Kap} {o:Nat->Option O} {v:V} {u:Value} (h:zK w Z κ o v u) (hg:v.strip.2=true):zK w Z κ o v.strip.1 u:=by
 cases v<;>first|exact h.1 hg|exact h
end inv
theorem zbh {v:Value} {c:C} (h:kD v=some c) (w:World) (Z:Bk->Prop):PRep w Z c v:=by
 unfold kD at h;split at h<;>simp at h<;>subst h
 ·exact .int _ _
 ·exact .bool _
 ·exact .str _
 ·exact .nil _ _ (by simp)
 ·exact .nilf
 ·exact .nilp
theorem zeA {l:List Value} {r:List C} (h:l.mapM kD=some r) (w:World) (Z:Bk->Prop):yG w Z r l:=by
 induction l generalizing r with
 |nil=>simp at h;subst h;exact⟨rfl,by simp⟩
 |cons v l ih=>
  simp only[YE,Zj,Zb,Zm,Zh] at h;obtain⟨c,hc,r',hr',rfl⟩:=h;obtain⟨i1,i2⟩:=ih hr';refine⟨by simp[i1],fun j c' v' h1 h2=>?_⟩;cases j with
  |zero=>simp at h1 h2;subst h1;subst h2;exact zbh hc w Z
  |succ j=>exact i2 j c' v' (by simpa using h1) (by simpa using h2)
theorem zqG {v:Value} {x:V} (h:zbd v=some x) (w:World) (Z:Bk->Prop) (κ:Kap) (o:Nat->Option O):zK w Z κ o x v:=by
 unfold zbd at h;split at h
 ·simp only[Zd] at h
  obtain⟨r,hr,rfl⟩:=h;exact⟨_,rfl,zeA hr w Z⟩
 ·simp only[Zd] at h
  obtain⟨c,hc,rfl⟩:=h;exact⟨(zbh hc w Z).oneCell,zbh hc w Z⟩
theorem qR {w0:Base} {w:World} {Z0:Bk->Prop} {κ:Kap} {σ:St} {a:Act} (hi:Inv w0 Z0 κ σ a.tmps w) {x:Operand} {y:AX} (h:ax x=some y):
  zK w (Zof w0 Z0 κ σ.o w) κ σ.o (y.ev σ) (a.eval x):=by
 unfold ax at h;split at h
 ·simp at h;subst h;exact hi.tmps _
 ·simp only[Zd] at h
  obtain⟨z,hz,rfl⟩:=h;exact zqG hz _ _ _ _
 ·simp at h;subst h
  exact⟨rfl,.fn _ [] #[] (fun _=>default) rfl (by simp) (by simp)⟩
 ·simp at h
theorem yS {w0:Base} {w:World} {Z0:Bk->Prop} {κ:Kap} {σ:St} {a:Act} (hi:Inv w0 Z0 κ σ a.tmps w) {x:Operand} {y:AX} (h:ax x=some y) {g:Bool} {k:V->Prop}
  (hk:y.evg σ g k):k (y.ev σ).strip.1/\(g=true->zK w (Zof w0 Z0 κ σ.o w) κ σ.o (y.ev σ).strip.1 (a.eval x)):=
 ⟨hk.2,fun hg=>(qR hi h).strip (hk.1 hg)⟩
theorem C.normRow_map: ∀(r:List C),C.normRow r=r.map C.norm
 |[]=>rfl
 |c::r=>by simp[C.normRow,C.normRow_map r]
theorem C.normRows_map: ∀(l:List (List C)),C.normRows l=l.map (List.map C.norm)
 |[]=>rfl
 |r::l=>by simp[C.normRows,C.normRows_map l,C.normRow_map]
theorem PRep.norm {w:World} {Z:Bk->Prop} {c:C} {v:Value} (h:PRep w Z c v):PRep w Z c.norm v:=by
 induction h with
 |int k n=>exact .int k n
 |bool b=>exact .bool b
 |str s=>exact .str s
 |nil sz nl h=>exact .nil _ none (by simp)
 |emp sz nl a h=>exact .emp _ none a (by simp)
 |nilf=>exact .nilf
 |nilp=>exact .nilp
 |gl g l h=>exact .gl g l h
 |list b o cap sz nl rows val h1 h2 h3 h4 h5 h6 _ ih=>
  have hl:(C.normRows rows).length=rows.length:=by simp[C.normRows_map]
  have key: ∀sz',(rows≠[]->sz'=sz)->PRep w Z (.list sz' none (C.normRows rows)) (.slice (some ⟨b,o,none⟩) (C.normRows rows).length cap):=by
   intro sz' hsz;have get: ∀(i j:Nat) r c,(C.normRows rows)[i]?=some r->r[j]?=some c-> ∃r0 c0,rows[i]?=some r0/\r0[j]?=some c0/\c=c0.norm/\sz'=sz:=by
    intro i j r c hr hc;rw[C.normRows_map] at hr;simp only[Zz,Zd] at hr;obtain⟨r0,hr0,rfl⟩:=hr;simp only[Zz,Zd] at hc;obtain⟨c0,hc0,rfl⟩:=hc;exact⟨r0,c0,hr0,hc0,rfl,hsz (by rintro rfl;simp at hr0)⟩
   refine .list b o cap sz' none (C.normRows rows) val (by simp) (by rw[hl];exact h2) h3 (fun h=>by have hne:rows≠[]:=(by rintro rfl;exact h rfl);rw[hsz hne];exact h4 hne) (fun r hr=>?_) (fun i j r c hr hc=>?_) (fun i j r c hr hc=>?_)
   ·rw[C.normRows_map] at hr
    obtain⟨r0,hr0,rfl⟩:=ZH.1 hr;rw[hsz (by rintro rfl;simp at hr0)];simpa using h5 r0 hr0
   ·obtain⟨r0,c0,e1,e2,rfl,e3⟩:=get i j r c hr hc
    rw[e3];exact h6 i j r0 c0 e1 e2
   ·obtain⟨r0,c0,e1,e2,rfl,e3⟩:=get i j r c hr hc
    exact ih i j r0 c0 e1 e2
  rw[<-hl];refine key _ (fun hne=>?_);cases rows with
  |nil=>exact absurd rfl hne
  |cons=>rfl
 |ro b row off val h1 h2 _ ih=>
  have get: ∀(j:Nat) c,(C.normRow row)[j]?=some c-> ∃c0,row[j]?=some c0/\c=c0.norm:=by
   intro j c hc;rw[C.normRow_map] at hc;simp only[Zz,Zd] at hc;obtain⟨c0,hc0,rfl⟩:=hc;exact⟨c0,hc0,rfl⟩
  refine .ro b (C.normRow row) off val h1 (fun j c hc=>?_) (fun j c hc=>?_)
  ·obtain⟨c0,e,rfl⟩:=get j c hc;exact h2 j c0 e
  ·obtain⟨c0,e,rfl⟩:=get j c hc;exact ih j c0 e
 |fn f caps vs val h1 h2 _ ih=>
  have get: ∀(j:Nat) c,(C.normRow caps)[j]?=some c-> ∃c0,caps[j]?=some c0/\c=c0.norm:=by
   intro j c hc;rw[C.normRow_map] at hc;simp only[Zz,Zd] at hc;obtain⟨c0,hc0,rfl⟩:=hc;exact⟨c0,hc0,rfl⟩
  refine .fn f (C.normRow caps) vs val (by rw[C.normRow_map];simpa using h1) (fun j c hc=>?_) (fun j c hc=>?_)
  ·obtain⟨c0,e,rfl⟩:=get j c hc;exact h2 j c0 e
  ·obtain⟨c0,e,rfl⟩:=get j c hc;exact ih j c0 e
theorem yG.norm {w:World} {Z:Bk->Prop} {r:List C} {vs:List Value} (h:yG w Z r vs):yG w Z (C.normRow r) vs:=by
 refine⟨by rw[C.normRow_map];simpa using h.1,fun j c v hc hv=>?_⟩;rw[C.normRow_map] at hc;simp only[Zz,Zd] at hc;obtain⟨c0,hc0,rfl⟩:=hc;exact(h.2 j c0 v hc0 hv).norm
theorem zK.norm {w:World} {Z:Bk->Prop} {κ:Kap} {o:Nat->Option O} {x:V} {v:Value} (hp:x.isPure=true) (h:zK w Z κ o x v):x.norm.isPure=true/\zK w Z κ o x.norm v:=by
 cases x with
 |k x=>cases x with
  |c c=>exact⟨rfl,h.1,PRep.norm h.2⟩
  |_=>simp[V.isPure] at hp
 |agg r=>
  obtain⟨cs,rfl,hr⟩:=h;exact⟨rfl,cs,rfl,hr.norm⟩
 |_=>simp[V.isPure] at hp
section
variable {P : Program} {w : World}
theorem nH {t:TypeId} {agg:Bool} (h:uH P t=some agg) (w:World):(isAgg t).run P w=.ok agg w:=by
 simp only[uH,Zd] at h;obtain⟨d,hd,rfl⟩:=h;unfold isAgg;rw[Sem.run_bind,run_underlying hd w];cases d<;>rfl
theorem uS {t:TypeId} {n:Nat} (h:yW P t=some n) (w:World):(sizeOf t).run P w=.ok n w:=by
 simp only[yW,Zd] at h;obtain⟨i,hi,rfl⟩:=h;simp[sizeOf,typeInfo,hi]
theorem zeB {t:TypeId} {n:Nat} {agg:Bool} (hn:yW P t=some n) (ha:uH P t=some agg) (h0:0<n) {b q:Nat} (cs:List Value) (hl:cs.length=n)
  (hc: ∀j v,cs[j]?=some v->w.cell? ⟨b,q+j,none⟩=some v):
  (loadVar t ⟨b,q,none⟩).run P w=.ok (if agg then .agg cs.toArray else cs.getD 0 undef) w:=by
 have hlc:(loadCells ⟨b,q,none⟩ cs.length).run P w=.ok cs.toArray w:=
  run_loadCells_list (P:=P) w ⟨b,q,none⟩ cs (fun j v hv=>by rw[qQ];exact hc j v hv)
 subst hl;cases agg with
 |true=>simp[loadVar,nH ha,uS hn,hlc]
 |false=>
  cases cs with
  |nil=>simp at h0
  |cons v cs=>
   have:=hc 0 v rfl;simp[loadVar,nH ha,run_load,Yf] at this⊢;simp[this]
theorem zbi {t:TypeId} {n:Nat} {agg:Bool} (hn:yW P t=some n) (ha:uH P t=some agg) (h0:0<n) {b q:Nat} (cs:List Value) (hl:cs.length=n)
  (hc: ∀j v,cs[j]?=some v->w.cell? ⟨b,q+j,none⟩=some v):
  (Instr.loadAt t (.pointer (some ⟨b,q,none⟩))).run P w=.ok (if agg then .agg cs.toArray else cs.getD 0 undef) w:=by
 simp[Instr.loadAt,Instr.sureAddr,zeB hn ha h0 cs hl hc]
theorem zqH {P:Program} {w:World} {o:Oper} {ρ:Operand->Value} {s:Sem Value} {v:Value} {w':World} (he:execOp ρ o=(do pure (.value (<-s)))) (hs:s.run P w=.ok v w'):
  (execOp ρ o).run P w=.ok (.value v) w':=by
 rw[he];simp[hs]
end
section rows
variable {w : World} {Z : Bk -> Prop} {κ : Kap} {o : Nat -> Option O}
theorem kE {r:List K} {cs:List C} (h:pureRow r=some cs):r=cs.map .c:=by
 induction r generalizing cs with
 |nil=>simp[pureRow] at h;subst h;rfl
 |cons k r ih=>
  cases k<;>simp[pureRow] at h
  obtain⟨cs',h',rfl⟩:=h;rw[ih h'];rfl
theorem yB.ofPure {r:List C} {cs:List Value} (h:yG w Z r cs):yB w Z κ o (r.map .c) cs:=by
 refine⟨by simp[h.1],fun j k v hk hv=>?_⟩;simp only[Zz,Zd] at hk;obtain⟨c,hc,rfl⟩:=hk;exact⟨(h.2 j c v hc hv).oneCell,h.2 j c v hc hv⟩
theorem yB.toPure {r:List C} {cs:List Value} (h:yB w Z κ o (r.map .c) cs):yG w Z r cs:=by
 refine⟨by simpa using h.1,fun j c v hc hv=>?_⟩;exact(h.2 j (.c c) v (by simp[hc]) hv).2
theorem yB.drop {r:List K} {cs:List Value} (h:yB w Z κ o r cs) (n:Nat):yB w Z κ o (r.drop n) (cs.drop n):=
 ⟨by simp[h.1],fun j k v hk hv=>h.2 (n+j) k v (by simpa using hk) (by simpa using hv)⟩
theorem yB.take {r:List K} {cs:List Value} (h:yB w Z κ o r cs) (n:Nat):yB w Z κ o (r.take n) (cs.take n):=by
 refine⟨by simp[h.1],fun j k v hk hv=>?_⟩;rw[Z6] at hk hv;split at hk
 ·rename_i hj;rw[if_pos hj] at hv;exact h.2 j k v hk hv
 ·simp at hk
theorem yG.drop {r:List C} {cs:List Value} (h:yG w Z r cs) (n:Nat):yG w Z (r.drop n) (cs.drop n):=
 ⟨by simp[h.1],fun j k v hk hv=>h.2 (n+j) k v (by simpa using hk) (by simpa using hv)⟩
theorem yG.take {r:List C} {cs:List Value} (h:yG w Z r cs) (n:Nat):yG w Z (r.take n) (cs.take n):=by
 refine⟨by simp[h.1],fun j k v hk hv=>?_⟩;rw[Z6] at hk hv;split at hk
 ·rename_i hj;rw[if_pos hj] at hv;exact h.2 j k v hk hv
 ·simp at hk
theorem iF {r:List K} {cs:List Value} (h:yB w Z κ o r cs) (agg:Bool) (h0:0<cs.length):
  zK w Z κ o (ofRow agg r) (if agg then .agg cs.toArray else cs.getD 0 undef):=by
 cases agg with
 |true=>
  simp only[ofRow,if_true];split
  ·rename_i x hx
   have:=kE hx;subst this;exact⟨_,rfl,by simpa using h.toPure⟩
  ·exact⟨_,rfl,by simpa using h⟩
 |false=>
  simp only[ofRow,Z1,if_false];split
  ·rename_i x
   cases cs with
   |nil=>simp at h0
   |cons v cs=>exact h.2 0 x v rfl rfl
  ·trivial
end rows
theorem eV (f:Nat->Value) (n j:Nat) (v:Value):((List.range n).map f)[j]?=some v ↔ j<n/\f j=v:=by
 by_cases h:j<n
 ·simp[h]
 ·simp[h]
section
variable {P : Program} {w0 : Base} {w : World} {Z0 : Bk -> Prop} {κ : Kap} {σ : St} {a : Act}
def vG (P:Program) (w0:Base) (Z0:Bk->Prop) (κ:Kap) (σ:St) (w:World) (g:Bool) (s:Sem Value) (r:V):Prop:=
 g=true-> ∃u,s.run P w=.ok u w/\zK w (Zof w0 Z0 κ σ.o w) κ σ.o r u
theorem zqI (hi:Inv w0 Z0 κ σ a.tmps w) {τ e:Nat} {row:List K} (ho:σ.o τ=some (.var e row)):
  ∃b cur,κ τ=some b/\w.heap[b]?=some (.cells cur e (0,0))/\yB w (Zof w0 Z0 κ σ.o w) κ σ.o row cur.toList:=hi.objs τ _ ho
theorem zqJ (hi:Inv w0 Z0 κ σ a.tmps w) {t:TypeId} {n:Nat} {agg:Bool} (hn:yW P t=some n) (ha:uH P t=some agg) (h0:0<n) {x:Operand} {y:AX} (hx:ax x=some y)
  {g:Bool} {d:Nat} {k:Nat->V->Prop} (h:zA σ g (.load d n agg y) k): ∃r,k d r/\vG P w0 Z0 κ σ w g (Instr.loadAt t (a.eval x)) r:=by
 simp only[zA] at h;obtain⟨h,hv⟩:=yS hi hx h;have rowcase: ∀(sz:Nat) (rows:List (List C)) (i off:Nat),zA.rowPart agg off n sz (rows.getD i []) (k d)->(g=true->off+n<=sz)->
   (g=true-> ∃b q r cs,a.eval x=.pointer (some ⟨b,q,none⟩)/\rows[i]?=some r/\r.length=sz/\yG w (Zof w0 Z0 κ σ.o w) (r.drop off) cs/\(∀j v,cs[j]?=some v->w.cell? ⟨b,q+j,none⟩=some v))->
   ∃r,k d r/\vG P w0 Z0 κ σ w g (Instr.loadAt t (a.eval x)) r:=by
  intro sz rows i off hr hb hm;cases g with
  |false=>
   have:=hr;cases agg with
   |true=>
    simp only[zA.rowPart] at this;split at this
    ·exact⟨_,this,fun h=>by simp at h⟩
    ·exact⟨_,this,fun h=>by simp at h⟩
   |false=>
    simp only[zA.rowPart] at this;exact⟨_,this,fun h=>by simp at h⟩
  |true=>
   obtain⟨b,q,r,cs,hp,hri,hrl,hrow,hcell⟩:=hm rfl;have hb:=hb rfl;have hr2:=hr;have hgd:rows.getD i []=r:=by simp[Zi,hri]
   rw[hgd] at hr2;have hrun:=zbi hn ha h0 (b:=b) (q:=q) (w:=w) (cs.take n) (by have:=hrow.1;simp at this;simp[this];omega)
    (fun j v hj=>by
     rw[Z6] at hj
     split at hj
     ·exact hcell j v hj
     ·simp at hj)
   have hrow':=hrow.take n;cases agg with
   |true=>
    simp only[zA.rowPart] at hr2;split at hr2
    ·rename_i he
     obtain⟨rfl,rfl⟩:=he;refine⟨_,hr2,fun _=>⟨_,by rw[hp];exact hrun,?_⟩⟩;refine⟨_,rfl,?_⟩;have e:r=(r.drop 0).take n:=by simp only[List.drop_zero];exact(Z7 (by omega)).symm
     rw[e];simpa using hrow'
    ·refine⟨_,hr2,fun _=>⟨_,by rw[hp];exact hrun,_,rfl,by simpa using hrow'⟩⟩
   |false=>
    simp only[zA.rowPart] at hr2;have hlt:off<r.length:=by omega
    have hc:r[off]?=some r[off]:=by simp[hlt]
    have hgc:r.getD off default=r[off]:=by simp[Zi,hc]
    rw[hgc] at hr2;refine⟨_,hr2,fun _=>⟨_,by rw[hp];exact hrun,?_⟩⟩;have hl:=hrow'.1;have:0<(cs.take n).length:=by rw[hl];simp;omega
    have hg:(cs.take n)[0]?=some ((cs.take n).getD 0 undef):=by simp[Zi];rw[Zf (by simpa using this)];simp
    have hq:=hrow'.2 0 r[off] _ (by rw[Z6,if_pos h0];simp[hlt]) hg;simp only[Z1,if_false];exact⟨hq.oneCell,hq⟩
 revert h hv
 generalize (y.ev σ).strip.1=v;intro h hv
 match v,h,hv with
 | .k (.ptr τ off),h,hv=>
   simp only at h;split at h
   ·rename_i e row ho
    obtain⟨hb,hk⟩:=h;refine⟨_,hk,fun hg=>?_⟩;obtain⟨b,cur,hκ,hheap,hrow⟩:=zqI hi ho;obtain⟨b',hκ',hp⟩:=(hv hg).2 e row ho;obtain rfl:b=b':=by rw[hκ] at hκ';simpa using hκ'
    have hb:=hb hg;have hrow':=(hrow.drop off).take n;have hl:((cur.toList.drop off).take n).length=n:=by rw[hrow'.1];simp;omega
    refine⟨_,?_,iF hrow' agg (by omega)⟩;rw[hp];refine zbi hn ha h0 _ hl (fun j v hj=>?_);rw[cell_of_row w b _ cur e (0,0) hheap];rw[Z6] at hj;split at hj
    ·simpa using hj
    ·simp at hj
   ·exact h.elim
 | .k (.pel sz rows i off),h,hv=>
   simp only at h;refine rowcase sz rows i off h.2 h.1 (fun hg=>?_);obtain⟨b,q,hp,hi',hl⟩:=(hv hg).2;obtain⟨r,hr⟩: ∃r,rows[i]?=some r:=⟨rows[i],by simp[hi']⟩;have hrl:=hl.2.1 r (ZP hr);have hb:=h.1 hg;have hcs: ∀j,j<sz-> ∃v,w.cell? ⟨b,q+(i*sz+j),none⟩=some v/\ ∀c,r[j]?=some c->PRep w (Zof w0 Z0 κ σ.o w) c v:=by
    intro j hj;have hjr:j<r.length:=by omega
    obtain⟨v,hv1,hv2⟩:=hl.2.2 i j r r[j] hr (Zf hjr);exact⟨v,hv1,fun c hc=>by rw[Zf hjr] at hc;cases hc;exact hv2⟩
   obtain⟨f,hf⟩: ∃f:Nat->Value,∀j,j<sz->w.cell? ⟨b,q+(i*sz+j),none⟩=some (f j)/\ ∀c,r[j]?=some c->PRep w (Zof w0 Z0 κ σ.o w) c (f j):=by
    refine⟨fun j=>if h:j<sz then(hcs j h).choose else undef,fun j hj=>?_⟩;simp only[hj,dif_pos];exact(hcs j hj).choose_spec
   refine⟨b,q+(i*sz+off),r,(List.range (sz-off)).map fun j=>f (off+j),hp,hr,hrl,⟨by simp[hrl],fun j c v hc hv=>?_⟩,fun j v hj=>?_⟩
   ·rw[eV] at hv
    rw[YJ] at hc;obtain⟨hj,rfl⟩:=hv;exact(hf (off+j) (by omega)).2 c hc
   ·rw[eV] at hj
    obtain⟨hj,rfl⟩:=hj;have:=(hf (off+j) (by omega)).1;rw[<-this];congr 2;omega
 | .k (.elem τ i off),h,hv=>
   simp only at h;split at h
   ·rename_i e sz nl rows ho
    refine rowcase sz rows i off h.2 h.1 (fun hg=>?_);have hb:=h.1 hg;obtain⟨b',hκ',hilt,hp⟩:=(hv hg).2 e sz nl rows ho;rcases hi.objs τ _ ho with⟨hκ,_⟩|⟨b,cur,cap,hκ,hheap,_,hcs,hlen,hm,hnl,hall,hcells⟩
    ·rw[hκ] at hκ';simp at hκ'
    ·obtain rfl:b=b':=by rw[hκ] at hκ';simpa using hκ'
     obtain⟨r,hr⟩: ∃r,rows[i]?=some r:=⟨rows[i],by simp[hilt]⟩;have hrl:=hall r (ZP hr);refine⟨b,i*sz+off,r,(cur.toList.drop (i*sz+off)).take (sz-off),hp,hr,hrl,⟨?_,fun j c v hc hv=>?_⟩,fun j v hj=>?_⟩
     ·simp[hrl,hcs]
      have:(i+1)*sz<=cap*sz:=ZZ _ (by omega);rw[YD] at this;omega
     ·simp only[YJ] at hc
      obtain⟨v',hv',hp'⟩:=hcells i (off+j) r c hr hc;rw[Z6] at hv;split at hv
      ·simp only[YJ,Yu] at hv
       have e:i*sz+off+j=i*sz+(off+j):=by omega
       rw[e,hv'] at hv;simp at hv;subst hv;exact hp'
      ·simp at hv
     ·rw[Z6] at hj
      split at hj
      ·rw[cell_of_row w b _ cur e (0,0) hheap]
       simpa using hj
      ·simp at hj
   ·exact h.elim
 | .k (.c (.ro row off)),h,hv=>
   simp only at h;obtain⟨hb,hk⟩:=h;refine⟨_,hk,fun hg=>?_⟩;have hb:=hb hg;have hpr:=(hv hg).2;cases hpr':a.eval x<;>rw[hpr'] at hpr<;>cases hpr
   rename_i b val hz hcell hval;have hrow:yG w (Zof w0 Z0 κ σ.o w) ((row.drop off).take n) ((List.range n).map fun j=>val (off+j)):=by
    refine⟨by simp;omega,fun j c v hc hv=>?_⟩;rw[Z6] at hc;split at hc
    ·rw[eV] at hv
     rw[YJ] at hc;obtain⟨_,rfl⟩:=hv;exact hval _ c hc
    ·simp at hc
   refine⟨_,?_,iF (yB.ofPure hrow) agg (by simp;omega)⟩;refine zbi hn ha h0 _ (by simp) (fun j v hj=>?_);rw[eV] at hj;obtain⟨hj,rfl⟩:=hj;exact hcell (off+j) row[off+j] (by simp)
 | .k (.c (.int _ _)),h,_=>exact h.elim
 | .k (.c (.bool _)),h,_=>exact h.elim
 | .k (.c (.str _)),h,_=>exact h.elim
 | .k (.c (.list _ _ _)),h,_=>exact h.elim
 | .k (.c (.fn _ _)),h,_=>exact h.elim
 | .k (.own _),h,_=>exact h.elim
 | .k (.fnk _ _),h,_=>exact h.elim
 | .k (.newl _ _ _ _),h,_=>exact h.elim
 | .k .dead,h,_=>exact h.elim
 | .agg _,h,_=>exact h.elim
 | .agk _,h,_=>exact h.elim
 | .tup _,h,_=>exact h.elim
 | .undef,h,_=>exact h.elim
 | .any,h,_=>exact h.elim
end
section
variable {P : Program} {w0 : Base} {w : World} {Z0 : Bk -> Prop} {κ : Kap} {σ : St} {a : Act}
theorem vK {w:World} {Z:Bk->Prop} {k:IntKind} {n:Int} {v:Value} (h:PRep w Z (.int k n) v):v=.int k n:=by cases h;rfl
theorem nI {w:World} {Z:Bk->Prop} {b:Bool} {v:Value} (h:PRep w Z (.bool b) v):v=.bool b:=by cases h;rfl
theorem vX {w:World} {Z:Bk->Prop} {s:List UInt8} {v:Value} (h:PRep w Z (.str s) v):v=.string ⟨s.toArray⟩:=by cases h;rfl
theorem tX {w:World} {Z:Bk->Prop} {κ:Kap} {o:Nat->Option O} {k:IntKind} {n:Int} {v:Value} (h:zK w Z κ o (.k (.c (.int k n))) v):v=.int k n:=vK h.2
theorem sY {w:World} {Z:Bk->Prop} {κ:Kap} {o:Nat->Option O} {b:Bool} {v:Value} (h:zK w Z κ o (.k (.c (.bool b))) v):v=.bool b:=nI h.2
theorem eW {w:World} {Z:Bk->Prop} {κ:Kap} {o:Nat->Option O} {s:List UInt8} {v:Value} (h:zK w Z κ o (.k (.c (.str s))) v):v=.string ⟨s.toArray⟩:=vX h.2
theorem sO {w:World} {Z:Bk->Prop} {κ:Kap} {o:Nat->Option O} (k:IntKind) (n:Int):zK w Z κ o (.k (.c (.int k n))) (.int k n):=⟨rfl,.int k n⟩
theorem rS {w:World} {Z:Bk->Prop} {κ:Kap} {o:Nat->Option O} (b:Bool):zK w Z κ o (.k (.c (.bool b))) (.bool b):=⟨rfl,.bool b⟩
theorem zeC {w:World} {Z:Bk->Prop} {κ:Kap} {o:Nat->Option O} (s:List UInt8):zK w Z κ o (.k (.c (.str s))) (.string ⟨s.toArray⟩):=⟨rfl,.str s⟩
theorem zqK {op:BinOp} {c1 c2 c:C} {p:Prop} (hb:binV op c1 c2=some (p,c)) (hp:p) (t:TypeId)
  {w:World} {Z:Bk->Prop} {v1 v2:Value} (h1:PRep w Z c1 v1) (h2:PRep w Z c2 v2): ∃u,(binOp op t v1 v2).run P w=.ok u w/\PRep w Z c u:=by
 unfold binV at hb;split at hb
 ·rename_i k a k' b
  cases vK h1;cases vK h2;have key: ∀op',op'≠.shl->op'≠.shr->(if k=k' then cutInt k op' a b else none)=some (p,c)-> ∃u,(binOp op' t (.int k a) (.int k' b)).run P w=.ok u w/\PRep w Z c u:=by
   intro op' hn1 hn2 hb;split at hb
   ·rename_i hk;subst hk
    cases op'<;>simp only[cutInt] at hb<;>first
     |(simp at hb;done)
     |(obtain⟨rfl,rfl⟩:=XX (Yr hb);first
      |(refine⟨_,?_,.int _ _⟩;first|(simp[binOp,Op.intArith];done)|(simp[binOp,Op.intDiv,hp];done)|(simp[binOp,Op.intBits];done))
      |(refine⟨_,?_,.bool _⟩;simp[binOp,Op.intCmp];done))
   ·simp at hb
  unfold binInt at hb;split at hb
  ·obtain⟨rfl,rfl⟩:=XX (Yr hb)
   refine⟨_,?_,.int _ _⟩;have: ¬b<0:=by omega
   simp[binOp,Op.shift,this]
  ·obtain⟨rfl,rfl⟩:=XX (Yr hb)
   refine⟨_,?_,.int _ _⟩;have: ¬b<0:=by omega
   simp[binOp,Op.shift,this]
  ·rename_i hn1 hn2
   exact key _ hn1 hn2 hb
 ·rename_i x y
  cases vX h1;cases vX h2;cases op<;>simp only[binStr] at hb<;>first
    |(simp at hb;done)
    |(obtain⟨rfl,rfl⟩:=XX (Yr hb);first
     |(refine⟨_,?_,.bool _⟩;simp[binOp,Op.stringOp];done)
     |(refine⟨_,?_,.str _⟩
       have h:=run_string_add_sum (P:=P) w ⟨x.toArray⟩ ⟨y.toArray⟩ (by simpa [ByteArray.size] using hp)
       simp only[binOp]
       rw[h,ByteArray.mk_append_mk]))
 ·simp at hb
theorem eX (op:BinOp) (t:TypeId) (x y:Operand) (a b:Value) (w:World) (ha:a.oneCell'=true) (hn:a≠.nilIface):(eqGuard op t x y a b).run P w=.ok () w:=by
 unfold eqGuard;cases a<;>first
  |(simp[Value.oneCell'] at ha;done)
  |exact absurd rfl hn
  |(cases b<;>(rw[Sem.run_ite];split<;>rfl))
theorem zqL {w:World} {Z:Bk->Prop} {c:C} {v:Value} (h:PRep w Z c v):v≠.nilIface:=by cases h<;>simp
theorem zbj (hi:Inv w0 Z0 κ σ a.tmps w) {t:TypeId} {op:BinOp} {x y:Operand} {x' y':AX} (hx:ax x=some x') (hy:ax y=some y')
  {g:Bool} {d:Nat} {k:Nat->V->Prop} (h:zA σ g (.bin d op x' y') k):
  ∃r,k d r/\vG P w0 Z0 κ σ w g (do eqGuard op t x y (a.eval x) (a.eval y);binOp op t (a.eval x) (a.eval y)) r:=by
 simp only[zA] at h;obtain⟨h,hv⟩:=yS hi hx h;obtain⟨h,hu⟩:=yS hi hy h;generalize (x'.ev σ).strip.1=v at h hv;generalize (y'.ev σ).strip.1=u at h hu;split at h
 ·split at h
  ·rename_i hb
   obtain⟨hp,hk⟩:=h;refine⟨_,hk,fun hg=>?_⟩;obtain⟨r,hr,hrep⟩:=zqK (P:=P) hb (hp hg) t (hv hg).2 (hu hg).2;exact⟨r,by simp[eX op t x y _ _ w (hv hg).1 (zqL (hv hg).2),hr],hrep.oneCell,hrep⟩
  ·exact h.elim
 ·exact h.elim
theorem zqM (hi:Inv w0 Z0 κ σ a.tmps w) {t:TypeId} (ht:P.underlying t=some .bool) {op:BinOp} (hop:op=.eql\/op=.neq) {x y:Operand} {x' y':AX} (hx:ax x=some x') (hy:ax y=some y')
  {g:Bool} {d:Nat} {k:Nat->V->Prop} (h:zA σ g (.binB d (op==.neq) x' y') k):
  ∃r,k d r/\vG P w0 Z0 κ σ w g (do eqGuard op t x y (a.eval x) (a.eval y);binOp op t (a.eval x) (a.eval y)) r:=by
 simp only[zA] at h;obtain⟨h,hv⟩:=yS hi hx h;obtain⟨h,hu⟩:=yS hi hy h;generalize (x'.ev σ).strip.1=v at h hv;generalize (y'.ev σ).strip.1=u at h hu;split at h
 ·refine⟨_,h,fun hg=>?_⟩
  have e1:=sY (hv hg);have e2:=sY (hu hg);have hgd:=eX (P:=P) op t x y (a.eval x) (a.eval y) w (by rw[e1];rfl) (by rw[e1];simp);rw[e1,e2] at hgd⊢;rcases hop with rfl|rfl
  ·refine⟨_,?_,rS _⟩
   simp[hgd,run_eql_bool w t _ _ ht]
  ·refine⟨_,?_,rS _⟩
   simp[hgd,run_neq_bool w t _ _ ht]
 ·exact h.elim
theorem zqN (hi:Inv w0 Z0 κ σ a.tmps w) {op:UnOp} {x:Operand} {x':AX} (hx:ax x=some x')
  {g:Bool} {d:Nat} {k:Nat->V->Prop} (h:zA σ g (.un d op x') k): ∃r,k d r/\vG P w0 Z0 κ σ w g (Op.unary op (a.eval x)) r:=by
 simp only[zA] at h;obtain⟨h,hv⟩:=yS hi hx h;generalize (x'.ev σ).strip.1=v at h hv;split at h
 ·split at h
  ·rename_i c1 c2 hc
   refine⟨_,h,fun hg=>?_⟩;have hr:=(hv hg).2;unfold unV at hc;split at hc
   ·cases hc
    rw[vK hr];exact⟨_,rfl,sO _ _⟩
   ·cases hc
    rw[nI hr];exact⟨_,rfl,rS _⟩
   ·simp at hc
  ·exact h.elim
 ·exact h.elim
theorem zqO (hi:Inv w0 Z0 κ σ a.tmps w) {src dst:TypeId} {k0 kk:IntKind} (hs:P.underlying src=some (.int k0)) (hd:P.underlying dst=some (.int kk)) {x:Operand} {x':AX} (hx:ax x=some x')
  {g:Bool} {d:Nat} {k:Nat->V->Prop} (h:zA σ g (.conv d kk x') k): ∃r,k d r/\vG P w0 Z0 κ σ w g (convert src dst (a.eval x)) r:=by
 simp only[zA] at h;obtain⟨h,hv⟩:=yS hi hx h;generalize (x'.ev σ).strip.1=v at h hv;split at h
 ·refine⟨_,h,fun hg=>?_⟩
  rw[tX (hv hg)];exact⟨_,by simp[convert,run_underlying hs,run_underlying hd,Conv.intToInt],sO _ _⟩
 ·exact h.elim
theorem zeD (hi:Inv w0 Z0 κ σ a.tmps w) {x:Operand} {x':AX} (hx:ax x=some x') {g:Bool} {d:Nat} {k:Nat->V->Prop} (h:zA σ g (.mov d x') k):
  ∃r,k d r/\vG P w0 Z0 κ σ w g (pure (a.eval x)) r:=by
 simp only[zA] at h;exact⟨_,h,fun _=>⟨_,rfl,qR hi hx⟩⟩
theorem zqP (hi:Inv w0 Z0 κ σ a.tmps w) {c x y:Operand} {c' x' y':AX} (hc:ax c=some c') (hx:ax x=some x') (hy:ax y=some y')
  {g:Bool} {d:Nat} {k:Nat->V->Prop} (h:zA σ g (.pick d c' x' y') k):
  ∃r,k d r/\vG P w0 Z0 κ σ w g (do pure (if<-asBool (a.eval c) then a.eval x else a.eval y)) r:=by
 simp only[zA] at h;obtain⟨h,hv⟩:=yS hi hc h;have rx:=qR hi hx;have ry:=qR hi hy;generalize (c'.ev σ).strip.1=v at h hv;generalize x'.ev σ=vx at h rx;generalize y'.ev σ=vy at h ry;split at h
 ·rename_i cb
  split at h
  ·rename_i bx gx bY gy ex ey
   obtain⟨h1,h2,h3⟩:=h;refine⟨_,h3,fun hg=>?_⟩;have e:=sY (hv hg);cases cb with
   |true=>
    have:=rx.strip (by rw[ex];exact h1 hg rfl);rw[ex] at this;exact⟨.bool bx,by simp[e,asBool,sY this],rS _⟩
   |false=>
    have:=ry.strip (by rw[ey];exact h2 hg rfl);rw[ey] at this;exact⟨.bool bY,by simp[e,asBool,sY this],rS _⟩
  ·rename_i bx gx ex _
   obtain⟨h1,h3⟩:=h;refine⟨_,h3,fun hg=>?_⟩;obtain⟨rfl,hgx⟩:=h1 hg;have e:=sY (hv hg);have:=rx.strip (by rw[ex];exact hgx);rw[ex] at this;exact⟨.bool bx,by simp[e,asBool,sY this],rS _⟩
  ·rename_i bY gy ey _
   obtain⟨h1,h3⟩:=h;refine⟨_,h3,fun hg=>?_⟩;obtain⟨rfl,hgy⟩:=h1 hg;have e:=sY (hv hg);have:=ry.strip (by rw[ey];exact hgy);rw[ey] at this;exact⟨.bool bY,by simp[e,asBool,sY this],rS _⟩
  ·exact h.elim
 ·exact h.elim
end
section
variable {P : Program} {w0 : Base} {w : World} {Z0 : Bk -> Prop} {κ : Kap} {σ : St} {a : Act}
theorem zeE {x:Option O} (h:isVarO x=true): ∃e row,x=some (.var e row):=by
 unfold isVarO at h;split at h
 ·exact⟨_,_,rfl⟩
 ·simp at h
theorem zeF {x:Option O} (h:isArrO x=true): ∃e sz nl rows,x=some (.arr e sz nl rows):=by
 unfold isArrO at h;split at h
 ·exact⟨_,_,_,_,rfl⟩
 ·simp at h
theorem nJ {v:V} {u:Value} {n:Nat} {s:Sem Value} (hrun: ∀b q,u=.pointer (some ⟨b,q,none⟩)->s.run P w=.ok (.pointer (some ⟨b,q+n,none⟩)) w)
  {κ:Kap} (hv:zK w (Zof w0 Z0 κ σ.o w) κ σ.o v u):
  (∀τ o,v=.k (.ptr τ o)->isVarO (σ.o τ)=true-> ∃r,s.run P w=.ok r w/\zK w (Zof w0 Z0 κ σ.o w) κ σ.o (.k (.ptr τ (o+n))) r)/\
  (∀τ i o,v=.k (.elem τ i o)->isArrO (σ.o τ)=true-> ∃r,s.run P w=.ok r w/\zK w (Zof w0 Z0 κ σ.o w) κ σ.o (.k (.elem τ i (o+n))) r)/\
  (∀sz rows i o,v=.k (.pel sz rows i o)-> ∃r,s.run P w=.ok r w/\zK w (Zof w0 Z0 κ σ.o w) κ σ.o (.k (.pel sz rows i (o+n))) r)/\
  (∀row o,v=.k (.c (.ro row o))-> ∃r,s.run P w=.ok r w/\zK w (Zof w0 Z0 κ σ.o w) κ σ.o (.k (.c (.ro row (o+n)))) r):=by
 refine⟨?_,?_,?_,?_⟩
 ·rintro τ o rfl hob
  obtain⟨e,row,hob⟩:=zeE hob;obtain⟨b,hb,hp⟩:=hv.2 e row hob;exact⟨_,hrun b o hp,rfl,fun e' row' ho'=>⟨b,hb,rfl⟩⟩
 ·rintro τ i o rfl hob
  obtain⟨e,sz,nl,rows,hob⟩:=zeF hob;obtain⟨b,hb,hlt,hp⟩:=hv.2 e sz nl rows hob;refine⟨_,hrun b _ hp,rfl,fun e' sz' nl' rows' ho'=>?_⟩;rw[hob] at ho';cases ho';refine⟨b,hb,hlt,?_⟩;congr 3;omega
 ·rintro sz rows i o rfl
  obtain⟨b,q,hp,hlt,hl⟩:=hv.2;refine⟨_,hrun b _ hp,rfl,b,q,?_,hlt,hl⟩;congr 3;omega
 ·rintro row o rfl
  have hpr:=hv.2;cases hpr':u<;>rw[hpr'] at hpr<;>cases hpr
  rename_i b val hz hcell hval;exact⟨_,hrun b o hpr',rfl,.ro b row _ val hz hcell hval⟩
theorem zqQ (hi:Inv w0 Z0 κ σ a.tmps w) {s:TypeId} {fs:Array Field} (hs:P.underlying s=some (.struct fs)) {i:Nat} {f:Field} (hf:fs[i]?=some f) {n:Nat} (hn:yW P f.type=some n) (h0:0<n)
  {x:Operand} {x':AX} (hx:ax x=some x') {g:Bool} {d:Nat} {k:Nat->V->Prop} (h:zA σ g (.faddr d f.offset x') k):
  ∃r,k d r/\vG P w0 Z0 κ σ w g (Instr.fieldAt s (a.eval x) i) r:=by
 simp only[zA] at h;obtain⟨h,hv⟩:=yS hi hx h;have hrun: ∀b q,a.eval x=.pointer (some ⟨b,q,none⟩)->(Instr.fieldAt s (a.eval x) i).run P w=.ok (.pointer (some ⟨b,q+f.offset,none⟩)) w:=by
  intro b q e;have:n≠0:=by omega
  simp[e,Instr.fieldAt,run_underlying hs,hf,Instr.sureAddr,fieldPlace,uS hn,this,qQ]
 generalize (x'.ev σ).strip.1=v at h hv;split at h
 ·exact⟨_,h.2,fun hg=>(nJ hrun (hv hg)).1 _ _ rfl (h.1 hg)⟩
 ·exact⟨_,h.2,fun hg=>(nJ hrun (hv hg)).2.1 _ _ _ rfl (h.1 hg)⟩
 ·exact⟨_,h,fun hg=>(nJ hrun (hv hg)).2.2.1 _ _ _ _ rfl⟩
 ·exact⟨_,h,fun hg=>(nJ hrun (hv hg)).2.2.2 _ _ rfl⟩
 ·exact h.elim
theorem zqR (hi:Inv w0 Z0 κ σ a.tmps w) {t e:TypeId} {len:Nat} (ht:P.underlying t=some (.array len e)) {n:Nat} (hn:yW P e=some n)
  {x i:Operand} {x' i':AX} (hx:ax x=some x') (hii:ax i=some i') {g:Bool} {d:Nat} {k:Nat->V->Prop} (h:zA σ g (.iaddrA d n len x' i') k):
  ∃r,k d r/\vG P w0 Z0 κ σ w g (Instr.indexAt t (a.eval x) (a.eval i)) r:=by
 simp only[zA] at h;obtain⟨h,hv⟩:=yS hi hx h;obtain⟨h,hu⟩:=yS hi hii h;generalize (x'.ev σ).strip.1=v at h hv;generalize (i'.ev σ).strip.1=u at h hu;have hrun: ∀(kk:IntKind) (m:Int),a.eval i=.int kk m->0<=m->m<len-> ∀b q,a.eval x=.pointer (some ⟨b,q,none⟩)->
   (Instr.indexAt t (a.eval x) (a.eval i)).run P w=.ok (.pointer (some ⟨b,q+m.toNat*n,none⟩)) w:=by
  intro kk m e1 h1 h2 b q e2;rw[e1,e2];simp[Instr.indexAt,asIntOf,run_underlying ht,Instr.sureAddr,h1,h2,uS hn,qQ]
 split at h
 ·rename_i m
  exact⟨_,h.2,fun hg=>(nJ (hrun _ m (tX (hu hg)) (h.1 hg).1 (h.1 hg).2.1) (hv hg)).1 _ _ rfl (h.1 hg).2.2⟩
 ·rename_i m
  exact⟨_,h.2,fun hg=>(nJ (hrun _ m (tX (hu hg)) (h.1 hg).1 (h.1 hg).2) (hv hg)).2.2.2 _ _ rfl⟩
 ·rename_i m
  exact⟨_,h.2,fun hg=>(nJ (hrun _ m (tX (hu hg)) (h.1 hg).1 (h.1 hg).2) (hv hg)).2.2.1 _ _ _ _ rfl⟩
 ·rename_i m
  exact⟨_,h.2,fun hg=>(nJ (hrun _ m (tX (hu hg)) (h.1 hg).1 (h.1 hg).2.1) (hv hg)).2.1 _ _ _ rfl (h.1 hg).2.2⟩
 ·exact h.elim
theorem mX {w:World} {Z:Bk->Prop} {sz:Nat} {nl:Option Bool} {rows:List (List C)} {v:Value} (h:PRep w Z (.list sz nl rows) v):
  (rows=[]/\v=.slice none 0 0/\nl≠some false)\/(∃b q cap,v=.slice (some ⟨b,q,none⟩) rows.length cap/\rows.length<=cap/\cap<=maxLen/\nl≠some true/\qJ w Z sz rows b q)\/(rows=[]/\ ∃a,v=.slice (some a) 0 0/\nl≠some true):=by
 cases h with
 |nil _ _ h=>exact .inl ⟨rfl,rfl,h⟩
 |emp _ _ a h=>exact .inr (.inr ⟨rfl,a,rfl,h⟩)
 |list b o cap _ _ _ val h1 h2 h3 h4 h5 h6 h7=>
  exact .inr (.inl ⟨b,o,cap,rfl,h2,h3,h1,h4,h5,fun i j r c hr hc=>⟨_,h6 i j r c hr hc,h7 i j r c hr hc⟩⟩)
theorem iH {w:World} {Z:Bk->Prop} {sz:Nat} {nl:Option Bool} {rows:List (List C)} {b q cap:Nat} (hn:nl≠some true) (h1:rows.length<=cap) (h2:cap<=maxLen)
  (h:qJ w Z sz rows b q):PRep w Z (.list sz nl rows) (.slice (some ⟨b,q,none⟩) rows.length cap):=by
 obtain⟨h3,h4,h5⟩:=h;obtain⟨val,hval⟩: ∃val:Nat->Nat->Value,∀(i j:Nat) r c,rows[i]?=some r->r[j]?=some c->w.cell? ⟨b,q+(i*sz+j),none⟩=some (val i j)/\PRep w Z c (val i j):=by
  refine⟨fun i j=>(w.cell? ⟨b,q+(i*sz+j),none⟩).getD undef,fun i j r c hr hc=>?_⟩;obtain⟨v,hv,hp⟩:=h5 i j r c hr hc;simp only[hv,YZ];exact⟨trivial,hp⟩
 exact .list b q cap sz nl rows val hn h1 h2 h3 h4 (fun i j r c hr hc=>(hval i j r c hr hc).1) (fun i j r c hr hc=>(hval i j r c hr hc).2)
theorem zqS (hi:Inv w0 Z0 κ σ a.tmps w) {t e:TypeId} (ht:P.underlying t=some (.slice e)) {n:Nat} (hn:yW P e=some n)
  {x i:Operand} {x' i':AX} (hx:ax x=some x') (hii:ax i=some i') {g:Bool} {d:Nat} {k:Nat->V->Prop} (h:zA σ g (.iaddr d n x' i') k):
  ∃r,k d r/\vG P w0 Z0 κ σ w g (Instr.indexAt t (a.eval x) (a.eval i)) r:=by
 simp only[zA] at h;obtain⟨h,hv⟩:=yS hi hx h;obtain⟨h,hu⟩:=yS hi hii h;generalize (x'.ev σ).strip.1=v at h hv;generalize (i'.ev σ).strip.1=u at h hu;have hrun: ∀(kk:IntKind) (m:Int),a.eval i=.int kk m-> ∀len cap:Nat,0<=m->m<len-> ∀b q,a.eval x=.slice (some ⟨b,q,none⟩) len cap->
   (Instr.indexAt t (a.eval x) (a.eval i)).run P w=.ok (.pointer (some ⟨b,q+m.toNat*n,none⟩)) w:=by
  intro kk m e1 len cap h1 h2 b q e2;rw[e1,e2];simp[Instr.indexAt,asIntOf,run_underlying ht,h1,h2,uS hn,qQ]
 split at h
 ·rename_i sz' nl rows kk m
  obtain⟨h1,h2⟩:=h;refine⟨_,h2,fun hg=>?_⟩;obtain⟨a1,a2,rfl⟩:=h1 hg;rcases mX (hv hg).2 with⟨rfl,_⟩|⟨b,q,cap,hp,_,_,_,hl⟩|⟨rfl,_⟩
  ·simp at a2;omega
  ·refine⟨_,hrun _ m (tX (hu hg)) _ _ a1 a2 b q hp,rfl,b,q,rfl,by omega,hl⟩
  ·simp at a2;omega
 ·rename_i τ kk m
  split at h
  ·rename_i e' sz' nl rows ho
   obtain⟨h1,h2⟩:=h;refine⟨_,h2,fun hg=>?_⟩;obtain⟨a1,a2,rfl⟩:=h1 hg;rcases(hv hg).2 _ _ _ _ ho with⟨hk,hp⟩|⟨b,cur,cap,hk,hb,hc,hp⟩
   ·rcases hi.objs τ _ ho with⟨_,rfl,_⟩|⟨b,cur,cap,hk',_⟩
    ·simp at a2;omega
    ·rw[hk] at hk';simp at hk'
   ·refine⟨_,hrun _ m (tX (hu hg)) _ _ a1 a2 b 0 hp,rfl,fun e2 sz2 nl2 rows2 ho2=>?_⟩
    rw[ho] at ho2;cases ho2;exact⟨b,hk,by omega,by simp⟩
  ·exact h.elim
 ·exact h.elim
theorem zqT (hi:Inv w0 Z0 κ σ a.tmps w) {t:TypeId} {ty:TypeId} {e:TypeId} (ht:P.underlying t=some (.slice e))
  {x:Operand} {x':AX} (hx:ax x=some x') {g:Bool} {d:Nat} {k:Nat->V->Prop} (h:zA σ g (.len d x') k):
  ∃r,k d r/\vG P w0 Z0 κ σ w g (Builtin.len_ #[t] ty #[a.eval x]) r:=by
 simp only[zA] at h;obtain⟨h,hv⟩:=yS hi hx h;generalize (x'.ev σ).strip.1=v at h hv;have hrun: ∀p n c,a.eval x=.slice p n c->(Builtin.len_ #[t] ty #[a.eval x]).run P w=.ok (.int .i64 n) w:=by
  intro p n c e1;simp[Builtin.len_,e1,run_underlying ht,goInt]
 split at h
 ·refine⟨_,h,fun hg=>?_⟩
  rcases mX (hv hg).2 with⟨rfl,hp,_⟩|⟨b,q,cap,hp,_⟩|⟨rfl,_,hp,_⟩
  ·exact⟨_,hrun _ _ _ hp,sO _ _⟩
  ·exact⟨_,hrun _ _ _ hp,sO _ _⟩
  ·exact⟨_,hrun _ _ _ hp,sO _ _⟩
 ·rename_i τ
  split at h
  ·rename_i e' sz' nl rows ho
   refine⟨_,h,fun hg=>?_⟩;rcases(hv hg).2 _ _ _ _ ho with⟨hk,hp⟩|⟨b,cur,cap,hk,hb,hc,hp⟩
   ·rcases hi.objs τ _ ho with⟨_,rfl,_⟩|⟨b,cur,cap,hk',_⟩
    ·exact⟨_,hrun _ _ _ hp,sO _ _⟩
    ·rw[hk] at hk';simp at hk'
   ·exact⟨_,hrun _ _ _ hp,sO _ _⟩
  ·exact h.elim
 ·exact h.elim
theorem zqU (hi:Inv w0 Z0 κ σ a.tmps w) {t:TypeId} {ty:TypeId} (ht:P.underlying t=some .string)
  {x:Operand} {x':AX} (hx:ax x=some x') {g:Bool} {d:Nat} {k:Nat->V->Prop} (h:zA σ g (.lenS d x') k):
  ∃r,k d r/\vG P w0 Z0 κ σ w g (Builtin.len_ #[t] ty #[a.eval x]) r:=by
 simp only[zA] at h;obtain⟨h,hv⟩:=yS hi hx h;generalize (x'.ev σ).strip.1=v at h hv;split at h
 ·rename_i l
  refine⟨_,h,fun hg=>?_⟩;rw[eW (hv hg)];refine⟨_,?_,sO _ _⟩;have e:(⟨l.toArray⟩:ByteArray).size=l.length:=Yx;simp[Builtin.len_,run_underlying ht,goInt,e]
 ·exact h.elim
theorem zqV (hi:Inv w0 Z0 κ σ a.tmps w) {i:Nat}
  {x:Operand} {x':AX} (hx:ax x=some x') {g:Bool} {d:Nat} {k:Nat->V->Prop} (h:zA σ g (.extr d x' i) k):
  ∃r,k d r/\vG P w0 Z0 κ σ w g (Instr.extract (a.eval x) i) r:=by
 simp only[zA] at h;obtain⟨h,hv⟩:=yS hi hx h;generalize (x'.ev σ).strip.1=v at h hv;have hL: ∀(xs:List V) (us:List Value) (i:Nat) r u,VRepL w (Zof w0 Z0 κ σ.o w) κ σ.o xs us->xs[i]?=some r->us[i]?=some u->zK w (Zof w0 Z0 κ σ.o w) κ σ.o r u:=by
  intro xs
  induction xs with
  |nil=>intro us i r u _ h;simp at h
  |cons x xs ih=>
   intro us i r u hrep h1 h2;cases us with
   |nil=>simp at h2
   |cons y us=>
    cases i with
    |zero=>simp at h1 h2;subst h1;subst h2;exact hrep.1
    |succ i=>exact ih us i r u hrep.2 (by simpa using h1) (by simpa using h2)
 split at h
 ·rename_i vs
  split at h
  ·rename_i u hu
   refine⟨_,h,fun hg=>?_⟩;obtain⟨us,hp,hlen,hrep⟩:=hv hg;have hlt:i<us.toList.length:=by
    rw[hlen];exact(Zu.1 hu).1
   have hget:us.toList[i]?=some us.toList[i]:=Zf hlt;have hget':us[i]?=some us.toList[i]:=by simp
   exact⟨us.toList[i],by simp only[Instr.extract,hp,hget'];rfl,hL vs us.toList i u _ hrep hu hget⟩
  ·exact h.elim
 ·exact h.elim
theorem zqW (hi:Inv w0 Z0 κ σ a.tmps w) {s:TypeId} {fs:Array Field} (hs:P.underlying s=some (.struct fs)) {i:Nat} {f:Field} (hf:fs[i]?=some f) {n:Nat} (hn:yW P f.type=some n) (h0:0<n)
  {agg:Bool} (ha:uH P f.type=some agg)
  {x:Operand} {x':AX} (hx:ax x=some x') {g:Bool} {d:Nat} {k:Nat->V->Prop} (h:zA σ g (.field d f.offset n agg x') k):
  ∃r,k d r/\vG P w0 Z0 κ σ w g (Instr.field s (a.eval x) i) r:=by
 simp only[zA] at h;obtain⟨h,hv⟩:=yS hi hx h;generalize (x'.ev σ).strip.1=v at h hv;have key: ∀(r:List K) (cs:Array Value),a.eval x=.agg cs->yB w (Zof w0 Z0 κ σ.o w) κ σ.o r cs.toList->f.offset+n<=r.length->
   ∃u,(Instr.field s (a.eval x) i).run P w=.ok u w/\zK w (Zof w0 Z0 κ σ.o w) κ σ.o (ofRow agg ((r.drop f.offset).take n)) u:=by
  intro r cs hp hrow hb;have hrow':=(hrow.drop f.offset).take n;have hl:((cs.toList.drop f.offset).take n).length=n:=by rw[hrow'.1];simp;omega
  refine⟨_,?_,iF hrow' agg (by omega)⟩;rw[hp];cases agg with
  |true=>
   simp[Instr.field,run_underlying hs,hf,part,asAgg,nH ha,uS hn];apply Array.toList_inj.1;simp[List.drop_take]
  |false=>
   have:f.offset<cs.size:=by have:=hrow.1;simp at this;omega
   have hg:cs[f.offset]?=some cs[f.offset]:=by simp[this]
   have e:(List.take n (List.drop f.offset cs.toList)).getD 0 undef=cs[f.offset]:=by
    simp[Zi,Z6,h0,hg]
   simp[Instr.field,run_underlying hs,hf,part,asAgg,nH ha,hg];simpa using e.symm
 split at h
 ·rename_i r
  refine⟨_,h.2,fun hg=>?_⟩;obtain⟨cs,hp,hrow⟩:=hv hg;have:=key (r.map .c) cs hp (yB.ofPure hrow) (by simpa using h.1 hg);rw[<-List.map_drop,<-Xy] at this;exact this
 ·rename_i r
  refine⟨_,h.2,fun hg=>?_⟩;obtain⟨cs,hp,hrow⟩:=hv hg;exact key r cs hp hrow (h.1 hg)
 ·exact h.elim
end
section
variable {P : Program} {w0 : Base} {w : World} {Z0 : Bk -> Prop} {κ : Kap} {σ : St} {a : Act}
theorem zqX (hi:Inv w0 Z0 κ σ a.tmps w) {t:TypeId} (ht:P.underlying t=some .string)
  {x i:Operand} {x' i':AX} (hx:ax x=some x') (hii:ax i=some i') {g:Bool} {d:Nat} {k:Nat->V->Prop} (h:zA σ g (.sidx d x' i') k):
  ∃r,k d r/\vG P w0 Z0 κ σ w g (Instr.index t (a.eval x) (a.eval i)) r:=by
 simp only[zA] at h;obtain⟨h,hv⟩:=yS hi hx h;obtain⟨h,hu⟩:=yS hi hii h;generalize (x'.ev σ).strip.1=v at h hv;generalize (i'.ev σ).strip.1=u at h hu;split at h
 ·rename_i l kk m
  obtain⟨h1,h2⟩:=h;cases g with
  |false=>exact⟨_,h2,fun h=>by simp at h⟩
  |true=>
   obtain⟨a1,a2⟩:=h1 rfl;have hlt:m.toNat<l.length:=by omega
   have hg:l[m.toNat]?=some l[m.toNat]:=Zf hlt;have hgd:l.getD m.toNat 0=l[m.toNat]:=by simp[Zi,hg]
   rw[hgd] at h2;refine⟨_,h2,fun hg'=>?_⟩;rw[eW (hv hg'),tX (hu hg')];refine⟨_,?_,sO _ _⟩;have e:(⟨l.toArray⟩:ByteArray)[m.toNat]?=some l[m.toNat]:=by
    rw[getElem?_pos (⟨l.toArray⟩:ByteArray) m.toNat (by show m.toNat<l.toArray.size;simpa using hlt)];rfl
   simp[Instr.index,asIntOf,run_underlying ht,a1,e]
 ·exact h.elim
theorem eY (hi:Inv w0 Z0 κ σ a.tmps w) {x:Option Operand} {x':Option AX} (hx:(match x with|none=>some none|some x=>(ax x).map some)=some x') {g:Bool} {n:Int} {k:Int->Prop}
  (h:zA.boundP σ g x' n k): ∃m,k m/\(x=none->m=n)/\(g=true-> ∀y,x=some y-> ∃kk,a.eval y=.int kk m):=by
 cases x with
 |none=>
  simp at hx;subst hx;exact⟨n,h,fun _=>rfl,fun _ y hy=>by simp at hy⟩
 |some y=>
  simp only[Zd] at hx;obtain⟨y',hy',rfl⟩:=hx;simp only[zA.boundP] at h;obtain⟨h,hv⟩:=yS hi hy' h;generalize (y'.ev σ).strip.1=v at h hv;split at h
  ·rename_i kk m
   exact⟨m,h,fun h=>by simp at h,fun hg z hz=>by cases hz;exact⟨kk,tX (hv hg)⟩⟩
  ·exact h.elim
theorem eZ {v:Value} {kk:IntKind} {m:Int} (hv:v=.int kk m) {y:Nat} (h0:0<=m) (h1:m<=y) (code:BoundsCode) (w:World):(Instr.sliceBound v y code).run P w=.ok m.toNat w:=by
 subst hv;simp[Instr.sliceBound,asIntOf,h0,h1]
theorem dA {isSlice:Bool} {len cap:Nat} {lo hi:Option Value} {l h:Int} (hlo: ∀y,lo=some y-> ∃kk,y=.int kk l) (hlo':lo=none->l=0)
  (hhi: ∀y,hi=some y-> ∃kk,y=.int kk h) (hhi':hi=none->h=len) (h0:0<=l) (h1:l<=h) (h2:h<=cap) (w:World):
  (Instr.sliceBounds isSlice len cap lo hi none).run P w=.ok (l.toNat,h.toNat,cap) w:=by
 have eh:(h.toNat:Int)=h:=Int.toNat_of_nonneg (by omega);cases hi with
 |none=>
  have:=hhi' rfl;subst this;cases lo with
  |none=>have:=hlo' rfl;subst this;simp[Instr.sliceBounds]
  |some y=>
   obtain⟨kk,rfl⟩:=hlo y rfl;simp[Instr.sliceBounds,eZ (P:=P) rfl h0 h1]
 |some z=>
  obtain⟨kk,rfl⟩:=hhi z rfl;cases lo with
  |none=>
   have:=hlo' rfl;subst this;simp[Instr.sliceBounds,eZ (P:=P) rfl (show 0<=h by omega) h2]
  |some y=>
   obtain⟨kk',rfl⟩:=hlo y rfl;simp[Instr.sliceBounds,eZ (P:=P) rfl (show 0<=h by omega) h2,eZ (P:=P) rfl h0 (show l<=(h.toNat:Nat) by omega)]
theorem zqY (hi:Inv w0 Z0 κ σ a.tmps w) {t:TypeId} (ht:P.underlying t=some .string)
  {x:Operand} {x':AX} (hx:ax x=some x') {lo hi':Option Operand} {lo' hi'':Option AX} (hlo:(match lo with|none=>some none|some x=>(ax x).map some)=some lo')
  (hhi:(match hi' with|none=>some none|some x=>(ax x).map some)=some hi'') {g:Bool} {d:Nat} {k:Nat->V->Prop} (h:zA σ g (.slstr d x' lo' hi'') k):
  ∃r,k d r/\vG P w0 Z0 κ σ w g (Instr.sliceAt t (a.eval x) (lo.map a.eval) (hi'.map a.eval) none) r:=by
 simp only[zA] at h;obtain⟨h,hv⟩:=yS hi hx h;generalize (x'.ev σ).strip.1=v at h hv;split at h
 ·rename_i s
  obtain⟨l,h,l1,l2⟩:=eY hi hlo h;obtain⟨m,h,m1,m2⟩:=eY hi hhi h;refine⟨_,h.2,fun hg=>?_⟩;obtain⟨b1,b2,b3⟩:=h.1 hg;rw[eW (hv hg)];refine⟨_,?_,zeC _⟩;have e:(⟨s.toArray⟩:ByteArray).size=s.length:=Yx;have hb:=dA (P:=P) (isSlice:=false) (len:=s.length) (cap:=s.length) (lo:=lo.map a.eval) (hi:=hi'.map a.eval) (l:=l) (h:=m)
   (by intro y hy;simp only[Zd] at hy;obtain⟨z,hz,rfl⟩:=hy;exact l2 hg z hz) (by intro hn;exact l1 (by simpa using hn))
   (by intro y hy;simp only[Zd] at hy;obtain⟨z,hz,rfl⟩:=hy;exact m2 hg z hz) (by intro hn;exact m1 (by simpa using hn)) b1 b2 b3 w
  simp only[Instr.sliceAt,Instr.slice,Sem.run_bind,run_underlying ht,Result.andThen_ok,e];simp[hb];apply ByteArray.ext;rw[ByteArray.data_extract];simp[List.extract_eq_take_drop,List.drop_take]
 ·exact h.elim
theorem qJ.sub {w:World} {Z:Bk->Prop} {sz:Nat} {rows:List (List C)} {b q:Nat} (h:qJ w Z sz rows b q) (l m:Nat) (hm:m<=rows.length) (hl:l<=m):qJ w Z sz ((rows.take m).drop l) b (q+l*sz):=by
 obtain⟨h1,h2,h3⟩:=h;refine⟨fun hne=>h1 (by rintro rfl;simp at hne),fun r hr=>h2 r (Xf (List.mem_of_mem_drop hr)),fun i j r c hr hc=>?_⟩;rw[YJ,Z6] at hr;split at hr
 ·obtain⟨v,hv,hp⟩:=h3 (l+i) j r c hr hc
  refine⟨v,?_,hp⟩;rw[<-hv];congr 2;rw[YD];omega
 ·simp at hr
theorem zqZ (hi:Inv w0 Z0 κ σ a.tmps w) {t e:TypeId} (ht:P.underlying t=some (.slice e)) {n:Nat} (hn:yW P e=some n)
  {x:Operand} {x':AX} (hx:ax x=some x') {lo hi':Option Operand} {lo' hi'':Option AX} (hlo:(match lo with|none=>some none|some x=>(ax x).map some)=some lo')
  (hhi:(match hi' with|none=>some none|some x=>(ax x).map some)=some hi'') {g:Bool} {d:Nat} {k:Nat->V->Prop} (h:zA σ g (.slice d n x' lo' hi'') k):
  ∃r,k d r/\vG P w0 Z0 κ σ w g (Instr.sliceAt t (a.eval x) (lo.map a.eval) (hi'.map a.eval) none) r:=by
 simp only[zA] at h;obtain⟨h,hv⟩:=yS hi hx h;generalize (x'.ev σ).strip.1=v at h hv;split at h
 ·rename_i sz' nl rows
  obtain⟨l,h,l1,l2⟩:=eY hi hlo h;obtain⟨m,h,m1,m2⟩:=eY hi hhi h;refine⟨_,h.2,fun hg=>?_⟩;obtain⟨b1,b2,b3,b4⟩:=h.1 hg;rcases mX (hv hg).2 with⟨rfl,hp,hnl⟩|⟨b,q,cap,hp,c1,c2,c3,hl⟩|⟨rfl,a0,hp,hnl⟩
  ·have hb:=dA (P:=P) (isSlice:=true) (len:=0) (cap:=0) (lo:=lo.map a.eval) (hi:=hi'.map a.eval) (l:=l) (h:=m)
    (by intro y hy;simp only[Zd] at hy;obtain⟨z,hz,rfl⟩:=hy;exact l2 hg z hz) (by intro hn;exact l1 (by simpa using hn))
    (by intro y hy;simp only[Zd] at hy;obtain⟨z,hz,rfl⟩:=hy;exact m2 hg z hz) (by intro hn;simpa using m1 (by simpa using hn)) b1 b2 (by simpa using b3) w
   have hl0:l=0:=by simp at b3;omega
   have hm0:m=0:=by simp at b3;omega
   subst hl0;subst hm0;refine⟨.slice none 0 0,?_,rfl,?_⟩
   ·rw[hp]
    simp only[Instr.sliceAt,Instr.slice,Sem.run_bind,run_underlying ht,Result.andThen_ok];simp[hb,uS hn]
   ·show PRep _ _ (.list n nl ((List.take _ []).drop _)) _
    simpa using PRep.nil n nl hnl
  ·have hb:=dA (P:=P) (isSlice:=true) (len:=rows.length) (cap:=cap) (lo:=lo.map a.eval) (hi:=hi'.map a.eval) (l:=l) (h:=m)
    (by intro y hy;simp only[Zd] at hy;obtain⟨z,hz,rfl⟩:=hy;exact l2 hg z hz) (by intro hn;exact l1 (by simpa using hn))
    (by intro y hy;simp only[Zd] at hy;obtain⟨z,hz,rfl⟩:=hy;exact m2 hg z hz) (by intro hn;simpa using m1 (by simpa using hn)) b1 b2 (by omega) w
   have hlen:((rows.take m.toNat).drop l.toNat).length=m.toNat-l.toNat:=by simp;omega
   have hsz:((rows.take m.toNat).drop l.toNat)≠[]->sz'=n:=by
    intro hne;rcases b4 with h|h
    ·exact h
    ·subst h;simp at hne
   have hat: ∀q',(((rows.take m.toNat).drop l.toNat)≠[]->q'=q+l.toNat*n)->qJ w (Zof w0 Z0 κ σ.o w) n ((rows.take m.toNat).drop l.toNat) b q':=by
    intro q' hq';by_cases hne:((rows.take m.toNat).drop l.toNat)=[]
    ·rw[hne];exact⟨fun h=>absurd rfl h,by simp,by simp⟩
    ·rw[hq' hne]
     have:=hl.sub l.toNat m.toNat (by omega) (by omega);rw[hsz hne] at this;exact this
   by_cases hcl:cap=l.toNat
   ·subst hcl
    refine⟨.slice (some ⟨b,q,none⟩) (m.toNat-l.toNat) (l.toNat-l.toNat),?_,rfl,?_⟩
    ·rw[hp]
     simp only[Instr.sliceAt,Instr.slice,Sem.run_bind,run_underlying ht,Result.andThen_ok];simp[hb,uS hn]
    ·rw[<-hlen]
     refine iH c3 (by rw[hlen];omega) (by omega) (hat q (fun hne=>?_));exfalso;apply hne;apply Yg;rw[hlen];omega
   ·refine⟨.slice (some ⟨b,q+l.toNat*n,none⟩) (m.toNat-l.toNat) (cap-l.toNat),?_,rfl,?_⟩
    ·rw[hp]
     simp only[Instr.sliceAt,Instr.slice,Sem.run_bind,run_underlying ht,Result.andThen_ok];simp[hb,uS hn,hcl,qQ]
    ·rw[<-hlen]
     exact iH c3 (by rw[hlen];omega) (by omega) (hat _ (fun _=>rfl))
  ·have hb:=dA (P:=P) (isSlice:=true) (len:=0) (cap:=0) (lo:=lo.map a.eval) (hi:=hi'.map a.eval) (l:=l) (h:=m)
    (by intro y hy;simp only[Zd] at hy;obtain⟨z,hz,rfl⟩:=hy;exact l2 hg z hz) (by intro hn;exact l1 (by simpa using hn))
    (by intro y hy;simp only[Zd] at hy;obtain⟨z,hz,rfl⟩:=hy;exact m2 hg z hz) (by intro hn;simpa using m1 (by simpa using hn)) b1 b2 (by simpa using b3) w
   have hl0:l=0:=by simp at b3;omega
   have hm0:m=0:=by simp at b3;omega
   subst hl0;subst hm0;refine⟨.slice (some a0) 0 0,?_,rfl,?_⟩
   ·rw[hp]
    simp only[Instr.sliceAt,Instr.slice,Sem.run_bind,run_underlying ht,Result.andThen_ok];simp[hb,uS hn]
   ·show PRep _ _ (.list n nl ((List.take _ []).drop _)) _
    simpa using PRep.emp n nl a0 hnl
 ·exact h.elim
end
section
variable {P : Program} {w0 : Base} {w : World} {Z0 : Bk -> Prop} {κ : Kap} {σ : St} {a : Act}
theorem zeG (l:List Value): ∀(n off:Nat) (cells:Array Value),off+n+l.length<=cells.size->
  ((l.zipIdx n).foldl (fun cs (p:Value×Nat)=>cs.setIfInBounds (off+p.2) p.1) cells).toList=cells.toList.take (off+n)++l++cells.toList.drop (off+n+l.length):=by
 induction l with
 |nil=>intro n off cells h;simp
 |cons v l ih=>
  intro n off cells h;simp only[Zo] at h;simp only[List.zipIdx_cons,YU];rw[ih (n+1) off _ (by simp;omega)];have hlt:off+n<cells.toList.length:=by simp;omega
  simp only[Array.toList_setIfInBounds,Zo];have e1:off+(n+1)=(off+n)+1:=by omega
  have e2:off+(n+1)+l.length=off+n+(l.length+1):=by omega
  rw[e2,e1,List.take_set,List.drop_set_of_lt (by omega)];rw[ZD hlt];have e4:(cells.toList.take (off+n)).length=off+n:=by simp;omega
  have e3:(cells.toList.take (off+n)++[cells.toList[off+n]]).set (off+n) v=cells.toList.take (off+n)++[v]:=by
   rw[Xr _ _ (by omega),e4];simp
  rw[e3];simp
theorem yB.splice {w:World} {Z:Bk->Prop} {κ:Kap} {o:Nat->Option O} {r ks:List K} {cs vs:List Value} (h:yB w Z κ o r cs) (hk:yB w Z κ o ks vs) {off:Nat} (hb:off+ks.length<=r.length):
  yB w Z κ o (splice r off ks) (cs.take off++vs++cs.drop (off+vs.length)):=by
 obtain⟨h1,h2⟩:=h;obtain⟨k1,k2⟩:=hk;refine⟨by simp[Abs.splice,h1,k1],fun j k v hj hv=>?_⟩;simp only[Abs.splice,Z3] at hj;rw[Z3] at hv;by_cases c1:j<off
 ·rw[ZL (by simp;omega),Z6,if_pos c1] at hj hv
  exact h2 j k v hj hv
 ·rw[ZM (by simp;omega)] at hj hv
  have e1:(List.take off r).length=off:=by simp;omega
  have e2:(List.take off cs).length=off:=by simp;omega
  rw[e1] at hj;rw[e2] at hv;by_cases c2:j-off<ks.length
  ·rw[ZL (by omega)] at hj hv
   exact k2 _ k v hj hv
  ·rw[ZM (by omega),YJ] at hj hv
   refine h2 _ k v hj ?_;rw[<-hv];congr 1;omega
theorem yG.splice {w:World} {Z:Bk->Prop} {r ks:List C} {cs vs:List Value} (h:yG w Z r cs) (hk:yG w Z ks vs) {off:Nat} (hb:off+ks.length<=r.length):
  yG w Z (splice r off ks) (cs.take off++vs++cs.drop (off+vs.length)):=by
 have:=(yB.ofPure (κ:=fun _=>none) (o:=fun _=>none) h).splice (yB.ofPure hk) (off:=off) (by simpa using hb);have e:Abs.splice (r.map K.c) off (ks.map K.c)=(Abs.splice r off ks).map K.c:=by simp[Abs.splice]
 rw[e] at this;exact this.toPure
theorem dB {w:World} {Z:Bk->Prop} {κ:Kap} {o:Nat->Option O} {v:V} {u:Value} {ks:List K} (h:v.cells=some ks) (hv:zK w Z κ o v u):yB w Z κ o ks u.cells.toList:=by
 cases v<;>simp[V.cells] at h
 ·subst h
  obtain⟨h1,h2⟩:=hv;have:u.cells= #[u]:=by cases u<;>first|rfl|simp[Value.oneCell'] at h1
  rw[this];refine⟨rfl,fun j k v hk hv=>?_⟩;cases j with
  |zero=>simp at hk hv;subst hk;subst hv;exact⟨h1,h2⟩
  |succ j=>simp at hk
 ·subst h
  obtain⟨cs,rfl,hr⟩:=hv;exact yB.ofPure hr
 ·subst h
  obtain⟨cs,rfl,hr⟩:=hv;exact hr
theorem zbk (hi:Inv w0 Z0 κ σ a.tmps w) (place:Nat->Option (Nat×Nat)) {g:Bool} {k:List K->Prop}: ∀(parts:List (Nat×Operand)) (ps:List (Nat×Nat×AX)),
  (parts.mapM fun(p:Nat×Operand)=>do let q<-place p.1;let x<-ax p.2;pure (q.1,q.2,x))=some ps-> ∀(row:List K) (cells:Array Value),yB w (Zof w0 Z0 κ σ.o w) κ σ.o row cells.toList->
  zA.buildP σ g ps row k-> ∃row',k row'/\(g=true-> ∃cells',Instr.fill place cells (parts.map fun p=>(p.1,a.eval p.2))=some cells'/\yB w (Zof w0 Z0 κ σ.o w) κ σ.o row' cells'.toList)
 |[],ps,hps,row,cells,hrow,h=>by
  simp at hps;subst hps;exact⟨row,h,fun _=>⟨cells,rfl,hrow⟩⟩
 |(i,x)::parts,ps,hps,row,cells,hrow,h=>by
  simp only[YE,Zj,Zb,Zm,Zh] at hps;obtain⟨p,⟨q,hq,x',hx',rfl⟩,ps',hps',rfl⟩:=hps;simp only[zA.buildP] at h;obtain⟨h,hv⟩:=yS hi hx' h;generalize (x'.ev σ).strip.1=v at h hv;split at h
  ·rename_i ks hks
   obtain⟨h1,h2⟩:=h;cases g with
   |false=>
    have key: ∀(l:List (Nat×Nat×AX)) (row:List K),zA.buildP σ false l row k-> ∃row',k row':=by
     intro l
     induction l with
     |nil=>intro row h;exact⟨row,h⟩
     |cons p l ih=>
      intro row h;obtain⟨off,n,x⟩:=p;simp only[zA.buildP,AX.evg] at h;obtain⟨_,h⟩:=h;split at h
      ·exact ih _ h.2
      ·exact h.elim
    obtain⟨row',hr'⟩:=key _ _ h2;exact⟨row',hr',fun h=>by simp at h⟩
   |true=>
    obtain⟨b1,b2⟩:=h1 rfl;have hc:=dB hks (hv rfl);have hcl:=hc.1;have hrl:=hrow.1;simp only[Xt] at hcl hrl;have hsp:=hrow.splice hc (off:=q.1) (by omega);have e:((a.eval x).cells.zipIdx.foldl (fun cs (p:Value×Nat)=>cs.setIfInBounds (q.1+p.2) p.1) cells).toList=cells.toList.take q.1++(a.eval x).cells.toList++cells.toList.drop (q.1+(a.eval x).cells.toList.length):=by
     rw[<-Array.foldl_toList,Array.toList_zipIdx];have:=zeG (a.eval x).cells.toList 0 q.1 cells (by simp;omega);simpa using this
    rw[<-e] at hsp;obtain⟨row',hk',hf⟩:=zbk hi place parts ps' hps' _ _ hsp h2;refine⟨row',hk',fun hg=>?_⟩;obtain⟨cells',hf',hr'⟩:=hf hg;refine⟨cells',?_,hr'⟩;simp only[Zk,Instr.fill,hq];have n1: ¬((a.eval x).cells.size≠q.2||decide (q.1+(a.eval x).cells.size>cells.size))=true:=by
     simp;omega
    rw[if_neg n1];exact hf'
  ·exact h.elim
theorem iI {t:TypeId} {zero:List C} (hz:qP P t=some zero): ∃i z,P.info? t=some i/\i.zero=some z/\ ∀w Z,yG w Z zero z.cells.toList:=by
 simp only[qP,Zb] at hz;obtain⟨i,hi,z,hz,h⟩:=hz;exact⟨i,z,hi,hz,fun w Z=>zeA h w Z⟩
theorem zq0 (hi:Inv w0 Z0 κ σ a.tmps w) {t:TypeId} {zero:List C} (hz:qP P t=some zero) {parts:Array (Nat×Operand)} {ps:List (Nat×Nat×AX)} (hps:zbe P t parts.toList=some ps)
  {g:Bool} {d:Nat} {k:Nat->V->Prop} (h:zA σ g (.build d zero ps) k):
  ∃r,k d r/\vG P w0 Z0 κ σ w g (Instr.build t (parts.map fun(i,x)=>(i,a.eval x))) r:=by
 simp only[zA] at h;obtain⟨i,z,hinfo,hzero,hzrow⟩:=iI hz;have hrow:=yB.ofPure (κ:=κ) (o:=σ.o) (hzrow w (Zof w0 Z0 κ σ.o w));have hpm:(parts.map fun(i,x)=>(i,a.eval x)).toList=parts.toList.map fun p=>(p.1,a.eval p.2):=by simp
 unfold zbe at hps;split at hps
 ·rename_i fs hu
  simp only[Zj,Zb] at hps;obtain⟨pl,hpl,hps⟩:=hps;obtain⟨row',hk,hf⟩:=zbk hi (fun i=>pl[i]?) parts.toList ps hps _ _ hrow h;refine⟨_,hk,fun hg=>?_⟩;obtain⟨cells',hfill,hr'⟩:=hf hg;have hb:P.built t (parts.map fun(i,x)=>(i,a.eval x)).toList=some cells':=by
   unfold Program.built;simp only[hinfo,hu,hzero];have hpl':fs.toList.mapM (fun f=>(P.info? f.type).map fun i=>(f.offset,i.size))=some pl:=hpl;simp only[hpl',hpm];simpa using hfill
  refine⟨_,run_build w t _ cells' hb,?_⟩;unfold ofRow;simp only[if_true];split
  ·rename_i x hx
   have:=kE hx;subst this;exact⟨_,rfl,hr'.toPure⟩
  ·exact⟨_,rfl,hr'⟩
 ·rename_i n e hu
  simp only[Zj,Zb] at hps;obtain⟨ne,hne,hps⟩:=hps;simp only[yW,Zd] at hne;obtain⟨ie,hie,rfl⟩:=hne;obtain⟨row',hk,hf⟩:=zbk hi (fun i=>some (i*ie.size,ie.size)) parts.toList ps (by simpa using hps) _ _ hrow h;refine⟨_,hk,fun hg=>?_⟩;obtain⟨cells',hfill,hr'⟩:=hf hg;have hb:P.built t (parts.map fun(i,x)=>(i,a.eval x)).toList=some cells':=by
   unfold Program.built;simp only[hinfo,hu,hzero,hie,hpm];exact hfill
  refine⟨_,run_build w t _ cells' hb,?_⟩;unfold ofRow;simp only[if_true];split
  ·rename_i x hx
   have:=kE hx;subst this;exact⟨_,rfl,hr'.toPure⟩
  ·exact⟨_,rfl,hr'⟩
 ·simp at hps
theorem dC {t:TypeId} (ha:uH P t=some false) {cs:Array Value} {off:Nat} {v:Value} (h:cs[off]?=some v) (w:World):(part t cs off).run P w=.ok v w:=by
 simp[part,nH ha,h]
theorem zeH (n:Nat): ∀(fs:List Field) (i:Nat) (ts:List EqK),nG P i fs=some ts-> ∀(ra rb:List C) (xs ys:Array Value) (q:Bool),eqRow ts ra rb=some q->
  ∀{w:World} {Z:Bk->Prop},(∀j c,ra[j]?=some c-> ∃v,xs[i+j]?=some v/\PRep w Z c v)->(∀j c,rb[j]?=some c-> ∃v,ys[i+j]?=some v/\PRep w Z c v)->
  (Op.eqFields (n+1) xs ys fs).run P w=.ok q w
 |[],i,ts,ht,ra,rb,xs,ys,q,hq,w,Z,h1,h2=>by
  simp[nG] at ht;subst ht;cases ra<;>cases rb<;>simp[eqRow] at hq
  subst hq;simp[Op.eqFields]
 |f::fs,i,ts,ht,ra,rb,xs,ys,q,hq,w,Z,h1,h2=>by
  unfold nG at ht;split at ht
  ·rename_i hc
   simp only[Zr,beq_iff_eq,bne_iff_ne,ne_eq] at hc;obtain⟨⟨hoff,hname⟩,hagg⟩:=hc;have fin: ∀(t:EqK) (ts':List EqK),nG P (i+1) fs=some ts'->ts=t::ts'->
     (∀(c c':C) (v v':Value) (e:Bool),eqC t c c'=some e->PRep w Z c v->PRep w Z c' v'->(Op.equalIn (n+1) f.type v v').run P w=.ok e w)->
     (Op.eqFields (n+1) xs ys (f::fs)).run P w=.ok q w:=by
    intro t ts' hts' he heq;subst he;cases ra with
    |nil=>simp[eqRow] at hq
    |cons c ra=>
     cases rb with
     |nil=>simp[eqRow] at hq
     |cons c' rb=>
      simp only[eqRow,Zb,Zd] at hq;obtain⟨e,he,q',hq',rfl⟩:=hq;obtain⟨v,hv,hp⟩:=h1 0 c rfl;obtain⟨v',hv',hp'⟩:=h2 0 c' rfl;simp only[Yf] at hv hv';have ih:=zeH n fs (i+1) ts' hts' ra rb xs ys q' hq' (w:=w) (Z:=Z)
       (fun j c hc=>by have:=h1 (j+1) c (by simpa using hc);simpa [YK,Y8 1] using this)
       (fun j c hc=>by have:=h2 (j+1) c (by simpa using hc);simpa [YK,Y8 1] using this)
      have hr:=heq c c' v v' e he hp hp';simp only[Op.eqFields,hoff,ne_eq,hname,not_false_eq_true,if_true,Sem.run_bind,dC hagg hv w,dC hagg hv' w,Result.andThen_ok,hr];cases e
      ·simp
      ·simp[ih]
   split at ht
   ·rename_i k hu
    simp only[Zd] at ht;obtain⟨ts',hts',rfl⟩:=ht;refine fin .int ts' hts' rfl (fun c c' v v' e he hp hp'=>?_);cases c<;>cases c'<;>simp[eqC] at he
    obtain⟨rfl,rfl⟩:=he;cases vK hp;cases vK hp';simp[Op.equalIn,run_underlying hu]
   ·rename_i hu
    simp only[Zd] at ht;obtain⟨ts',hts',rfl⟩:=ht;refine fin .bool ts' hts' rfl (fun c c' v v' e he hp hp'=>?_);cases c<;>cases c'<;>simp[eqC] at he
    subst he;cases nI hp;cases nI hp';simp[Op.equalIn,run_underlying hu]
   ·rename_i hu
    simp only[Zd] at ht;obtain⟨ts',hts',rfl⟩:=ht;refine fin .str ts' hts' rfl (fun c c' v v' e he hp hp'=>?_);cases c<;>cases c'<;>simp[eqC] at he
    subst he;cases vX hp;cases vX hp';simp[run_equalIn_string w n f.type _ _ hu]
   ·simp at ht
  ·simp at ht
theorem zeI: ∀(t1 t2:List EqK) (ra rb:List C) (q:Bool),eqRow (t1++t2) ra rb=some q->
  ∃q1 q2,eqRow t1 (ra.take t1.length) (rb.take t1.length)=some q1/\eqRow t2 (ra.drop t1.length) (rb.drop t1.length)=some q2/\q=(q1&&q2)
 |[],t2,ra,rb,q,h=>⟨true,q,by simp[eqRow],by simpa using h,by simp⟩
 |t::t1,t2,[],rb,q,h=>by simp[eqRow] at h
 |t::t1,t2,a::ra,[],q,h=>by simp[eqRow] at h
 |t::t1,t2,a::ra,b::rb,q,h=>by
  simp only[ZQ,eqRow,Zb,Zd] at h;obtain⟨e,he,q',hq',rfl⟩:=h;obtain⟨q1,q2,h1,h2,rfl⟩:=zeI t1 t2 ra rb q' hq';refine⟨e&&q1,q2,?_,by simpa using h2,by rw[Bool.and_assoc]⟩;simp only[Zo,List.take_succ_cons,eqRow,he,h1,YG,YA]
theorem zeJ: ∀{ts:List EqK} {ra rb:List C} {q:Bool},eqRow ts ra rb=some q->ra.length=ts.length/\rb.length=ts.length
 |[],[],[],_,_=>⟨rfl,rfl⟩
 |[],[],_::_,_,h=>by simp[eqRow] at h
 |[],_::_,_,_,h=>by simp[eqRow] at h
 |_::_,[],_,_,h=>by simp[eqRow] at h
 |_::_,_::_,[],_,h=>by simp[eqRow] at h
 |t::ts,a::ra,b::rb,q,h=>by
  simp only[eqRow,Zb,Zd] at h;obtain⟨e,he,q',hq',rfl⟩:=h;have:=zeJ hq';simp[this]
theorem zbl (n:Nat): ∀(fs:List Field) (i:Nat) (ts:List EqK),pI P i fs=some ts-> ∀(ra rb:List C) (xs ys:Array Value) (q:Bool),eqRow ts ra rb=some q->
  ∀{w:World} {Z:Bk->Prop},(∀j c,ra[j]?=some c-> ∃v,xs[i+j]?=some v/\PRep w Z c v)->(∀j c,rb[j]?=some c-> ∃v,ys[i+j]?=some v/\PRep w Z c v)->
  (Op.eqFields (n+2) xs ys fs).run P w=.ok q w
 |[],i,ts,ht,ra,rb,xs,ys,q,hq,w,Z,h1,h2=>by
  simp[pI] at ht;subst ht;cases ra<;>cases rb<;>simp[eqRow] at hq
  subst hq;simp[Op.eqFields]
 |f::fs,i,ts,ht,ra,rb,xs,ys,q,hq,w,Z,h1,h2=>by
  unfold pI at ht;split at ht
  ·rename_i hc
   simp only[Zr,beq_iff_eq,bne_iff_ne,ne_eq] at hc;obtain⟨hoff,hname⟩:=hc;have fin: ∀(t:EqK) (ts':List EqK),uH P f.type=some false->pI P (i+1) fs=some ts'->ts=t::ts'->
     (∀(c c':C) (v v':Value) (e:Bool),eqC t c c'=some e->PRep w Z c v->PRep w Z c' v'->(Op.equalIn (n+2) f.type v v').run P w=.ok e w)->
     (Op.eqFields (n+2) xs ys (f::fs)).run P w=.ok q w:=by
    intro t ts' hagg hts' heq he;subst heq;cases ra with
    |nil=>simp[eqRow] at hq
    |cons c ra=>
     cases rb with
     |nil=>simp[eqRow] at hq
     |cons c' rb=>
      simp only[eqRow,Zb,Zd] at hq;obtain⟨e,hec,q',hq',rfl⟩:=hq;obtain⟨v,hv,hp⟩:=h1 0 c rfl;obtain⟨v',hv',hp'⟩:=h2 0 c' rfl;simp only[Yf] at hv hv';have ih:=zbl n fs (i+1) ts' hts' ra rb xs ys q' hq' (w:=w) (Z:=Z)
       (fun j c hc=>by have:=h1 (j+1) c (by simpa using hc);simpa [YK,Y8 1] using this)
       (fun j c hc=>by have:=h2 (j+1) c (by simpa using hc);simpa [YK,Y8 1] using this)
      have hr:=he c c' v v' e hec hp hp';simp only[Op.eqFields,hoff,ne_eq,hname,not_false_eq_true,if_true,Sem.run_bind,dC hagg hv w,dC hagg hv' w,Result.andThen_ok,hr];cases e
      ·simp
      ·simp[ih]
   split at ht
   ·rename_i k hu
    simp only[Zd] at ht;obtain⟨ts',hts',rfl⟩:=ht;refine fin .int ts' (by simp[uH,hu]) hts' rfl (fun c c' v v' e he hp hp'=>?_);cases c<;>cases c'<;>simp[eqC] at he
    obtain⟨rfl,rfl⟩:=he;cases vK hp;cases vK hp';simp[Op.equalIn,run_underlying hu]
   ·rename_i hu
    simp only[Zd] at ht;obtain⟨ts',hts',rfl⟩:=ht;refine fin .bool ts' (by simp[uH,hu]) hts' rfl (fun c c' v v' e he hp hp'=>?_);cases c<;>cases c'<;>simp[eqC] at he
    subst he;cases nI hp;cases nI hp';simp[Op.equalIn,run_underlying hu]
   ·rename_i hu
    simp only[Zd] at ht;obtain⟨ts',hts',rfl⟩:=ht;refine fin .str ts' (by simp[uH,hu]) hts' rfl (fun c c' v v' e he hp hp'=>?_);cases c<;>cases c'<;>simp[eqC] at he
    subst he;cases vX hp;cases vX hp';simp[run_equalIn_string w (n+1) f.type _ _ hu]
   ·rename_i gs hu
    split at ht
    ·rename_i t1 m ht1 hm
     split at ht
     ·rename_i hsn
      obtain⟨hst,rfl⟩:=hsn;simp only[Zd] at ht;obtain⟨t2,ht2,rfl⟩:=ht;obtain⟨q1,q2,hq1,hq2,rfl⟩:=zeI t1 t2 ra rb q hq;have hlen:=zeJ hq;rw[Zq] at hlen;have hagg:uH P f.type=some true:=by simp[uH,hu]
      have hpart: ∀cs:Array Value,(part f.type cs i).run P w=.ok (.agg (cs.extract i (i+t1.length))) w:=fun cs=>by
       simp[part,nH hagg,uS hm]
      have hsub: ∀(r:List C) (cs:Array Value),(∀j c,r[j]?=some c-> ∃v,cs[i+j]?=some v/\PRep w Z c v)-> ∀j c,(r.take t1.length)[j]?=some c-> ∃v,(cs.extract i (i+t1.length))[0+j]?=some v/\PRep w Z c v:=by
       intro r cs hr j c hc;rw[Z6] at hc;split at hc
       ·rename_i hj
        obtain⟨v,hv,hp⟩:=hr j c hc;refine⟨v,?_,hp⟩;have hsz:=(Zs.1 hv).1;rw[Array.getElem?_extract,if_pos (by omega),ZY];exact hv
       ·cases hc
      have hf1:=zeH n gs.toList 0 t1 ht1 (ra.take t1.length) (rb.take t1.length) (xs.extract i (i+t1.length)) (ys.extract i (i+t1.length)) q1 hq1 (hsub ra xs h1) (hsub rb ys h2);have hfo:P.fieldsOf f.type=gs:=by simp[Program.fieldsOf,hu]
      have hr:=run_equalIn_struct (P:=P) w (n+1) f.type (xs.extract i (i+t1.length)) (ys.extract i (i+t1.length)) (by rw[hfo];exact hu) hst;rw[hfo,hf1] at hr;have ih:=zbl n fs (i+t1.length) t2 ht2 (ra.drop t1.length) (rb.drop t1.length) xs ys q2 hq2 (w:=w) (Z:=Z)
       (fun j c hc=>by have:=h1 (t1.length+j) c (by rw[YJ] at hc;exact hc);simpa [YK] using this)
       (fun j c hc=>by have:=h2 (t1.length+j) c (by rw[YJ] at hc;exact hc);simpa [YK] using this)
      simp only[Op.eqFields,hoff,ne_eq,hname,not_false_eq_true,if_true,Sem.run_bind,hpart,Result.andThen_ok,hr];cases q1
      ·simp
      ·simp[ih]
     ·cases ht
    ·cases ht
   ·simp at ht
  ·simp at ht
theorem zq1 (hi:Inv w0 Z0 κ σ a.tmps w) {t:TypeId} {fs:Array Field} (ht:P.underlying t=some (.struct fs)) {ts:List EqK} (hts:pI P 0 fs.toList=some ts)
  (hs:P.stoodInHeld t=false) (hq:P.eqGuardType P.depth t=false) {op:BinOp} (hop:op=.eql\/op=.neq) {x y:Operand} {x' y':AX} (hx:ax x=some x') (hy:ax y=some y')
  {g:Bool} {d:Nat} {k:Nat->V->Prop} (h:zA σ g (.eqAgg d (op==.neq) ts x' y') k):
  ∃r,k d r/\vG P w0 Z0 κ σ w g (do eqGuard op t x y (a.eval x) (a.eval y);binOp op t (a.eval x) (a.eval y)) r:=by
 simp only[zA] at h;obtain⟨h,hv⟩:=yS hi hx h;obtain⟨h,hu⟩:=yS hi hy h;generalize (x'.ev σ).strip.1=v at h hv;generalize (y'.ev σ).strip.1=u at h hu;split at h
 ·rename_i ra rb
  split at h
  ·rename_i q hqr
   refine⟨_,h,fun hg=>?_⟩;obtain⟨xs,e1,r1⟩:=hv hg;obtain⟨ys,e2,r2⟩:=hu hg;rw[e1,e2];have hf:P.fieldsOf t=fs:=by simp[Program.fieldsOf,ht]
   have hrow: ∀(r:List C) (cs:Array Value),yG w (Zof w0 Z0 κ σ.o w) r cs.toList-> ∀j c,r[j]?=some c-> ∃v,cs[0+j]?=some v/\PRep w (Zof w0 Z0 κ σ.o w) c v:=by
    intro r cs hr j c hc;have hlt:j<cs.toList.length:=by rw[hr.1];exact(Zu.1 hc).1
    have hg:=Zf hlt;exact⟨cs.toList[j],by rw[ZY];simp,hr.2 j c _ hc hg⟩
   have hr:=zbl (P:=P) 9997 fs.toList 0 ts hts ra rb xs ys q hqr (hrow ra xs r1) (hrow rb ys r2);have hr':=run_equalIn_struct (P:=P) w 9999 t xs ys (by rw[hf];exact ht) hs;rw[hf,hr] at hr';rcases hop with rfl|rfl
   ·refine⟨_,?_,rS _⟩
    simp[run_eqGuard_agg w _ t x y xs ys hq,run_eql_struct,hr']
   ·refine⟨_,?_,rS _⟩
    simp[run_eqGuard_agg w _ t x y xs ys hq,run_neq_struct,hr']
  ·exact h.elim
 ·exact h.elim
theorem zeK (hi:Inv w0 Z0 κ σ a.tmps w) {isMax:Bool} {ts:Array TypeId} {ty:TypeId} {x:Operand} {x':AX} (hx:ax x=some x') {ys:List Operand} {ys':List AX} (hys:axs ys=some ys')
  {g:Bool} {d:Nat} {k:Nat->V->Prop} (h:zA σ g (.minmax d isMax x' ys') k):
  ∃r,k d r/\vG P w0 Z0 κ σ w g (if isMax then Builtin.max_ ts ty (x::ys|>.map a.eval).toArray else Builtin.min_ ts ty (x::ys|>.map a.eval).toArray) r:=by
 simp only[zA] at h;obtain⟨h,hv⟩:=yS hi hx h;generalize (x'.ev σ).strip.1=v at h hv;split at h
 ·rename_i kk n
  have key: ∀(ys:List Operand) (ys':List AX) (k:List Int->Prop),axs ys=some ys'->zA.intsP σ g ys' k-> ∃l,k l/\(g=true->l.length=ys.length/\ ∀(j:Nat) m y,l[j]?=some m->ys[j]?=some y-> ∃kk,a.eval y=.int kk m):=by
   intro ys
   induction ys with
   |nil=>intro ys' k h1 h2;simp[axs] at h1;subst h1;exact⟨[],h2,fun _=>⟨rfl,by simp⟩⟩
   |cons y ys ih=>
    intro ys' k h1 h2;simp only[axs,YE,Zj,Zb,Zm,Zh] at h1;obtain⟨y',hy',zs,hzs,rfl⟩:=h1;simp only[zA.intsP] at h2;obtain⟨h2,hu⟩:=yS hi hy' h2;generalize (y'.ev σ).strip.1=u at h2 hu;split at h2
    ·rename_i kk m
     obtain⟨l,hl,hp⟩:=ih zs _ hzs h2;refine⟨_,hl,fun hg=>?_⟩;obtain⟨p1,p2⟩:=hp hg;refine⟨by simp[p1],fun j m' y'' hm hy''=>?_⟩;cases j with
     |zero=>simp at hm hy'';subst hm;subst hy'';exact⟨kk,tX (hu hg)⟩
     |succ j=>exact p2 j m' y'' (by simpa using hm) (by simpa using hy'')
    ·exact h2.elim
  obtain⟨l,hl,hp⟩:=key ys ys' _ hys h;refine⟨_,hl,fun hg=>?_⟩;obtain⟨p1,p2⟩:=hp hg;have e:=tX (hv hg);refine⟨_,?_,sO _ _⟩;have hfold: ∀(ys:List Operand) (l:List Int) (n:Int),l.length=ys.length->(∀(j:Nat) m y,l[j]?=some m->ys[j]?=some y-> ∃kk,a.eval y=.int kk m)->
    ((ys.map a.eval).foldlM (if isMax then Builtin.max2 else Builtin.min2) (.int kk n)).run P w=.ok (.int kk (l.foldl (jX isMax) n)) w:=by
   intro ys
   induction ys with
   |nil=>intro l n h1 _;have:l=[]:=Yg h1;subst this;rfl
   |cons y ys ih=>
    intro l n h1 h2;cases l with
    |nil=>simp at h1
    |cons m l=>
     obtain⟨k',hk'⟩:=h2 0 m y rfl rfl;have:=ih l (jX isMax n m) (by simpa using h1) (fun j m' y' h h'=>h2 (j+1) m' y' (by simpa using h) (by simpa using h'));simp only[Zk,List.foldlM_cons,YU,hk'];cases isMax<;>simp only[Z1,if_false,if_true,jX,Builtin.max2,Builtin.min2,Sem.run_bind,Sem.run_pure,Result.andThen_ok] at this⊢ <;>exact this
  have:=hfold ys l n p1 p2;cases isMax
  ·simp only[Z1,if_false,Builtin.min_,Zk,e] at this⊢;exact this
  ·simp only[if_true,Builtin.max_,Zk,e] at this⊢;exact this
 ·exact h.elim
end
section
variable {P : Program} {w0 : Base} {w : World} {Z0 : Bk -> Prop} {κ : Kap} {σ : St} {a : Act}
theorem zq2 {t e:TypeId} (ht:P.underlying t=some (.slice e)) (p:Option Addr) (n c:Nat) (op:BinOp) (hop:op=.eql\/op=.neq) (w:World):
  (binOp op t (.slice p n c) (.slice none 0 0)).run P w=.ok (.bool (if op==.neq then !p.isNone else p.isNone)) w/\
  (binOp op t (.slice none 0 0) (.slice p n c)).run P w=.ok (.bool (if op==.neq then !p.isNone else p.isNone)) w:=by
 rcases hop with rfl|rfl
 ·exact⟨Lib.run_eql_slice_nil w t e p n c 0 0 ht,run_eql_nil_slice w t e p n c 0 0 ht⟩
 ·exact⟨run_neq_slice_nil_any w t e p n c 0 0 ht,run_neq_nil_slice w t e p n c 0 0 ht⟩
theorem zeL (hi:Inv w0 Z0 κ σ a.tmps w) {t e:TypeId} (ht:P.underlying t=some (.slice e)) {op:BinOp} (hop:op=.eql\/op=.neq) {x x1 x2:Operand} {x':AX} (hx:ax x=some x')
  (hxy:(x1=x/\x2=.const (.slice none 0 0))\/(x1=.const (.slice none 0 0)/\x2=x)) {g:Bool} {d:Nat} {k:Nat->V->Prop} (h:zA σ g (.nilcmp d (op==.neq) x') k):
  ∃r,k d r/\vG P w0 Z0 κ σ w g (do eqGuard op t x1 x2 (a.eval x1) (a.eval x2);binOp op t (a.eval x1) (a.eval x2)) r:=by
 simp only[zA] at h;obtain⟨h,hv⟩:=yS hi hx h;generalize (x'.ev σ).strip.1=v at h hv;have fin: ∀(b:Bool) (p:Option Addr) (n c:Nat),a.eval x=.slice p n c->p.isNone=b->
   ∃u,(do eqGuard op t x1 x2 (a.eval x1) (a.eval x2);binOp op t (a.eval x1) (a.eval x2):Sem Value).run P w=.ok u w/\zK w (Zof w0 Z0 κ σ.o w) κ σ.o (.bool (if (op==.neq)=true then !b else b)) u:=by
  intro b p n c hp hb;subst hb;obtain⟨r1,r2⟩:=zq2 ht p n c op hop w;rcases hxy with⟨rfl,rfl⟩|⟨rfl,rfl⟩
  ·refine⟨_,?_,rS _⟩
   have e:a.eval (.const (.slice none 0 0))=.slice none 0 0:=rfl;rw[hp,e];simp[eX op t x1 _ (.slice p n c) (.slice none 0 0) w rfl (by simp),r1]
  ·refine⟨_,?_,rS _⟩
   have e:a.eval (.const (.slice none 0 0))=.slice none 0 0:=rfl;rw[hp,e];simp[eX op t _ x2 (.slice none 0 0) (.slice p n c) w rfl (by simp),r2]
 split at h
 ·rename_i b rows
  refine⟨_,h,fun hg=>?_⟩;rcases mX (hv hg).2 with⟨_,hp,hn⟩|⟨b',q,cap,hp,_,_,hn,_⟩|⟨_,_,hp,hn⟩
  ·exact fin b _ _ _ hp (by cases b<;>simp at hn⊢)
  ·exact fin b _ _ _ hp (by cases b<;>simp at hn⊢)
  ·exact fin b _ _ _ hp (by cases b<;>simp at hn⊢)
 ·rename_i τ
  split at h
  ·rename_i e' sz b rows ho
   refine⟨_,h,fun hg=>?_⟩;rcases(hv hg).2 _ _ _ _ ho with⟨hk,hp⟩|⟨b',cur,cap,hk,_,_,hp⟩
   ·rcases hi.objs τ _ ho with⟨_,_,hn⟩|⟨b2,cur,cap,hk',_⟩
    ·exact fin b _ _ _ hp (by cases b<;>simp at hn⊢)
    ·rw[hk] at hk';simp at hk'
   ·rcases hi.objs τ _ ho with⟨hk',_⟩|⟨b2,cur2,cap2,_,_,_,_,_,_,hn,_⟩
    ·rw[hk] at hk';simp at hk'
    ·exact fin b _ _ _ hp (by cases b<;>simp at hn⊢)
  ·exact h.elim
 ·exact h.elim
theorem zq3 (hi:Inv w0 Z0 κ σ a.tmps w) {x:Operand} {x':AX} (hx:ax x=some x') {g:Bool} {d:Nat} {k:Nat->V->Prop} (h:zA σ g (.nilchk d x') k):
  ∃r,k d r/\(g=true->(∃b q,a.eval x=.pointer (some ⟨b,q,none⟩))\/(∃f vs,a.eval x=.func (.func f) #[] vs))/\(g=true->zK w (Zof w0 Z0 κ σ.o w) κ σ.o r (a.eval x)):=by
 simp only[zA] at h;obtain⟨h,hv⟩:=yS hi hx h;generalize (x'.ev σ).strip.1=v at h hv;split at h
 ·obtain⟨h1,h2⟩:=h
  refine⟨_,h2,fun hg=>?_,hv⟩;obtain⟨e,row,ho⟩:=zeE (h1 hg);obtain⟨b,_,hp⟩:=(hv hg).2 e row ho;exact .inl ⟨_,_,hp⟩
 ·obtain⟨h1,h2⟩:=h
  refine⟨_,h2,fun hg=>?_,hv⟩;obtain⟨e,sz,nl,rows,ho⟩:=zeF (h1 hg);obtain⟨b,_,_,hp⟩:=(hv hg).2 e sz nl rows ho;exact .inl ⟨_,_,hp⟩
 ·refine⟨_,h,fun hg=>?_,hv⟩
  obtain⟨b,q,hp,_⟩:=(hv hg).2;exact .inl ⟨_,_,hp⟩
 ·refine⟨_,h,fun hg=>?_,hv⟩
  have hpr:=(hv hg).2;cases hpr':a.eval x<;>rw[hpr'] at hpr<;>cases hpr
  exact .inl ⟨_,_,rfl⟩
 ·refine⟨_,h,fun hg=>?_,hv⟩
  have hpr:=(hv hg).2;cases hpr':a.eval x<;>rw[hpr'] at hpr<;>cases hpr
  exact .inr ⟨_,_,rfl⟩
 ·refine⟨_,h,fun hg=>?_,hv⟩
  obtain⟨vs,hp,_⟩:=(hv hg).2;exact .inr ⟨_,_,hp⟩
 ·exact h.elim
theorem zq4 (hi:Inv w0 Z0 κ σ a.tmps w) {t e:TypeId} {len:Nat} (ht:P.underlying t=some (.array len e)) {n:Nat} (hn:yW P e=some n) (h0:0<n) {agg:Bool} (ha:uH P e=some agg)
  {x i:Operand} {x' i':AX} (hx:ax x=some x') (hii:ax i=some i') {g:Bool} {d:Nat} {k:Nat->V->Prop} (h:zA σ g (.aidx d n len agg x' i') k):
  ∃r,k d r/\vG P w0 Z0 κ σ w g (Instr.index t (a.eval x) (a.eval i)) r:=by
 simp only[zA] at h;obtain⟨h,hv⟩:=yS hi hx h;obtain⟨h,hu⟩:=yS hi hii h;generalize (x'.ev σ).strip.1=v at h hv;generalize (i'.ev σ).strip.1=u at h hu;split at h
 ·rename_i r kk m
  refine⟨_,h.2,fun hg=>?_⟩;obtain⟨b1,b2,b3⟩:=h.1 hg;obtain⟨cs,hp,hrow⟩:=hv hg;rw[hp,tX (hu hg)];have hb:m.toNat*n+n<=r.length:=by
   rw[b3];have:(m.toNat+1)*n<=len*n:=ZZ _ (by omega);rw[YD] at this;omega
  have hrow':=(hrow.drop (m.toNat*n)).take n;have hl:((cs.toList.drop (m.toNat*n)).take n).length=n:=by rw[hrow'.1];simp;omega
  refine⟨_,?_,iF (yB.ofPure hrow') agg (by omega)⟩;cases agg with
  |true=>
   simp[Instr.index,asIntOf,run_underlying ht,b1,b2,part,nH ha,uS hn];apply Array.toList_inj.1;simp
  |false=>
   have:m.toNat*n<cs.size:=by have:=hrow.1;simp at this;omega
   have hg:cs[m.toNat*n]?=some cs[m.toNat*n]:=by simp[this]
   have e:(List.take n (List.drop (m.toNat*n) cs.toList)).getD 0 undef=cs[m.toNat*n]:=by
    simp[Zi,h0,hg]
   simp[Instr.index,asIntOf,run_underlying ht,b1,b2,part,nH ha,uS hn,hg];simpa using e.symm
 ·exact h.elim
theorem zbm (hi:Inv w0 Z0 κ σ a.tmps w) {g:Bool}: ∀(l:List Operand) (l':List AX) (k:List Cap->Prop),axs l=some l'->zA.capsP σ g l' k->
  ∃cs,k cs/\(g=true->cs.length=l.length/\ ∀(j:Nat) c x,cs[j]?=some c->l[j]?=some x->uQ w (Zof w0 Z0 κ σ.o w) κ σ.o c (a.eval x))
 |[],l',k,h1,h2=>by simp[axs] at h1;subst h1;exact⟨[],h2,fun _=>⟨rfl,by simp⟩⟩
 |x::l,l',k,h1,h2=>by
  simp only[axs,YE,Zj,Zb,Zm,Zh] at h1;obtain⟨x',hx',l'',hl,rfl⟩:=h1;simp only[zA.capsP] at h2;obtain⟨h,hv⟩:=yS hi hx' h2;generalize (x'.ev σ).strip.1=v at h hv;split at h
  ·rename_i τ
   obtain⟨cs,hk,hp⟩:=zbm hi l l'' _ hl h.2;refine⟨_,hk,fun hg=>?_⟩;obtain⟨p1,p2⟩:=hp hg;refine⟨by simp[p1],fun j c y hc hy=>?_⟩;cases j with
   |zero=>
    simp at hc hy;subst hc;subst hy;intro e row ho;exact(hv hg).2 e row ho
   |succ j=>exact p2 j c y (by simpa using hc) (by simpa using hy)
  ·rename_i row off
   obtain⟨cs,hk,hp⟩:=zbm hi l l'' _ hl h;refine⟨_,hk,fun hg=>?_⟩;obtain⟨p1,p2⟩:=hp hg;refine⟨by simp[p1],fun j c y hc hy=>?_⟩;cases j with
   |zero=>
    simp at hc hy;subst hc;subst hy;exact(hv hg).2
   |succ j=>exact p2 j c y (by simpa using hc) (by simpa using hy)
  ·exact h.elim
theorem zeM {l:List Cap} {cs:List C} (h:tU l=some cs):l.length=cs.length/\ ∀(j:Nat) c,cs[j]?=some c-> ∃row off,c=.ro row off/\l[j]?=some (.ro row off):=by
 induction l generalizing cs with
 |nil=>simp[tU] at h;subst h;simp
 |cons c l ih=>
  cases c with
  |tok τ=>simp[tU] at h
  |ro row off=>
   simp only[tU,Zd] at h;obtain⟨cs',h',rfl⟩:=h;obtain⟨i1,i2⟩:=ih h';refine⟨by simp[i1],fun j c hc=>?_⟩;cases j with
   |zero=>simp at hc;subst hc;exact⟨row,off,rfl,rfl⟩
   |succ j=>simpa using i2 j c (by simpa using hc)
theorem zq5 (hi:Inv w0 Z0 κ σ a.tmps w) {f:FuncId} {caps:Array Operand} {caps':List AX} (hc:axs caps.toList=some caps') {g:Bool} {d:Nat} {k:Nat->V->Prop} (h:zA σ g (.mkfn d f caps') k):
  ∃r,k d r/\vG P w0 Z0 κ σ w g (Instr.makeFunc (.func f) #[] (caps.map a.eval)) r:=by
 simp only[zA] at h;obtain⟨cs,hk,hp⟩:=zbm hi _ _ _ hc h;have hget: ∀(j:Nat) c,cs[j]?=some c->g=true-> ∃u,(caps.map a.eval)[j]?=some u/\uQ w (Zof w0 Z0 κ σ.o w) κ σ.o c u:=by
  intro j c hj hg;obtain⟨p1,p2⟩:=hp hg;have hlt:j<caps.toList.length:=by rw[<-p1];exact(Zu.1 hj).1
  have hx:caps.toList[j]?=some caps.toList[j]:=Zf hlt;have hlt':j<caps.size:=by simpa using hlt
  exact⟨a.eval caps.toList[j],by simp[Array.getElem?_map,Ya hlt'],p2 j c _ hj hx⟩
 split at hk
 ·rename_i l hl
  refine⟨_,hk,fun hg=>⟨_,rfl,rfl,?_⟩⟩;obtain⟨q1,q2⟩:=zeM hl;obtain⟨p1,p2⟩:=hp hg;refine .fn f l (caps.map a.eval) (fun j=>((caps.map a.eval)[j]?).getD undef) (by simp;simp at p1;omega) (fun j c hj=>?_) (fun j c hj=>?_)
  ·obtain⟨row,off,rfl,hj'⟩:=q2 j c hj
   obtain⟨u,hu,_⟩:=hget j _ hj' hg;rw[hu];rfl
  ·obtain⟨row,off,rfl,hj'⟩:=q2 j c hj
   obtain⟨u,hu,hr⟩:=hget j _ hj' hg;rw[hu];exact hr
 ·refine⟨_,hk,fun hg=>⟨_,rfl,rfl,_,rfl,?_,fun j c hj=>hget j c hj hg⟩⟩
  obtain⟨p1,p2⟩:=hp hg;simp;simp at p1;omega
end
section
variable {P : Program} {w0 : Base} {w : World} {Z0 : Bk -> Prop} {κ : Kap} {σ : St} {a : Act}
theorem wY {o:Oper} {s:Sem Value} (he:execOp a.eval o=(do pure (.value (<-s)))) {g:Bool} {d:Nat} {k:Nat->V->Prop} (hd:o.dst=some d) (h: ∃r,k d r/\vG P w0 Z0 κ σ w g s r):
  ∃d r,o.dst=some d/\k d r/\(g=true-> ∃u,(execOp a.eval o).run P w=.ok (.value u) w/\zK w (Zof w0 Z0 κ σ.o w) κ σ.o r u):=by
 obtain⟨r,hk,hy⟩:=h;refine⟨d,r,hd,hk,fun hg=>?_⟩;obtain⟨u,hr,hv⟩:=hy hg;exact⟨u,zqH he hr,hv⟩
set_option maxHeartbeats 1000000 in
theorem zq6 {o:Oper} {op:AOp} (hc:cOp P o=some op) (hi:Inv w0 Z0 κ σ a.tmps w) {g:Bool} {k:Nat->V->Prop} (h:zA σ g op k):
  ∃d r,o.dst=some d/\k d r/\(g=true-> ∃u,(execOp a.eval o).run P w=.ok (.value u) w/\zK w (Zof w0 Z0 κ σ.o w) κ σ.o r u):=by
 unfold cOp at hc;split at hc
 ·
  rename_i x d ho hd;simp only[Zd] at hc;obtain⟨x',hx,rfl⟩:=hc;exact wY (s:=pure (a.eval x)) (by simp[execOp,ho]) hd (zeD hi hx h)
 ·
  simp only[Zj,Zb,Zm,Zh] at hc;obtain⟨e,_,n,_,rfl⟩:=hc;exact h.elim
 ·rename_i x d _ ho hd
  simp only[Zd] at hc;obtain⟨x',hx,rfl⟩:=hc;exact wY (s:=pure (a.eval x)) (by simp[execOp,ho]) hd (zeD hi hx h)
 ·
  rename_i c x y d ho hd;simp only[Zj,Zb,Zm,Zh] at hc;obtain⟨c',hc',x',hx',y',hy',rfl⟩:=hc;refine wY (s:=do pure (if<-asBool (a.eval c) then a.eval x else a.eval y)) ?_ hd (zqP hi hc' hx' hy' h);simp[execOp,ho]
 ·
  simp only[Zd] at hc;obtain⟨z,_,rfl⟩:=hc;exact h.elim
 ·
  simp only[Zd] at hc;obtain⟨z,_,rfl⟩:=hc;exact h.elim
 ·
  rename_i t ps d ho hd;simp only[Zj,Zb,Zm,Zh] at hc;obtain⟨z,hz,l,hl,rfl⟩:=hc;exact wY (s:=Instr.build t (ps.map fun(i,x)=>(i,a.eval x))) (by simp[execOp,ho]) hd (zq0 hi hz hl h)
 ·
  simp only[Zj,Zb,Zm] at hc;obtain⟨e,_,n,_,z,_,l,_,hc⟩:=hc;split at hc
  ·cases hc;exact h.elim
  ·simp at hc
 ·
  rename_i t x d ho hd;simp only[Zj,Zb,Zm] at hc;obtain⟨n,hn,hc⟩:=hc;split at hc
  ·rename_i h0
   simp only[Zb,Zh] at hc;obtain⟨agg,ha,x',hx',rfl⟩:=hc;exact wY (s:=Instr.loadAt t (a.eval x)) (by simp[execOp,ho]) hd (zqJ hi hn ha h0 hx' h)
  ·simp at hc
 ·
  simp only[Zj,Zb,Zm,Zh] at hc;obtain⟨n,_,x',_,y',_,rfl⟩:=hc;exact h.elim
 ·
  rename_i x d ho hd;simp only[Zd] at hc;obtain⟨x',hx,rfl⟩:=hc;obtain⟨r,hk,hp,hv⟩:=zq3 hi hx h;refine⟨d,r,hd,hk,fun hg=>⟨a.eval x,?_,hv hg⟩⟩;rcases hp hg with⟨b,q,e⟩|⟨f,vs,e⟩
  ·simp[execOp,ho,e]
  ·simp[execOp,ho,e]
 ·
  rename_i op t x y yt d ho hd;have he:execOp a.eval o=(do pure (.value (<-(do eqGuard op t x y (a.eval x) (a.eval y);binOp op t (a.eval x) (a.eval y):Sem Value)))):=by simp[execOp,ho]
  split at hc
  ·rename_i hop
   unfold cEq at hc;split at hc
   ·rename_i hu
    simp only[Zj,Zb,Zm,Zh] at hc;obtain⟨x',hx',y',hy',rfl⟩:=hc;exact wY he hd (zqM hi hu hop hx' hy' h)
   ·simp only[Zj,Zb,Zm,Zh] at hc
    obtain⟨x',hx',y',hy',rfl⟩:=hc;exact wY he hd (zbj hi hx' hy' h)
   ·simp only[Zj,Zb,Zm,Zh] at hc
    obtain⟨x',hx',y',hy',rfl⟩:=hc;exact wY he hd (zbj hi hx' hy' h)
   ·rename_i fs hu
    simp only[Zj,Zb,Zm] at hc;obtain⟨ts,hts,hc⟩:=hc;split at hc
    ·rename_i hq
     simp only[Zb,Zh] at hc;obtain⟨x',hx',y',hy',rfl⟩:=hc;exact wY he hd (zq1 hi hu hts hq.1 hq.2 hop hx' hy' h)
    ·simp at hc
   ·rename_i e hu
    split at hc
    ·simp only[Zj,Zb,Zm,Zh] at hc
     obtain⟨x',hx',rfl⟩:=hc;exact wY he hd (zeL hi hu hop hx' (.inl ⟨rfl,rfl⟩) h)
    ·simp only[Zj,Zb,Zm,Zh] at hc
     obtain⟨x',hx',rfl⟩:=hc;exact wY he hd (zeL hi hu hop hx' (.inr ⟨rfl,rfl⟩) h)
    ·simp at hc
   ·simp at hc
  ·simp only[Zj,Zb,Zm,Zh] at hc
   obtain⟨x',hx',y',hy',rfl⟩:=hc;exact wY he hd (zbj hi hx' hy' h)
 ·
  rename_i op t x d ho hd;simp only[Zd] at hc;obtain⟨x',hx,rfl⟩:=hc;exact wY (s:=Op.unary op (a.eval x)) (by simp[execOp,ho]) hd (zqN hi hx h)
 ·
  rename_i src dst x d ho hd;split at hc
  ·rename_i k0 kk hs hdd
   simp only[Zd] at hc;obtain⟨x',hx,rfl⟩:=hc;exact wY (s:=convert src dst (a.eval x)) (by simp[execOp,ho]) hd (zqO hi hs hdd hx h)
  ·simp at hc
 ·
  rename_i f first caps d ho hd
  split at hc
  ·rename_i hf
   simp only[Zd] at hc;obtain⟨caps',hx,rfl⟩:=hc;have e:first= #[]:=YM hf
   exact wY (s:=Instr.makeFunc (.func f) #[] (caps.map a.eval)) (by simp[execOp,ho,e]) hd (zq5 hi hx h)
  ·simp at hc
 ·
  simp only[Zj,Zb,Zm] at hc;obtain⟨_,_,_,_,_,_,hc⟩:=hc;split at hc
  ·simp only[Zb,Zh] at hc
   obtain⟨_,_,_,_,_,_,rfl⟩:=hc;exact h.elim
  ·simp at hc
 ·
  rename_i t x lo hi' d ho hd;simp only[Zj,Zb] at hc;obtain⟨lo',hlo,hi'',hhi,hc⟩:=hc;have he:execOp a.eval o=(do pure (.value (<-Instr.sliceAt t (a.eval x) (lo.map a.eval) (hi'.map a.eval) none))):=by simp[execOp,ho]
  split at hc
  ·rename_i hu
   simp only[Zm,Zb,Zh] at hc;obtain⟨x',hx',rfl⟩:=hc;exact wY he hd (zqY hi hu hx' (by cases lo<;>exact hlo) (by cases hi'<;>exact hhi) h)
  ·rename_i e hu
   simp only[Zm,Zb,Zh] at hc;obtain⟨n,hn,x',hx',rfl⟩:=hc;exact wY he hd (zqZ hi hu hn hx' (by cases lo<;>exact hlo) (by cases hi'<;>exact hhi) h)
  ·rename_i n e hu
   obtain⟨g,l,rfl,rfl,rfl,hg,hn,h0,hs,rfl⟩:=iE hc;obtain⟨s,hs⟩:=Option.isSome_iff_exists.1 hs;obtain rfl:lo=none:=by
    cases lo with
    |none=>rfl
    |some y=>simp[axO] at hlo
   obtain rfl:hi'=none:=by
    cases hi' with
    |none=>rfl
    |some y=>simp[axO] at hhi
   refine⟨d,_,hd,h,fun _=>⟨.slice (some ⟨g,0,none⟩) l.length l.length,?_,rfl,.gl g l hg⟩⟩;have hsz:(sizeOf e).run P w=.ok s w:=uS hs w;have hm: ¬n=0:=by omega
   rw[he];subst hn;simp[Instr.sliceAt,run_underlying hu,Act.eval,Instr.sureAddr,Instr.sliceBounds,hsz,hm,Addr.add]
  ·simp at hc
 ·
  rename_i s x f d ho hd;split at hc
  ·rename_i fs hu
   simp only[Zj,Zb,Zm] at hc;obtain⟨fl,hf,n,hn,hc⟩:=hc;split at hc
   ·rename_i h0
    simp only[Zb,Zh] at hc;obtain⟨x',hx',rfl⟩:=hc;exact wY (s:=Instr.fieldAt s (a.eval x) f) (by simp[execOp,ho]) hd (zqQ hi hu hf hn h0 hx' h)
   ·simp at hc
  ·simp at hc
 ·
  rename_i s x f d ho hd;split at hc
  ·rename_i fs hu
   simp only[Zj,Zb,Zm] at hc;obtain⟨fl,hf,n,hn,hc⟩:=hc;split at hc
   ·rename_i h0
    simp only[Zb,Zh] at hc;obtain⟨agg,ha,x',hx',rfl⟩:=hc;exact wY (s:=Instr.field s (a.eval x) f) (by simp[execOp,ho]) hd (zqW hi hu hf hn h0 ha hx' h)
   ·simp at hc
  ·simp at hc
 ·
  rename_i t x i d ho hd;have he:execOp a.eval o=(do pure (.value (<-Instr.indexAt t (a.eval x) (a.eval i)))):=by simp[execOp,ho]
  split at hc
  ·rename_i e hu
   simp only[Zj,Zb,Zm] at hc;obtain⟨n,hn,hc⟩:=hc;split at hc
   ·simp only[Zb,Zh] at hc
    obtain⟨x',hx',i',hi',rfl⟩:=hc;exact wY he hd (zqS hi hu hn hx' hi' h)
   ·simp at hc
  ·rename_i len e hu
   simp only[Zj,Zb,Zm] at hc;obtain⟨n,hn,hc⟩:=hc;split at hc
   ·simp only[Zb,Zh] at hc
    obtain⟨x',hx',i',hi',rfl⟩:=hc;exact wY he hd (zqR hi hu hn hx' hi' h)
   ·simp at hc
  ·simp at hc
 ·
  rename_i t x i d ho hd;have he:execOp a.eval o=(do pure (.value (<-Instr.index t (a.eval x) (a.eval i)))):=by simp[execOp,ho]
  split at hc
  ·rename_i hu
   simp only[Zj,Zb,Zm,Zh] at hc;obtain⟨x',hx',i',hi',rfl⟩:=hc;exact wY he hd (zqX hi hu hx' hi' h)
  ·rename_i len e hu
   simp only[Zj,Zb,Zm] at hc;obtain⟨n,hn,hc⟩:=hc;split at hc
   ·rename_i h0
    simp only[Zb,Zh] at hc;obtain⟨agg,ha,x',hx',i',hi',rfl⟩:=hc;exact wY he hd (zq4 hi hu hn h0 ha hx' hi' h)
   ·simp at hc
  ·simp at hc
 ·
  rename_i x i d ho hd;simp only[Zj,Zb,Zm,Zh] at hc;obtain⟨x',hx',rfl⟩:=hc;exact wY (s:=Instr.extract (a.eval x) i) (by simp[execOp,ho]) hd (zqV hi hx' h)
 ·
  rename_i c ho;split at hc
  ·simp only[Zd] at hc
   obtain⟨_,_,rfl⟩:=hc;exact h.elim
  ·simp only[Zd] at hc
   obtain⟨_,_,rfl⟩:=hc;exact h.elim
  ·rename_i b hb
   split at hc
   ·
    rename_i d x t hd hargs hts;have e1:c.args= #[x]:=by rw[<-ZR (xs:=c.args),hargs]
    have e2:c.argTypes= #[t]:=by rw[<-ZR (xs:=c.argTypes),hts]
    have he:execOp a.eval o=(do pure (.value (<-Builtin.len_ #[t] o.type #[a.eval x]))):=by
     simp[execOp,ho,resolve,hb,invoke,builtin,e1,e2]
    split at hc
    ·rename_i e hu
     simp only[Zd] at hc;obtain⟨x',hx',rfl⟩:=hc;exact wY he hd (zqT hi hu hx' h)
    ·rename_i hu
     simp only[Zd] at hc;obtain⟨x',hx',rfl⟩:=hc;exact wY he hd (zqU hi hu hx' h)
    ·simp at hc
   ·
    split at hc
    ·simp only[Zd] at hc
     obtain⟨_,_,rfl⟩:=hc;exact h.elim
    ·simp at hc
   ·
    simp only[Zj,Zb] at hc;obtain⟨_,_,_,_,_,_,_,_,_,_,hc⟩:=hc;split at hc
    ·cases hc;exact h.elim
    ·simp at hc
   ·
    rename_i d x ys hd hargs;have e1:c.args=(x::ys).toArray:=by rw[<-ZR (xs:=c.args),hargs]
    simp only[Zj,Zb,Zm,Zh] at hc;obtain⟨x',hx',ys',hys',rfl⟩:=hc;refine wY (s:=Builtin.max_ c.argTypes o.type (x::ys|>.map a.eval).toArray) ?_ hd (zeK (isMax:=true) (ts:=c.argTypes) (ty:=o.type) hi hx' hys' h);simp[execOp,ho,resolve,hb,invoke,builtin,e1]
   ·
    rename_i d x ys hd hargs;have e1:c.args=(x::ys).toArray:=by rw[<-ZR (xs:=c.args),hargs]
    simp only[Zj,Zb,Zm,Zh] at hc;obtain⟨x',hx',ys',hys',rfl⟩:=hc;refine wY (s:=Builtin.min_ c.argTypes o.type (x::ys|>.map a.eval).toArray) ?_ hd (zeK (isMax:=false) (ts:=c.argTypes) (ty:=o.type) hi hx' hys' h);simp[execOp,ho,resolve,hb,invoke,builtin,e1]
   ·simp at hc
  ·simp at hc
 ·simp at hc
end
section
variable {w0 : Base} {w w' : World} {Z0 : Bk -> Prop} {κ κ' : Kap} {σ σ' : St} {fr : Array Value}
theorem yN.later {w0:Base} {w:World} (h:yN w0) (hk:KeptB w0 w):yN (base w):=by
 refine⟨fun g l hg=>?_,fun g p hg=>?_⟩
 ·obtain⟨h1,h2⟩:=h.1 g l hg
  refine⟨ZO (w0.lt g h1) hk.size,fun j hj=>?_⟩;show w.cell? _=_;rw[World.cell?_of_block (w:=w0.w) (a:=⟨g,j,none⟩) (hk.block g h1)];exact h2 j hj
 ·obtain⟨h1,b,h2,h3⟩:=h.2 g p hg
  exact⟨ZO (w0.lt g h1) hk.size,b,(hk.block g h1).trans h2,h3⟩
theorem Inv.globB (hi:Inv w0 Z0 κ σ fr w):yN (base w):=hi.glob.later hi.kept
theorem kF {w w':World} {b:Nat} (h:w'.heap[b]?=w.heap[b]?) (hs:sW w b):sW w' b:=fun cur e f hc=>hs cur e f (by rw[<-h];exact hc)
theorem Zof_sub (hsm:xY (Zof w0 Z0 κ σ.o w) w w') (hs:w.heap.size<=w'.heap.size) (h: ∀τ b,σ'.o τ≠none->κ' τ=some b->b<w.heap.size-> ∃τ',σ.o τ'≠none/\κ τ'=some b):
  ∀b,Zof w0 Z0 κ σ.o w b->Zof w0 Z0 κ' σ'.o w' b:=by
 rintro b ⟨h1,h2,h3⟩;refine⟨h1.imp id fun h=>⟨h.1,kF (hsm b ⟨h1,h2,h3⟩) h.2⟩,by omega,fun τ hτ hb=>?_⟩;obtain⟨τ',ha,hb'⟩:=h τ b.2 hτ hb h2;exact h3 τ' ha hb'
theorem wU {w:World} {b:Nat} {x:Obj} (h:w.heap[b]?=some x):b<w.heap.size:=(Zs.1 h).1
theorem wC.same {w w':World} (h:wC w w') (Z:Bk->Prop) (hz: ∀b,Z b->b.2<w.heap.size):xY Z w w':=fun b hb=>h.block b.2 (hz b hb)
theorem yZ.of_eq {τs:Nat->Prop} (h: ∀τ,τs τ->σ'.o τ=σ.o τ/\κ' τ=κ τ) (hk:wC w w'):yZ τs σ.o σ'.o κ κ' w w':=by
 intro τ hτ;obtain⟨h1,h2⟩:=h τ hτ;refine⟨by rw[h1];exact yI.refl _,h2,fun _ b _ cur e f hb=>⟨cur,?_,rfl⟩⟩;rw[hk.block b (wU hb)];exact hb
theorem Inv.newG (hi:Inv w0 Z0 κ σ fr w) (hk:wC w w') {d:Nat} (hd:d<fr.size) (hfree:σ.Free d) {bo:Option Nat} (hbo: ∀b,bo=some b->w.heap.size<=b/\b<w'.heap.size)
  {ob:O} {v:V} {u:Value}
  (hob: ∀Z,(∀b,Zof w0 Z0 κ σ.o w b->Z b)->wB w' Z (fun τ=>if τ=d then bo else κ τ) (σ.new d ob v).o d ob)
  (hv:zK w' (Zof w0 Z0 (fun τ=>if τ=d then bo else κ τ) (σ.new d ob v).o w') (fun τ=>if τ=d then bo else κ τ) (σ.new d ob v).o v u):
  Inv w0 Z0 (fun τ=>if τ=d then bo else κ τ) (σ.new d ob v) (fr.setIfInBounds d u) w':=by
 have hsub: ∀b,Zof w0 Z0 κ σ.o w b->Zof w0 Z0 (fun τ=>if τ=d then bo else κ τ) (σ.new d ob v).o w' b:=by
  refine Zof_sub (hk.same _ (fun b hb=>hb.2.1)) hk.size (fun τ b hτ hb hlt=>?_);by_cases h:τ=d
  ·subst h;simp at hb;have:=hbo b hb;omega
  ·simp only[h,if_false] at hb
   exact⟨τ,by simpa [St.new,St.put,St.setO,h] using hτ,hb⟩
 have hsame:xY (Zof w0 Z0 κ σ.o w) w w':=hk.same _ (fun b hb=>hb.2.1);have htab:yZ (fun τ=>τ≠d) σ.o (σ.new d ob v).o κ (fun τ=>if τ=d then bo else κ τ) w w':=
  yZ.of_eq (fun τ hτ=>⟨by simp[St.new,St.put,St.setO,hτ],by simp[hτ]⟩) hk
 refine⟨hi.kept.trans' hk,hi.glob,?_,?_,?_,?_⟩
 ·intro τ b hτ hb
  by_cases h:τ=d
  ·subst h;simp at hb;have:=hbo b hb;exact⟨hi.kept.fresh this.1,this.2⟩
  ·simp only[h,if_false] at hb
   have:=hi.own τ b (by simpa [St.new,St.put,St.setO,h] using hτ) hb;have h2:=hk.le;exact⟨this.1,by omega⟩
 ·intro τ τ' b hτ hτ' hb hb'
  by_cases h:τ=d<;>by_cases h':τ'=d
  ·rw[h,h']
  ·subst h
   simp at hb;simp only[h',if_false] at hb';have:=hbo b hb;have:=hi.own τ' b (by simpa [St.new,St.put,St.setO,h'] using hτ') hb';omega
  ·subst h'
   simp at hb';simp only[h,if_false] at hb;have:=hbo b hb';have:=hi.own τ b (by simpa [St.new,St.put,St.setO,h] using hτ) hb;omega
  ·simp only[h,h',if_false] at hb hb'
   exact hi.inj τ τ' b (by simpa [St.new,St.put,St.setO,h] using hτ) (by simpa [St.new,St.put,St.setO,h'] using hτ') hb hb'
 ·intro τ ob' hob'
  by_cases h:τ=d
  ·subst h
   simp[St.new,St.put,St.setO] at hob';subst hob';exact hob _ hsub
  ·have ho:σ.o τ=some ob':=by simpa [St.new,St.put,St.setO,h] using hob'
   refine(hi.objs τ ob' ho).mono hsame hsub htab (by simp[h]) (fun b hb=>?_) (fun τ' hτ'=>?_)
   ·exact hk.block b (hi.own τ b (by simp[ho]) hb).2
   ·rintro rfl
    have:=hfree.2 τ ob' ho h;rw[this] at hτ';simp at hτ'
 ·intro s
  by_cases h:s=d
  ·subst h
   simp[St.new,St.put,hd];exact hv
  ·have:=hi.tmps s
   have hs:(σ.new d ob v).t s=σ.t s:=by simp[St.new,St.put,St.setO,h]
   rw[hs];have hg:(fr.setIfInBounds d u).getD s undef=fr.getD s undef:=by
    simp[ZW,Yi,Ne.symm h]
   rw[hg];refine this.mono hsame hsub htab (fun τ' hτ'=>?_);rintro rfl;have:=hfree.1 s h;rw[this] at hτ';simp at hτ'
structure Wrote (w w':World) (b:Nat) (cur cur':Array Value) (e:TypeId):Prop where
 os:w'.os=w.os
 tape:w'.tape=w.tape
 output:w'.output=w.output
 size:w'.heap.size=w.heap.size
 old:w.heap[b]?=some (.cells cur e (0,0))
 new:w'.heap[b]?=some (.cells cur' e (0,0))
 len:cur'.size=cur.size
 other: ∀k,k≠b->w'.heap[k]?=w.heap[k]?
theorem zbn (hi:Inv w0 Z0 κ σ fr w) {τ b:Nat} {ob ob':O} {cur cur':Array Value} {e:TypeId} (ho:σ.o τ=some ob) (hl:yI (some ob) (some ob')) (hκ:κ τ=some b) (hw:Wrote w w' b cur cur' e):
  (∀b,Zof w0 Z0 κ σ.o w b->Zof w0 Z0 κ (σ.setO τ ob').o w' b)/\xY (Zof w0 Z0 κ σ.o w) w w'/\yZ (fun _=>True) σ.o (σ.setO τ ob').o κ κ w w':=by
 have hsm:xY (Zof w0 Z0 κ σ.o w) w w':=by
  intro k hk;refine hw.other k.2 ?_;intro hkb;exact hk.2.2 τ (by simp[ho]) (by rw[hkb];exact hκ)
 refine⟨Zof_sub hsm (by rw[hw.size];exact Zw _) (fun τ' b' hτ' hb' _=>⟨τ',?_,hb'⟩),hsm,fun τ' _=>⟨?_,rfl,fun _ b' hb' cur1 e1 f1 h1=>?_⟩⟩
 ·by_cases h:τ'=τ
  ·subst h;simp[ho]
  ·simpa [St.setO,h] using hτ'
 ·by_cases h:τ'=τ
  ·subst h;simp only[St.setO,if_true,ho];exact hl
  ·simp only[St.setO,h,if_false];exact yI.refl _
 ·by_cases h:b'=b
  ·subst h
   rw[hw.old] at h1;cases h1;exact⟨cur',hw.new,hw.len⟩
  ·exact⟨cur1,by rw[hw.other b' h];exact h1,rfl⟩
theorem Inv.setG (hi:Inv w0 Z0 κ σ fr w) {τ b:Nat} {ob ob':O} {cur cur':Array Value} {e:TypeId} (ho:σ.o τ=some ob) (hl:yI (some ob) (some ob')) (hκ:κ τ=some b) (hw:Wrote w w' b cur cur' e)
  (hob:wB w' (Zof w0 Z0 κ (σ.setO τ ob').o w') κ (σ.setO τ ob').o τ ob'):Inv w0 Z0 κ (σ.setO τ ob') fr w':=by
 obtain⟨hsub,hsame,htab⟩:=zbn hi ho hl hκ hw;have hdom: ∀τ',(σ.setO τ ob').o τ'≠none->σ.o τ'≠none:=by
  intro τ' h;by_cases h':τ'=τ
  ·subst h';simp[ho]
  ·simpa [St.setO,h'] using h
 have hbo:=hi.own τ b (by simp[ho]) hκ;refine⟨⟨hw.os.trans hi.kept.os,hw.tape.trans hi.kept.tape,hw.output.trans hi.kept.output,by rw[hw.size];exact hi.kept.size,fun k hk=>?_⟩,hi.glob,fun τ' b' h h'=>?_,fun τ1 τ2 b' h1 h2 h3 h4=>?_,fun τ' ob1 h1=>?_,fun s=>?_⟩
 ·rw[hw.other k (by rintro rfl;exact hbo.1 hk)];exact hi.kept.block k hk
 ·rw[hw.size];exact hi.own τ' b' (hdom τ' h) h'
 ·exact hi.inj τ1 τ2 b' (hdom _ h1) (hdom _ h2) h3 h4
 ·by_cases h:τ'=τ
  ·subst h
   simp[St.setO] at h1;subst h1;exact hob
  ·have h1':σ.o τ'=some ob1:=by simpa [St.setO,h] using h1
   refine(hi.objs τ' ob1 h1').mono hsame hsub htab rfl (fun b' hb'=>?_) (fun _ _=>trivial);refine hw.other b' ?_;rintro rfl;exact h (hi.inj τ' τ b' (by simp[h1']) (by simp[ho]) hb' hκ)
 ·exact(hi.tmps s).mono hsame hsub htab (fun _ _=>trivial)
theorem K.noRef_scrub (τ:Nat) (x:K):(x.scrub τ).noRef τ=true:=by
 cases x<;>simp only[K.scrub]
 case fnk f caps=>
  split
  ·rename_i hc;exact hc
  ·rfl
 all_goals first
  |rfl
  |(split
    ·rfl
    ·simpa [K.noRef])
theorem K.noRef_scrub' {τ τ':Nat} {x:K} (h:(x.scrub τ).noRef τ'=false):x.noRef τ'=false:=by
 cases x<;>simp only[K.scrub] at h
 case fnk f caps=>
  split at h
  ·exact h
  ·simp[K.noRef] at h
 all_goals first
  |exact h
  |(split at h
    ·simp[K.noRef] at h
    ·exact h)
theorem yU.scrub {w:World} {Z:Bk->Prop} {o:Nat->Option O} {x:K} {v:Value} (τ:Nat) (h:yU w Z κ o x v):yU w Z κ o (x.scrub τ) v:=by
 cases x<;>simp only[K.scrub]
 case fnk f caps=>
  split
  ·exact h
  ·trivial
 all_goals first
  |exact h
  |(split
    ·trivial
    ·exact h)
theorem V.noRef_scrub (τ:Nat): ∀(x:V),(x.scrub τ).noRef τ=true
 | .k x=>K.noRef_scrub τ x
 | .agg r=>rfl
 | .agk r=>by
   simp only[V.scrub,V.noRef,Y4,ZA];intro k _;exact K.noRef_scrub τ k
 | .tup vs=>rfl
 | .undef=>rfl
 | .any=>rfl
theorem zK.scrub {w:World} {Z:Bk->Prop} {o:Nat->Option O} (τ:Nat): ∀{x:V} {v:Value},zK w Z κ o x v->zK w Z κ o (x.scrub τ) v
 | .k x,v,h=>⟨h.1,h.2.scrub τ⟩
 | .agg r,v,h=>h
 | .agk r,v,⟨cs,hv,hr⟩=>⟨cs,hv,by simp[hr.1],fun j k u hk hu=>by
   simp only[Zz,Zd] at hk
   obtain⟨k',hk',rfl⟩:=hk
   exact⟨(hr.2 j k' u hk' hu).1,(hr.2 j k' u hk' hu).2.scrub τ⟩⟩
 | .tup vs,v,h=>trivial
 | .undef,v,h=>h
 | .any,v,h=>trivial
theorem O.noRef_scrub (τ:Nat) (ob:O):(ob.scrub τ).noRef τ=true:=by
 cases ob with
 |var e row=>
  simp only[O.scrub,O.noRef,Y4,ZA];intro k _;exact K.noRef_scrub τ k
 |arr e sz nl rows=>rfl
theorem wB.scrub {w:World} {Z:Bk->Prop} {o:Nat->Option O} (τ:Nat) {τ':Nat} {ob:O} (h:wB w Z κ o τ' ob):wB w Z κ o τ' (ob.scrub τ):=by
 cases ob with
 |var e row=>
  obtain⟨b,cur,h1,h2,h3,h4⟩:=h;refine⟨b,cur,h1,h2,by simp[h3],fun j k u hk hu=>?_⟩;simp only[Zz,Zd] at hk;obtain⟨k',hk',rfl⟩:=hk;exact⟨(h4 j k' u hk' hu).1,(h4 j k' u hk' hu).2.scrub τ⟩
 |arr e sz nl rows=>exact h
theorem yI.scrub (τ:Nat) (x:Option O):yI x (x.map (O.scrub τ)):=by
 rcases x with _|(⟨e,row⟩|⟨e,sz,nl,rows⟩)
 ·trivial
 ·rfl
 ·exact⟨rfl,rfl,rfl⟩
theorem Inv.moveG (hi:Inv w0 Z0 κ σ fr w) {τ d:Nat} {ob0 ob:O} {v:V} {u:Value} {bo:Option Nat} (ho:σ.o τ=some ob0) (hd:d<fr.size)
  (hos:w'.os=w.os) (htape:w'.tape=w.tape) (hout:w'.output=w.output) (hsize:w.heap.size<=w'.heap.size)
  (hoth: ∀k,k<w.heap.size->κ τ≠some k->w'.heap[k]?=w.heap[k]?) (hbo: ∀b,bo=some b->(w.heap.size<=b/\b<w'.heap.size)\/κ τ=some b)
  (hob: ∀Z,(∀b,Zof w0 Z0 κ σ.o w b->Z b)->wB w' Z (fun s=>if s=τ then bo else κ s) (((σ.scrub τ).setO τ ob).put d v).o τ ob)
  (hv:zK w' (Zof w0 Z0 (fun s=>if s=τ then bo else κ s) (((σ.scrub τ).setO τ ob).put d v).o w') (fun s=>if s=τ then bo else κ s) (((σ.scrub τ).setO τ ob).put d v).o v u):
  Inv w0 Z0 (fun s=>if s=τ then bo else κ s) (((σ.scrub τ).setO τ ob).put d v) (fr.setIfInBounds d u) w':=by
 have hot: ∀s,s≠τ->(((σ.scrub τ).setO τ ob).put d v).o s=(σ.o s).map (O.scrub τ):=by
  intro s hs;simp[St.put,St.setO,St.scrub,hs]
 have hdom: ∀s,s≠τ->(((σ.scrub τ).setO τ ob).put d v).o s≠none->σ.o s≠none:=by
  intro s hs h;rw[hot s hs] at h;simpa using h
 have hsame:xY (Zof w0 Z0 κ σ.o w) w w':=fun b hb=>hoth b.2 hb.2.1 (hb.2.2 τ (by simp[ho]))
 have hsub: ∀b,Zof w0 Z0 κ σ.o w b->Zof w0 Z0 (fun s=>if s=τ then bo else κ s) (((σ.scrub τ).setO τ ob).put d v).o w' b:=by
  refine Zof_sub hsame hsize (fun s b hs hb hlt=>?_);by_cases h:s=τ
  ·subst h
   simp at hb;rcases hbo b hb with h|h
   ·omega
   ·exact⟨s,by simp[ho],h⟩
  ·simp only[h,if_false] at hb
   exact⟨s,hdom s h hs,hb⟩
 have htab:yZ (fun s=>s≠τ) σ.o (((σ.scrub τ).setO τ ob).put d v).o κ (fun s=>if s=τ then bo else κ s) w w':=by
  intro s hs;refine⟨by rw[hot s hs];exact yI.scrub τ _,by simp[hs],fun hn b hb cur e f hb'=>⟨cur,?_,rfl⟩⟩;rw[hoth b (wU hb') (fun h=>hs (hi.inj s τ b hn (by simp[ho]) hb h))];exact hb'
 have hblk: ∀s b,s≠τ->σ.o s≠none->κ s=some b->w'.heap[b]?=w.heap[b]?:=by
  intro s b hs hn hb;exact hoth b (hi.own s b hn hb).2 (fun h=>hs (hi.inj s τ b hn (by simp[ho]) hb h))
 refine⟨⟨hos.trans hi.kept.os,htape.trans hi.kept.tape,hout.trans hi.kept.output,ZX hi.kept.size hsize,fun k hk=>?_⟩,hi.glob,fun s b hs hb=>?_,fun s1 s2 b h1 h2 h3 h4=>?_,fun s ob1 h1=>?_,fun s=>?_⟩
 ·rw[hoth k (by have:=hi.kept.size;have:=w0.lt k hk;omega) (fun h=>(hi.own τ k (by simp[ho]) h).1 hk)]
  exact hi.kept.block k hk
 ·by_cases h:s=τ
  ·subst h
   simp at hb;rcases hbo b hb with h|h
   ·exact⟨hi.kept.fresh h.1,h.2⟩
   ·have:=hi.own s b (by simp[ho]) h;exact⟨this.1,by omega⟩
  ·simp only[h,if_false] at hb
   have:=hi.own s b (hdom s h hs) hb;exact⟨this.1,by omega⟩
 ·by_cases c1:s1=τ<;>by_cases c2:s2=τ
  ·rw[c1,c2]
  ·subst c1
   simp at h3;simp only[c2,if_false] at h4;have h5:=hi.own s2 b (hdom s2 c2 h2) h4;rcases hbo b h3 with h|h
   ·omega
   ·exact hi.inj _ _ b (by simp[ho]) (hdom s2 c2 h2) h h4
  ·subst c2
   simp at h4;simp only[c1,if_false] at h3;have h5:=hi.own s1 b (hdom s1 c1 h1) h3;rcases hbo b h4 with h|h
   ·omega
   ·exact hi.inj _ _ b (hdom s1 c1 h1) (by simp[ho]) h3 h
  ·simp only[c1,c2,if_false] at h3 h4
   exact hi.inj s1 s2 b (hdom s1 c1 h1) (hdom s2 c2 h2) h3 h4
 ·by_cases h:s=τ
  ·subst h
   simp[St.put,St.setO] at h1;subst h1;exact hob _ hsub
  ·rw[hot s h] at h1
   simp only[Zd] at h1;obtain⟨ob2,h2,rfl⟩:=h1;have:=((hi.objs s ob2 h2).scrub τ).mono hsame hsub htab (by simp[h]) (fun b hb=>hblk s b h (by simp[h2]) hb) (fun τ' hτ'=>?_)
   ·exact this
   ·rintro rfl
    rw[O.noRef_scrub] at hτ';simp at hτ'
 ·by_cases h:s=d
  ·subst h
   simp[St.put,hd];exact hv
  ·have hs:(((σ.scrub τ).setO τ ob).put d v).t s=(σ.t s).scrub τ:=by simp[St.put,St.setO,St.scrub,h]
   rw[hs];have hg:(fr.setIfInBounds d u).getD s undef=fr.getD s undef:=by
    simp[ZW,Yi,Ne.symm h]
   rw[hg];refine((hi.tmps s).scrub τ).mono hsame hsub htab (fun τ' hτ'=>?_);rintro rfl;rw[V.noRef_scrub] at hτ';simp at hτ'
theorem uQ.frz {w:World} {Z:Bk->Prop} {o o':Nat->Option O} {τ:Nat} {ob:O} (ho:o τ=some ob) (ho': ∀s,s≠τ->yI (o s) (o' s)) (hn:o' τ=none)
  (hvar: ∀e row r,ob=.var e row->pureRow row=some r-> ∀b,κ τ=some b-> ∀off,PRep w Z (.ro r off) (.pointer (some ⟨b,off,none⟩)))
  {c:Cap} {v:Value} (h:uQ w Z κ o c v):uQ w Z κ o' (c.frz τ ob) v:=by
 cases c with
 |tok s=>
  simp only[Cap.frz];by_cases hs:s=τ
  ·subst hs
   simp only[if_true];cases ob with
   |var e row=>
    simp only;split
    ·rename_i r hr
     obtain⟨b,hb,hv⟩:=h e row ho;rw[hv];exact hvar e row r rfl hr b hb 0
    ·intro e' row' h';rw[hn] at h';simp at h'
   |arr e sz nl rows=>intro e' row' h';rw[hn] at h';simp at h'
  ·simp only[hs,if_false]
   intro e row h';obtain⟨row',hr'⟩:=(ho' s hs).var h';exact h e row' hr'
 |ro row off=>exact h
theorem zeN {w:World} {Z:Bk->Prop} {o:Nat->Option O} {τ:Nat} {ob:O} (ho:o τ=some ob) (hob:wB w Z κ o τ ob) (hZ: ∀c b,κ τ=some b->Z (c,b)):
  (∀e row r,ob=.var e row->pureRow row=some r-> ∀b,κ τ=some b-> ∀off,PRep w Z (.ro r off) (.pointer (some ⟨b,off,none⟩)))/\
  (∀e sz nl rows,ob=.arr e sz nl rows-> ∀v,yU w Z κ o (.own τ) v->PRep w Z (.list sz nl rows) v)/\
  (∀e sz nl rows,ob=.arr e sz nl rows-> ∀b,κ τ=some b->qJ w Z sz rows b 0):=by
 refine⟨?_,?_,?_⟩
 ·rintro e row r rfl hr b hb off
  obtain⟨b',cur,hb',hheap,hrow⟩:=hob;obtain rfl:b=b':=by rw[hb] at hb';simpa using hb'
  have:=kE hr;subst this;have hp:=hrow.toPure;refine .ro b r off (fun j=>(cur[j]?).getD undef) (hZ _ b hb) (fun j c hc=>?_) (fun j c hc=>?_)
  ·have hlt:j<cur.toList.length:=by rw[hp.1];exact(Zu.1 hc).1
   have hlt':j<cur.size:=by simpa using hlt
   rw[cell_of_row w b j cur e (0,0) hheap,Ya hlt'];rfl
  ·have hlt:j<cur.toList.length:=by rw[hp.1];exact(Zu.1 hc).1
   have hlt':j<cur.size:=by simpa using hlt
   rw[Ya hlt'];exact hp.2 j c _ hc (by simp[hlt'])
 ·rintro e sz nl rows rfl v hv
  rcases hv e sz nl rows ho with⟨hk,rfl⟩|⟨b,cur,cap,hk,hheap,hc,rfl⟩
  ·rcases hob with⟨_,rfl,hn⟩|⟨b,cur,cap,hk',_⟩
   ·exact .nil sz nl hn
   ·rw[hk] at hk';simp at hk'
  ·rcases hob with⟨hk',_⟩|⟨b',cur',cap',hk',hheap',h0,hc',hl,hm,hn,hsz,hrr⟩
   ·rw[hk] at hk';simp at hk'
   ·obtain rfl:b=b':=by rw[hk] at hk';simpa using hk'
    rw[hheap] at hheap';cases hheap';have:cap=cap':=XF h0 (hc.symm.trans hc');subst this;exact iH hn hl hm ⟨fun _=>hZ _ b hk,hsz,fun i j r c hr hcc=>by
     obtain⟨u,hu,hp⟩:=hrr i j r c hr hcc
     exact⟨u,by rw[cell_of_row w b _ cur e (0,0) hheap,ZY];exact hu,hp⟩⟩
 ·rintro e sz nl rows rfl b hb
  rcases hob with⟨hk',_⟩|⟨b',cur',cap',hk',hheap',h0,hc',hl,hm,hn,hsz,hrr⟩
  ·rw[hb] at hk';simp at hk'
  ·obtain rfl:b=b':=by rw[hb] at hk';simpa using hk'
   exact⟨fun _=>hZ _ b hb,hsz,fun i j r c hr hcc=>by
        obtain⟨u,hu,hp⟩:=hrr i j r c hr hcc
        exact⟨u,by rw[cell_of_row w b _ cur' e (0,0) hheap',ZY];exact hu,hp⟩⟩
theorem yI.frz (τ:Nat) (ob:O) (x:Option O):yI x (x.map (O.frz τ ob)):=by
 rcases x with _|(⟨e,row⟩|⟨e,sz,nl,rows⟩)
 ·trivial
 ·rfl
 ·exact⟨rfl,rfl,rfl⟩
theorem yU.frz {w:World} {Z:Bk->Prop} {o o':Nat->Option O} {τ:Nat} {ob:O} (ho:o τ=some ob) (ho': ∀s,s≠τ->yI (o s) (o' s)) (hn:o' τ=none)
  (hob:wB w Z κ o τ ob) (hZ: ∀c b,κ τ=some b->Z (c,b))
  {x:K} {v:Value} (h:yU w Z κ o x v):yU w Z κ o' (x.frz τ ob) v:=by
 obtain⟨f1,f2,f3⟩:=zeN ho hob hZ;cases x with
 |c x=>exact h
 |own s=>
  simp only[K.frz];by_cases hs:s=τ
  ·subst hs
   simp only[if_true];cases ob with
   |var e row=>trivial
   |arr e sz nl rows=>exact f2 e sz nl rows rfl v h
  ·simp only[hs,if_false]
   intro e sz nl rows h';obtain⟨nl',rows',hr',hl⟩:=(ho' s hs).arr h';rcases h e sz nl' rows' hr' with h|⟨b,cur,cap,hk,hb,hc,hv⟩
   ·exact .inl h
   ·exact .inr ⟨b,cur,cap,hk,hb,hc,by rw[<-hl];exact hv⟩
 |ptr s off=>
  simp only[K.frz];by_cases hs:s=τ
  ·subst hs
   simp only[if_true];cases ob with
   |var e row=>
    simp only;split
    ·rename_i r hr
     obtain⟨b,hb,hv⟩:=h e row ho;rw[hv];exact f1 e row r rfl hr b hb off
    ·trivial
   |arr e sz nl rows=>trivial
  ·simp only[hs,if_false]
   intro e row h';obtain⟨row',hr'⟩:=(ho' s hs).var h';exact h e row' hr'
 |elem s i off=>
  simp only[K.frz];by_cases hs:s=τ
  ·subst hs
   simp only[if_true];cases ob with
   |var e row=>trivial
   |arr e sz nl rows=>
    obtain⟨b,hb,hi,hv⟩:=h e sz nl rows ho;exact⟨b,0,by rw[hv,ZY],hi,f3 e sz nl rows rfl b hb⟩
  ·simp only[hs,if_false]
   intro e sz nl rows h';obtain⟨nl',rows',hr',hl⟩:=(ho' s hs).arr h';rw[<-hl];exact h e sz nl' rows' hr'
 |pel sz rows i off=>exact h
 |fnk f caps=>
  obtain⟨vs,hv,hl,hc⟩:=h;have hfr: ∀(j:Nat) c,(caps.map (Cap.frz τ ob))[j]?=some c-> ∃u,vs[j]?=some u/\uQ w Z κ o' c u:=by
   intro j c hj;simp only[Zz,Zd] at hj;obtain⟨c',hc',rfl⟩:=hj;obtain⟨u,hu,hr⟩:=hc j c' hc';exact⟨u,hu,hr.frz ho ho' hn f1⟩
  simp only[K.frz];split
  ·rename_i cs hcs
   obtain⟨q1,q2⟩:=zeM hcs;rw[hv];refine .fn f cs vs (fun j=>(vs[j]?).getD undef) (by simp at q1;omega) (fun j c hj=>?_) (fun j c hj=>?_)
   ·obtain⟨row,off,rfl,hj'⟩:=q2 j c hj
    obtain⟨u,hu,_⟩:=hfr j _ hj';rw[hu];rfl
   ·obtain⟨row,off,rfl,hj'⟩:=q2 j c hj
    obtain⟨u,hu,hr⟩:=hfr j _ hj';rw[hu];exact hr
  ·exact⟨vs,hv,by simp[hl],hfr⟩
 |newl e sz nl rows=>exact h
 |dead=>trivial
theorem zK.frz {w:World} {Z:Bk->Prop} {o o':Nat->Option O} {τ:Nat} {ob:O} (ho:o τ=some ob) (ho': ∀s,s≠τ->yI (o s) (o' s)) (hn:o' τ=none)
  (hob:wB w Z κ o τ ob) (hZ: ∀c b,κ τ=some b->Z (c,b)): ∀{x:V} {v:Value},zK w Z κ o x v->zK w Z κ o' (x.frz τ ob) v
 | .k x,v,h=>⟨h.1,h.2.frz ho ho' hn hob hZ⟩
 | .agg r,v,h=>h
 | .agk r,v,⟨cs,hv,hr⟩=>by
   have hrow:yB w Z κ o' (r.map (K.frz τ ob)) cs.toList:=⟨by simp[hr.1],fun j k u hk hu=>by
    simp only[Zz,Zd] at hk
    obtain⟨k',hk',rfl⟩:=hk
    exact⟨(hr.2 j k' u hk' hu).1,(hr.2 j k' u hk' hu).2.frz ho ho' hn hob hZ⟩⟩
   simp only[V.frz];split
   ·rename_i cs' hcs
    have:=kE hcs;rw[this] at hrow;exact⟨cs,hv,hrow.toPure⟩
   ·exact⟨cs,hv,hrow⟩
 | .tup vs,v,h=>trivial
 | .undef,v,h=>h
 | .any,v,h=>trivial
theorem wB.frz {w:World} {Z:Bk->Prop} {o o':Nat->Option O} {τ:Nat} {ob:O} (ho:o τ=some ob) (ho': ∀s,s≠τ->yI (o s) (o' s)) (hn:o' τ=none)
  (hob:wB w Z κ o τ ob) (hZ: ∀c b,κ τ=some b->Z (c,b)) {τ':Nat} {x:O} (h:wB w Z κ o τ' x):wB w Z κ o' τ' (O.frz τ ob x):=by
 cases x with
 |var e row=>
  obtain⟨b,cur,h1,h2,h3,h4⟩:=h;refine⟨b,cur,h1,h2,by simp[h3],fun j k u hk hu=>?_⟩;simp only[Zz,Zd] at hk;obtain⟨k',hk',rfl⟩:=hk;exact⟨(h4 j k' u hk' hu).1,(h4 j k' u hk' hu).2.frz ho ho' hn hob hZ⟩
 |arr e sz nl rows=>exact h
theorem dD {w:World} {Z:Bk->Prop} {o:Nat->Option O} {τ b:Nat} {ob:O} (h:wB w Z κ o τ ob) (hb:κ τ=some b):sW w b:=by
 intro cur e f hc;cases ob with
 |var e' row=>
  obtain⟨b',cur',h1,h2,_⟩:=h;rw[hb] at h1;cases h1;rw[h2] at hc;cases hc;rfl
 |arr e' sz nl rows=>
  rcases h with⟨h1,_⟩|⟨b',cur',cap,h1,h2,_⟩
  ·rw[hb] at h1;cases h1
  ·rw[hb] at h1;cases h1
   rw[h2] at hc;cases hc;rfl
theorem Inv.frz (hi:Inv w0 Z0 κ σ fr w) (τ:Nat):Inv w0 Z0 κ (σ.frz τ) fr w:=by
 unfold St.frz;split
 ·exact hi
 ·rename_i ob ho
  have hot: ∀s,s≠τ->(fun s=>if s=τ then none else(σ.o s).map (O.frz τ ob)) s=(σ.o s).map (O.frz τ ob):=by intro s hs;simp[hs]
  have hdom: ∀s,(fun s=>if s=τ then none else(σ.o s).map (O.frz τ ob)) s≠none->s≠τ/\σ.o s≠none:=by
   intro s h;by_cases hs:s=τ
   ·simp[hs] at h
   ·simp only[hs,if_false] at h;exact⟨hs,by simpa using h⟩
  have hsub: ∀b,Zof w0 Z0 κ σ.o w b->Zof w0 Z0 κ (fun s=>if s=τ then none else(σ.o s).map (O.frz τ ob)) w b:=by
   rintro b ⟨h1,h2,h3⟩;exact⟨h1,h2,fun s hs=>h3 s (hdom s hs).2⟩
  have hZ: ∀c b,κ τ=some b->Zof w0 Z0 κ (fun s=>if s=τ then none else(σ.o s).map (O.frz τ ob)) w (c,b):=by
   intro c b hb;have:=hi.own τ b (by simp[ho]) hb;exact⟨.inr ⟨this.1,dD (hi.objs τ ob ho) hb⟩,this.2,fun s hs hsb=>(hdom s hs).1 (hi.inj s τ b (hdom s hs).2 (by simp[ho]) hsb hb)⟩
  have hlike: ∀s,s≠τ->yI (σ.o s) ((fun s=>if s=τ then none else(σ.o s).map (O.frz τ ob)) s):=by
   intro s hs;rw[hot s hs];exact yI.frz τ ob _
  have hself: ∀{w:World},xY (Zof w0 Z0 κ σ.o w) w w:=fun _ _=>rfl
  have hrefl:yZ (fun _=>True) σ.o σ.o κ κ w w:=fun s _=>⟨yI.refl _,rfl,fun _ b _ cur e f hb=>⟨cur,hb,rfl⟩⟩
  have hob:=(hi.objs τ ob ho).mono hself hsub hrefl rfl (fun _ _=>rfl) (fun _ _=>trivial);refine⟨hi.kept,hi.glob,fun s b hs hb=>hi.own s b (hdom s hs).2 hb,fun s1 s2 b h1 h2 h3 h4=>hi.inj s1 s2 b (hdom s1 h1).2 (hdom s2 h2).2 h3 h4,fun s ob1 h1=>?_,fun s=>?_⟩
  ·have h1':(if s=τ then none else(σ.o s).map (O.frz τ ob))=some ob1:=h1
   by_cases hs:s=τ
   ·simp[hs] at h1'
   simp only[hs,if_false,Zd] at h1';obtain⟨ob2,h2,rfl⟩:=h1';exact wB.frz ho hlike (by simp) hob hZ ((hi.objs s ob2 h2).mono hself hsub hrefl rfl (fun _ _=>rfl) (fun _ _=>trivial))
  ·exact((hi.tmps s).mono hself hsub hrefl (fun _ _=>trivial)).frz ho hlike (by simp) hob hZ
theorem Inv.foldFrz (l:List Nat): ∀{σ:St},Inv w0 Z0 κ σ fr w->Inv w0 Z0 κ (l.foldl St.frz σ) fr w:=by
 induction l with
 |nil=>intro σ h;exact h
 |cons τ l ih=>intro σ h;exact ih (h.frz τ)
theorem Inv.frzs: ∀(l:List Nat) {σ:St},Inv w0 Z0 κ σ fr w->Inv w0 Z0 κ (σ.frzs l) fr w
 |[],σ,h=>h
 |τ::l,σ,h=>by
  unfold St.frzs;refine Inv.frzs l (Inv.frz ?_ τ);split
  ·exact Inv.foldFrz _ h
  ·exact h
end
section
variable {P : Program} {w0 : Base} {w : World} {Z0 : Bk -> Prop} {κ : Kap} {σ : St} {a : Act}
def qS (P:Program) (w0:Base) (Z0:Bk->Prop) (a:Act) (w:World) (Kp:St->Prop) (d:Option Nat) (s:Sem Next):Prop:=
 (∃σ' κ' w' u,s.run P w=.ok (.value u) w'/\Inv w0 Z0 κ' σ' (a.put d u).tmps w'/\Kp σ')\/
 (∃σ' κ' w',s.run P w=.ok .skip w'/\Inv w0 Z0 κ' σ' (a.put d undef).tmps w'/\Kp σ')
theorem tY {d:Nat} {Kp:St->Prop} {s:Sem Value} {σ':St} {κ':Kap} {w':World} {u:Value} (hs:s.run P w=.ok u w') (hi:Inv w0 Z0 κ' σ' (a.tmps.setIfInBounds d u) w') (hk:Kp σ'):
  qS P w0 Z0 a w Kp (some d) (do pure (.value (<-s))):=.inl ⟨σ',κ',w',u,by simp[hs],hi,hk⟩
theorem rT (w:World) (o:Obj):wC w (w.alloc o):=⟨rfl,rfl,rfl,by simp,fun b hb=>by
 show(w.heap.push o)[b]?=_
 rw[YR,if_neg (by omega)]⟩
theorem alloc_get (w:World) (o:Obj):(w.alloc o).heap[w.heap.size]?=some o:=by
 show(w.heap.push o)[w.heap.size]?=some o;simp
theorem zq7 (hi:Inv w0 Z0 κ σ a.tmps w) {d e sz:Nat} (hd:d<a.tmps.size) {Kp:St->Prop} (h:yC P σ (.nilL d e sz) Kp):
  qS P w0 Z0 a w Kp (some d) (do pure (.value (<-(pure (.slice none 0 0):Sem Value)))):=by
 obtain⟨hf,hk⟩:=h;refine tY rfl (hi.newG (ob:=.arr e sz (some true) []) (v:=.k (.own d)) (wC.refl w) hd hf (bo:=none) (by simp) (fun Z hZ=> .inl ⟨by simp,rfl,by simp⟩) ⟨rfl,fun e' sz' nl rows ho=> .inl ⟨by simp,rfl⟩⟩) hk
theorem zeO (hi:Inv w0 Z0 κ σ a.tmps w) {d e:Nat} (hd:d<a.tmps.size) {row:List K} {cur:Array Value} (hrow:yB w (Zof w0 Z0 κ σ.o w) κ σ.o row cur.toList) (hnr:row.all (K.noRef d)=true) (hf:σ.Free d):
  Inv w0 Z0 (fun τ=>if τ=d then some w.heap.size else κ τ) (σ.new d (.var e row) (.k (.ptr d 0))) (a.tmps.setIfInBounds d (.pointer (some ⟨w.heap.size,0,none⟩))) (w.alloc (.cells cur e)):=by
 refine hi.newG (rT w _) hd hf (bo:=some w.heap.size) (by intro b hb;cases hb;simp) (fun Z hZ=>?_) ⟨rfl,fun e' row' ho=>⟨w.heap.size,by simp,rfl⟩⟩;refine⟨w.heap.size,cur,by simp,alloc_get w _,?_⟩;refine hrow.mono (τs:=fun τ=>τ≠d) ((rT w _).same _ (fun b hb=>hb.2.1)) hZ (yZ.of_eq (fun τ hτ=>⟨by simp[St.new,St.put,St.setO,hτ],by simp[hτ]⟩) (rT w _)) (fun τ x hx hn=>?_);rintro rfl;rw[ZA.1 hnr x hx] at hn;simp at hn
theorem zq8 (hi:Inv w0 Z0 κ σ a.tmps w) {d e:Nat} (hd:d<a.tmps.size) {zero:List C} (hz:qP P e=some zero) {Kp:St->Prop} (h:yC P σ (.alloc d e zero) Kp):
  qS P w0 Z0 a w Kp (some d) (do pure (.value (<-Instr.alloc e true (.tuple #[])))):=by
 obtain⟨hf,hk⟩:=h;obtain⟨i,z,hinfo,hzero,hzrow⟩:=iI hz;refine tY (u:=.pointer (some ⟨w.heap.size,0,none⟩)) (w':=w.alloc (.cells z.cells e)) ?_ (zeO hi hd (yB.ofPure (hzrow w _)) ?_ hf) hk
 ·simp[Instr.alloc,zeroValue,typeInfo,hinfo,hzero,newVar,newRow]
 ·simp[ZA,K.noRef]
theorem zq9 (hi:Inv w0 Z0 κ σ a.tmps w) {d e:Nat} (hd:d<a.tmps.size) {x:Operand} {x':AX} (hx:ax x=some x') {Kp:St->Prop} (h:yC P σ (.box d e x') Kp):
  qS P w0 Z0 a w Kp (some d) (do pure (.value (<-Instr.box e (a.eval x)))):=by
 simp only[yC] at h;obtain⟨h,hv⟩:=yS hi hx h;generalize (x'.ev σ).strip.1=v at h hv;split at h
 ·rename_i ks hks
  obtain⟨hf,hnr,hk⟩:=h;refine tY (u:=.pointer (some ⟨w.heap.size,0,none⟩)) (w':=w.alloc (.cells (a.eval x).cells e)) ?_ (zeO hi hd (dB hks (hv rfl)) hnr hf) hk;simp[Instr.box,newVar,newRow]
 ·exact h.elim
theorem zbo (hi:Inv w0 Z0 κ σ a.tmps w) {d e sz cap:Nat} (hd:d<a.tmps.size) {rows:List (List C)} {cur:Array Value} (h0:0<sz) (hcs:cur.size=cap*sz) (hlen:rows.length<=cap) (hcap:cap<=maxLen)
  {nl:Option Bool} (hnl:nl≠some true) (hall: ∀r,r∈rows->r.length=sz) (hrr: ∀(i j:Nat) r c,rows[i]?=some r->r[j]?=some c-> ∃v,cur[i*sz+j]?=some v/\PRep w (Zof w0 Z0 κ σ.o w) c v) (hf:σ.Free d) {w':World} (hk:wC w w') (hw':w'.heap[w.heap.size]?=some (.cells cur e (0,0))):
  Inv w0 Z0 (fun τ=>if τ=d then some w.heap.size else κ τ) (σ.new d (.arr e sz nl rows) (.k (.own d))) (a.tmps.setIfInBounds d (.slice (some ⟨w.heap.size,0,none⟩) rows.length cap)) w':=by
 refine hi.newG hk hd hf (bo:=some w.heap.size) (by intro b hb;cases hb;exact⟨Zw _,wU hw'⟩) (fun Z hZ=>?_) ⟨rfl,fun e' sz' nl' rows' ho=>?_⟩
 ·refine .inr ⟨w.heap.size,cur,cap,by simp,hw',h0,hcs,hlen,hcap,hnl,hall,fun i j r c hr hc=>?_⟩
  obtain⟨v,hv,hp⟩:=hrr i j r c hr hc;exact⟨v,hv,hp.mono (hk.same _ (fun b hb=>hb.2.1)) hZ⟩
 ·have:(σ.new d (.arr e sz nl rows) (.k (.own d))).o d=some (.arr e sz nl rows):=by simp[St.new,St.put,St.setO]
  rw[this] at ho;cases ho;exact .inr ⟨w.heap.size,cur,cap,by simp,hw',hcs,rfl⟩
theorem zbp (z:Array Value) (n i j sz:Nat) (hz:z.size=sz) (h0:0<sz) (hi:i<n) (hj:j<sz):(madeCells z (n*sz))[i*sz+j]?=z[j]?:=by
 have hlt:i*sz+j<n*sz:=by
  have:(i+1)*sz<=n*sz:=ZZ _ hi;rw[YD] at this;omega
 have hm:(i*sz+j) % sz=j:=by rw[Y8,Nat.add_mul_mod_self_right,XH hj]
 simp only[madeCells,Array.getElem?_map,Array.getElem?_range,hlt,if_true,YA,hz,hm];rw[Array.getElem!_eq_getD,ZW,Ya (by omega)];rfl
theorem zra (hi:Inv w0 Z0 κ σ a.tmps w) {t e d n:Nat} (hd:d<a.tmps.size) (ht:P.underlying t=some (.slice e)) {i:TypeInfo} (hinfo:P.info? e=some i) (hn:yW P e=some n) (h0:0<n) {zero:List C} (hz:qP P e=some zero)
  {l c:Operand} {l' c':AX} (hl:ax l=some l') (hc:ax c=some c') {Kp:St->Prop} (h:yC P σ (.mkslice d e n i.bytes zero l' c') Kp):
  qS P w0 Z0 a w Kp (some d) (do pure (.value (<-Instr.makeSlice t (a.eval l) (a.eval c)))):=by
 simp only[yC] at h;obtain⟨h,hv⟩:=yS hi hl h;obtain⟨h,hu⟩:=yS hi hc h;generalize (l'.ev σ).strip.1=v at h hv;generalize (c'.ev σ).strip.1=u at h hu;split at h
 ·rename_i k1 m k2 q
  obtain⟨b1,b2,b3,b4,b5,hf,hk⟩:=h;obtain⟨i',z,hinfo',hzero,hzrow⟩:=iI hz;rw[hinfo] at hinfo';cases hinfo';have hni:i.size=n:=by simpa [yW,hinfo] using hn
  have hzl:z.cells.size=n:=by have:=(hzrow w (fun _=>True)).1;simp at this;omega
  have hrun:=run_make (P:=P) w t e i z ht hinfo hzero k1 k2 m q b1 b2 (by omega) b4;rw[hni] at hrun;have e1:(List.replicate m.toNat zero).length=m.toNat:=by simp
  have hI:=zbo hi hd (rows:=List.replicate m.toNat zero) (nl:=some false) (cap:=q.toNat) (e:=e) (cur:=madeCells z.cells (q.toNat*n)) h0 (size_madeCells _ _) (by simp;omega) (by unfold maxLen;omega) (by simp) (by intro r hr;simp at hr;rw[hr.2];exact b5)
    (fun i j r c hr hc=>by
     rw[List.getElem?_replicate] at hr
     split at hr
     ·rename_i hi'
      cases hr
      have hj:j<n:=by rw[<-b5];exact(Zu.1 hc).1
      rw[zbp z.cells q.toNat i j n hzl h0 (by omega) hj]
      have hr:=hzrow w (Zof w0 Z0 κ σ.o w)
      have hlt:j<z.cells.size:=by omega
      exact⟨z.cells[j],Ya hlt,hr.2 j c _ hc (by simp[hlt])⟩
     ·simp at hr) hf (rT w _) (alloc_get w _)
  rw[e1] at hI;refine tY (u:=.slice (some ⟨w.heap.size,0,none⟩) m.toNat q.toNat) ?_ hI hk;rw[tX (hv rfl),tX (hu rfl)];exact hrun
 ·exact h.elim
theorem zrb (hi:Inv w0 Z0 κ σ a.tmps w) {t n τ off e:Nat} (hn:yW P t=some n) {row ks:List K} {x y:Value} (ho:σ.o τ=some (.var e row)) (hx:zK w (Zof w0 Z0 κ σ.o w) κ σ.o (.k (.ptr τ off)) x)
  (hy:yB w (Zof w0 Z0 κ σ.o w) κ σ.o ks y.cells.toList) (hl:ks.length=n) (hb:off+n<=row.length):
  ∃w',(Instr.storeAt t x y).run P w=.ok () w'/\Inv w0 Z0 κ (σ.setO τ (.var e (splice row off ks))) a.tmps w':=by
 obtain⟨b,cur,hκ,hheap,hrow⟩:=hi.objs τ _ ho;obtain⟨b',hκ',hp⟩:=hx.2 e row ho;obtain rfl:b=b':=by rw[hκ] at hκ';simpa using hκ'
 have hcl:cur.size=row.length:=by simpa using hrow.1
 have hyl:y.cells.toList.length=n:=by rw[hy.1,hl]
 have h1: ∀v∈y.cells.toList,v.oneCell'=true:=by
  intro v hv;obtain⟨j,hj⟩:=XL hv;have hlt:j<ks.length:=by rw[<-hy.1];exact(Zu.1 hj).1
  exact(hy.2 j ks[j] v (Zf hlt) hj).1
 have hst:=run_storeCells_at P b off e y.cells.toList 0 cur w hheap (by omega) h1;simp only[Yf] at hst;refine⟨w.setRow b (cur.toList.take off++y.cells.toList++cur.toList.drop (off+y.cells.toList.length)).toArray,?_,?_⟩
 ·rw[hp]
  have hsz:y.cells.size=n:=by simpa using hyl
  simp only[Instr.storeAt,Instr.sureAddr,storeVar,Sem.run_bind,Sem.run_pure,Result.andThen_ok,uS hn,hsz,ne_eq,not_true_eq_false,if_false];exact hst
 ·have hW:Wrote w (w.setRow b (cur.toList.take off++y.cells.toList++cur.toList.drop (off+y.cells.toList.length)).toArray) b cur (cur.toList.take off++y.cells.toList++cur.toList.drop (off+y.cells.toList.length)).toArray e:=
   ⟨rfl,rfl,rfl,by simp,hheap,setRow_heap w b cur _ e (0,0) hheap,by simp at hyl⊢;omega,fun k hk=>setRow_other w b k _ hk⟩
  obtain⟨hsub,hsame,htab⟩:=zbn (ob':=.var e (splice row off ks)) hi ho rfl hκ hW;refine hi.setG ho rfl hκ hW ⟨b,_,hκ,setRow_heap w b cur _ e (0,0) hheap,?_⟩;have:=hrow.splice hy (off:=off) (by omega);refine yB.mono hsame hsub htab (fun _ _ _ _=>trivial) ?_;simpa using this
end
section
variable {P : Program} {w0 : Base} {w : World} {Z0 : Bk -> Prop} {κ : Kap} {σ : St} {a : Act}
theorem zeP (σ:St) (τ s:Nat) (h:(σ.frz τ).o s≠none):σ.o s≠none:=by
 unfold St.frz at h;split at h
 ·exact h
 ·simp only at h
  split at h
  ·simp at h
  ·simpa using h
theorem zrc (l:List Nat): ∀(σ:St) (s:Nat),(l.foldl St.frz σ).o s≠none->σ.o s≠none:=by
 induction l with
 |nil=>intro σ s h;exact h
 |cons τ l ih=>intro σ s h;exact zeP σ τ s (ih _ s h)
theorem dE: ∀(l:List Nat) (σ:St) (s:Nat),(σ.frzs l).o s≠none->σ.o s≠none
 |[],σ,s,h=>h
 |τ::l,σ,s,h=>by
  unfold St.frzs at h;have h1:=zeP _ τ s (dE l _ s h);split at h1
  ·exact zrc _ σ s h1
  ·exact h1
theorem Zof_frzs (l:List Nat): ∀b,Zof w0 Z0 κ σ.o w b->Zof w0 Z0 κ (σ.frzs l).o w b:=by
 rintro b ⟨h1,h2,h3⟩;exact⟨h1,h2,fun τ hτ=>h3 τ (dE l σ τ hτ)⟩
theorem pure_row {v:V} {r:List C} (h:v.pure=some r) {w:World} {Z:Bk->Prop} {o:Nat->Option O} {u:Value} (hv:zK w Z κ o v u):yG w Z r u.cells.toList:=by
 cases v with
 |k x=>
  cases x<;>simp[V.pure] at h
  subst h;have:=dB (v:=.k (.c _)) rfl hv;exact this.toPure (r:=[_])
 |agg r'=>
  simp[V.pure] at h;subst h;obtain⟨cs,rfl,hr⟩:=hv;exact hr
 |_=>simp[V.pure] at h
theorem zeQ (hi:Inv w0 Z0 κ σ a.tmps w) {x:Operand} {x':AX} (hx:ax x=some x') {Kp:St->List C->Prop} (h:nA σ x' Kp):
  ∃l r,Kp (σ.frzs l) r/\Inv w0 Z0 κ (σ.frzs l) a.tmps w/\yG w (Zof w0 Z0 κ (σ.frzs l).o w) r (a.eval x).cells.toList:=by
 obtain⟨_,h1,h2⟩:=h;have hi':=hi.frzs (x'.ev σ).strip.1.toks;split at h2
 ·rename_i r hr
  exact⟨_,r,h2,hi',pure_row hr ((qR hi' hx).strip h1)⟩
 ·exact h2.elim
theorem zeR (l l':List Nat): ∀(σ:St),(σ.frzs l).frzs l'=σ.frzs (l++l'):=by
 induction l with
 |nil=>intro σ;rfl
 |cons τ l ih=>intro σ;simp only[St.frzs,ZQ];exact ih _
theorem zeS: ∀(parts:List (Nat×Operand)) (ps:List (Nat×AX)) {σ:St} (_:Inv w0 Z0 κ σ a.tmps w) {Kp:St->List (Nat×List C)->Prop},
  (parts.mapM fun(p:Nat×Operand)=>(ax p.2).map fun x=>(p.1,x))=some ps->oB σ ps Kp->
  ∃l rs,Kp (σ.frzs l) rs/\Inv w0 Z0 κ (σ.frzs l) a.tmps w/\rs.length=parts.length/\
   ∀(j:Nat) p r,parts[j]?=some p->rs[j]?=some r->r.1=p.1/\yG w (Zof w0 Z0 κ (σ.frzs l).o w) r.2 (a.eval p.2).cells.toList
 |[],ps,σ,hi,Kp,hps,h=>by
  simp at hps;subst hps;exact⟨[],[],h,hi,rfl,by simp⟩
 |(i,x)::parts,ps,σ,hi,Kp,hps,h=>by
  simp only[YE,Zj,Zb,Zm,Zh,Zd] at hps;obtain⟨p,⟨x',hx',rfl⟩,ps',hps',rfl⟩:=hps;simp only[oB] at h;obtain⟨l,r,h,hi1,hr⟩:=zeQ hi hx' h;obtain⟨l',rs,h,hi2,hl,hrs⟩:=zeS parts ps' hi1 hps' h;rw[zeR] at h hi2 hrs;refine⟨l++l',(i,r)::rs,h,hi2,by simp[hl],fun j p q hp hq=>?_⟩;cases j with
  |zero=>
   simp at hp hq;subst hp;subst hq;refine⟨rfl,hr.mono (fun _ _=>rfl) (fun b hb=>?_)⟩;have:=Zof_frzs l' b hb
   rwa [zeR] at this
  |succ j=>exact hrs j p q (by simpa using hp) (by simpa using hq)
def nK (w:World) (Z:Bk->Prop) (n len:Nat) (rows:List (List C)) (cells:Array Value):Prop:=
 rows.length<=len/\cells.size=len*n/\(∀r,r∈rows->r.length=n)/\ ∀(i j:Nat) r c,rows[i]?=some r->r[j]?=some c-> ∃v,cells[i*n+j]?=some v/\PRep w Z c v
theorem nK.set {Z:Bk->Prop} {n len:Nat} {rows:List (List C)} {cells:Array Value} (h:nK w Z n len rows cells) {i off:Nat} {r sK:List C} {vs:List Value} (hr:yG w Z r vs) (hi:rows[i]?=some sK) (hoff:off+r.length<=n)
  {cells':Array Value} (hc:cells'.toList=cells.toList.take (i*n+off)++vs++cells.toList.drop (i*n+off+vs.length)):nK w Z n len (rows.set i (splice sK off r)) cells':=by
 obtain⟨h1,h2,h3,h4⟩:=h;have hilt:i<rows.length:=(Zu.1 hi).1;have hrl:sK.length=n:=h3 sK (ZP hi);have hvl:=hr.1;have hbd:i*n+n<=len*n:=by
  have:(i+1)*n<=len*n:=ZZ _ (by omega);rw[YD] at this;omega
 have hsize:cells'.size=cells.size:=by
  have:=congrArg List.length hc;simp at this;omega
 refine⟨by simp;exact h1,by rw[hsize,h2],fun q hq=>?_,fun i' j q c hq hc'=>?_⟩
 ·rcases List.mem_or_eq_of_mem_set hq with hq|rfl
  ·exact h3 q hq
  ·simp[splice];omega
 ·have hget: ∀k:Nat,cells'[k]?=(cells.toList.take (i*n+off)++vs++cells.toList.drop (i*n+off+vs.length))[k]?:=by
   intro k;rw[<-hc];simp
  have hold: ∀k:Nat,k<i*n+off\/i*n+off+vs.length<=k->cells'[k]?=cells[k]?:=by
   intro k hk;rw[hget];rcases hk with hk|hk
   ·rw[Z3,ZL (by simp;omega),Z6,if_pos hk];simp
   ·rw[ZM (by simp;omega),YJ]
    simp only[Zq,Yl,Xt,Yu];congr 1;omega
  have hnew: ∀k:Nat,i*n+off<=k->k<i*n+off+vs.length->cells'[k]?=vs[k-(i*n+off)]?:=by
   intro k hk1 hk2;rw[hget,Z3,ZM (by simp;omega),ZL (by simp;omega)];simp only[Yl,Xt];congr 1;omega
  rw[List.getElem?_set] at hq;split at hq
  ·rename_i hii;subst hii
   simp only[Zh] at hq;subst hq;by_cases c1:j<off
   ·rw[splice,Z3,ZL (by simp;omega),Z6,if_pos c1] at hc'
    obtain⟨v,hv,hp⟩:=h4 i j sK c hi hc';exact⟨v,by rw[hold _ (by omega)];exact hv,hp⟩
   ·have e1:(sK.take off).length=off:=by simp;omega
    simp only[splice,Z3] at hc';rw[ZM (by omega),e1] at hc';by_cases c2:j-off<r.length
    ·rw[ZL c2] at hc'
     have hlt:j-off<vs.length:=by omega
     refine⟨vs[j-off],?_,hr.2 _ c _ hc' (Zf hlt)⟩;rw[hnew _ (by omega) (by omega),<-Zf hlt];congr 1;omega
    ·rw[ZM (by omega),YJ] at hc'
     have e2:off+r.length+(j-off-r.length)=j:=by omega
     rw[e2] at hc';obtain⟨v,hv,hp⟩:=h4 i j sK c hi hc';exact⟨v,by rw[hold _ (by omega)];exact hv,hp⟩
  ·rename_i hii
   obtain⟨v,hv,hp⟩:=h4 i' j q c hq hc';refine⟨v,?_,hp⟩;rw[hold _ ?_]
   ·exact hv
   ·have hj:j<n:=by rw[<-h3 q (ZP hq)];exact(Zu.1 hc').1
    rcases Nat.lt_or_gt_of_ne hii with h|h
    ·right
     have:(i+1)*n<=i'*n:=ZZ _ h;rw[YD] at this;omega
    ·left
     have:(i'+1)*n<=i*n:=ZZ _ h;rw[YD] at this;omega
end
section
variable {P : Program} {w0 : Base} {w : World} {Z0 : Bk -> Prop} {κ : Kap} {σ : St} {a : Act}
theorem zbq {Z:Bk->Prop} {n len:Nat}: ∀(parts:List (Nat×Value)) (rs:List (Nat×List C)) (rows:List (List C)) (cells:Array Value),nK w Z n len rows cells->rows.length=len->rs.length=parts.length->
  (∀(j:Nat) p r,parts[j]?=some p->rs[j]?=some r->r.1=p.1/\yG w Z r.2 p.2.cells.toList)->(∀r,r∈rs->r.1<len/\r.2.length=n)->
  ∃cells',Instr.fill (fun i=>some (i*n,n)) cells parts=some cells'/\nK w Z n len (rs.foldl (fun rows p=>rows.set p.1 p.2) rows) cells'
 |[],rs,rows,cells,h,_,hl,_,_=>by
  have:rs=[]:=Yg hl;subst this;exact⟨cells,rfl,h⟩
 |(i,v)::parts,rs,rows,cells,h,hrl0,hl,hp,hb=>by
  cases rs with
  |nil=>simp at hl
  |cons r rs=>
   obtain⟨e1,hr⟩:=hp 0 (i,v) r rfl rfl;obtain⟨b1,b2⟩:=hb r Yj;obtain⟨i',row⟩:=r;simp only at e1 b1 b2 hr;subst e1;have hvl:v.cells.size=n:=by have:=hr.1;simp at this;omega
   have hilt:i'<rows.length:=by have:=h.1;omega
   have hsz:i'*n+n<=cells.size:=by
    rw[h.2.1];have:(i'+1)*n<=len*n:=ZZ _ (by omega);rw[YD] at this;omega
   have hrl:(rows[i']'hilt).length=n:=h.2.2.1 _ (Zv hilt);have hset:=h.set (i:=i') (off:=0) (r:=row) (sK:=rows[i']) (vs:=v.cells.toList) hr (Zf hilt) (by omega)
    (cells':=v.cells.zipIdx.foldl (fun cs (p:Value×Nat)=>cs.setIfInBounds (i'*n+p.2) p.1) cells) (by
     rw[<-Array.foldl_toList,Array.toList_zipIdx]
     have:=zeG v.cells.toList 0 (i'*n) cells (by simp;omega)
     simpa using this)
   have hsp:splice (rows[i']'hilt) 0 row=row:=by
    simp[splice,b2,hrl]
   rw[hsp] at hset;obtain⟨cells',hf,hA⟩:=zbq parts rs _ _ hset (by simpa using hrl0) (by simpa using hl) (fun j p r h1 h2=>hp (j+1) p r (by simpa using h1) (by simpa using h2)) (fun r hr=>hb r (Zy _ hr));refine⟨cells',?_,hA⟩;simp only[Instr.fill];have n1: ¬(decide (v.cells.size≠n)||decide (i'*n+v.cells.size>cells.size))=true:=by
    simp;omega
   rw[if_neg (by simpa using n1)];exact hf
theorem zeT (rs:List (Nat×List C)): ∀(rows:List (List C)),(rs.foldl (fun rows p=>rows.set p.1 p.2) rows).length=rows.length:=by
 induction rs with
 |nil=>intro rows;rfl
 |cons r rs ih=>intro rows;simp only[YU];rw[ih];simp
theorem zrd (hi:Inv w0 Z0 κ σ a.tmps w) {t e d n len:Nat} (hd:d<a.tmps.size) (ht:P.underlying t=some (.slice e)) (hn:yW P e=some n) (h0:0<n) (hle:len*n<=2 ^ 24) {zero:List C} (hz:qP P e=some zero)
  {parts:Array (Nat×Operand)} {ps:List (Nat×AX)} (hps:(parts.toList.mapM fun(p:Nat×Operand)=>(ax p.2).map fun x=>(p.1,x))=some ps) {Kp:St->Prop} (h:yC P σ (.bslice d e n zero len ps) Kp):
  qS P w0 Z0 a w Kp (some d) (do pure (.value (<-Instr.buildSlice t len (parts.map fun(i,x)=>(i,a.eval x))))):=by
 simp only[yC] at h;obtain⟨l,rs,⟨hf,hzl,hb,hk⟩,hi',hlen,hrs⟩:=zeS parts.toList ps hi hps h;obtain⟨i,z,hinfo,hzero,hzrow⟩:=iI hz;have hni:i.size=n:=by simpa [yW,hinfo] using hn
 have hzs:z.cells.size=n:=by have:=(hzrow w (fun _=>True)).1;simp at this;omega
 have hA0:nK w (Zof w0 Z0 κ (σ.frzs l).o w) n len (List.replicate len zero) (madeCells z.cells (len*n)):=by
  refine⟨by simp,size_madeCells _ _,by intro r hr;simp at hr;rw[hr.2];exact hzl,fun i j r c hr hc=>?_⟩;rw[List.getElem?_replicate] at hr;split at hr
  ·rename_i hi'
   cases hr;have hj:j<n:=by rw[<-hzl];exact(Zu.1 hc).1
   rw[zbp z.cells len i j n hzs h0 hi' hj];have hlt:j<z.cells.size:=by omega
   exact⟨z.cells[j],Ya hlt,(hzrow w _).2 j c _ hc (by simp[hlt])⟩
  ·simp at hr
 obtain⟨cells',hfill,hA⟩:=zbq (parts.toList.map fun p=>(p.1,a.eval p.2)) rs _ _ hA0 (by simp) (by simp[hlen]) (fun j p r h1 h2=>by
  simp only[Zz,Zd] at h1
  obtain⟨q,hq,rfl⟩:=h1
  exact hrs j q r hq h2) hb
 obtain⟨c1,c2,c3,c4⟩:=hA;have hI:=zbo hi' hd (nl:=some false) (cap:=len) (e:=e) (cur:=cells') h0 c2 (by omega) (by have:len<=len*n:=XK _ h0;simp only[maxLen];omega) (by simp) c3 c4 hf (rT w _) (alloc_get w _);have c0:(rs.foldl (fun rows p=>rows.set p.1 p.2) (List.replicate len zero)).length=len:=by rw[zeT];simp
 rw[c0] at hI;refine tY (u:=.slice (some ⟨w.heap.size,0,none⟩) len len) (w':=w.alloc (.cells cells' e)) ?_ hI hk;have n1: ¬(len*n>2 ^ 24):=by omega
 have hzv:(zeroValue e).run P w=.ok z w:=by simp[zeroValue,typeInfo,hinfo,hzero]
 by_cases hz0:len*n=0
 ·rw[hz0] at hfill
  have hr0:Array.range 0= #[]:=rfl;have hm:madeCells z.cells 0= #[]:=by simp[madeCells,hr0]
  rw[hm] at hfill;simp[Instr.buildSlice,run_underlying ht,uS hn,hz0,hr0,hfill,newRow]
 ·unfold madeCells at hfill
  simp[Instr.buildSlice,run_underlying ht,uS hn,hz0,n1,hzv,hfill,newRow]
theorem zre {row r:List C} (h:r.length=row.length):splice row 0 r=r:=by simp[splice,h]
theorem zrf (hi:Inv w0 Z0 κ σ a.tmps w) {t n τ i off e sz:Nat} (hn:yW P t=some n) {nl:Option Bool} {rows:List (List C)} {r:List C} {x y:Value} (ho:σ.o τ=some (.arr e sz nl rows)) (hx:zK w (Zof w0 Z0 κ σ.o w) κ σ.o (.k (.elem τ i off)) x)
  (hy:yG w (Zof w0 Z0 κ σ.o w) r y.cells.toList) (hl:r.length=n) (hb:off+n<=sz):
  ∃w',(Instr.storeAt t x y).run P w=.ok () w'/\Inv w0 Z0 κ (σ.setO τ (.arr e sz nl (rows.set i (if off=0/\n=sz then r else splice (rows.getD i []) off r)))) a.tmps w':=by
 obtain⟨b',hκ',hilt,hp⟩:=hx.2 e sz nl rows ho;rcases hi.objs τ _ ho with⟨hκ,hr,_⟩|⟨b,cur,cap,hκ,hheap,h0,hcs,hlen,hcap,hnl,hall,hrr⟩
 ·rw[hκ] at hκ';simp at hκ'
 obtain rfl:b=b':=by rw[hκ] at hκ';simpa using hκ'
 have hyl:y.cells.toList.length=n:=by rw[hy.1,hl]
 have hrl:(rows[i]'hilt).length=sz:=hall _ (Zv hilt);have hsz:i*sz+sz<=cur.size:=by
  rw[hcs];have:(i+1)*sz<=cap*sz:=ZZ _ (by omega);rw[YD] at this;omega
 have h1: ∀v∈y.cells.toList,v.oneCell'=true:=by
  intro v hv;obtain⟨j,hj⟩:=XL hv;have hlt:j<r.length:=by rw[<-hy.1];exact(Zu.1 hj).1
  exact(hy.2 j r[j] v (Zf hlt) hj).oneCell
 have hst:=run_storeCells_at P b (i*sz+off) e y.cells.toList 0 cur w hheap (by omega) h1;simp only[Yf] at hst;have hrow:(if off=0/\n=sz then r else splice (rows.getD i []) off r)=splice (rows[i]'hilt) off r:=by
  have:rows.getD i []=rows[i]'hilt:=by simp[Zi,hilt]
  rw[this];split
  ·rename_i h;rw[h.1,zre (by omega)]
  ·rfl
 rw[hrow];refine⟨w.setRow b (cur.toList.take (i*sz+off)++y.cells.toList++cur.toList.drop (i*sz+off+y.cells.toList.length)).toArray,?_,?_⟩
 ·rw[hp]
  have hsz:y.cells.size=n:=by simpa using hyl
  simp only[Instr.storeAt,Instr.sureAddr,storeVar,Sem.run_bind,Sem.run_pure,Result.andThen_ok,uS hn,hsz,ne_eq,not_true_eq_false,if_false];exact hst
 ·have hW:Wrote w (w.setRow b (cur.toList.take (i*sz+off)++y.cells.toList++cur.toList.drop (i*sz+off+y.cells.toList.length)).toArray) b cur (cur.toList.take (i*sz+off)++y.cells.toList++cur.toList.drop (i*sz+off+y.cells.toList.length)).toArray e:=
   ⟨rfl,rfl,rfl,by simp,hheap,setRow_heap w b cur _ e (0,0) hheap,by simp at hyl⊢;omega,fun k hk=>setRow_other w b k _ hk⟩
  have hlike:yI (some (.arr e sz nl rows)) (some (.arr e sz nl (rows.set i (splice (rows[i]'hilt) off r)))):=by
   exact⟨rfl,rfl,by simp⟩
  obtain⟨hsub,hsame,htab⟩:=zbn (ob':=.arr e sz nl (rows.set i (splice (rows[i]'hilt) off r))) hi ho hlike hκ hW;refine hi.setG ho hlike hκ hW (.inr ⟨b,_,cap,hκ,setRow_heap w b cur _ e (0,0) hheap,h0,?_,by simp;omega,hcap,hnl,?_⟩)
  ·have:=hW.len;rw[this];exact hcs
  ·have hA:nK w (Zof w0 Z0 κ σ.o w) sz cap rows cur:=⟨hlen,hcs,hall,hrr⟩
   have hA':=hA.set (i:=i) (off:=off) (r:=r) (sK:=rows[i]'hilt) (vs:=y.cells.toList) hy (Zf hilt) (by omega)
    (cells':=(cur.toList.take (i*sz+off)++y.cells.toList++cur.toList.drop (i*sz+off+y.cells.toList.length)).toArray) rfl
   refine⟨hA'.2.2.1,fun i' j q c h1 h2=>?_⟩;obtain⟨v,hv,hp⟩:=hA'.2.2.2 i' j q c h1 h2;exact⟨v,hv,hp.mono hsame hsub⟩
end
end Go.Abs
