/- A part of the proof; the last text states what is proved. -/
import Derived.Test.YtlepbngfdpifjaaGreatDoorP6
import Derived.DataShut
import Derived.Test.YtlepbngfdpifjaaGreatDoorRows
import Derived.Test.YtlepbngfdpifjaaGreatDoorCards
import Derived.Test.YtlepbngfdpifjaaGreatDoorTie
import Derived.ProofKit
import Derived.LaidMore
import Derived.Lib.LaidTab
import Derived.Lib.LaidU8
import Derived.OpenShut
import Derived.SevenTiedAt
import Derived.Deep.DeepHandedRow
import Derived.Deep.DeepWitnessRowRef
import Derived.Shelf.Vars
set_option linter.unusedVariables false
set_option linter.unusedSimpArgs false
set_option maxRecDepth 100000
namespace Go.Abs
open Go.RowKit Go.Proofs Go.Wd
theorem iT {α:Type} {S:List C→Prop} (enc:α→List C) (Q:α→Prop) (hS: ∀r,S r→ ∃a,r=enc a∧Q a): ∀(rows:List (List C)),(∀r∈rows,S r)→ ∃l:List α,rows=l.map enc∧ ∀a∈l,Q a
 |[],_=>⟨[],rfl,fun _ h=>by cases h⟩
 |r::rows,h=>by
  obtain⟨a,ha,hq⟩:=hS r (h r (by simp))
  obtain⟨l,hl,hQ⟩:=iT enc Q hS rows (fun x hx=>h x (by simp[hx]))
  refine⟨a::l,by rw[ha,hl];rfl,fun x hx=>?_⟩
  rcases List.mem_cons.1 hx with rfl|hx
  ·exact hq
  ·exact hQ x hx
theorem aU {m:Int} (h:(Lit.int .i64 m).wf=true):xM m:=by
 have:=(Lit.wf_int_iff _ _).1 h
 simpa [xM,IntKind.min,IntKind.max,IntKind.signed,IntKind.bits] using this
theorem aV {n t:Nat} {r:List C} (ht:Tryz.prog.underlying t=some (.slice 3)) (hr:yC Tryz.prog n t r): ∃l:List Int,r=[zB 1 (zN l)]∧ ∀m∈l,xM m:=by
 obtain⟨m,rows,_,rfl,_,h⟩:=uC ht hr
 obtain⟨l,rfl,hQ⟩:=iT (fun z:Int=>[C.int .i64 z]) xM (fun r hr=>by obtain⟨x,rfl,hx⟩:=wO Tryz.underlying3 hr;exact⟨x,rfl,aU hx⟩) rows h
 exact⟨l,by rw[show Tryz.prog.cellsOf 3=1 by kernel_rfl];rfl,hQ⟩
theorem znm {n:Nat} {r:List C} (hr:yC Tryz.prog n 22 r): ∃l:List Txt,r=[zB 1 (zE l)]:=by
 obtain⟨m,rows,_,rfl,_,h⟩:=uC Tryz.underlying22 hr
 obtain⟨l,rfl⟩:=tP (fun s:Txt=>[C.str s]) (fun r hr=>by obtain⟨x,rfl,_⟩:=mH Tryz.underlying9 hr;exact⟨x,rfl⟩) rows h
 exact⟨l,by rw[show Tryz.prog.cellsOf 9=1 by kernel_rfl];rfl⟩
theorem znn {S:TypeId→List C→Prop} {a b c d e f:TypeId} {rs:List (List C)} (h:uW S [a,b,c,d,e,f] rs): ∃x y z u v w,rs=[x,y,z,u,v,w]∧S a x∧S b y∧S c z∧S d u∧S e v∧S f w:=by
 match rs,h with
 |[x,y,z,u,v,w],⟨h1,h2,h3,h4,h5,h6,_⟩=>exact⟨x,y,z,u,v,w,rfl,h1,h2,h3,h4,h5,h6⟩
theorem zno {S:TypeId→List C→Prop} {a b c d e f g k:TypeId} {rs:List (List C)} (h:uW S [a,b,c,d,e,f,g,k] rs): ∃x y z u v w p q,rs=[x,y,z,u,v,w,p,q]∧S a x∧S b y∧S c z∧S d u∧S e v∧S f w∧S g p∧S k q:=by
 match rs,h with
 |[x,y,z,u,v,w,p,q],⟨h1,h2,h3,h4,h5,h6,h7,h8,_⟩=>exact⟨x,y,z,u,v,w,p,q,rfl,h1,h2,h3,h4,h5,h6,h7,h8⟩
theorem znp {S:TypeId→List C→Prop} {a b c d e:TypeId} {rs:List (List C)} (h:uW S [a,b,c,d,e] rs): ∃x y z u v,rs=[x,y,z,u,v]∧S a x∧S b y∧S c z∧S d u∧S e v:=by
 match rs,h with
 |[x,y,z,u,v],⟨h1,h2,h3,h4,h5,_⟩=>exact⟨x,y,z,u,v,rfl,h1,h2,h3,h4,h5⟩
theorem znq {n:Nat} {r:List C} (hr:yC Tryz.prog n 91 r): ∃c:Cty,r=xL c∧ ∀m∈c.feasts,xM m:=by
 obtain⟨m,rs,_,rfl,h⟩:=tN Tryz.underlying91 hr
 obtain⟨x,y,z,u,v,w,rfl,h1,h2,h3,h4,h5,h6⟩:=znn h
 obtain⟨a,rfl,_⟩:=mH Tryz.underlying9 h1
 obtain⟨b,rfl,_⟩:=wO Tryz.underlying3 h2
 obtain⟨c,rfl,_⟩:=wO Tryz.underlying3 h3
 obtain⟨d,rfl,_⟩:=aV Tryz.underlying89 h4
 obtain⟨e,rfl,he⟩:=aV Tryz.underlying89 h5
 obtain⟨f,rfl,_⟩:=aV Tryz.underlying89 h6
 exact⟨⟨a,b,c,d,e,f⟩,rfl,he⟩
theorem znr {n:Nat} {r:List C} (hr:yC Tryz.prog n 94 r): ∃c:Frm,r=tQ c:=by
 obtain⟨m,rs,_,rfl,h⟩:=tN Tryz.underlying94 hr
 obtain⟨x,y,z,rfl,h1,h2,h3⟩:=jP h
 obtain⟨a,rfl,_⟩:=mH Tryz.underlying9 h1
 obtain⟨b,rfl,_⟩:=wO Tryz.underlying3 h2
 obtain⟨c,rfl,_⟩:=wO Tryz.underlying3 h3
 exact⟨⟨a,b,c⟩,rfl⟩
theorem zil {n t:Nat} {fs:Array Field} {r:List C} (ht:Tryz.prog.underlying t=some (.struct fs)) (hf:fs.toList.map (·.type)=[3,3,3]) (hr:yC Tryz.prog n t r): ∃c:T3,r=tU c:=by
 obtain⟨m,rs,_,rfl,h⟩:=tN ht hr
 rw[hf] at h
 obtain⟨x,y,z,rfl,h1,h2,h3⟩:=jP h
 obtain⟨a,rfl,_⟩:=wO Tryz.underlying3 h1
 obtain⟨b,rfl,_⟩:=wO Tryz.underlying3 h2
 obtain⟨c,rfl,_⟩:=wO Tryz.underlying3 h3
 exact⟨⟨a,b,c⟩,rfl⟩
theorem zns {n:Nat} {r:List C} (hr:yC Tryz.prog n 139 r): ∃c:T5,r=oU c∧(xM c.c∧xM c.d):=by
 obtain⟨m,rs,_,rfl,h⟩:=tN Tryz.underlying139 hr
 obtain⟨x,y,z,u,v,rfl,h1,h2,h3,h4,h5⟩:=znp h
 obtain⟨a,rfl,_⟩:=wO Tryz.underlying3 h1
 obtain⟨b,rfl,_⟩:=wO Tryz.underlying3 h2
 obtain⟨c,rfl,hc⟩:=wO Tryz.underlying3 h3
 obtain⟨d,rfl,hd⟩:=wO Tryz.underlying3 h4
 obtain⟨e,rfl,_⟩:=wO Tryz.underlying3 h5
 exact⟨⟨a,b,c,d,e⟩,rfl,aU hc,aU hd⟩
theorem znt {n:Nat} {r:List C} (hr:yC Tryz.prog n 98 r): ∃z:Int,r=[.int .i64 z]:=by
 obtain⟨m,rs,_,rfl,h⟩:=tN Tryz.underlying98 hr
 match rs,h with
 |[x],⟨h1,_⟩=>
  obtain⟨a,rfl,_⟩:=wO Tryz.underlying3 h1
  exact⟨a,rfl⟩
theorem tyz:TermTypes Tryz.prog 3 4 9 135 133 137 100 132 99 102 where
 i:=Tryz.underlying3
 b:=Tryz.underlying4
 s:=Tryz.underlying9
 t:=⟨_,Tryz.underlying135,rfl⟩
 lt:=⟨Tryz.underlying133,by kernel_rfl⟩
 r:=⟨_,Tryz.underlying137,rfl⟩
 lr:=⟨Tryz.underlying100,by kernel_rfl⟩
 c:=⟨_,Tryz.underlying132,rfl⟩
 lc:=⟨Tryz.underlying99,by kernel_rfl⟩
 o:=⟨_,Tryz.underlying102,rfl⟩
theorem znu {n:Nat} {r:List C} (hr:yC Tryz.prog n 31 r): ∃x:Rlm,uX Tryz.prog 31 r=.agg (zS x)∧iS x:=by
 obtain⟨m,rs,_,rfl,h⟩:=tN Tryz.underlying31 hr
 obtain⟨a,b,c,d,e,f,g,k,rfl,h1,h2,h3,h4,h5,h6,h7,h8⟩:=zno h
 obtain⟨xa,rfl⟩:=znm h1
 obtain⟨_,rb,_,rfl,_,hb⟩:=uC Tryz.underlying23 h2
 obtain⟨xb,rfl,qb⟩:=iT xL (fun c=> ∀m∈c.feasts,xM m) (fun r hr=>znq hr) rb hb
 obtain⟨_,rc,_,rfl,_,hc⟩:=uC Tryz.underlying24 h3
 obtain⟨xc,rfl⟩:=tP (fun z:Int=>[C.int .i64 z]) (fun r hr=>znt hr) rc hc
 obtain⟨_,rd,_,rfl,_,hd⟩:=uC Tryz.underlying25 h4
 obtain⟨xd,rfl⟩:=tP tQ (fun r hr=>znr hr) rd hd
 obtain⟨_,re,_,rfl,_,he⟩:=uC Tryz.underlying26 h5
 obtain⟨xe,rfl⟩:=tP wF (fun r hr=>zkW tyz hr) re he
 obtain⟨_,rf,_,rfl,_,hf⟩:=uC Tryz.underlying27 h6
 obtain⟨xf,rfl⟩:=tP tU (fun r hr=>zil Tryz.underlying116 rfl hr) rf hf
 obtain⟨_,rg,_,rfl,_,hg⟩:=uC Tryz.underlying28 h7
 obtain⟨xg,rfl,qg⟩:=iT oU (fun x=>xM x.c∧xM x.d) (fun r hr=>zns hr) rg hg
 obtain⟨_,rk,_,rfl,_,hk⟩:=uC Tryz.underlying29 h8
 obtain⟨xk,rfl⟩:=tP tU (fun r hr=>zil Tryz.underlying141 rfl hr) rk hk
 refine⟨⟨xa,xb,xc,xd,xe,xf,xg,xk⟩,?_,qb,qg⟩
 simp only[uX,Tryz.underlying31,show Tryz.prog.cellsOf 91=6 by kernel_rfl,show Tryz.prog.cellsOf 98=1 by kernel_rfl,show Tryz.prog.cellsOf 94=3 by kernel_rfl,show Tryz.prog.cellsOf 102=4 by kernel_rfl,show Tryz.prog.cellsOf 116=3 by kernel_rfl,show Tryz.prog.cellsOf 139=5 by kernel_rfl,show Tryz.prog.cellsOf 141=3 by kernel_rfl]
 rfl
theorem znV {n:Nat} {t:TypeId} {r:List C} (ht:Tryz.prog.underlying t=some (.int .u8)) (hr:yC Tryz.prog n t r): ∃m:Int,uX Tryz.prog t r=.int .u8 m∧(0≤m∧m≤255):=by
 obtain⟨m,rfl,h⟩:=wO ht hr
 have:=(Lit.wf_int_iff _ _).1 h
 exact⟨m,by simp only[uX,ht],by simpa [IntKind.min,IntKind.max,IntKind.signed,IntKind.bits] using this⟩
theorem znW {n:Nat} {r:List C} (hr:yC Tryz.prog n 35 r): ∃x:Bil,uX Tryz.prog 35 r=.agg (yF x):=by
 obtain⟨m,rs,_,rfl,h⟩:=tN Tryz.underlying35 hr
 match rs,h with
 |[x0,x1,x2,x3,x4,x5,x6,x7,x8,x9,x10,x11,x12],⟨h0,h1,h2,h3,h4,h5,h6,h7,h8,h9,h10,h11,h12,_⟩=>
  obtain⟨m2,rs2,_,rfl,k⟩:=tN Tryz.underlying33 h5
  obtain⟨y,z,u,rfl,k1,k2,k3⟩:=jP k
  obtain⟨t1,rfl,_⟩:=wO Tryz.underlying3 k1
  obtain⟨t2,rfl,_⟩:=wO Tryz.underlying3 k2
  obtain⟨t3,rfl,_⟩:=wO Tryz.underlying3 k3
  obtain⟨a0,rfl,_⟩:=wO Tryz.underlying3 h0
  obtain⟨a1,rfl,_⟩:=wO Tryz.underlying3 h1
  obtain⟨a2,rfl,_⟩:=wO Tryz.underlying3 h2
  obtain⟨a3,rfl,_⟩:=wO Tryz.underlying3 h3
  obtain⟨a4,rfl,_⟩:=wO Tryz.underlying3 h4
  obtain⟨a6,rfl,_⟩:=wO Tryz.underlying3 h6
  obtain⟨a7,rfl,_⟩:=wO Tryz.underlying3 h7
  obtain⟨a8,rfl,_⟩:=wO Tryz.underlying3 h8
  obtain⟨a9,rfl,_⟩:=wO Tryz.underlying3 h9
  obtain⟨a10,rfl,_⟩:=wO Tryz.underlying3 h10
  obtain⟨a11,rfl,_⟩:=wO Tryz.underlying3 h11
  obtain⟨a12,rfl,_⟩:=wO Tryz.underlying3 h12
  exact⟨⟨a0,a1,a2,a3,a4,⟨t1,t2,t3⟩,a6,a7,a8,a9,a10,a11,a12⟩,by simp only[uX,Tryz.underlying35];rfl⟩
end Go.Abs
set_option maxRecDepth 100000
namespace Go.Abs
theorem znX {m:Int} (h:(Lit.int .i64 m).wf=true): -9223372036854775808≤m∧m≤9223372036854775807:=by
 have:=(Lit.wf_int_iff _ _).1 h
 simpa [IntKind.min,IntKind.max,IntKind.signed,IntKind.bits] using this
section
variable {P : Program}
theorem znY {n:Nat} {t:TypeId} {r:List C} (ht:P.underlying t=some (.int .i64)) (hr:yC P n t r): ∃m:Int,uX P t r=.int .i64 m∧(-9223372036854775808≤m∧m≤9223372036854775807):=by
 obtain⟨m,rfl,h⟩:=wO ht hr
 exact⟨m,by simp only[uX,ht],znX h⟩
theorem znZ {n:Nat} {t:TypeId} {r:List C} (ht:P.underlying t=some .bool) (hr:yC P n t r): ∃b:Bool,uX P t r=.bool b:=by
 obtain⟨b,rfl⟩:=zg8 ht hr
 exact⟨b,by simp only[uX,ht]⟩
end
theorem znw {H:Type} {enc:TypeId×Value→H} {P:Program} {w:World} {base:Nat} {sp:Nat→Bool} {held:Bool} {fuel:Nat} {t:TypeId} {ms:Array (String×TypeId)} {cs:List Value} {x:DataW H×List MemPlace}
  (ht:P.underlying t=some (.interface ms)) (h:DataW.trod enc P w base sp held fuel t cs=some x): ∃v,cs=[v]∧(v=.nilIface∨ ∃t p,v=.iface t p):=by
 cases fuel with
 |zero=>simp[DataW.trod] at h
 |succ n=>
  unfold DataW.trod at h
  rw[ht] at h
  split at h<;>simp_all
end Go.Abs
namespace Go.Proofs.YtlepbngfdpifjaaGreatDoor
open Go.Abs Go.RowKit Go.ChangeShapes Go.WideShapes Go.ChangeAt Go.WideMaps Go.WideElems Go.Wd
theorem own:ownKnob Tryz.prog.godebug=none:=by kernel_rfl
theorem kids:Kids Tryz.prog (· <Tryz.prog.types.size):=kids_rows (by kernel_rfl) (by kernel_rfl)
theorem full: ∀t e,t<Tryz.prog.types.size→Tryz.prog.underlying t=some (.slice e)→0<Tryz.prog.cellsOf e:=slices_full_of Tryz.prog (by kernel_rfl)
def iU:List TypeId:=[3,4,5,9,22,23,24,25,26,27,28,29,31,33,35,89,91,94,98,99,100,102,116,132,133,135,137,139,141]
theorem znx:qP Tryz.prog iU=true:=by kernel_rfl
theorem zny: ∀t∈iU,t<Tryz.prog.types.size:=by
 have:iU.all (fun t=>decide (t<Tryz.prog.types.size))=true:=by kernel_rfl
 simpa using this
abbrev iV:List (String×DataW Unit):=Rows.wordingBackRow.laid
theorem zim {W:World} {name:String} {g:Nat} {cs:Array Value} (hn:Tryz.prog.globalNamed name=some g) (hv:W.var? Tryz.prog name=some cs): ∃t f,W.heap[g]?=some (.cells cs t f):=by
 unfold World.var? at hv
 rw[hn,Option.bind_some] at hv
 split at hv
 ·rename_i h
  cases hv
  exact⟨_,_,h⟩
 ·cases hv
theorem zin {W:World} (h:laidMet Tryz.prog iV W) {name:String} {g:Nat} {d:DataW Unit} (hn:Tryz.prog.globalNamed name=some g) (ht:(Tryz.prog.globals[g]?).map (·.type)=some 82) (hm:(name,d)∈iV):
  g<W.heap.size∧ ∃b,W.heap[g]?=some b∧cell0 (fun v=>v=.nilIface∨ ∃t p,v=.iface t p) b:=by
 obtain⟨g',t',cs,fuel,p,hg,hty,hvar,hd⟩:=Lib.laidMet.reads h hm
 obtain rfl:=Option.some.inj (hn.symm.trans hg)
 obtain rfl:=Option.some.inj (ht.symm.trans hty)
 obtain⟨v,e,hv⟩:=znw Tryz.underlying82 hd
 obtain⟨t,f,hb⟩:=zim hn hvar
 refine⟨(Array.getElem?_eq_some_iff.1 hb).1,_,hb,v,?_,hv⟩
 rw[←Array.getElem?_toList,e];rfl
theorem znz {W:World} (hL:laidMetH Tryz.prog iV W) (hsh:W.ShapedOpen Tryz.prog):wI (Go.Abs.base W):=by
 rw[MakeChecks.laidMetH_plain _ _ _ (by kernel_rfl)] at hL
 refine⟨(fun _ _ h=>nomatch h),fun g p hg=>?_⟩
 match g,hg with
 |0,hg=>
  cases hg
  obtain⟨m,hm⟩:=cell_of_shapedOpen_int (zero:= #[.int .i64 0]) (t:=3) (k:=.i64) (g:=0) hsh (of_decide_eq_true (by kernel_rfl)) (by kernel_rfl) rfl (by kernel_rfl) (by kernel_rfl) Tryz.underlying3
  unfold World.cell? at hm
  cases hb:W.heap[0]? with
  |none=>rw[hb] at hm;simp at hm
  |some ob=>
   refine⟨(Array.getElem?_eq_some_iff.1 hb).1,ob,rfl,?_⟩
   rw[hb] at hm
   cases ob with
   |cells cs t f=>exact⟨_,by simpa using hm,m,rfl⟩
   |_=>simp at hm
 |4,hg=>cases hg;exact zin hL (name:= "strconv.ErrSyntax") (by kernel_rfl) (by kernel_rfl) ((.tail _ (.tail _ (.tail _ (.tail _ (.tail _ (.head _)))))))
 |5,hg=>cases hg;exact zin hL (name:= "strconv.ErrRange") (by kernel_rfl) (by kernel_rfl) ((.tail _ (.tail _ (.tail _ (.tail _ (.head _))))))
 |1,hg=>
  cases hg
  obtain⟨g',t',cs,fuel,p,hg',hty,hvar,hd⟩:=Lib.laidMet.reads hL (n:= "internal/strconv.uint64pow10") ((.tail _ (.tail _ (.head _))))
  have hn:Tryz.prog.globalNamed "internal/strconv.uint64pow10" =some 1:=by kernel_rfl
  obtain rfl:=Option.some.inj (hn.symm.trans hg')
  have hT:(Tryz.prog.globals[1]?).map (·.type)=some 174:=by kernel_rfl
  obtain rfl:=Option.some.inj (hT.symm.trans hty)
  obtain⟨t,f,hb⟩:=zim hn hvar
  refine⟨(Array.getElem?_eq_some_iff.1 hb).1,_,hb,?_⟩
  have hd':DataW.trod (fun _=>()) Tryz.prog W 0 (fun _=>true) false fuel 174 cs.toList=some (Lib.tabData .u64 zaa,p):=hd
  have e:=Lib.cells_of_tab Tryz.underlying174 Tryz.underlying157 (by kernel_rfl) (by kernel_rfl) hd'
  show cs=_
  rw[←e]
noncomputable def aW (os:Os):World:=
 {World.doorLaid Tryz.prog 400 os with heap:=(World.doorLaid Tryz.prog 400 os).heap.modify 2 fun
  | .cells _ t frozen=> .cells (Lib.firstTab.map fun z=>Value.int .u8 z).toArray t frozen
  |o=>o}
theorem znA (os:Os) (args:Array Value):laidMetH Tryz.prog iV ((aW os).forCall (fun _ _=>0) ⟨#[],args,[]⟩).memory:=
 laidMetH_of_parts3 (fuel:=8) (laidMet_of_run' 8 (by kernel_rfl) (by kernel_rfl)) (by kernel_rfl) (by kernel_rfl)
end Go.Proofs.YtlepbngfdpifjaaGreatDoor
set_option maxRecDepth 100000
set_option maxHeartbeats 4000000
namespace Go.Abs
open Go.Proofs Go.RowKit Go.Lib Go.Wd
theorem aX {r:Rlm} {x:Bil} (h0:rlmE r=0) (h:argB r x=false):wY r x=1:=by
 unfold wY;rw[h0,h];rfl
theorem znR {r:Rlm} {x:Bil} (h0:rlmE r=0) (h1:argB r x=true) (h:rngB x=false):wY r x=3:=by
 unfold wY;rw[h0,h1,h];rfl
theorem zn0 {r:Rlm} {x:Bil} (h0:rlmE r=0) (h1:argB r x=true) (h2:rngB x=true) (h:prtB x=false):wY r x=15:=by
 unfold wY;rw[h0,h1,h2,h];rfl
theorem znS {r:Rlm} {x:Bil} (h0:rlmE r=0) (h1:argB r x=true) (h2:rngB x=true) (h3:prtB x=true) (h:frmB x=false):wY r x=2:=by
 unfold wY;rw[h0,h1,h2,h3,h];rfl
theorem aY {r:Rlm} {x:Bil} (h: ¬(inR (fnm r) x.dr∧inR (cnm r) x.py∧(x.ne= -1∨inR (fnm r) x.ne))):argB r x=false:=by
 cases hq:argB r x with
 |false=>rfl
 |true=>
  obtain⟨a1,a2,a3,a4,a5,a6,a7⟩:=zh1.1 hq
  exact absurd ⟨a1,a7,a4⟩ h
section
variable {r : Rlm} {b : Bil} (h : ChkOk r b)
include h
theorem zn1 {v:Int} (hv: ¬(0≤v∧v<r.firms.length)):wY r {b with dr:=v}=1:=
 aX h.rl (aY fun e=>hv (by have:=e.1;unfold inR at this;rwa [sK] at this))
theorem zn2 {v:Int} (hv: ¬(0≤v∧v<r.cities.length)):wY r {b with py:=v}=1:=
 aX h.rl (aY fun e=>hv (by have:=e.2.1;unfold inR at this;rwa [rO] at this))
theorem zn3 {v:Int} (h1:v≠ -1) (hv: ¬(0≤v∧v<r.firms.length)):wY r {b with ne:=v}=1:=
 aX h.rl (aY fun e=>hv (by have:=e.2.2.resolve_left h1;unfold inR at this;rwa [sK] at this))
theorem zn4 {v:Int} (hv: ¬(1≤v∧v≤1099511627776)):wY r {b with su:=v}=3:=
 znR h.rl h.ar (decide_eq_false fun e=>hv ⟨e.1,e.2.1⟩)
theorem zn5 {v:Int} (hv: ¬(0≤v∧v≤1000)):wY r {b with ra:=v}=3:=
 znR h.rl h.ar (decide_eq_false fun e=>hv ⟨e.2.2.2.2.1,e.2.2.2.2.2⟩)
theorem zn6 {v:Int} (hv: ¬(1≤v∧v≤4)):wY r {b with pt:=v}=15:=
 zn0 h.rl h.ar h.rn (decide_eq_false hv)
theorem zn7 {v:Int} (hv: ¬(0≤v∧v≤7)):wY r {b with fl:=v}=2:=
 znS h.rl h.ar h.rn h.pr (by unfold frmB;rw[decide_eq_false hv];rfl)
theorem zn8 {v:Int} (hv: ¬(0≤v∧v≤4)):wY r {b with te:=⟨v,b.te.n,b.te.u⟩}=2:=
 znS h.rl h.ar h.rn h.pr (by
  unfold frmB
  rw[show tenB {b with te:=⟨v,b.te.n,b.te.u⟩}=false from decide_eq_false fun e=>by
   unfold wB at e
   simp only at e
   omega]
  simp)
end
end Go.Abs
set_option maxRecDepth 100000
set_option maxHeartbeats 16000000
namespace Go.Abs
open Go.Proofs Go.RowKit Go.Lib Go.Wd
theorem l7t {S:V→Prop} (hS:S (.bool true)) {r:Rlm} {b:Bil} (hr:RlmIn r) (hod: ∀o∈r.orders,o.choices.length≤1000000∧o.rules.length≤1000000) (h:ChkOk r b) (wh:Int) (h0:0≤wh) (h1:wh≤255) (low:Bool) (m:Int) (m0:0≤m) (m1:m≤9223372036854775807):
  awl Tryz.prog f7b94 (endK [RX.t 10] S) [(2,.int .u8 wh),(4,.bool low),(5,.k (.ptr 5 0)),(6,.k (.ptr 6 0)),(11,.bool true),(12,.int .i64 m)] [(5,.var 31 ((zS r).map K.c)),(6,.var 35 ((yF b).map K.c))]:=by
 have hL:=xZ r
 have hno:=xY r
 have key: ∀(x:Bil) (e:Int),wY r x=e→e≠0→Spec Tryz.prog 12 [.agg (zS r),.agg (yF x)] (fun v=>v=.int .i64 e)∧Spec Tryz.prog 14 [.agg (zS r),.agg (yF x),.int .i64 0] (fun v=>v=.str []):=fun x e he hne=>by
  have g1:=c12 r hr hod x
  have g2:=c14 r hr hod x 0
  rw[iK (fun q=>hne (by rw[←he,sP.2 q.1]))] at g2
  rw[he] at g1
  exact⟨g1,g2⟩
 obtain⟨k,hk,hkk⟩: ∃k:Int,wh.tmod 8=k∧(k=0∨k=1∨k=2∨k=3∨k=4∨k=5∨k=6∨k=7):=⟨_,rfl,by rw[Int.tmod_eq_emod_of_nonneg h0];omega⟩
 have hfl:=hr.fi
 have hcl:=hr.ci
 obtain⟨u,c2,u0,u1⟩: ∃u:Int,m.tmod 1000000=u∧0≤u∧u<1000000:=⟨m % 1000000,Int.tmod_eq_emod_of_nonneg m0,by omega,by omega⟩
 have d0:=@zn1 r b h
 have d1:=@zn2 r b h
 have d2:=@zn3 r b h
 have d3:=@zn4 r b h
 have d4:=@zn5 r b h
 have d5:=@zn6 r b h
 have d6:=@zn7 r b h
 have d7:=@zn8 r b h
 rw[hL] at key hno
 rw[hL]
 rw[show yF b=[.int .i64 b.dr,.int .i64 b.de,.int .i64 b.pa,.int .i64 b.su,.int .i64 b.cu,.int .i64 b.te.k,.int .i64 b.te.n,.int .i64 b.te.u,.int .i64 b.da,.int .i64 b.ci,.int .i64 b.py,.int .i64 b.ne,.int .i64 b.ra,.int .i64 b.fl,.int .i64 b.pt] from rfl]
 simp only[List.map_cons,List.map_nil]
 have w1:IntKind.i64.wrap ((r.firms.length:Int)+u)=r.firms.length+u:=wrap_in (by omega) (by omega)
 have w2:IntKind.i64.wrap ((r.cities.length:Int)+u)=r.cities.length+u:=wrap_in (by omega) (by omega)
 have w3:IntKind.i64.wrap (-1-u)= -1-u:=wrap_in (by omega) (by omega)
 have w4:IntKind.i64.wrap (-2-u)= -2-u:=wrap_in (by omega) (by omega)
 have w5:IntKind.i64.wrap (1099511627777+u)=1099511627777+u:=wrap_in (by omega) (by omega)
 have w6:IntKind.i64.wrap (0-u)=0-u:=wrap_in (by omega) (by omega)
 have w7:IntKind.i64.wrap (1001+u)=1001+u:=wrap_in (by omega) (by omega)
 have w8:IntKind.i64.wrap (5+u)=5+u:=wrap_in (by omega) (by omega)
 have w9:IntKind.i64.wrap (8+u)=8+u:=wrap_in (by omega) (by omega)
 rcases hkk with rfl|rfl|rfl|rfl|rfl|rfl|rfl|rfl
 all_goals cases low
 all_goals simp only[hk,c2,yW,yE,w1,w2,w3,w4,w5,w6,w7,w8,w9,Qs,znT,if_true,if_false,bne_iff_ne,ne_eq,Int.reduceNeg,BEq.rfl,List.append_nil,Nat.reduceAdd,Nat.reduceEqDiff,Nat.reduceLeDiff,Nat.reduceBEq,Int.reduceEq,Int.reduceBEq,vv f7r1.eq_1,uu f7b2.eq_1,vv f7r3.eq_1,uu f7b4.eq_1,vv f7r5.eq_1,uu f7b6.eq_1,vv f7r7.eq_1,uu f7b8.eq_1,vv f7r9.eq_1,uu f7b10.eq_1,vv f7r11.eq_1,uu f7b12.eq_1,vv f7r13.eq_1,uu f7b14.eq_1,vv f7r15.eq_1,uu f7b16.eq_1,vv f7r17.eq_1,uu f7b18.eq_1,vv f7r19.eq_1,uu f7b20.eq_1,vv f7r21.eq_1,uu f7b22.eq_1,vv f7r23.eq_1,uu f7b24.eq_1,vv f7r25.eq_1,uu f7b26.eq_1,vv f7r27.eq_1,uu f7b28.eq_1,vv f7r29.eq_1,uu f7b30.eq_1,vv f7r31.eq_1,uu f7b32.eq_1,vv f7r33.eq_1,uu f7b34.eq_1,vv f7r35.eq_1,uu f7b36.eq_1,vv f7r37.eq_1,uu f7b38.eq_1,vv f7r39.eq_1,uu f7b40.eq_1,vv f7r41.eq_1,uu f7b42.eq_1,vv f7r43.eq_1,uu f7b44.eq_1,vv f7r45.eq_1,uu f7b46.eq_1,vv f7r47.eq_1,uu f7b48.eq_1,vv f7r49.eq_1,uu f7b50.eq_1,vv f7r51.eq_1,uu f7b52.eq_1,vv f7r53.eq_1,uu f7b54.eq_1,vv f7r55.eq_1,uu f7b56.eq_1,vv f7r57.eq_1,uu f7b58.eq_1,vv f7r59.eq_1,uu f7b60.eq_1,uu f7b61.eq_1,vv f7r62.eq_1,uu f7b63.eq_1,uu f7b64.eq_1,vv f7r65.eq_1,uu f7b66.eq_1,uu f7b67.eq_1,vv f7r68.eq_1,uu f7b69.eq_1,uu f7b70.eq_1,vv f7r71.eq_1,uu f7b72.eq_1,uu f7b73.eq_1,vv f7r74.eq_1,uu f7b75.eq_1,uu f7b76.eq_1,vv f7r77.eq_1,uu f7b78.eq_1,uu f7b79.eq_1,vv f7r80.eq_1,uu f7b81.eq_1,uu f7b82.eq_1,vv f7r83.eq_1,uu f7b84.eq_1,uu f7b85.eq_1,vv f7r86.eq_1,uu f7b87.eq_1,uu f7b88.eq_1,vv f7r89.eq_1,uu f7b90.eq_1,vv f7r91.eq_1,uu f7b92.eq_1,vv f7r93.eq_1,uu f7b94.eq_1]
 ·obtain⟨gC,gT⟩:=key {b with dr:=r.firms.length+u} 1 (d0 (by omega)) (by decide)
  refine zC gC ?_ (ha:=by simp only[List.map_cons,List.map_nil,zD,V.norm,xT,hno]<;>rfl)
  simp only[Qs,if_true,BEq.rfl,Nat.reduceAdd,Nat.reduceBEq]
  refine zC gT ?_ (ha:=by simp only[List.map_cons,List.map_nil,zD,V.norm,xT,hno]<;>rfl)
  simp only[Qs,if_true,BEq.rfl,List.nodup_nil,Nat.reduceBEq]
  exact hS
 ·obtain⟨gC,gT⟩:=key {b with dr:= -1-u} 1 (d0 (by omega)) (by decide)
  refine zC gC ?_ (ha:=by simp only[List.map_cons,List.map_nil,zD,V.norm,xT,hno]<;>rfl)
  simp only[Qs,if_true,Int.reduceNeg,BEq.rfl,Nat.reduceAdd,Nat.reduceBEq]
  refine zC gT ?_ (ha:=by simp only[List.map_cons,List.map_nil,zD,V.norm,xT,hno]<;>rfl)
  simp only[Qs,if_true,Int.reduceNeg,BEq.rfl,List.nodup_nil,Nat.reduceBEq]
  exact hS
 ·obtain⟨gC,gT⟩:=key {b with py:=r.cities.length+u} 1 (d1 (by omega)) (by decide)
  refine zC gC ?_ (ha:=by simp only[List.map_cons,List.map_nil,zD,V.norm,xT,hno]<;>rfl)
  simp only[Qs,if_true,BEq.rfl,Nat.reduceAdd,Nat.reduceBEq]
  refine zC gT ?_ (ha:=by simp only[List.map_cons,List.map_nil,zD,V.norm,xT,hno]<;>rfl)
  simp only[Qs,if_true,BEq.rfl,List.nodup_nil,Nat.reduceBEq]
  exact hS
 ·obtain⟨gC,gT⟩:=key {b with py:= -1-u} 1 (d1 (by omega)) (by decide)
  refine zC gC ?_ (ha:=by simp only[List.map_cons,List.map_nil,zD,V.norm,xT,hno]<;>rfl)
  simp only[Qs,if_true,Int.reduceNeg,BEq.rfl,Nat.reduceAdd,Nat.reduceBEq]
  refine zC gT ?_ (ha:=by simp only[List.map_cons,List.map_nil,zD,V.norm,xT,hno]<;>rfl)
  simp only[Qs,if_true,Int.reduceNeg,BEq.rfl,List.nodup_nil,Nat.reduceBEq]
  exact hS
 ·obtain⟨gC,gT⟩:=key {b with ne:=r.firms.length+u} 1 (d2 (by omega) (by omega)) (by decide)
  refine zC gC ?_ (ha:=by simp only[List.map_cons,List.map_nil,zD,V.norm,xT,hno]<;>rfl)
  simp only[Qs,if_true,BEq.rfl,Nat.reduceAdd,Nat.reduceBEq]
  refine zC gT ?_ (ha:=by simp only[List.map_cons,List.map_nil,zD,V.norm,xT,hno]<;>rfl)
  simp only[Qs,if_true,BEq.rfl,List.nodup_nil,Nat.reduceBEq]
  exact hS
 ·obtain⟨gC,gT⟩:=key {b with ne:= -2-u} 1 (d2 (by omega) (by omega)) (by decide)
  refine zC gC ?_ (ha:=by simp only[List.map_cons,List.map_nil,zD,V.norm,xT,hno]<;>rfl)
  simp only[Qs,if_true,Int.reduceNeg,BEq.rfl,Nat.reduceAdd,Nat.reduceBEq]
  refine zC gT ?_ (ha:=by simp only[List.map_cons,List.map_nil,zD,V.norm,xT,hno]<;>rfl)
  simp only[Qs,if_true,Int.reduceNeg,BEq.rfl,List.nodup_nil,Nat.reduceBEq]
  exact hS
 ·obtain⟨gC,gT⟩:=key {b with su:=1099511627777+u} 3 (d3 (by omega)) (by decide)
  refine zC gC ?_ (ha:=by simp only[List.map_cons,List.map_nil,zD,V.norm,xT,hno]<;>rfl)
  simp only[Qs,if_true,BEq.rfl,Nat.reduceAdd,Nat.reduceBEq]
  refine zC gT ?_ (ha:=by simp only[List.map_cons,List.map_nil,zD,V.norm,xT,hno]<;>rfl)
  simp only[Qs,if_true,BEq.rfl,List.nodup_nil,Nat.reduceBEq]
  exact hS
 ·obtain⟨gC,gT⟩:=key {b with su:=0-u} 3 (d3 (by omega)) (by decide)
  refine zC gC ?_ (ha:=by simp only[List.map_cons,List.map_nil,zD,V.norm,xT,hno]<;>rfl)
  simp only[Qs,if_true,BEq.rfl,Nat.reduceAdd,Nat.reduceBEq]
  refine zC gT ?_ (ha:=by simp only[List.map_cons,List.map_nil,zD,V.norm,xT,hno]<;>rfl)
  simp only[Qs,if_true,BEq.rfl,List.nodup_nil,Nat.reduceBEq]
  exact hS
 ·obtain⟨gC,gT⟩:=key {b with ra:=1001+u} 3 (d4 (by omega)) (by decide)
  refine zC gC ?_ (ha:=by simp only[List.map_cons,List.map_nil,zD,V.norm,xT,hno]<;>rfl)
  simp only[Qs,if_true,BEq.rfl,Nat.reduceAdd,Nat.reduceBEq]
  refine zC gT ?_ (ha:=by simp only[List.map_cons,List.map_nil,zD,V.norm,xT,hno]<;>rfl)
  simp only[Qs,if_true,BEq.rfl,List.nodup_nil,Nat.reduceBEq]
  exact hS
 ·obtain⟨gC,gT⟩:=key {b with ra:= -1-u} 3 (d4 (by omega)) (by decide)
  refine zC gC ?_ (ha:=by simp only[List.map_cons,List.map_nil,zD,V.norm,xT,hno]<;>rfl)
  simp only[Qs,if_true,Int.reduceNeg,BEq.rfl,Nat.reduceAdd,Nat.reduceBEq]
  refine zC gT ?_ (ha:=by simp only[List.map_cons,List.map_nil,zD,V.norm,xT,hno]<;>rfl)
  simp only[Qs,if_true,Int.reduceNeg,BEq.rfl,List.nodup_nil,Nat.reduceBEq]
  exact hS
 ·obtain⟨gC,gT⟩:=key {b with pt:=5+u} 15 (d5 (by omega)) (by decide)
  refine zC gC ?_ (ha:=by simp only[List.map_cons,List.map_nil,zD,V.norm,xT,hno]<;>rfl)
  simp only[Qs,if_true,BEq.rfl,Nat.reduceAdd,Nat.reduceBEq]
  refine zC gT ?_ (ha:=by simp only[List.map_cons,List.map_nil,zD,V.norm,xT,hno]<;>rfl)
  simp only[Qs,if_true,BEq.rfl,List.nodup_nil,Nat.reduceBEq]
  exact hS
 ·obtain⟨gC,gT⟩:=key {b with pt:=0-u} 15 (d5 (by omega)) (by decide)
  refine zC gC ?_ (ha:=by simp only[List.map_cons,List.map_nil,zD,V.norm,xT,hno]<;>rfl)
  simp only[Qs,if_true,BEq.rfl,Nat.reduceAdd,Nat.reduceBEq]
  refine zC gT ?_ (ha:=by simp only[List.map_cons,List.map_nil,zD,V.norm,xT,hno]<;>rfl)
  simp only[Qs,if_true,BEq.rfl,List.nodup_nil,Nat.reduceBEq]
  exact hS
 ·obtain⟨gC,gT⟩:=key {b with fl:=8+u} 2 (d6 (by omega)) (by decide)
  refine zC gC ?_ (ha:=by simp only[List.map_cons,List.map_nil,zD,V.norm,xT,hno]<;>rfl)
  simp only[Qs,if_true,BEq.rfl,Nat.reduceAdd,Nat.reduceBEq]
  refine zC gT ?_ (ha:=by simp only[List.map_cons,List.map_nil,zD,V.norm,xT,hno]<;>rfl)
  simp only[Qs,if_true,BEq.rfl,List.nodup_nil,Nat.reduceBEq]
  exact hS
 ·obtain⟨gC,gT⟩:=key {b with fl:= -1-u} 2 (d6 (by omega)) (by decide)
  refine zC gC ?_ (ha:=by simp only[List.map_cons,List.map_nil,zD,V.norm,xT,hno]<;>rfl)
  simp only[Qs,if_true,Int.reduceNeg,BEq.rfl,Nat.reduceAdd,Nat.reduceBEq]
  refine zC gT ?_ (ha:=by simp only[List.map_cons,List.map_nil,zD,V.norm,xT,hno]<;>rfl)
  simp only[Qs,if_true,Int.reduceNeg,BEq.rfl,List.nodup_nil,Nat.reduceBEq]
  exact hS
 ·obtain⟨gC,gT⟩:=key {b with te:=⟨5+u,b.te.n,b.te.u⟩} 2 (d7 (by omega)) (by decide)
  refine zC gC ?_ (ha:=by simp only[List.map_cons,List.map_nil,zD,V.norm,xT,hno]<;>rfl)
  simp only[Qs,if_true,BEq.rfl,Nat.reduceAdd,Nat.reduceBEq]
  refine zC gT ?_ (ha:=by simp only[List.map_cons,List.map_nil,zD,V.norm,xT,hno]<;>rfl)
  simp only[Qs,if_true,BEq.rfl,List.nodup_nil,Nat.reduceBEq]
  exact hS
 ·obtain⟨gC,gT⟩:=key {b with te:=⟨-1-u,b.te.n,b.te.u⟩} 2 (d7 (by omega)) (by decide)
  refine zC gC ?_ (ha:=by simp only[List.map_cons,List.map_nil,zD,V.norm,xT,hno]<;>rfl)
  simp only[Qs,if_true,Int.reduceNeg,BEq.rfl,Nat.reduceAdd,Nat.reduceBEq]
  refine zC gT ?_ (ha:=by simp only[List.map_cons,List.map_nil,zD,V.norm,xT,hno]<;>rfl)
  simp only[Qs,if_true,Int.reduceNeg,BEq.rfl,List.nodup_nil,Nat.reduceBEq]
  exact hS
theorem l7 (r:Rlm) (hw:iS r) (b:Bil) (wh:Int) (h0:0≤wh) (h1:wh≤255) (n:Int) (hn:xM n) (low:Bool):Spec Tryz.prog 7 [.agg (zS r),.agg (yF b),.int .u8 wh,.int .i64 n,.bool low] (fun v=>v=.bool true):=by
 refine Spec.of_awlS hf7 okf7 (by simp) fun S hS=>?_
 have hL:=xZ r
 have hno:=xY r
 have hB:yF b=[.int .i64 b.dr,.int .i64 b.de,.int .i64 b.pa,.int .i64 b.su,.int .i64 b.cu,.int .i64 b.te.k,.int .i64 b.te.n,.int .i64 b.te.u,.int .i64 b.da,.int .i64 b.ci,.int .i64 b.py,.int .i64 b.ne,.int .i64 b.ra,.int .i64 b.fl,.int .i64 b.pt]:=rfl
 have hbn:=zhW b
 have g9:=c9 r []
 rw[znl] at g9
 cases hf:fewR r with
 |false=>
  rw[hf] at g9
  rw[hL] at g9 hno
  rw[hL]
  simp only[Qs,bne_iff_ne,ne_eq,Nat.reduceAdd,Nat.reduceEqDiff,Nat.reduceBEq,uu f7.eq_1,vv f7r108.eq_1,uu f7b109.eq_1,vv f7r110.eq_1,uu f7b111.eq_1]
  refine zC c8 ?_ (ha:=by rfl)
  simp only[Qs,if_true,Nat.reduceAdd,Nat.reduceBEq,vv f7r105.eq_1,uu f7b106.eq_1,uu f7b107.eq_1]
  refine zC g9 ?_ (ha:=by simp only[List.map_cons,List.map_nil,zD,V.norm,xT,hno]<;>rfl)
  simp only[Qs,List.nodup_nil,Nat.reduceBEq,znU,vv f7r102.eq_1,uu f7b103.eq_1,uu f7b104.eq_1]
  exact hS
 |true=>
  obtain⟨hr,hod⟩:=zik hf hw
  have gC:=c12 r hr hod b
  have T:=@l7t S hS r b hr hod
  rw[hf] at g9
  rw[hL] at g9 hno gC T
  rw[hB] at hbn gC T
  simp only[List.map_cons,List.map_nil] at T
  rw[hL,hB]
  simp only[Qs,bne_iff_ne,ne_eq,Nat.reduceAdd,Nat.reduceEqDiff,Nat.reduceBEq,uu f7.eq_1,vv f7r108.eq_1,uu f7b109.eq_1,vv f7r110.eq_1,uu f7b111.eq_1]
  refine zC c8 ?_ (ha:=by rfl)
  simp only[Qs,if_true,Nat.reduceAdd,Nat.reduceBEq,vv f7r105.eq_1,uu f7b106.eq_1,uu f7b107.eq_1]
  refine zC g9 ?_ (ha:=by simp only[List.map_cons,List.map_nil,zD,V.norm,xT,hno]<;>rfl)
  simp only[Qs,if_true,Nat.reduceAdd,Nat.reduceBEq]
  refine zC gC ?_ (ha:=by simp only[List.map_cons,List.map_nil,zD,V.norm,xT,hno,hbn]<;>rfl)
  by_cases hc:wY r b=0
  ·have w0:(wY r b !=0)=false:=by simp[hc]
   by_cases hneg:n<0
   ·simp only[w0,hneg,Qs,if_true,if_false,Nat.reduceBEq,vv f7r95.eq_1,uu f7b96.eq_1,vv f7r97.eq_1,uu f7b98.eq_1,uu f7b99.eq_1,vv f7r100.eq_1,uu f7b101.eq_1,uu f7b104.eq_1]
    exact T (sP.1 hc) wh h0 h1 low 0 (by omega) (by omega)
   ·simp only[w0,hneg,Qs,if_true,if_false,Nat.reduceBEq,vv f7r95.eq_1,uu f7b96.eq_1,vv f7r97.eq_1,uu f7b98.eq_1,uu f7b99.eq_1,vv f7r100.eq_1,uu f7b101.eq_1,uu f7b104.eq_1]
    exact T (sP.1 hc) wh h0 h1 low n (by omega) hn.2
  ·have w0:(wY r b !=0)=true:=by simp[hc]
   simp only[w0,Qs,if_true,if_false,List.nodup_nil,Nat.reduceBEq,vv f7r102.eq_1,uu f7b103.eq_1,uu f7b104.eq_1]
   exact hS
end Go.Abs
set_option maxRecDepth 100000
namespace Go.Proofs.YtlepbngfdpifjaaGreatDoor
open Go.Abs Go.RowKit Go.ChangeShapes Go.WideShapes Go.ChangeAt Go.WideMaps Go.WideElems Go.Wd
theorem zn9 (xs:List V) (h:mF Tryz.prog [31,35,5,3,4] xs):Go.Abs.Spec Tryz.prog 7 xs (fun r=>r=.bool true):=by
 match xs,h with
 |[a0,a1,a2,a3,a4],⟨⟨_,_,h0,q0⟩,⟨_,_,h1,q1⟩,⟨_,_,h2,q2⟩,⟨_,_,h3,q3⟩,⟨_,_,h4,q4⟩,_⟩=>
  obtain⟨x0,e0,w0⟩:=znu h0
  obtain⟨x1,e1⟩:=znW h1
  obtain⟨x2,e2,w2⟩:=znV Tryz.underlying5 h2
  obtain⟨x3,e3,w3⟩:=znY Tryz.underlying3 h3
  obtain⟨x4,e4⟩:=znZ Tryz.underlying4 h4
  rw[q0,q1,q2,q3,q4,e0,e1,e2,e3,e4]
  exact l7 x0 w0 x1 x2 w2.1 w2.2 x3 w3 x4
theorem zoa (os:Os) {H:Type} (enc:TypeId×Value→H): ∃lW,DataW.whole enc Tryz.prog ((aW os).forCall (fun _ _=>0) ⟨#[],#[Value.agg #[.slice none 0 0,.slice none 0 0,.slice none 0 0,.slice none 0 0,.slice none 0 0,.slice none 0 0,.slice none 0 0,.slice none 0 0],.agg #[.int .i64 0,.int .i64 0,.int .i64 0,.int .i64 0,.int .i64 0,.int .i64 0,.int .i64 0,.int .i64 0,.int .i64 0,.int .i64 0,.int .i64 0,.int .i64 0,.int .i64 0,.int .i64 0,.int .i64 0],.int .u8 0,.int .i64 0,.bool false],[]⟩).memory Tryz.f7.params.toList Rows.wordingRefusesSpec.vars false #[Value.agg #[.slice none 0 0,.slice none 0 0,.slice none 0 0,.slice none 0 0,.slice none 0 0,.slice none 0 0,.slice none 0 0,.slice none 0 0],.agg #[.int .i64 0,.int .i64 0,.int .i64 0,.int .i64 0,.int .i64 0,.int .i64 0,.int .i64 0,.int .i64 0,.int .i64 0,.int .i64 0,.int .i64 0,.int .i64 0,.int .i64 0,.int .i64 0,.int .i64 0],.int .u8 0,.int .i64 0,.bool false].toList 8=some ([.agg [.nil,.nil,.nil,.nil,.nil,.nil,.nil,.nil],.agg [.lit (.int .i64 0),.lit (.int .i64 0),.lit (.int .i64 0),.lit (.int .i64 0),.lit (.int .i64 0),.agg [.lit (.int .i64 0),.lit (.int .i64 0),.lit (.int .i64 0)],.lit (.int .i64 0),.lit (.int .i64 0),.lit (.int .i64 0),.lit (.int .i64 0),.lit (.int .i64 0),.lit (.int .i64 0),.lit (.int .i64 0)],.lit (.int .u8 0),.lit (.int .i64 0),.lit (.bool false)],[],lW):=
 ⟨[],by kernel_rfl⟩
theorem zob (os:Os) (started:os.Started) (H:Type) (enc:TypeId×Value→H) (F:Stop.Interp):
  ReturnsInHanded {} Tryz.checked os 7 .any ((OpenSpec.ofChange Rows.wordingRefusesSpec).preRow enc Tryz.prog Tryz.f7 Rows.wordingRefusesRow.domain false Rows.wordingRefusesRow.laid) (((OpenSpec.ofChange Rows.wordingRefusesSpec).at F).post enc Tryz.prog Tryz.f7 false true false false):=by
 obtain⟨lW,hx⟩:=zoa os enc
 refine returnsInHanded_of_row (C:=Tryz.checked) (s:=OpenSpec.ofChange Rows.wordingRefusesSpec) own started (by kernel_rfl) Tryz.func7
  (witness_row_atRef (enc:=enc) (C:=Tryz.checked) false (aW os) #[Value.agg #[.slice none 0 0,.slice none 0 0,.slice none 0 0,.slice none 0 0,.slice none 0 0,.slice none 0 0,.slice none 0 0,.slice none 0 0],.agg #[.int .i64 0,.int .i64 0,.int .i64 0,.int .i64 0,.int .i64 0,.int .i64 0,.int .i64 0,.int .i64 0,.int .i64 0,.int .i64 0,.int .i64 0,.int .i64 0,.int .i64 0,.int .i64 0,.int .i64 0],.int .u8 0,.int .i64 0,.bool false] rfl (by kernel_rfl) (by kernel_rfl) (by kernel_rfl)
   (OpenSpec.preRow_of_cond 8 hx (by kernel_rfl) (fun k hk=>by cases hk) (by kernel_rfl) (znA os _))) ?_
 intro W base args ds gs before hval hW _ hcond _ hL hsh _
 refine zkL (C:=Tryz.checked) (T:=iU) (tb:=4) (s:=Rows.wordingRefusesSpec) znx zny ?_ kids full rfl ?_ ?_ Tryz.underlying4 ?_ W base args ds gs before hval hW (znz hL hsh)
 ·rw[Tryz.params7];decide
 ·intro ds hds
  rw[Tryz.params7] at hds
  match ds,hds with
  |[a0,a1,a2,a3,a4],_=>rfl
 ·kernel_rfl
 ·intro xs hxs
  rw[Tryz.params7] at hxs
  exact zn9 xs hxs
theorem WordingRefuses_row:Rows.WordingRefusesSaid:=
 OpenClaim.holds_of_cond 7 Tryz.f7 rfl rfl rfl rfl rfl rfl rfl ⟨rfl,rfl,rfl,rfl,rfl⟩ rfl rfl rfl rfl rfl (by kernel_rfl) Tryz.func7 (by kernel_rfl)
  (of_decide_eq_true (by kernel_rfl)) (by unfold Func.isWrapper;first|(rw[if_pos (by decide+kernel)];kernel_rfl)|(rw[if_neg (by decide+kernel)];exact⟨rfl,rfl⟩))
  (fun os started H enc _ F=>by rw[OpenClaim.pre_eq_preRow];exact zob os started H enc F)
theorem WordingRefuses_holds:Rows.WordingRefusesCardSaid:=
 Claim7.holds_tied_plain_at .later [] _ _ _ _ WordingRefuses_row (fun _ h=>by cases h) (by kernel_rfl) (fun _ h=>by cases h) wordingRefuses_row_tie rfl ⟨rfl,rfl⟩ (by kernel_rfl) rfl
  (fun f fn hf hfn=>by
   obtain rfl:f=7:=Option.some.inj ((show Tryz.prog.funcNamed "allonge/allongelaw10.WordingRefuses" =some 7 by kernel_rfl).symm.trans hf)|>.symm
   obtain rfl:fn=Tryz.f7:=(Option.some.inj (Tryz.func7.symm.trans hfn)).symm
   exact⟨by kernel_rfl,fun j t ht=>by
    rw[Tryz.params7] at ht
    have hm:t∈[31,35,5,3,4]:=by simpa using Array.mem_of_getElem? ht
    have hall:([31,35,5,3,4].all fun u=> !Tryz.prog.wantsStandIn u)=true:=by kernel_rfl
    exact(show Tryz.prog.wantsStandIn t=false by simpa using List.all_eq_true.1 hall t hm)⟩)
  (by kernel_rfl)
end Go.Proofs.YtlepbngfdpifjaaGreatDoor
