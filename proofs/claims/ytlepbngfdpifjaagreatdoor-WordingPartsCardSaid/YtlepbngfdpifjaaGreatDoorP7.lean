/- A part of the proof; the last text states what is proved. -/
import Derived.Test.YtlepbngfdpifjaaGreatDoorP6
import Derived.DataShut
import Derived.Test.YtlepbngfdpifjaaGreatDoorRows
import Derived.Test.YtlepbngfdpifjaaGreatDoorCards
import Derived.Test.YtlepbngfdpifjaaGreatDoorTie
import Derived.ProofKit
import Derived.LaidMore
import Derived.Lib.LaidTab
import Derived.Lib.LaidU8
import Derived.OpenShut
import Derived.SevenTiedAt
import Derived.Deep.DeepHandedRow
import Derived.Deep.DeepWitnessRowRef
import Derived.Shelf.Vars
set_option linter.unusedVariables false
set_option linter.unusedSimpArgs false
set_option maxRecDepth 100000
namespace Go.Abs
open Go.RowKit Go.Proofs Go.Wd
theorem iT {α:Type} {S:List C→Prop} (enc:α→List C) (Q:α→Prop) (hS: ∀r,S r→ ∃a,r=enc a∧Q a): ∀(rows:List (List C)),(∀r∈rows,S r)→ ∃l:List α,rows=l.map enc∧ ∀a∈l,Q a
 |[],_=>⟨[],rfl,fun _ h=>by cases h⟩
 |r::rows,h=>by
  obtain⟨a,ha,hq⟩:=hS r (h r (by simp))
  obtain⟨l,hl,hQ⟩:=iT enc Q hS rows (fun x hx=>h x (by simp[hx]))
  refine⟨a::l,by rw[ha,hl];rfl,fun x hx=>?_⟩
  rcases List.mem_cons.1 hx with rfl|hx
  ·exact hq
  ·exact hQ x hx
theorem aU {m:Int} (h:(Lit.int .i64 m).wf=true):xM m:=by
 have:=(Lit.wf_int_iff _ _).1 h
 simpa [xM,IntKind.min,IntKind.max,IntKind.signed,IntKind.bits] using this
theorem aV {n t:Nat} {r:List C} (ht:Tryz.prog.underlying t=some (.slice 3)) (hr:yC Tryz.prog n t r): ∃l:List Int,r=[zB 1 (zN l)]∧ ∀m∈l,xM m:=by
 obtain⟨m,rows,_,rfl,_,h⟩:=uC ht hr
 obtain⟨l,rfl,hQ⟩:=iT (fun z:Int=>[C.int .i64 z]) xM (fun r hr=>by obtain⟨x,rfl,hx⟩:=wO Tryz.underlying3 hr;exact⟨x,rfl,aU hx⟩) rows h
 exact⟨l,by rw[show Tryz.prog.cellsOf 3=1 by kernel_rfl];rfl,hQ⟩
theorem znm {n:Nat} {r:List C} (hr:yC Tryz.prog n 22 r): ∃l:List Txt,r=[zB 1 (zE l)]:=by
 obtain⟨m,rows,_,rfl,_,h⟩:=uC Tryz.underlying22 hr
 obtain⟨l,rfl⟩:=tP (fun s:Txt=>[C.str s]) (fun r hr=>by obtain⟨x,rfl,_⟩:=mH Tryz.underlying9 hr;exact⟨x,rfl⟩) rows h
 exact⟨l,by rw[show Tryz.prog.cellsOf 9=1 by kernel_rfl];rfl⟩
theorem znn {S:TypeId→List C→Prop} {a b c d e f:TypeId} {rs:List (List C)} (h:uW S [a,b,c,d,e,f] rs): ∃x y z u v w,rs=[x,y,z,u,v,w]∧S a x∧S b y∧S c z∧S d u∧S e v∧S f w:=by
 match rs,h with
 |[x,y,z,u,v,w],⟨h1,h2,h3,h4,h5,h6,_⟩=>exact⟨x,y,z,u,v,w,rfl,h1,h2,h3,h4,h5,h6⟩
theorem zno {S:TypeId→List C→Prop} {a b c d e f g k:TypeId} {rs:List (List C)} (h:uW S [a,b,c,d,e,f,g,k] rs): ∃x y z u v w p q,rs=[x,y,z,u,v,w,p,q]∧S a x∧S b y∧S c z∧S d u∧S e v∧S f w∧S g p∧S k q:=by
 match rs,h with
 |[x,y,z,u,v,w,p,q],⟨h1,h2,h3,h4,h5,h6,h7,h8,_⟩=>exact⟨x,y,z,u,v,w,p,q,rfl,h1,h2,h3,h4,h5,h6,h7,h8⟩
theorem znp {S:TypeId→List C→Prop} {a b c d e:TypeId} {rs:List (List C)} (h:uW S [a,b,c,d,e] rs): ∃x y z u v,rs=[x,y,z,u,v]∧S a x∧S b y∧S c z∧S d u∧S e v:=by
 match rs,h with
 |[x,y,z,u,v],⟨h1,h2,h3,h4,h5,_⟩=>exact⟨x,y,z,u,v,rfl,h1,h2,h3,h4,h5⟩
theorem znq {n:Nat} {r:List C} (hr:yC Tryz.prog n 91 r): ∃c:Cty,r=xL c∧ ∀m∈c.feasts,xM m:=by
 obtain⟨m,rs,_,rfl,h⟩:=tN Tryz.underlying91 hr
 obtain⟨x,y,z,u,v,w,rfl,h1,h2,h3,h4,h5,h6⟩:=znn h
 obtain⟨a,rfl,_⟩:=mH Tryz.underlying9 h1
 obtain⟨b,rfl,_⟩:=wO Tryz.underlying3 h2
 obtain⟨c,rfl,_⟩:=wO Tryz.underlying3 h3
 obtain⟨d,rfl,_⟩:=aV Tryz.underlying89 h4
 obtain⟨e,rfl,he⟩:=aV Tryz.underlying89 h5
 obtain⟨f,rfl,_⟩:=aV Tryz.underlying89 h6
 exact⟨⟨a,b,c,d,e,f⟩,rfl,he⟩
theorem znr {n:Nat} {r:List C} (hr:yC Tryz.prog n 94 r): ∃c:Frm,r=tQ c:=by
 obtain⟨m,rs,_,rfl,h⟩:=tN Tryz.underlying94 hr
 obtain⟨x,y,z,rfl,h1,h2,h3⟩:=jP h
 obtain⟨a,rfl,_⟩:=mH Tryz.underlying9 h1
 obtain⟨b,rfl,_⟩:=wO Tryz.underlying3 h2
 obtain⟨c,rfl,_⟩:=wO Tryz.underlying3 h3
 exact⟨⟨a,b,c⟩,rfl⟩
theorem zil {n t:Nat} {fs:Array Field} {r:List C} (ht:Tryz.prog.underlying t=some (.struct fs)) (hf:fs.toList.map (·.type)=[3,3,3]) (hr:yC Tryz.prog n t r): ∃c:T3,r=tU c:=by
 obtain⟨m,rs,_,rfl,h⟩:=tN ht hr
 rw[hf] at h
 obtain⟨x,y,z,rfl,h1,h2,h3⟩:=jP h
 obtain⟨a,rfl,_⟩:=wO Tryz.underlying3 h1
 obtain⟨b,rfl,_⟩:=wO Tryz.underlying3 h2
 obtain⟨c,rfl,_⟩:=wO Tryz.underlying3 h3
 exact⟨⟨a,b,c⟩,rfl⟩
theorem zns {n:Nat} {r:List C} (hr:yC Tryz.prog n 139 r): ∃c:T5,r=oU c∧(xM c.c∧xM c.d):=by
 obtain⟨m,rs,_,rfl,h⟩:=tN Tryz.underlying139 hr
 obtain⟨x,y,z,u,v,rfl,h1,h2,h3,h4,h5⟩:=znp h
 obtain⟨a,rfl,_⟩:=wO Tryz.underlying3 h1
 obtain⟨b,rfl,_⟩:=wO Tryz.underlying3 h2
 obtain⟨c,rfl,hc⟩:=wO Tryz.underlying3 h3
 obtain⟨d,rfl,hd⟩:=wO Tryz.underlying3 h4
 obtain⟨e,rfl,_⟩:=wO Tryz.underlying3 h5
 exact⟨⟨a,b,c,d,e⟩,rfl,aU hc,aU hd⟩
theorem znt {n:Nat} {r:List C} (hr:yC Tryz.prog n 98 r): ∃z:Int,r=[.int .i64 z]:=by
 obtain⟨m,rs,_,rfl,h⟩:=tN Tryz.underlying98 hr
 match rs,h with
 |[x],⟨h1,_⟩=>
  obtain⟨a,rfl,_⟩:=wO Tryz.underlying3 h1
  exact⟨a,rfl⟩
theorem tyz:TermTypes Tryz.prog 3 4 9 135 133 137 100 132 99 102 where
 i:=Tryz.underlying3
 b:=Tryz.underlying4
 s:=Tryz.underlying9
 t:=⟨_,Tryz.underlying135,rfl⟩
 lt:=⟨Tryz.underlying133,by kernel_rfl⟩
 r:=⟨_,Tryz.underlying137,rfl⟩
 lr:=⟨Tryz.underlying100,by kernel_rfl⟩
 c:=⟨_,Tryz.underlying132,rfl⟩
 lc:=⟨Tryz.underlying99,by kernel_rfl⟩
 o:=⟨_,Tryz.underlying102,rfl⟩
theorem znu {n:Nat} {r:List C} (hr:yC Tryz.prog n 31 r): ∃x:Rlm,uX Tryz.prog 31 r=.agg (zS x)∧iS x:=by
 obtain⟨m,rs,_,rfl,h⟩:=tN Tryz.underlying31 hr
 obtain⟨a,b,c,d,e,f,g,k,rfl,h1,h2,h3,h4,h5,h6,h7,h8⟩:=zno h
 obtain⟨xa,rfl⟩:=znm h1
 obtain⟨_,rb,_,rfl,_,hb⟩:=uC Tryz.underlying23 h2
 obtain⟨xb,rfl,qb⟩:=iT xL (fun c=> ∀m∈c.feasts,xM m) (fun r hr=>znq hr) rb hb
 obtain⟨_,rc,_,rfl,_,hc⟩:=uC Tryz.underlying24 h3
 obtain⟨xc,rfl⟩:=tP (fun z:Int=>[C.int .i64 z]) (fun r hr=>znt hr) rc hc
 obtain⟨_,rd,_,rfl,_,hd⟩:=uC Tryz.underlying25 h4
 obtain⟨xd,rfl⟩:=tP tQ (fun r hr=>znr hr) rd hd
 obtain⟨_,re,_,rfl,_,he⟩:=uC Tryz.underlying26 h5
 obtain⟨xe,rfl⟩:=tP wF (fun r hr=>zkW tyz hr) re he
 obtain⟨_,rf,_,rfl,_,hf⟩:=uC Tryz.underlying27 h6
 obtain⟨xf,rfl⟩:=tP tU (fun r hr=>zil Tryz.underlying116 rfl hr) rf hf
 obtain⟨_,rg,_,rfl,_,hg⟩:=uC Tryz.underlying28 h7
 obtain⟨xg,rfl,qg⟩:=iT oU (fun x=>xM x.c∧xM x.d) (fun r hr=>zns hr) rg hg
 obtain⟨_,rk,_,rfl,_,hk⟩:=uC Tryz.underlying29 h8
 obtain⟨xk,rfl⟩:=tP tU (fun r hr=>zil Tryz.underlying141 rfl hr) rk hk
 refine⟨⟨xa,xb,xc,xd,xe,xf,xg,xk⟩,?_,qb,qg⟩
 simp only[uX,Tryz.underlying31,show Tryz.prog.cellsOf 91=6 by kernel_rfl,show Tryz.prog.cellsOf 98=1 by kernel_rfl,show Tryz.prog.cellsOf 94=3 by kernel_rfl,show Tryz.prog.cellsOf 102=4 by kernel_rfl,show Tryz.prog.cellsOf 116=3 by kernel_rfl,show Tryz.prog.cellsOf 139=5 by kernel_rfl,show Tryz.prog.cellsOf 141=3 by kernel_rfl]
 rfl
theorem znX {n:Nat} {t:TypeId} {r:List C} (ht:Tryz.prog.underlying t=some (.int .u8)) (hr:yC Tryz.prog n t r): ∃m:Int,uX Tryz.prog t r=.int .u8 m∧(0≤m∧m≤255):=by
 obtain⟨m,rfl,h⟩:=wO ht hr
 have:=(Lit.wf_int_iff _ _).1 h
 exact⟨m,by simp only[uX,ht],by simpa [IntKind.min,IntKind.max,IntKind.signed,IntKind.bits] using this⟩
theorem znY {n:Nat} {r:List C} (hr:yC Tryz.prog n 35 r): ∃x:Bil,uX Tryz.prog 35 r=.agg (yF x):=by
 obtain⟨m,rs,_,rfl,h⟩:=tN Tryz.underlying35 hr
 match rs,h with
 |[x0,x1,x2,x3,x4,x5,x6,x7,x8,x9,x10,x11,x12],⟨h0,h1,h2,h3,h4,h5,h6,h7,h8,h9,h10,h11,h12,_⟩=>
  obtain⟨m2,rs2,_,rfl,k⟩:=tN Tryz.underlying33 h5
  obtain⟨y,z,u,rfl,k1,k2,k3⟩:=jP k
  obtain⟨t1,rfl,_⟩:=wO Tryz.underlying3 k1
  obtain⟨t2,rfl,_⟩:=wO Tryz.underlying3 k2
  obtain⟨t3,rfl,_⟩:=wO Tryz.underlying3 k3
  obtain⟨a0,rfl,_⟩:=wO Tryz.underlying3 h0
  obtain⟨a1,rfl,_⟩:=wO Tryz.underlying3 h1
  obtain⟨a2,rfl,_⟩:=wO Tryz.underlying3 h2
  obtain⟨a3,rfl,_⟩:=wO Tryz.underlying3 h3
  obtain⟨a4,rfl,_⟩:=wO Tryz.underlying3 h4
  obtain⟨a6,rfl,_⟩:=wO Tryz.underlying3 h6
  obtain⟨a7,rfl,_⟩:=wO Tryz.underlying3 h7
  obtain⟨a8,rfl,_⟩:=wO Tryz.underlying3 h8
  obtain⟨a9,rfl,_⟩:=wO Tryz.underlying3 h9
  obtain⟨a10,rfl,_⟩:=wO Tryz.underlying3 h10
  obtain⟨a11,rfl,_⟩:=wO Tryz.underlying3 h11
  obtain⟨a12,rfl,_⟩:=wO Tryz.underlying3 h12
  exact⟨⟨a0,a1,a2,a3,a4,⟨t1,t2,t3⟩,a6,a7,a8,a9,a10,a11,a12⟩,by simp only[uX,Tryz.underlying35];rfl⟩
end Go.Abs
set_option maxRecDepth 100000
namespace Go.Abs
section
variable {P : Program}
end
theorem znw {H:Type} {enc:TypeId×Value→H} {P:Program} {w:World} {base:Nat} {sp:Nat→Bool} {held:Bool} {fuel:Nat} {t:TypeId} {ms:Array (String×TypeId)} {cs:List Value} {x:DataW H×List MemPlace}
  (ht:P.underlying t=some (.interface ms)) (h:DataW.trod enc P w base sp held fuel t cs=some x): ∃v,cs=[v]∧(v=.nilIface∨ ∃t p,v=.iface t p):=by
 cases fuel with
 |zero=>simp[DataW.trod] at h
 |succ n=>
  unfold DataW.trod at h
  rw[ht] at h
  split at h<;>simp_all
end Go.Abs
namespace Go.Proofs.YtlepbngfdpifjaaGreatDoor
open Go.Abs Go.RowKit Go.ChangeShapes Go.WideShapes Go.ChangeAt Go.WideMaps Go.WideElems Go.Wd
theorem own:ownKnob Tryz.prog.godebug=none:=by kernel_rfl
theorem kids:Kids Tryz.prog (· <Tryz.prog.types.size):=kids_rows (by kernel_rfl) (by kernel_rfl)
theorem full: ∀t e,t<Tryz.prog.types.size→Tryz.prog.underlying t=some (.slice e)→0<Tryz.prog.cellsOf e:=slices_full_of Tryz.prog (by kernel_rfl)
def iU:List TypeId:=[3,4,5,9,22,23,24,25,26,27,28,29,31,33,35,89,91,94,98,99,100,102,116,132,133,135,137,139,141]
theorem znx:qP Tryz.prog iU=true:=by kernel_rfl
theorem zny: ∀t∈iU,t<Tryz.prog.types.size:=by
 have:iU.all (fun t=>decide (t<Tryz.prog.types.size))=true:=by kernel_rfl
 simpa using this
abbrev iV:List (String×DataW Unit):=Rows.wordingBackRow.laid
theorem zim {W:World} {name:String} {g:Nat} {cs:Array Value} (hn:Tryz.prog.globalNamed name=some g) (hv:W.var? Tryz.prog name=some cs): ∃t f,W.heap[g]?=some (.cells cs t f):=by
 unfold World.var? at hv
 rw[hn,Option.bind_some] at hv
 split at hv
 ·rename_i h
  cases hv
  exact⟨_,_,h⟩
 ·cases hv
theorem zin {W:World} (h:laidMet Tryz.prog iV W) {name:String} {g:Nat} {d:DataW Unit} (hn:Tryz.prog.globalNamed name=some g) (ht:(Tryz.prog.globals[g]?).map (·.type)=some 82) (hm:(name,d)∈iV):
  g<W.heap.size∧ ∃b,W.heap[g]?=some b∧cell0 (fun v=>v=.nilIface∨ ∃t p,v=.iface t p) b:=by
 obtain⟨g',t',cs,fuel,p,hg,hty,hvar,hd⟩:=Lib.laidMet.reads h hm
 obtain rfl:=Option.some.inj (hn.symm.trans hg)
 obtain rfl:=Option.some.inj (ht.symm.trans hty)
 obtain⟨v,e,hv⟩:=znw Tryz.underlying82 hd
 obtain⟨t,f,hb⟩:=zim hn hvar
 refine⟨(Array.getElem?_eq_some_iff.1 hb).1,_,hb,v,?_,hv⟩
 rw[←Array.getElem?_toList,e];rfl
theorem znz {W:World} (hL:laidMetH Tryz.prog iV W) (hsh:W.ShapedOpen Tryz.prog):wI (Go.Abs.base W):=by
 rw[MakeChecks.laidMetH_plain _ _ _ (by kernel_rfl)] at hL
 refine⟨(fun _ _ h=>nomatch h),fun g p hg=>?_⟩
 match g,hg with
 |0,hg=>
  cases hg
  obtain⟨m,hm⟩:=cell_of_shapedOpen_int (zero:= #[.int .i64 0]) (t:=3) (k:=.i64) (g:=0) hsh (of_decide_eq_true (by kernel_rfl)) (by kernel_rfl) rfl (by kernel_rfl) (by kernel_rfl) Tryz.underlying3
  unfold World.cell? at hm
  cases hb:W.heap[0]? with
  |none=>rw[hb] at hm;simp at hm
  |some ob=>
   refine⟨(Array.getElem?_eq_some_iff.1 hb).1,ob,rfl,?_⟩
   rw[hb] at hm
   cases ob with
   |cells cs t f=>exact⟨_,by simpa using hm,m,rfl⟩
   |_=>simp at hm
 |4,hg=>cases hg;exact zin hL (name:= "strconv.ErrSyntax") (by kernel_rfl) (by kernel_rfl) ((.tail _ (.tail _ (.tail _ (.tail _ (.tail _ (.head _)))))))
 |5,hg=>cases hg;exact zin hL (name:= "strconv.ErrRange") (by kernel_rfl) (by kernel_rfl) ((.tail _ (.tail _ (.tail _ (.tail _ (.head _))))))
 |1,hg=>
  cases hg
  obtain⟨g',t',cs,fuel,p,hg',hty,hvar,hd⟩:=Lib.laidMet.reads hL (n:= "internal/strconv.uint64pow10") ((.tail _ (.tail _ (.head _))))
  have hn:Tryz.prog.globalNamed "internal/strconv.uint64pow10" =some 1:=by kernel_rfl
  obtain rfl:=Option.some.inj (hn.symm.trans hg')
  have hT:(Tryz.prog.globals[1]?).map (·.type)=some 174:=by kernel_rfl
  obtain rfl:=Option.some.inj (hT.symm.trans hty)
  obtain⟨t,f,hb⟩:=zim hn hvar
  refine⟨(Array.getElem?_eq_some_iff.1 hb).1,_,hb,?_⟩
  have hd':DataW.trod (fun _=>()) Tryz.prog W 0 (fun _=>true) false fuel 174 cs.toList=some (Lib.tabData .u64 zaa,p):=hd
  have e:=Lib.cells_of_tab Tryz.underlying174 Tryz.underlying157 (by kernel_rfl) (by kernel_rfl) hd'
  show cs=_
  rw[←e]
noncomputable def aW (os:Os):World:=
 {World.doorLaid Tryz.prog 400 os with heap:=(World.doorLaid Tryz.prog 400 os).heap.modify 2 fun
  | .cells _ t frozen=> .cells (Lib.firstTab.map fun z=>Value.int .u8 z).toArray t frozen
  |o=>o}
theorem znA (os:Os) (args:Array Value):laidMetH Tryz.prog iV ((aW os).forCall (fun _ _=>0) ⟨#[],args,[]⟩).memory:=
 laidMetH_of_parts3 (fuel:=8) (laidMet_of_run' 8 (by kernel_rfl) (by kernel_rfl)) (by kernel_rfl) (by kernel_rfl)
end Go.Proofs.YtlepbngfdpifjaaGreatDoor
set_option maxRecDepth 100000
set_option maxHeartbeats 4000000
namespace Go.Abs
open Go.Proofs Go.RowKit Go.Lib Go.Wd
section
variable {r : Rlm} {b : Bil} (h : ChkOk r b)
include h
end
def aX (s:Txt):List Txt:=(cutC 10 s).dropLast
theorem znZ {w:Txt} (t:Txt) (h:(10:UInt8) ∉ w):aX (w++10::t)=w::aX t:=by
 unfold aX
 rw[cutC_app t h]
 cases hc:cutC 10 t with
 |nil=>exact absurd hc (mJ 10 t)
 |cons a l=>rfl
theorem zn6 {w:Txt} (h:(10:UInt8) ∉ w):aX w=[]:=by
 unfold aX;rw[cutC_word h];rfl
theorem zn0: ∀{L:List (List Txt)},cleanL L→aX (yH L)=L.map (zT 32)
 |[],_=>rfl
 |ws::L,h=>by
  have h1:(10:UInt8) ∉ zT 32 ws:=fun hm=>by
   rcases jR hm with e|⟨w,hw,e⟩
   ·exact absurd e (by decide)
   ·exact((h ws (by simp)).2 w hw).2 e
  rw[lC,znZ _ h1,zn0 (fun v hv=>h v (List.mem_cons_of_mem _ hv)),List.map_cons]
theorem zn7 {l m:List Txt} (h:l≠[]∧ ∀w∈l,(32:UInt8) ∉ w∧(10:UInt8) ∉ w) (h':m≠[]∧ ∀w∈m,(32:UInt8) ∉ w∧(10:UInt8) ∉ w) (e:zT 32 l=zT 32 m):l=m:=by
 rw[←cG h.1 (fun w hw=>(h.2 w hw).1),e,cG h'.1 (fun w hw=>(h'.2 w hw).1)]
theorem zn8 {m n:Int} (h0:0≤m) (h1:0≤n) (hm:m<1000) (hn:n<1000) (e:dec m=dec n):m=n:=by
 rw[←rM h0 (by omega),e,rM h1 (by omega)]
theorem zn9 {pt i j:Int} (h:1≤pt∧pt≤4) (hi:0≤i∧i<pt) (hj:0≤j∧j<pt) (e:i≠j):vJ pt i≠vJ pt j:=by
 have hp:pt=1∨pt=2∨pt=3∨pt=4:=by omega
 have h1:i=0∨i=1∨i=2∨i=3:=by omega
 have h2:j=0∨j=1∨j=2∨j=3:=by omega
 rcases hp with rfl|rfl|rfl|rfl<;>rcases h1 with rfl|rfl|rfl|rfl<;>rcases h2 with rfl|rfl|rfl|rfl<;>first|omega|decide+kernel
theorem zoa {N:Nms} (hN:NmsOk N) {b:Bil} (hb:BilOk N b) {i j:Int} (hi:0≤i∧i<b.pt) (hj:0≤j∧j<b.pt):
  (rows zI N b i).length=(rows zI N b j).length∧ ∀n,∀h:n<(rows zI N b i).length,∀h':n<(rows zI N b j).length,((i≠j∧(n=0∨n=6)) ↔ ¬zT 32 (rows zI N b i)[n]=zT 32 (rows zI N b j)[n]):=by
 have ci:=zmL (C:=zI) hN hb i
 have cj:=zmL (C:=zI) hN hb j
 have hp:=hb.pt
 refine⟨?_,fun n h h'=>?_⟩
 ·unfold rows;simp only[List.length_append,List.length_cons,List.length_nil]
  split<;>rfl
 ·have key:(zT 32 (rows zI N b i)[n]=zT 32 (rows zI N b j)[n]) ↔ (rows zI N b i)[n]=(rows zI N b j)[n]:=
   ⟨zn7 (ci _ (List.getElem_mem h)) (cj _ (List.getElem_mem h')),fun e=>by rw[e]⟩
  rw[key]
  clear key
  by_cases e:i=j
  ·subst e;simp
  ·have h1:b.pt>1:=by omega
   have e6: ¬[[117,110,108,101,115,115],[112,97,114,116]]++(vJ b.pt i++[[119,97,115],[112,97,105,100]])=[[117,110,108,101,115,115],[112,97,114,116]]++(vJ b.pt j++[[119,97,115],[112,97,105,100]]):=fun q=>zn9 hp hi hj e (List.append_cancel_right (List.append_cancel_left q))
   have e0: ¬dec (i+1)=dec (j+1):=fun q=>by have:=zn8 (by omega) (by omega) (by omega) (by omega) q;omega
   revert h h'
   unfold rows
   simp only[if_pos h1]
   match n with
   |0=>intro h h';simp[e,e0]
   |1=>intro h h';simp
   |2=>intro h h';simp
   |3=>intro h h';simp
   |4=>intro h h';simp
   |5=>intro h h';simp
   |6=>intro h h';simpa [e] using e6
   |n+7=>intro h h';simp
theorem zob {s:Txt} {f i:Nat} (hf:f≤i) (hi:i<s.length):s.drop f=(s.take i).drop f++s[i]::s.drop (i+1):=by
 have h1:s=s.take i++s[i]::s.drop (i+1):=by rw[←List.drop_eq_getElem_cons hi];simp
 conv=>lhs;rw[h1]
 rw[List.drop_append_of_le_length (by rw[List.length_take];omega)]
theorem zoc {s:Txt} {f i:Nat} (hf:f≤i) (hi:i<s.length):(s.take (i+1)).drop f=(s.take i).drop f++[s[i]]:=by
 rw[List.take_add_one,List.getElem?_eq_getElem hi,List.drop_append_of_le_length (by rw[List.length_take];omega)];rfl
theorem c18 (s:Txt) (hl:s.length≤1000000):Spec Tryz.prog 18 [.str s] (fun v=>v=.k (.newl 9 1 none (zE (aX s)))):=by
 refine Spec.of_awlS hf18 okf18 (by simp) fun S hS=>?_
 simp only[Qs,false_implies,implies_true,bne_iff_ne,ne_eq,Nat.reduceEqDiff,Nat.reduceBEq,List.not_mem_nil,implies_true,uu f18.eq_1,uu f18b17.eq_1,vv f18r18.eq_1,uu f18b19.eq_1,uu f18b20.eq_1,vv f18r21.eq_1,uu f18b22.eq_1,vv f18r23.eq_1,uu f18b24.eq_1,vv f18r25.eq_1,uu f18b26.eq_1]
 rw[uu f18l16.eq_1]
 refine yY (fun x:Nat×Nat×Option Bool×List Txt=>[(0,.str s),(3,.k (.own 6)),(4,.int .i64 x.2.1),(5,.int .i64 x.1)]) (fun x=>[(6,.arr 9 1 x.2.2.1 (zE x.2.2.2))])
  (fun x=>x.2.1≤x.1∧x.1≤s.length∧x.2.2.2++aX (s.drop x.2.1)=aX s∧(10:UInt8) ∉ (s.take x.1).drop x.2.1∧x.2.2.2.length≤x.1) (fun x=>s.length-x.1) (0,0,some false,[]) rfl rfl ⟨Nat.le_refl _,Nat.zero_le _,rfl,by simp,Nat.le_refl _⟩ ?_
 rintro⟨i,f,nl,D⟩ ⟨hf,hi,hD,hno,hn⟩
 simp only[] at hf hi hD hno hn
 by_cases hlt:i<s.length
 ·have c1:(i:Int)<s.length:=by omega
  have c4:IntKind.i64.wrap ((i:Int)+1)=(i:Int)+1:=wrap_in (by omega) (by omega)
  have hg:s.getD i 0=s[i]:=by rw[List.getD_eq_getElem?_getD,List.getElem?_eq_getElem hlt];rfl
  have hd:=zob hf hlt
  have ht:=zoc hf hlt
  simp only[c1,c4,hg,Qs,zcI,nZ,zee,zef,if_true,if_false,forall_eq,bne_iff_ne,ne_eq,List.mem_cons,Nat.reduceEqDiff,Nat.reduceLeDiff,Nat.reduceLT,Nat.reduceBEq,List.not_mem_nil,vv f18r3.eq_1,vv f18r4.eq_1,vv f18r5.eq_1,uu f18b6.eq_1,uu f18b7.eq_1,vv f18r8.eq_1,uu f18b9.eq_1,uu f18b10.eq_1,uu f18b11.eq_1,uu f18b12.eq_1,vv f18r13.eq_1,uu f18b14.eq_1,uu f18b15.eq_1]
  refine⟨fun h=>?_,fun h=>?_⟩
  ·have hb:s[i]=10:=UInt8.toNat_inj.1 (by have:(10:UInt8).toNat=10:=rfl;omega)
   rw[hb] at hd
   rw[hd,znZ _ hno] at hD
   refine⟨⟨by omega,by omega⟩,by rw[zK];omega,by rw[zK];omega,Next.intro (i+1,i+1,some false,D++[(s.take i).drop f]) rfl (by rw[zhZ];rfl) ⟨Nat.le_refl _,by omega,?_,?_,?_⟩ (by simp only;omega)⟩
   ·rw[List.append_assoc];exact hD
   ·simp only;rw[List.drop_eq_nil_of_le (by rw[List.length_take];omega)];simp
   ·simp only[List.length_append,List.length_singleton];omega
  ·have hb:s[i]≠10:=fun e=>h (by rw[e];rfl)
   refine Next.intro (i+1,f,nl,D) rfl rfl ⟨by simp only;omega,by simp only;omega,hD,?_,by simp only;omega⟩ (by simp only;omega)
   simp only[ht,List.mem_append,List.mem_singleton,not_or]
   exact⟨hno,fun e=>hb e.symm⟩
 ·have c1: ¬(i:Int)<s.length:=by omega
  obtain rfl:i=s.length:=by omega
  rw[List.take_length] at hno
  rw[zn6 hno,List.append_nil] at hD
  simp only[c1,Qs,zeo,zfw,zfE,if_true,List.nodup_nil,List.nodup_cons,Nat.reduceBEq,List.not_mem_nil,vv f18r1.eq_1,uu f18b2.eq_1,uu f18b12.eq_1,vv f18r13.eq_1,uu f18b14.eq_1,uu f18b15.eq_1]
  rw[hD,yT]
  exact hS
end Go.Abs
set_option maxRecDepth 100000
set_option maxHeartbeats 16000000
namespace Go.Abs
open Go.Proofs Go.RowKit Go.Lib Go.Wd
theorem zod (r:Rlm):(yM r []).2.2≠0:=by
 unfold yM;simp
theorem zoe {r:Rlm} {b:Bil} {i:Int} (h:okT r b i) (o:Bil):iR r (textG r b i) (textG r o 0)=decide (o=b):=by
 unfold iR
 rw[aS h]
 by_cases ho:okT r o 0
 ·rw[aS ho]
  by_cases e:o=b
  ·subst e;simp
  ·have e2: ¬b=o:=fun q=>e q.symm
   simp[e,e2]
 ·rw[iK ho,decide_eq_false (zod r),decide_eq_false (fun e:o=b=>ho (by rw[e];exact⟨h.1,by omega,by have:=h.2;omega⟩))]
  simp
theorem zof {r:Rlm} {b:Bil} {i j:Int} (h:okT r b i) (h':okT r b j):iR r (textG r b i) (textG r b j)=true:=by
 unfold iR
 rw[aS h,aS h'];simp
def lnR (r:Rlm) (b:Bil) (i:Int):List Txt:=(rows zI (nms r) b i).map (zT 32)
theorem zn1 {r:Rlm} {b:Bil} {i:Int} (h:okT r b i):aX (textG r b i)=lnR r b i:=by
 rw[nC h,zn0 (zmL (aF h.1.rl).nms h.1.bil i)];rfl
theorem l6 (r:Rlm) (hw:iS r) (b:Bil) (x:Int) (x0:0≤x) (x1:x≤255) (y:Int) (y0:0≤y) (y1:y≤255) (o:Bil):Spec Tryz.prog 6 [.agg (zS r),.agg (yF b),.int .u8 x,.int .u8 y,.agg (yF o)] (fun v=>v=.bool true):=by
 refine Spec.of_awlS hf6 okf6 (by simp) fun S hS=>?_
 have hL:=xZ r
 have hno:=xY r
 have hB:yF b=[.int .i64 b.dr,.int .i64 b.de,.int .i64 b.pa,.int .i64 b.su,.int .i64 b.cu,.int .i64 b.te.k,.int .i64 b.te.n,.int .i64 b.te.u,.int .i64 b.da,.int .i64 b.ci,.int .i64 b.py,.int .i64 b.ne,.int .i64 b.ra,.int .i64 b.fl,.int .i64 b.pt]:=rfl
 have hO:yF o=[.int .i64 o.dr,.int .i64 o.de,.int .i64 o.pa,.int .i64 o.su,.int .i64 o.cu,.int .i64 o.te.k,.int .i64 o.te.n,.int .i64 o.te.u,.int .i64 o.da,.int .i64 o.ci,.int .i64 o.py,.int .i64 o.ne,.int .i64 o.ra,.int .i64 o.fl,.int .i64 o.pt]:=rfl
 have hbn:=zhW b
 have hbo:=zhW o
 have g9:=c9 r []
 rw[znl] at g9
 cases hf:fewR r with
 |false=>
  rw[hf] at g9
  rw[hL] at g9 hno
  rw[hL,hB,hO]
  simp only[Qs,bne_iff_ne,ne_eq,Nat.reduceAdd,Nat.reduceEqDiff,Nat.reduceBEq,uu f6.eq_1,vv f6r46.eq_1,uu f6b47.eq_1,vv f6r48.eq_1,uu f6b49.eq_1]
  refine zC c8 ?_ (ha:=by rfl)
  simp only[Qs,if_true,Nat.reduceAdd,Nat.reduceBEq,vv f6r43.eq_1,uu f6b44.eq_1,uu f6b45.eq_1]
  refine zC g9 ?_ (ha:=by simp only[List.map_cons,List.map_nil,zD,V.norm,xT,hno]<;>rfl)
  simp only[Qs,List.nodup_nil,Nat.reduceBEq,vv f6r40.eq_1,uu f6b41.eq_1,uu f6b42.eq_1]
  exact hS
 |true=>
  obtain⟨hr,hod⟩:=zik hf hw
  have gC:=c12 r hr hod b
  rw[hf] at g9
  by_cases hc:wY r b=0
  ·have w0:(wY r b !=0)=false:=by simp[hc]
   have hok:=sP.1 hc
   have hpt:=hok.bil.pt
   have w1: ¬b.pt<1:=by omega
   obtain⟨i,ei,i0,i1⟩: ∃i,x.tmod b.pt=i∧0≤i∧i<b.pt:=⟨_,rfl,by rw[Int.tmod_eq_emod_of_nonneg x0];exact Int.emod_nonneg _ (by omega),by rw[Int.tmod_eq_emod_of_nonneg x0];exact Int.emod_lt_of_pos _ (by omega)⟩
   obtain⟨j,ej,j0,j1⟩: ∃j,y.tmod b.pt=j∧0≤j∧j<b.pt:=⟨_,rfl,by rw[Int.tmod_eq_emod_of_nonneg y0];exact Int.emod_nonneg _ (by omega),by rw[Int.tmod_eq_emod_of_nonneg y0];exact Int.emod_lt_of_pos _ (by omega)⟩
   have hi:okT r b i:=⟨hok,i0,i1⟩
   have hj:okT r b j:=⟨hok,j0,j1⟩
   have gi:=c14 r hr hod b i
   have gj:=c14 r hr hod b j
   have go:=c14 r hr hod o 0
   have li:=c18 (textG r b i) (by have:=zid hi;omega)
   have lj:=c18 (textG r b j) (by have:=zid hj;omega)
   rw[zn1 hi] at li
   rw[zn1 hj] at lj
   have ga:=c16 r hr hod (textG r b i) (textG r b j)
   rw[zof hi hj] at ga
   have gb:=c16 r hr hod (textG r b i) (textG r o 0)
   rw[zoe hi o] at gb
   obtain⟨hl1,hl2⟩:=zoa (aF hok.rl).nms hok.bil ⟨i0,i1⟩ ⟨j0,j1⟩
   have hl3:=iO zI (nms r) b i
   have eK:(lnR r b i).length=(rows zI (nms r) b i).length:=by unfold lnR;rw[List.length_map]
   have eM:(lnR r b j).length=(rows zI (nms r) b j).length:=by unfold lnR;rw[List.length_map]
   have hown: ∀n,∀h:n<(lnR r b i).length,∀h':n<(lnR r b j).length,((i≠j∧(n=0∨n=6)) ↔ ¬(lnR r b i)[n]=(lnR r b j)[n]):=fun n h h'=>by
    have e1:(lnR r b i)[n]=zT 32 ((rows zI (nms r) b i)[n]'(by omega)):=by simp only[lnR,List.getElem_map]
    have e2:(lnR r b j)[n]=zT 32 ((rows zI (nms r) b j)[n]'(by omega)):=by simp only[lnR,List.getElem_map]
    rw[e1,e2]
    exact hl2 n (by omega) (by omega)
   generalize lnR r b i=Ki at li eK hown
   generalize lnR r b j=Kj at lj eM hown
   generalize textG r b i=ti at gi li ga gb
   generalize textG r b j=tj at gj lj ga
   generalize textG r o 0=t0 at go gb
   rw[hc] at gC
   rw[hL] at g9 hno gC gi gj go ga gb
   rw[hB] at hbn gC gi gj
   rw[hO] at hbo go
   rw[hL,hB,hO]
   simp only[Qs,bne_iff_ne,ne_eq,Nat.reduceAdd,Nat.reduceEqDiff,Nat.reduceBEq,uu f6.eq_1,vv f6r46.eq_1,uu f6b47.eq_1,vv f6r48.eq_1,uu f6b49.eq_1]
   refine zC c8 ?_ (ha:=by rfl)
   simp only[Qs,if_true,Nat.reduceAdd,Nat.reduceBEq,vv f6r43.eq_1,uu f6b44.eq_1,uu f6b45.eq_1]
   refine zC g9 ?_ (ha:=by simp only[List.map_cons,List.map_nil,zD,V.norm,xT,hno]<;>rfl)
   simp only[Qs,if_true,Nat.reduceAdd,Nat.reduceBEq]
   refine zC gC ?_ (ha:=by simp only[List.map_cons,List.map_nil,zD,V.norm,xT,hno,hbn]<;>rfl)
   have wx:IntKind.i64.wrap x=x:=wrap_in (by omega) (by omega)
   have wy:IntKind.i64.wrap y=y:=wrap_in (by omega) (by omega)
   simp only[w1,wx,wy,ei,ej,Qs,zn3,zn5,if_true,if_false,ne_eq,Nat.reduceAdd,Nat.reduceBEq,Int.reduceBNe,vv f6r34.eq_1,uu f6b35.eq_1,vv f6r36.eq_1,uu f6b37.eq_1,vv f6r38.eq_1,uu f6b39.eq_1,uu f6b42.eq_1]
   refine⟨by omega,by omega,?_⟩
   refine zC gi ?_ (ha:=by simp only[List.map_cons,List.map_nil,zD,V.norm,xT,hno,hbn]<;>rfl)
   simp only[Qs,if_true,Nat.reduceAdd,Nat.reduceBEq,vv f6r32.eq_1,uu f6b33.eq_1]
   refine zC gj ?_ (ha:=by simp only[List.map_cons,List.map_nil,zD,V.norm,xT,hno,hbn]<;>rfl)
   simp only[Qs,Nat.reduceBEq,vv f6r30.eq_1,uu f6b31.eq_1]
   refine zkP li ?_ (ha:=by rfl)
   simp only[Qs,Nat.reduceBEq,vv f6r28.eq_1,uu f6b29.eq_1]
   refine zkP lj ?_ (ha:=by rfl)
   simp only[Qs,if_true,Nat.reduceAdd,Nat.reduceBEq,vv f6r25.eq_1,uu f6b26.eq_1,uu f6b27.eq_1]
   refine yV ga ?_ (ha:=by simp only[List.map_cons,List.map_nil,zD,V.norm,xT,hno]<;>rfl)
   have n1:((Ki.length:Int) !=Kj.length)=false:=by simp;omega
   have n2: ¬(Ki.length:Int)<7:=by omega
   simp only[n1,n2,zK,Qs,dJ,if_true,if_false,Nat.reduceAdd,Nat.reduceBEq]
   refine yV go ?_ (ha:=by simp only[List.map_cons,List.map_nil,zD,V.norm,xT,hno,hbo]<;>rfl)
   simp only[Qs,Nat.reduceBEq]
   refine yV gb ?_ (ha:=by simp only[List.map_cons,List.map_nil,zD,V.norm,xT,hno]<;>rfl)
   simp only[Qs,zn2,jB,aZ,zn4,znR,jD,jE,jF,jG,jH,if_true,if_false,List.nodup_nil,Nat.reduceAdd,Nat.reduceBEq,zbY,Option.bind_some,uu f6b18.eq_1,vv f6r19.eq_1,uu f6b20.eq_1,uu f6b21.eq_1,vv f6r22.eq_1,uu f6b23.eq_1,uu f6b24.eq_1]
   refine⟨fun _=>?_,fun h=>absurd (zna o b).symm h⟩
   rw[uu f6l17.eq_1]
   refine yY (fun n:Nat=>[(11,.bool true),(12,.int .i64 i),(13,.int .i64 j),(16,.k (.own 55)),(17,.k (.own 57)),(18,.int .i64 n)]) (fun _=>[(55,.arr 9 1 none (zE Ki)),(57,.arr 9 1 none (zE Kj))]) (fun n=>n≤Ki.length) (fun n=>Ki.length-n) 0 rfl rfl (Nat.zero_le _) ?_
   intro n hn
   by_cases hlt:n<Ki.length
   ·have c1:(n:Int)<Ki.length:=by omega
    have hlt':n<Kj.length:=by omega
    have c2:(n:Int)<Kj.length:=by omega
    have c4:IntKind.i64.wrap ((n:Int)+1)=(n:Int)+1:=wrap_in (by omega) (by omega)
    have ho:=hown n hlt hlt'
    by_cases hij:i=j
    ·have f1:(i !=j)=false:=by simp[hij]
     have f2:Ki[n]=Kj[n]:=Decidable.byContradiction fun q=>(ho.2 q).1 hij
     simp only[c1,c2,c4,f1,f2,zK,aY hlt,aY hlt',Qs,aZ,znR,if_true,if_false,BEq.rfl,Nat.reduceBEq,znW,vv f6r3.eq_1,uu f6b6.eq_1,vv f6r7.eq_1,uu f6b8.eq_1,vv f6r9.eq_1,uu f6b10.eq_1,uu f6b11.eq_1,uu f6b12.eq_1,uu f6b13.eq_1,vv f6r14.eq_1,uu f6b15.eq_1,uu f6b16.eq_1]
     exact Next.intro (n+1) rfl rfl (by omega) (by omega)
    ·have f1:(i !=j)=true:=by simp[hij]
     by_cases h0:n=0
     ·have f2:(Ki[n]==Kj[n])=false:=beq_false_of_ne (ho.1 ⟨hij,.inl h0⟩)
      have f3:((n:Int)==0)=true:=by simp[h0]
      simp only[c1,c2,c4,f1,f2,f3,zK,aY hlt,aY hlt',Qs,aZ,znR,if_true,if_false,Nat.reduceBEq,znV,vv f6r3.eq_1,uu f6b6.eq_1,vv f6r7.eq_1,uu f6b8.eq_1,vv f6r9.eq_1,uu f6b10.eq_1,uu f6b11.eq_1,uu f6b12.eq_1,uu f6b13.eq_1,vv f6r14.eq_1,uu f6b15.eq_1,uu f6b16.eq_1]
      exact Next.intro (n+1) rfl rfl (by omega) (by omega)
     ·have f3:((n:Int)==0)=false:=beq_false_of_ne (by omega)
      by_cases h6:n=6
      ·have f2:(Ki[n]==Kj[n])=false:=beq_false_of_ne (ho.1 ⟨hij,.inr h6⟩)
       have f4:((n:Int)==6)=true:=by simp[h6]
       simp only[c1,c2,c4,f1,f2,f3,f4,zK,aY hlt,aY hlt',Qs,aZ,znR,if_true,if_false,Nat.reduceBEq,znV,vv f6r3.eq_1,uu f6b6.eq_1,vv f6r7.eq_1,uu f6b8.eq_1,vv f6r9.eq_1,uu f6b10.eq_1,uu f6b11.eq_1,uu f6b12.eq_1,uu f6b13.eq_1,vv f6r14.eq_1,uu f6b15.eq_1,uu f6b16.eq_1]
       exact Next.intro (n+1) rfl rfl (by omega) (by omega)
      ·have f4:((n:Int)==6)=false:=beq_false_of_ne (by omega)
       have f2:Ki[n]=Kj[n]:=Decidable.byContradiction fun q=>by have:=(ho.2 q).2;omega
       simp only[c1,c2,c4,f1,f2,f3,f4,zK,aY hlt,aY hlt',Qs,aZ,znR,if_true,if_false,BEq.rfl,Nat.reduceBEq,znW,vv f6r3.eq_1,uu f6b6.eq_1,vv f6r7.eq_1,uu f6b8.eq_1,vv f6r9.eq_1,uu f6b10.eq_1,uu f6b11.eq_1,uu f6b12.eq_1,uu f6b13.eq_1,vv f6r14.eq_1,uu f6b15.eq_1,uu f6b16.eq_1]
       exact Next.intro (n+1) rfl rfl (by omega) (by omega)
   ·have c1: ¬(n:Int)<Ki.length:=by omega
    simp only[c1,zK,Qs,if_true,List.nodup_nil,Nat.reduceBEq,vv f6r1.eq_1,uu f6b2.eq_1,uu f6b13.eq_1,vv f6r14.eq_1,uu f6b15.eq_1,uu f6b16.eq_1]
    exact hS
  ·have w0:(wY r b !=0)=true:=by simp[hc]
   rw[hL] at g9 hno gC
   rw[hB] at hbn gC
   rw[hL,hB,hO]
   simp only[Qs,bne_iff_ne,ne_eq,Nat.reduceAdd,Nat.reduceEqDiff,Nat.reduceBEq,uu f6.eq_1,vv f6r46.eq_1,uu f6b47.eq_1,vv f6r48.eq_1,uu f6b49.eq_1]
   refine zC c8 ?_ (ha:=by rfl)
   simp only[Qs,if_true,Nat.reduceAdd,Nat.reduceBEq,vv f6r43.eq_1,uu f6b44.eq_1,uu f6b45.eq_1]
   refine zC g9 ?_ (ha:=by simp only[List.map_cons,List.map_nil,zD,V.norm,xT,hno]<;>rfl)
   simp only[Qs,if_true,Nat.reduceAdd,Nat.reduceBEq]
   refine zC gC ?_ (ha:=by simp only[List.map_cons,List.map_nil,zD,V.norm,xT,hno,hbn]<;>rfl)
   simp only[w0,Qs,if_true,if_false,List.nodup_nil,Nat.reduceBEq,vv f6r40.eq_1,uu f6b41.eq_1,uu f6b42.eq_1]
   exact hS
end Go.Abs
set_option maxRecDepth 100000
namespace Go.Proofs.YtlepbngfdpifjaaGreatDoor
open Go.Abs Go.RowKit Go.ChangeShapes Go.WideShapes Go.ChangeAt Go.WideMaps Go.WideElems Go.Wd
theorem zog (xs:List V) (h:mF Tryz.prog [31,35,5,5,35] xs):Go.Abs.Spec Tryz.prog 6 xs (fun r=>r=.bool true):=by
 match xs,h with
 |[a0,a1,a2,a3,a4],⟨⟨_,_,h0,q0⟩,⟨_,_,h1,q1⟩,⟨_,_,h2,q2⟩,⟨_,_,h3,q3⟩,⟨_,_,h4,q4⟩,_⟩=>
  obtain⟨x0,e0,w0⟩:=znu h0
  obtain⟨x1,e1⟩:=znY h1
  obtain⟨x2,e2,w2⟩:=znX Tryz.underlying5 h2
  obtain⟨x3,e3,w3⟩:=znX Tryz.underlying5 h3
  obtain⟨x4,e4⟩:=znY h4
  rw[q0,q1,q2,q3,q4,e0,e1,e2,e3,e4]
  exact l6 x0 w0 x1 x2 w2.1 w2.2 x3 w3.1 w3.2 x4
theorem zoh (os:Os) {H:Type} (enc:TypeId×Value→H): ∃lW,DataW.whole enc Tryz.prog ((aW os).forCall (fun _ _=>0) ⟨#[],#[Value.agg #[.slice none 0 0,.slice none 0 0,.slice none 0 0,.slice none 0 0,.slice none 0 0,.slice none 0 0,.slice none 0 0,.slice none 0 0],.agg #[.int .i64 0,.int .i64 0,.int .i64 0,.int .i64 0,.int .i64 0,.int .i64 0,.int .i64 0,.int .i64 0,.int .i64 0,.int .i64 0,.int .i64 0,.int .i64 0,.int .i64 0,.int .i64 0,.int .i64 0],.int .u8 0,.int .u8 0,.agg #[.int .i64 0,.int .i64 0,.int .i64 0,.int .i64 0,.int .i64 0,.int .i64 0,.int .i64 0,.int .i64 0,.int .i64 0,.int .i64 0,.int .i64 0,.int .i64 0,.int .i64 0,.int .i64 0,.int .i64 0]],[]⟩).memory Tryz.f6.params.toList Rows.wordingPartsSpec.vars false #[Value.agg #[.slice none 0 0,.slice none 0 0,.slice none 0 0,.slice none 0 0,.slice none 0 0,.slice none 0 0,.slice none 0 0,.slice none 0 0],.agg #[.int .i64 0,.int .i64 0,.int .i64 0,.int .i64 0,.int .i64 0,.int .i64 0,.int .i64 0,.int .i64 0,.int .i64 0,.int .i64 0,.int .i64 0,.int .i64 0,.int .i64 0,.int .i64 0,.int .i64 0],.int .u8 0,.int .u8 0,.agg #[.int .i64 0,.int .i64 0,.int .i64 0,.int .i64 0,.int .i64 0,.int .i64 0,.int .i64 0,.int .i64 0,.int .i64 0,.int .i64 0,.int .i64 0,.int .i64 0,.int .i64 0,.int .i64 0,.int .i64 0]].toList 8=some ([.agg [.nil,.nil,.nil,.nil,.nil,.nil,.nil,.nil],.agg [.lit (.int .i64 0),.lit (.int .i64 0),.lit (.int .i64 0),.lit (.int .i64 0),.lit (.int .i64 0),.agg [.lit (.int .i64 0),.lit (.int .i64 0),.lit (.int .i64 0)],.lit (.int .i64 0),.lit (.int .i64 0),.lit (.int .i64 0),.lit (.int .i64 0),.lit (.int .i64 0),.lit (.int .i64 0),.lit (.int .i64 0)],.lit (.int .u8 0),.lit (.int .u8 0),.agg [.lit (.int .i64 0),.lit (.int .i64 0),.lit (.int .i64 0),.lit (.int .i64 0),.lit (.int .i64 0),.agg [.lit (.int .i64 0),.lit (.int .i64 0),.lit (.int .i64 0)],.lit (.int .i64 0),.lit (.int .i64 0),.lit (.int .i64 0),.lit (.int .i64 0),.lit (.int .i64 0),.lit (.int .i64 0),.lit (.int .i64 0)]],[],lW):=
 ⟨[],by kernel_rfl⟩
theorem zoi (os:Os) (started:os.Started) (H:Type) (enc:TypeId×Value→H) (F:Stop.Interp):
  ReturnsInHanded {} Tryz.checked os 6 .any ((OpenSpec.ofChange Rows.wordingPartsSpec).preRow enc Tryz.prog Tryz.f6 Rows.wordingPartsRow.domain false Rows.wordingPartsRow.laid) (((OpenSpec.ofChange Rows.wordingPartsSpec).at F).post enc Tryz.prog Tryz.f6 false true false false):=by
 obtain⟨lW,hx⟩:=zoh os enc
 refine returnsInHanded_of_row (C:=Tryz.checked) (s:=OpenSpec.ofChange Rows.wordingPartsSpec) own started (by kernel_rfl) Tryz.func6
  (witness_row_atRef (enc:=enc) (C:=Tryz.checked) false (aW os) #[Value.agg #[.slice none 0 0,.slice none 0 0,.slice none 0 0,.slice none 0 0,.slice none 0 0,.slice none 0 0,.slice none 0 0,.slice none 0 0],.agg #[.int .i64 0,.int .i64 0,.int .i64 0,.int .i64 0,.int .i64 0,.int .i64 0,.int .i64 0,.int .i64 0,.int .i64 0,.int .i64 0,.int .i64 0,.int .i64 0,.int .i64 0,.int .i64 0,.int .i64 0],.int .u8 0,.int .u8 0,.agg #[.int .i64 0,.int .i64 0,.int .i64 0,.int .i64 0,.int .i64 0,.int .i64 0,.int .i64 0,.int .i64 0,.int .i64 0,.int .i64 0,.int .i64 0,.int .i64 0,.int .i64 0,.int .i64 0,.int .i64 0]] rfl (by kernel_rfl) (by kernel_rfl) (by kernel_rfl)
   (OpenSpec.preRow_of_cond 8 hx (by kernel_rfl) (fun k hk=>by cases hk) (by kernel_rfl) (znA os _))) ?_
 intro W base args ds gs before hval hW _ hcond _ hL hsh _
 refine zkL (C:=Tryz.checked) (T:=iU) (tb:=4) (s:=Rows.wordingPartsSpec) znx zny ?_ kids full rfl ?_ ?_ Tryz.underlying4 ?_ W base args ds gs before hval hW (znz hL hsh)
 ·rw[Tryz.params6];decide
 ·intro ds hds
  rw[Tryz.params6] at hds
  match ds,hds with
  |[a0,a1,a2,a3,a4],_=>rfl
 ·kernel_rfl
 ·intro xs hxs
  rw[Tryz.params6] at hxs
  exact zog xs hxs
theorem WordingParts_row:Rows.WordingPartsSaid:=
 OpenClaim.holds_of_cond 6 Tryz.f6 rfl rfl rfl rfl rfl rfl rfl ⟨rfl,rfl,rfl,rfl,rfl⟩ rfl rfl rfl rfl rfl (by kernel_rfl) Tryz.func6 (by kernel_rfl)
  (of_decide_eq_true (by kernel_rfl)) (by unfold Func.isWrapper;first|(rw[if_pos (by decide+kernel)];kernel_rfl)|(rw[if_neg (by decide+kernel)];exact⟨rfl,rfl⟩))
  (fun os started H enc _ F=>by rw[OpenClaim.pre_eq_preRow];exact zoi os started H enc F)
theorem WordingParts_holds:Rows.WordingPartsCardSaid:=
 Claim7.holds_tied_plain_at .later [] _ _ _ _ WordingParts_row (fun _ h=>by cases h) (by kernel_rfl) (fun _ h=>by cases h) wordingParts_row_tie rfl ⟨rfl,rfl⟩ (by kernel_rfl) rfl
  (fun f fn hf hfn=>by
   obtain rfl:f=6:=Option.some.inj ((show Tryz.prog.funcNamed "allonge/allongelaw10.WordingParts" =some 6 by kernel_rfl).symm.trans hf)|>.symm
   obtain rfl:fn=Tryz.f6:=(Option.some.inj (Tryz.func6.symm.trans hfn)).symm
   exact⟨by kernel_rfl,fun j t ht=>by
    rw[Tryz.params6] at ht
    have hm:t∈[31,35,5,5,35]:=by simpa using Array.mem_of_getElem? ht
    have hall:([31,35,5,5,35].all fun u=> !Tryz.prog.wantsStandIn u)=true:=by kernel_rfl
    exact(show Tryz.prog.wantsStandIn t=false by simpa using List.all_eq_true.1 hall t hm)⟩)
  (by kernel_rfl)
end Go.Proofs.YtlepbngfdpifjaaGreatDoor
