/- A part of the proof; the last text states what is proved. -/
import Derived.Test.YtlepbngfdpifjaaGreatDoorP7
import Derived.DataShut
import Derived.Test.YtlepbngfdpifjaaGreatDoorRows
import Derived.Test.YtlepbngfdpifjaaGreatDoorCards
import Derived.Test.YtlepbngfdpifjaaGreatDoorTie
import Derived.ProofKit
import Derived.LaidMore
import Derived.Lib.LaidTab
import Derived.Lib.LaidU8
import Derived.OpenShut
import Derived.SevenTiedAt
import Derived.Deep.DeepHandedRow
import Derived.Deep.DeepWitnessRowRef
import Derived.Shelf.Vars
set_option linter.unusedVariables false
set_option linter.unusedSimpArgs false
set_option maxRecDepth 100000
namespace Go.Abs
open Go.RowKit Go.Proofs Go.Wd
theorem iT {α:Type} {S:List C→Prop} (enc:α→List C) (Q:α→Prop) (hS: ∀r,S r→ ∃a,r=enc a∧Q a): ∀(rows:List (List C)),(∀r∈rows,S r)→ ∃l:List α,rows=l.map enc∧ ∀a∈l,Q a
 |[],_=>⟨[],rfl,fun _ h=>by cases h⟩
 |r::rows,h=>by
  obtain⟨a,ha,hq⟩:=hS r (h r (by simp))
  obtain⟨l,hl,hQ⟩:=iT enc Q hS rows (fun x hx=>h x (by simp[hx]))
  refine⟨a::l,by rw[ha,hl];rfl,fun x hx=>?_⟩
  rcases List.mem_cons.1 hx with rfl|hx
  ·exact hq
  ·exact hQ x hx
theorem aU {m:Int} (h:(Lit.int .i64 m).wf=true):xM m:=by
 have:=(Lit.wf_int_iff _ _).1 h
 simpa [xM,IntKind.min,IntKind.max,IntKind.signed,IntKind.bits] using this
theorem aV {n t:Nat} {r:List C} (ht:Tryz.prog.underlying t=some (.slice 3)) (hr:yC Tryz.prog n t r): ∃l:List Int,r=[zB 1 (zN l)]∧ ∀m∈l,xM m:=by
 obtain⟨m,rows,_,rfl,_,h⟩:=uC ht hr
 obtain⟨l,rfl,hQ⟩:=iT (fun z:Int=>[C.int .i64 z]) xM (fun r hr=>by obtain⟨x,rfl,hx⟩:=wO Tryz.underlying3 hr;exact⟨x,rfl,aU hx⟩) rows h
 exact⟨l,by rw[show Tryz.prog.cellsOf 3=1 by kernel_rfl];rfl,hQ⟩
theorem znm {n:Nat} {r:List C} (hr:yC Tryz.prog n 22 r): ∃l:List Txt,r=[zB 1 (zE l)]:=by
 obtain⟨m,rows,_,rfl,_,h⟩:=uC Tryz.underlying22 hr
 obtain⟨l,rfl⟩:=tP (fun s:Txt=>[C.str s]) (fun r hr=>by obtain⟨x,rfl,_⟩:=mH Tryz.underlying9 hr;exact⟨x,rfl⟩) rows h
 exact⟨l,by rw[show Tryz.prog.cellsOf 9=1 by kernel_rfl];rfl⟩
theorem znn {S:TypeId→List C→Prop} {a b c d e f:TypeId} {rs:List (List C)} (h:uW S [a,b,c,d,e,f] rs): ∃x y z u v w,rs=[x,y,z,u,v,w]∧S a x∧S b y∧S c z∧S d u∧S e v∧S f w:=by
 match rs,h with
 |[x,y,z,u,v,w],⟨h1,h2,h3,h4,h5,h6,_⟩=>exact⟨x,y,z,u,v,w,rfl,h1,h2,h3,h4,h5,h6⟩
theorem zno {S:TypeId→List C→Prop} {a b c d e f g k:TypeId} {rs:List (List C)} (h:uW S [a,b,c,d,e,f,g,k] rs): ∃x y z u v w p q,rs=[x,y,z,u,v,w,p,q]∧S a x∧S b y∧S c z∧S d u∧S e v∧S f w∧S g p∧S k q:=by
 match rs,h with
 |[x,y,z,u,v,w,p,q],⟨h1,h2,h3,h4,h5,h6,h7,h8,_⟩=>exact⟨x,y,z,u,v,w,p,q,rfl,h1,h2,h3,h4,h5,h6,h7,h8⟩
theorem znp {S:TypeId→List C→Prop} {a b c d e:TypeId} {rs:List (List C)} (h:uW S [a,b,c,d,e] rs): ∃x y z u v,rs=[x,y,z,u,v]∧S a x∧S b y∧S c z∧S d u∧S e v:=by
 match rs,h with
 |[x,y,z,u,v],⟨h1,h2,h3,h4,h5,_⟩=>exact⟨x,y,z,u,v,rfl,h1,h2,h3,h4,h5⟩
theorem znq {n:Nat} {r:List C} (hr:yC Tryz.prog n 91 r): ∃c:Cty,r=xL c∧ ∀m∈c.feasts,xM m:=by
 obtain⟨m,rs,_,rfl,h⟩:=tN Tryz.underlying91 hr
 obtain⟨x,y,z,u,v,w,rfl,h1,h2,h3,h4,h5,h6⟩:=znn h
 obtain⟨a,rfl,_⟩:=mH Tryz.underlying9 h1
 obtain⟨b,rfl,_⟩:=wO Tryz.underlying3 h2
 obtain⟨c,rfl,_⟩:=wO Tryz.underlying3 h3
 obtain⟨d,rfl,_⟩:=aV Tryz.underlying89 h4
 obtain⟨e,rfl,he⟩:=aV Tryz.underlying89 h5
 obtain⟨f,rfl,_⟩:=aV Tryz.underlying89 h6
 exact⟨⟨a,b,c,d,e,f⟩,rfl,he⟩
theorem znr {n:Nat} {r:List C} (hr:yC Tryz.prog n 94 r): ∃c:Frm,r=tQ c:=by
 obtain⟨m,rs,_,rfl,h⟩:=tN Tryz.underlying94 hr
 obtain⟨x,y,z,rfl,h1,h2,h3⟩:=jP h
 obtain⟨a,rfl,_⟩:=mH Tryz.underlying9 h1
 obtain⟨b,rfl,_⟩:=wO Tryz.underlying3 h2
 obtain⟨c,rfl,_⟩:=wO Tryz.underlying3 h3
 exact⟨⟨a,b,c⟩,rfl⟩
theorem zil {n t:Nat} {fs:Array Field} {r:List C} (ht:Tryz.prog.underlying t=some (.struct fs)) (hf:fs.toList.map (·.type)=[3,3,3]) (hr:yC Tryz.prog n t r): ∃c:T3,r=tU c:=by
 obtain⟨m,rs,_,rfl,h⟩:=tN ht hr
 rw[hf] at h
 obtain⟨x,y,z,rfl,h1,h2,h3⟩:=jP h
 obtain⟨a,rfl,_⟩:=wO Tryz.underlying3 h1
 obtain⟨b,rfl,_⟩:=wO Tryz.underlying3 h2
 obtain⟨c,rfl,_⟩:=wO Tryz.underlying3 h3
 exact⟨⟨a,b,c⟩,rfl⟩
theorem zns {n:Nat} {r:List C} (hr:yC Tryz.prog n 139 r): ∃c:T5,r=oU c∧(xM c.c∧xM c.d):=by
 obtain⟨m,rs,_,rfl,h⟩:=tN Tryz.underlying139 hr
 obtain⟨x,y,z,u,v,rfl,h1,h2,h3,h4,h5⟩:=znp h
 obtain⟨a,rfl,_⟩:=wO Tryz.underlying3 h1
 obtain⟨b,rfl,_⟩:=wO Tryz.underlying3 h2
 obtain⟨c,rfl,hc⟩:=wO Tryz.underlying3 h3
 obtain⟨d,rfl,hd⟩:=wO Tryz.underlying3 h4
 obtain⟨e,rfl,_⟩:=wO Tryz.underlying3 h5
 exact⟨⟨a,b,c,d,e⟩,rfl,aU hc,aU hd⟩
theorem znt {n:Nat} {r:List C} (hr:yC Tryz.prog n 98 r): ∃z:Int,r=[.int .i64 z]:=by
 obtain⟨m,rs,_,rfl,h⟩:=tN Tryz.underlying98 hr
 match rs,h with
 |[x],⟨h1,_⟩=>
  obtain⟨a,rfl,_⟩:=wO Tryz.underlying3 h1
  exact⟨a,rfl⟩
theorem tyz:TermTypes Tryz.prog 3 4 9 135 133 137 100 132 99 102 where
 i:=Tryz.underlying3
 b:=Tryz.underlying4
 s:=Tryz.underlying9
 t:=⟨_,Tryz.underlying135,rfl⟩
 lt:=⟨Tryz.underlying133,by kernel_rfl⟩
 r:=⟨_,Tryz.underlying137,rfl⟩
 lr:=⟨Tryz.underlying100,by kernel_rfl⟩
 c:=⟨_,Tryz.underlying132,rfl⟩
 lc:=⟨Tryz.underlying99,by kernel_rfl⟩
 o:=⟨_,Tryz.underlying102,rfl⟩
theorem znu {n:Nat} {r:List C} (hr:yC Tryz.prog n 31 r): ∃x:Rlm,uX Tryz.prog 31 r=.agg (zS x)∧iS x:=by
 obtain⟨m,rs,_,rfl,h⟩:=tN Tryz.underlying31 hr
 obtain⟨a,b,c,d,e,f,g,k,rfl,h1,h2,h3,h4,h5,h6,h7,h8⟩:=zno h
 obtain⟨xa,rfl⟩:=znm h1
 obtain⟨_,rb,_,rfl,_,hb⟩:=uC Tryz.underlying23 h2
 obtain⟨xb,rfl,qb⟩:=iT xL (fun c=> ∀m∈c.feasts,xM m) (fun r hr=>znq hr) rb hb
 obtain⟨_,rc,_,rfl,_,hc⟩:=uC Tryz.underlying24 h3
 obtain⟨xc,rfl⟩:=tP (fun z:Int=>[C.int .i64 z]) (fun r hr=>znt hr) rc hc
 obtain⟨_,rd,_,rfl,_,hd⟩:=uC Tryz.underlying25 h4
 obtain⟨xd,rfl⟩:=tP tQ (fun r hr=>znr hr) rd hd
 obtain⟨_,re,_,rfl,_,he⟩:=uC Tryz.underlying26 h5
 obtain⟨xe,rfl⟩:=tP wF (fun r hr=>zkW tyz hr) re he
 obtain⟨_,rf,_,rfl,_,hf⟩:=uC Tryz.underlying27 h6
 obtain⟨xf,rfl⟩:=tP tU (fun r hr=>zil Tryz.underlying116 rfl hr) rf hf
 obtain⟨_,rg,_,rfl,_,hg⟩:=uC Tryz.underlying28 h7
 obtain⟨xg,rfl,qg⟩:=iT oU (fun x=>xM x.c∧xM x.d) (fun r hr=>zns hr) rg hg
 obtain⟨_,rk,_,rfl,_,hk⟩:=uC Tryz.underlying29 h8
 obtain⟨xk,rfl⟩:=tP tU (fun r hr=>zil Tryz.underlying141 rfl hr) rk hk
 refine⟨⟨xa,xb,xc,xd,xe,xf,xg,xk⟩,?_,qb,qg⟩
 simp only[uX,Tryz.underlying31,show Tryz.prog.cellsOf 91=6 by kernel_rfl,show Tryz.prog.cellsOf 98=1 by kernel_rfl,show Tryz.prog.cellsOf 94=3 by kernel_rfl,show Tryz.prog.cellsOf 102=4 by kernel_rfl,show Tryz.prog.cellsOf 116=3 by kernel_rfl,show Tryz.prog.cellsOf 139=5 by kernel_rfl,show Tryz.prog.cellsOf 141=3 by kernel_rfl]
 rfl
theorem zoT {n:Nat} {r:List C} (hr:yC Tryz.prog n 35 r): ∃x:Bil,uX Tryz.prog 35 r=.agg (yF x):=by
 obtain⟨m,rs,_,rfl,h⟩:=tN Tryz.underlying35 hr
 match rs,h with
 |[x0,x1,x2,x3,x4,x5,x6,x7,x8,x9,x10,x11,x12],⟨h0,h1,h2,h3,h4,h5,h6,h7,h8,h9,h10,h11,h12,_⟩=>
  obtain⟨m2,rs2,_,rfl,k⟩:=tN Tryz.underlying33 h5
  obtain⟨y,z,u,rfl,k1,k2,k3⟩:=jP k
  obtain⟨t1,rfl,_⟩:=wO Tryz.underlying3 k1
  obtain⟨t2,rfl,_⟩:=wO Tryz.underlying3 k2
  obtain⟨t3,rfl,_⟩:=wO Tryz.underlying3 k3
  obtain⟨a0,rfl,_⟩:=wO Tryz.underlying3 h0
  obtain⟨a1,rfl,_⟩:=wO Tryz.underlying3 h1
  obtain⟨a2,rfl,_⟩:=wO Tryz.underlying3 h2
  obtain⟨a3,rfl,_⟩:=wO Tryz.underlying3 h3
  obtain⟨a4,rfl,_⟩:=wO Tryz.underlying3 h4
  obtain⟨a6,rfl,_⟩:=wO Tryz.underlying3 h6
  obtain⟨a7,rfl,_⟩:=wO Tryz.underlying3 h7
  obtain⟨a8,rfl,_⟩:=wO Tryz.underlying3 h8
  obtain⟨a9,rfl,_⟩:=wO Tryz.underlying3 h9
  obtain⟨a10,rfl,_⟩:=wO Tryz.underlying3 h10
  obtain⟨a11,rfl,_⟩:=wO Tryz.underlying3 h11
  obtain⟨a12,rfl,_⟩:=wO Tryz.underlying3 h12
  exact⟨⟨a0,a1,a2,a3,a4,⟨t1,t2,t3⟩,a6,a7,a8,a9,a10,a11,a12⟩,by simp only[uX,Tryz.underlying35];rfl⟩
end Go.Abs
set_option maxRecDepth 100000
namespace Go.Abs
theorem zoU {m:Int} (h:(Lit.int .i64 m).wf=true): -9223372036854775808≤m∧m≤9223372036854775807:=by
 have:=(Lit.wf_int_iff _ _).1 h
 simpa [IntKind.min,IntKind.max,IntKind.signed,IntKind.bits] using this
section
variable {P : Program}
theorem zoV {n:Nat} {t:TypeId} {r:List C} (ht:P.underlying t=some (.int .i64)) (hr:yC P n t r): ∃m:Int,uX P t r=.int .i64 m∧(-9223372036854775808≤m∧m≤9223372036854775807):=by
 obtain⟨m,rfl,h⟩:=wO ht hr
 exact⟨m,by simp only[uX,ht],zoU h⟩
theorem znv {n:Nat} {t:TypeId} {r:List C} (ht:P.underlying t=some .string) (hr:yC P n t r): ∃s:List UInt8,uX P t r=.str s∧s.length≤9223372036854775807:=by
 obtain⟨s,rfl,h⟩:=mH ht hr
 exact⟨s,by simp only[uX,ht],h⟩
end
theorem znw {H:Type} {enc:TypeId×Value→H} {P:Program} {w:World} {base:Nat} {sp:Nat→Bool} {held:Bool} {fuel:Nat} {t:TypeId} {ms:Array (String×TypeId)} {cs:List Value} {x:DataW H×List MemPlace}
  (ht:P.underlying t=some (.interface ms)) (h:DataW.trod enc P w base sp held fuel t cs=some x): ∃v,cs=[v]∧(v=.nilIface∨ ∃t p,v=.iface t p):=by
 cases fuel with
 |zero=>simp[DataW.trod] at h
 |succ n=>
  unfold DataW.trod at h
  rw[ht] at h
  split at h<;>simp_all
end Go.Abs
namespace Go.Proofs.YtlepbngfdpifjaaGreatDoor
open Go.Abs Go.RowKit Go.ChangeShapes Go.WideShapes Go.ChangeAt Go.WideMaps Go.WideElems Go.Wd
theorem own:ownKnob Tryz.prog.godebug=none:=by kernel_rfl
theorem kids:Kids Tryz.prog (· <Tryz.prog.types.size):=kids_rows (by kernel_rfl) (by kernel_rfl)
theorem full: ∀t e,t<Tryz.prog.types.size→Tryz.prog.underlying t=some (.slice e)→0<Tryz.prog.cellsOf e:=slices_full_of Tryz.prog (by kernel_rfl)
def iU:List TypeId:=[3,4,5,9,22,23,24,25,26,27,28,29,31,33,35,89,91,94,98,99,100,102,116,132,133,135,137,139,141]
theorem znx:qP Tryz.prog iU=true:=by kernel_rfl
theorem zny: ∀t∈iU,t<Tryz.prog.types.size:=by
 have:iU.all (fun t=>decide (t<Tryz.prog.types.size))=true:=by kernel_rfl
 simpa using this
abbrev iV:List (String×DataW Unit):=Rows.wordingBackRow.laid
theorem zim {W:World} {name:String} {g:Nat} {cs:Array Value} (hn:Tryz.prog.globalNamed name=some g) (hv:W.var? Tryz.prog name=some cs): ∃t f,W.heap[g]?=some (.cells cs t f):=by
 unfold World.var? at hv
 rw[hn,Option.bind_some] at hv
 split at hv
 ·rename_i h
  cases hv
  exact⟨_,_,h⟩
 ·cases hv
theorem zin {W:World} (h:laidMet Tryz.prog iV W) {name:String} {g:Nat} {d:DataW Unit} (hn:Tryz.prog.globalNamed name=some g) (ht:(Tryz.prog.globals[g]?).map (·.type)=some 82) (hm:(name,d)∈iV):
  g<W.heap.size∧ ∃b,W.heap[g]?=some b∧cell0 (fun v=>v=.nilIface∨ ∃t p,v=.iface t p) b:=by
 obtain⟨g',t',cs,fuel,p,hg,hty,hvar,hd⟩:=Lib.laidMet.reads h hm
 obtain rfl:=Option.some.inj (hn.symm.trans hg)
 obtain rfl:=Option.some.inj (ht.symm.trans hty)
 obtain⟨v,e,hv⟩:=znw Tryz.underlying82 hd
 obtain⟨t,f,hb⟩:=zim hn hvar
 refine⟨(Array.getElem?_eq_some_iff.1 hb).1,_,hb,v,?_,hv⟩
 rw[←Array.getElem?_toList,e];rfl
theorem znz {W:World} (hL:laidMetH Tryz.prog iV W) (hsh:W.ShapedOpen Tryz.prog):aZ (Go.Abs.base W):=by
 rw[MakeChecks.laidMetH_plain _ _ _ (by kernel_rfl)] at hL
 refine⟨(fun _ _ h=>nomatch h),fun g p hg=>?_⟩
 match g,hg with
 |0,hg=>
  cases hg
  obtain⟨m,hm⟩:=cell_of_shapedOpen_int (zero:= #[.int .i64 0]) (t:=3) (k:=.i64) (g:=0) hsh (of_decide_eq_true (by kernel_rfl)) (by kernel_rfl) rfl (by kernel_rfl) (by kernel_rfl) Tryz.underlying3
  unfold World.cell? at hm
  cases hb:W.heap[0]? with
  |none=>rw[hb] at hm;simp at hm
  |some ob=>
   refine⟨(Array.getElem?_eq_some_iff.1 hb).1,ob,rfl,?_⟩
   rw[hb] at hm
   cases ob with
   |cells cs t f=>exact⟨_,by simpa using hm,m,rfl⟩
   |_=>simp at hm
 |4,hg=>cases hg;exact zin hL (name:= "strconv.ErrSyntax") (by kernel_rfl) (by kernel_rfl) ((.tail _ (.tail _ (.tail _ (.tail _ (.tail _ (.head _)))))))
 |5,hg=>cases hg;exact zin hL (name:= "strconv.ErrRange") (by kernel_rfl) (by kernel_rfl) ((.tail _ (.tail _ (.tail _ (.tail _ (.head _))))))
 |1,hg=>
  cases hg
  obtain⟨g',t',cs,fuel,p,hg',hty,hvar,hd⟩:=Lib.laidMet.reads hL (n:= "internal/strconv.uint64pow10") ((.tail _ (.tail _ (.head _))))
  have hn:Tryz.prog.globalNamed "internal/strconv.uint64pow10" =some 1:=by kernel_rfl
  obtain rfl:=Option.some.inj (hn.symm.trans hg')
  have hT:(Tryz.prog.globals[1]?).map (·.type)=some 174:=by kernel_rfl
  obtain rfl:=Option.some.inj (hT.symm.trans hty)
  obtain⟨t,f,hb⟩:=zim hn hvar
  refine⟨(Array.getElem?_eq_some_iff.1 hb).1,_,hb,?_⟩
  have hd':DataW.trod (fun _=>()) Tryz.prog W 0 (fun _=>true) false fuel 174 cs.toList=some (Lib.tabData .u64 zaa,p):=hd
  have e:=Lib.cells_of_tab Tryz.underlying174 Tryz.underlying157 (by kernel_rfl) (by kernel_rfl) hd'
  show cs=_
  rw[←e]
noncomputable def aW (os:Os):World:=
 {World.doorLaid Tryz.prog 400 os with heap:=(World.doorLaid Tryz.prog 400 os).heap.modify 2 fun
  | .cells _ t frozen=> .cells (Lib.firstTab.map fun z=>Value.int .u8 z).toArray t frozen
  |o=>o}
theorem znA (os:Os) (args:Array Value):laidMetH Tryz.prog iV ((aW os).forCall (fun _ _=>0) ⟨#[],args,[]⟩).memory:=
 laidMetH_of_parts3 (fuel:=8) (laidMet_of_run' 8 (by kernel_rfl) (by kernel_rfl)) (by kernel_rfl) (by kernel_rfl)
end Go.Proofs.YtlepbngfdpifjaaGreatDoor
set_option maxRecDepth 100000
set_option maxHeartbeats 4000000
namespace Go.Abs
open Go.Proofs Go.RowKit Go.Lib Go.Wd
section
variable {r : Rlm} {b : Bil} (h : ChkOk r b)
include h
end
end Go.Abs
set_option maxRecDepth 100000
set_option maxHeartbeats 4000000
namespace Go.Abs
open Go.Proofs Go.RowKit Go.Lib Go.Wd Go.Wire
theorem zoW {d:Nat} (h:d<10):List.drop d (48::List.take d [49,50,51,52,53,54,55,56,57])=([UInt8.ofNat (48+d)]:Txt):=by
 match d,h with
 |0,_=>rfl
 |1,_=>rfl
 |2,_=>rfl
 |3,_=>rfl
 |4,_=>rfl
 |5,_=>rfl
 |6,_=>rfl
 |7,_=>rfl
 |8,_=>rfl
 |9,_=>rfl
theorem zoX (u:Nat) (out:Txt):Go.Lib.decDigits u++out=if u/10=0 then UInt8.ofNat (48+u % 10)::out else Go.Lib.decDigits (u/10)++UInt8.ofNat (48+u % 10)::out:=by
 by_cases h:u<10
 ·rw[mI h,if_pos (by omega),Nat.mod_eq_of_lt h];rfl
 ·rw[if_neg (by omega),jQ h,List.append_assoc];rfl
theorem c94 (n:Int) (hn:inI n):Spec Tryz.prog 94 [.int .i64 n] (fun r=>r=.str (wI n)):=by
 refine Spec.of_awlS hf94 okf94 (by simp) fun S hS=>?_
 simp only[Qs,Nat.reduceBEq,Q94]
 rw[uu f94l25.eq_1]
 refine yY (fun x:Nat×Int×Txt=>[(0,.int .i64 n),(3,.str x.2.2),(4,.int .i64 x.2.1),(5,.int .i64 x.1)]) (fun _=>[])
  (fun x=>inI x.2.1∧x.2.1.natAbs*10 ^ x.1≤n.natAbs∧x.2.2.length=x.1+1∧(if x.1=0 then x.2.1=n∧x.2.2=[59] else Go.Lib.decDigits n.natAbs++[59]=if x.2.1.natAbs=0 then x.2.2 else Go.Lib.decDigits x.2.1.natAbs++x.2.2))
  (fun x=>x.2.1.natAbs+if x.1=0 then 1 else 0) (0,n,[59]) rfl rfl ⟨hn,by simp,rfl,by simp⟩ ?_
 rintro⟨i,m,out⟩ ⟨hm,hp,hl,hj⟩
 simp only[] at hm hp hl hj
 have h1:=hn.1
 have h2:=hn.2
 by_cases hgo:i=0∨m≠0
 ·have hi18:i≤18:=by
   rcases hgo with h|h
   ·omega
   ·by_cases h19:19≤i
    ·have h3:10 ^ 19≤10 ^ i:=Nat.pow_le_pow_right (by omega) h19
     have h4:1*10 ^ i≤m.natAbs*10 ^ i:=Nat.mul_le_mul_right _ (by omega)
     omega
    ·omega
  have hj2:Go.Lib.decDigits n.natAbs++[59]=Go.Lib.decDigits m.natAbs++out:=by
   by_cases h0:i=0
   ·rw[if_pos h0] at hj;rw[hj.1,hj.2]
   ·rw[if_neg h0,if_neg (by omega)] at hj;exact hj
  rw[zoX m.natAbs out] at hj2
  have c4:IntKind.i64.wrap ((i:Int)+1)=(i:Int)+1:=wrap_in (by omega) (by omega)
  have hd:m.natAbs % 10<10:=by omega
  have e2:(m.tdiv 10).natAbs=m.natAbs/10:=by rw[Int.natAbs_tdiv];rfl
  have hmb:=hm
  unfold inI at hmb
  have e3:IntKind.i64.wrap (m.tdiv 10)=m.tdiv 10:=wrap_in (by omega) (by omega)
  have hnext: ∀q:Txt,q=UInt8.ofNat (48+m.natAbs % 10)::out→inI (m.tdiv 10)∧(m.tdiv 10).natAbs*10 ^ (i+1)≤n.natAbs∧q.length=i+1+1∧(if i+1=0 then m.tdiv 10=n∧q=[59] else Go.Lib.decDigits n.natAbs++[59]=if (m.tdiv 10).natAbs=0 then q else Go.Lib.decDigits (m.tdiv 10).natAbs++q):=by
   rintro q rfl
   refine⟨⟨by omega,by omega⟩,?_,by simp[hl],?_⟩
   ·rw[e2,Nat.pow_succ,Nat.mul_comm (10 ^ i) 10,←Nat.mul_assoc]
    exact Nat.le_trans (Nat.mul_le_mul_right _ (by omega)) hp
   ·rw[if_neg (by omega),e2];exact hj2
  have hmes:(m.tdiv 10).natAbs+(if i+1=0 then 1 else 0)<m.natAbs+if i=0 then 1 else 0:=by
   rw[if_neg (by omega),e2]
   by_cases h0:i=0
   ·rw[if_pos h0];omega
   ·rw[if_neg h0];omega
  generalize hdd:m.natAbs % 10=d at hd hj2 hnext
  have hds:=zoW hd
  have c7:IntKind.i64.wrap ((d:Int)+1)=((d+1:Nat):Int):=by rw[wrap_in (by omega) (by omega)];rfl
  have b1:(d:Int)≤((d+1:Nat):Int):=by omega
  have b2:((d+1:Nat):Int)≤10:=by omega
  have b3:1+out.length≤9223372036854775807:=by omega
  have l1:([UInt8.ofNat (48+d)]:Txt).length=1:=rfl
  by_cases hq:m.tmod 10<0
  ·have e1:m.tmod 10= -(d:Int):=by
    have:=Int.natAbs_tmod m 10
    simp only[Int.reduceAbs] at this
    omega
   have c5: -(d:Int)<0:=by omega
   have c6:IntKind.i64.wrap (0- -(d:Int))=d:=by rw[show(0:Int)- -(d:Int)=d by omega];exact wrap_in (by omega) (by omega)
   by_cases hi0:i=0
   ·have cgo:((i:Int)==0)=true:=by simp[hi0]
    simp only[cgo,c4,e1,c5,c6,c7,e3,hds,b1,b2,b3,l1,Qs,zol,ne_eq,Nat.reduceAdd,Nat.reduceBEq,Int.reduceEq,Q94]
    exact Next.intro (i+1,m.tdiv 10,UInt8.ofNat (48+d)::out) rfl rfl (hnext _ rfl) hmes
   ·have cgo:((i:Int)==0)=false:=by simp[hi0]
    have cm:(m !=0)=true:=by have:=hgo.resolve_left hi0;simp[this]
    simp only[cgo,cm,c4,e1,c5,c6,c7,e3,hds,b1,b2,b3,l1,Qs,zol,ne_eq,Nat.reduceAdd,Nat.reduceBEq,Int.reduceEq,Q94]
    exact Next.intro (i+1,m.tdiv 10,UInt8.ofNat (48+d)::out) rfl rfl (hnext _ rfl) hmes
  ·have e1:m.tmod 10=(d:Int):=by
    have:=Int.natAbs_tmod m 10
    simp only[Int.reduceAbs] at this
    omega
   have c5: ¬(d:Int)<0:=by omega
   by_cases hi0:i=0
   ·have cgo:((i:Int)==0)=true:=by simp[hi0]
    simp only[cgo,c4,e1,c5,c7,e3,hds,b1,b2,b3,l1,Qs,ne_eq,Nat.reduceAdd,Nat.reduceBEq,Int.reduceEq,Q94]
    exact Next.intro (i+1,m.tdiv 10,UInt8.ofNat (48+d)::out) rfl rfl (hnext _ rfl) hmes
   ·have cgo:((i:Int)==0)=false:=by simp[hi0]
    have cm:(m !=0)=true:=by have:=hgo.resolve_left hi0;simp[this]
    simp only[cgo,cm,c4,e1,c5,c7,e3,hds,b1,b2,b3,l1,Qs,ne_eq,Nat.reduceAdd,Nat.reduceBEq,Int.reduceEq,Q94]
    exact Next.intro (i+1,m.tdiv 10,UInt8.ofNat (48+d)::out) rfl rfl (hnext _ rfl) hmes
 ·have hi0: ¬i=0:=fun h=>hgo (.inl h)
  have hm0:m=0:=Decidable.byContradiction fun h=>hgo (.inr h)
  subst hm0
  rw[if_neg hi0,if_pos (by simp)] at hj
  have cgo:((i:Int)==0)=false:=by simp[hi0]
  have hp0:i≤100∨100<i:=by omega
  have hol:out.length≤1000:=by
   rw[←hj,List.length_append]
   have:=dec_len 18 n.natAbs (by omega)
   simp only[List.length_singleton];omega
  have b3:1+out.length≤9223372036854775807:=by omega
  have l1:([45]:Txt).length=1:=rfl
  by_cases hn0:n<0
  ·simp only[cgo,hn0,b3,l1,Qs,Nat.reduceBEq,Int.reduceBNe,Q94]
   refine fin hS ?_
   rw[wI,Go.Lib.itoa,if_pos hn0,←hj];rfl
  ·simp only[cgo,hn0,Qs,Nat.reduceBEq,Int.reduceBNe,Q94]
   refine fin hS ?_
   rw[wI,Go.Lib.itoa,if_neg hn0,←hj,show n.natAbs=n.toNat by omega]
theorem c56 (n:Int) (h0:0≤n) (h1:n≤9223372036854775807):Spec Tryz.prog 56 [.int .i64 n] (fun v=>v=.str (dec n)):=by
 refine Spec.of_awlS hf56 okf56 (by simp) fun S hS=>?_
 have g:=c94 n ⟨by omega,h1⟩
 have e:wI n=dec n++[59]:=by unfold wI;rw[cI h0]
 rw[e] at g
 have hl:(dec n).length≤19:=dec_len 18 _ (by omega)
 have c1:IntKind.i64.wrap (((((dec n).length+1:Nat):Int))-1)=((dec n).length:Int):=by rw[wrap_in (by omega) (by omega)];omega
 simp only[Qs,Nat.reduceBEq,Q56]
 refine zC g ?_ (ha:=by rfl)
 simp only[List.length_append,List.length_cons,List.length_nil,c1,Qs,Nat.reduceBEq,Int.reduceLE,Q56]
 refine⟨by omega,?_⟩
 rw[List.take_left]
 exact hS
theorem zov (y:Nat) (hy:y≤1000000):Spec Tryz.prog 128 [.int .i64 (y:Int)] (fun v=>v=.bool (decide (tX y))):=by
 refine Spec.of_awlS hf128 okf128 (by simp) fun S hS=>?_
 have e4:(y:Int).tmod 4=((y % 4:Nat):Int):=by rw[show(4:Int)=((4:Nat):Int) from rfl,zlK y 4]
 have e100:(y:Int).tmod 100=((y % 100:Nat):Int):=by rw[show(100:Int)=((100:Nat):Int) from rfl,zlK y 100]
 have e400:(y:Int).tmod 400=((y % 400:Nat):Int):=by rw[show(400:Int)=((400:Nat):Int) from rfl,zlK y 400]
 by_cases h1:y % 4=0
 ·have d1:(((y % 4:Nat):Int)==0)=true:=by simp[h1]
  by_cases h2:y % 100=0
  ·have d2:(((y % 100:Nat):Int) !=0)=false:=by simp[h2]
   by_cases h3:y % 400=0
   ·have d3:(((y % 400:Nat):Int)==0)=true:=by simp[h3]
    simp only[e4,e100,e400,d1,d2,d3,Qs,ne_eq,Nat.reduceBEq,Int.reduceEq,Q128]
    rw[decide_eq_true (show tX y from⟨h1,.inr h3⟩)] at hS
    exact hS
   ·have d3:(((y % 400:Nat):Int)==0)=false:=beq_false_of_ne (by omega)
    simp only[e4,e100,e400,d1,d2,d3,Qs,ne_eq,Nat.reduceBEq,Int.reduceEq,Q128]
    rw[decide_eq_false (show¬tX y from fun h=>h.2.elim (fun q=>q h2) h3)] at hS
    exact hS
  ·have d2:(((y % 100:Nat):Int) !=0)=true:=bne_iff_ne.2 (by omega)
   simp only[e4,e100,e400,d1,d2,Qs,ne_eq,Nat.reduceBEq,Int.reduceEq,Q128]
   rw[decide_eq_true (show tX y from⟨h1,.inl h2⟩)] at hS
   exact hS
 ·have d1:(((y % 4:Nat):Int)==0)=false:=beq_false_of_ne (by omega)
  simp only[e4,d1,Qs,ne_eq,Nat.reduceBEq,Int.reduceEq,Q128]
  rw[decide_eq_false (show¬tX y from fun h=>h1 h.1)] at hS
  exact hS
theorem zow (y:Nat) (hy:y≤1000000):Spec Tryz.prog 107 [.int .i64 (y:Int)] (fun v=>v=.int .i64 (yD y:Nat)):=by
 refine Spec.of_awlS hf107 okf107 (by simp) fun S hS=>?_
 have g:=zov y hy
 unfold yD at hS
 by_cases h:tX y
 ·rw[decide_eq_true h] at g
  rw[if_pos h] at hS
  simp only[Qs,Nat.reduceBEq,Q107]
  refine zC g ?_ (ha:=by rfl)
  simp only[Qs,Q107]
  exact hS
 ·rw[decide_eq_false h] at g
  rw[if_neg h] at hS
  simp only[Qs,Nat.reduceBEq,Q107]
  refine zC g ?_ (ha:=by rfl)
  simp only[Qs,Q107]
  exact hS
theorem zoj (y m:Nat) (hy:y≤1000000):Spec Tryz.prog 106 [.int .i64 (y:Int),.int .i64 (m:Int)] (fun v=>v=.int .i64 (wD y m:Nat)):=by
 refine Spec.of_awlS hf106 okf106 (by simp) fun S hS=>?_
 have g:=zov y hy
 unfold wD at hS
 by_cases h2:m=2
 ·rw[if_pos h2] at hS
  have d2:((m:Int)==2)=true:=beq_iff_eq.2 (by omega)
  by_cases h:tX y
  ·rw[decide_eq_true h] at g
   rw[if_pos h] at hS
   simp only[d2,Qs,Nat.reduceAdd,Nat.reduceBEq,Q106]
   refine zC g ?_ (ha:=by rfl)
   simp only[d2,Qs,Nat.reduceBEq,Q106]
   exact hS
  ·rw[decide_eq_false h] at g
   rw[if_neg h] at hS
   simp only[d2,Qs,Nat.reduceAdd,Nat.reduceBEq,Q106]
   refine zC g ?_ (ha:=by rfl)
   simp only[d2,Qs,Nat.reduceBEq,Q106]
   exact hS
 ·rw[if_neg h2] at hS
  have d2:((m:Int)==2)=false:=beq_false_of_ne (by omega)
  by_cases h4:m=4
  ·rw[if_pos (.inl h4)] at hS
   have d4:((m:Int)==4)=true:=beq_iff_eq.2 (by omega)
   simp only[d2,d4,Qs,Nat.reduceAdd,Nat.reduceBEq,Q106]
   exact hS
  have d4:((m:Int)==4)=false:=beq_false_of_ne (by omega)
  by_cases h6:m=6
  ·rw[if_pos (.inr (.inl h6))] at hS
   have d6:((m:Int)==6)=true:=beq_iff_eq.2 (by omega)
   simp only[d2,d4,d6,Qs,Nat.reduceAdd,Nat.reduceBEq,Q106]
   exact hS
  have d6:((m:Int)==6)=false:=beq_false_of_ne (by omega)
  by_cases h9:m=9
  ·rw[if_pos (.inr (.inr (.inl h9)))] at hS
   have d9:((m:Int)==9)=true:=beq_iff_eq.2 (by omega)
   simp only[d2,d4,d6,d9,Qs,Nat.reduceAdd,Nat.reduceBEq,Q106]
   exact hS
  have d9:((m:Int)==9)=false:=beq_false_of_ne (by omega)
  by_cases h11:m=11
  ·rw[if_pos (.inr (.inr (.inr h11)))] at hS
   have d11:((m:Int)==11)=true:=beq_iff_eq.2 (by omega)
   simp only[d2,d4,d6,d9,d11,Qs,Nat.reduceAdd,Nat.reduceBEq,Q106]
   exact hS
  have d11:((m:Int)==11)=false:=beq_false_of_ne (by omega)
  rw[if_neg (by omega)] at hS
  simp only[d2,d4,d6,d9,d11,Qs,Nat.reduceAdd,Nat.reduceBEq,Q106]
  exact hS
theorem zoa (k:Nat):yS (k+1)=yS k+yD (2000+k):=rfl
theorem zob (y k:Nat):mS y (k+1)=mS y k+wD y (k+1):=rfl
theorem zox (y:Nat): ∀k,28*k≤mS y k
 |0=>by simp[mS]
 |k+1=>by have:=zox y k;have:=(oX y (k+1)).1;rw[zob];omega
theorem c95 (d:Int) (hd:0≤d∧d≤100000):Spec Tryz.prog 95 [.int .i64 d] (fun v=>v=.tup [.int .i64 (yZ d).1,.int .i64 (yZ d).2.1,.int .i64 (yZ d).2.2,.int .i64 0]):=by
 refine Spec.of_awlP hf95 okf95 (by simp) fun S hS=>?_
 have g:=c44 d
 rw[decide_eq_true hd] at g
 have hcv:=zhM hd.1
 have hok:=qX (d:=d.toNat) (by omega)
 have hor:=@Go.Wd.ord_at d.toNat (by omega)
 have hyl:=bP (d:=d.toNat) (by omega)
 obtain⟨n,rfl⟩: ∃n:Nat,d=n:=⟨d.toNat,by omega⟩
 rw[Int.toNat_natCast] at hcv hok hor hyl
 rw[hcv] at hS
 generalize dtN n=t at hok hor hyl hS
 simp only[Qs,Nat.reduceBEq,Q95]
 refine zC g ?_ (ha:=by rfl)
 simp only[Qs,Nat.reduceBEq,Q95]
 rw[uu f95l24.eq_1]
 refine yY (fun x:Nat×Nat=>[(6,.int .i64 ((2000+x.1:Nat):Int)),(7,.int .i64 (x.2:Int))]) (fun _=>[]) (fun x=>yS x.1+x.2=Go.Wd.ordD t∧x.1≤400) (fun x=>x.2) (0,n) rfl rfl ⟨by rw[hor];simp[yS],by simp⟩ ?_
 rintro⟨k,r⟩ ⟨hk,hk4⟩
 simp only[] at hk hk4
 have gy:=zow (2000+k) (by omega)
 have hyd:yD (2000+k)=365∨yD (2000+k)=366:=by unfold yD;split<;>simp
 have hrn:r≤100000:=by omega
 by_cases hlt:r≥yD (2000+k)
 ·have c1:(r:Int)≥(yD (2000+k):Nat):=by omega
  have c2:IntKind.i64.wrap ((r:Int)-(yD (2000+k):Nat))=((r-yD (2000+k):Nat):Int):=by rw[wrap_in (by omega) (by omega)];omega
  have c3:IntKind.i64.wrap (((2000+k:Nat):Int)+1)=((2000+(k+1):Nat):Int):=by rw[wrap_in (by omega) (by omega)];omega
  simp only[Qs,Nat.reduceBEq,Q95]
  refine zC gy ?_ (ha:=by rfl)
  simp only[c1,Qs,Nat.reduceBEq,Q95]
  refine zC gy ?_ (ha:=by rfl)
  simp only[c2,c3,Qs,Nat.reduceBEq]
  have h3:=zhJ (k+1)
  rw[zoa] at h3
  exact Next.intro (k+1,r-yD (2000+k)) rfl rfl ⟨by rw[zoa];omega,by omega⟩ (by simp only;omega)
 ·have c1: ¬(r:Int)≥(yD (2000+k):Nat):=by omega
  obtain⟨hy,hr⟩:=zoJ hok hk (by omega)
  rw[←hy] at gy⊢
  simp only[Qs,Nat.reduceBEq,Q95]
  refine zC gy ?_ (ha:=by rfl)
  rw[←hy] at c1
  simp only[c1,Qs,Nat.reduceBEq,Q95]
  rw[uu f95l11.eq_1]
  have hms:mS t.y (t.m-1)+(t.d-1)<367:=by
   have h1:=zoo hok.1 hok.2.1 hok.2.2.1 hok.2.2.2.1
   have h2:yD t.y≤366:=by unfold yD;split<;>simp
   omega
  refine yY (fun x:Nat×Nat=>[(6,.int .i64 ((t.y:Nat):Int)),(7,.int .i64 (x.2:Int)),(8,.int .i64 ((x.1+1:Nat):Int))]) (fun _=>[]) (fun x=>mS t.y x.1+x.2=mS t.y (t.m-1)+(t.d-1)) (fun x=>x.2) (0,r) rfl rfl (by rw[hr];simp[mS]) ?_
  rintro⟨k2,r2⟩ hk2
  simp only[] at hk2
  have h28:=zox t.y k2
  have gl:=zoj t.y (k2+1) (by omega)
  have hlm:=oX t.y (k2+1)
  by_cases hlt2:r2≥wD t.y (k2+1)
  ·have c3:(r2:Int)≥(wD t.y (k2+1):Nat):=by omega
   have c4:IntKind.i64.wrap ((r2:Int)-(wD t.y (k2+1):Nat))=((r2-wD t.y (k2+1):Nat):Int):=by rw[wrap_in (by omega) (by omega)];omega
   have c5:IntKind.i64.wrap (((k2+1:Nat):Int)+1)=((k2+1+1:Nat):Int):=by rw[wrap_in (by omega) (by omega)];omega
   simp only[Qs,Nat.reduceBEq,Q95]
   refine zC gl ?_ (ha:=by rfl)
   simp only[c3,Qs,Nat.reduceBEq,Q95]
   refine zC gl ?_ (ha:=by rfl)
   simp only[c4,c5,Qs,Nat.reduceBEq]
   exact Next.intro (k2+1,r2-wD t.y (k2+1)) rfl rfl (by rw[zob];omega) (by simp only;omega)
  ·have c3: ¬(r2:Int)≥(wD t.y (k2+1):Nat):=by omega
   obtain⟨hm,hd2⟩:=zoK hok hk2 (by omega)
   have c4:IntKind.i64.wrap ((r2:Int)+1)=((r2+1:Nat):Int):=by rw[wrap_in (by omega) (by omega)];omega
   simp only[Qs,Nat.reduceBEq,Q95]
   refine zC gl ?_ (ha:=by rfl)
   simp only[c3,c4,Qs,List.append_nil,Nat.reduceBEq,Q95]
   rw[←hm,←hd2]
   exact hS _ rfl
theorem zoY (y m:Nat) (hy:2000≤y) (h1:1≤m) (h2:m≤12):numI y m 1=((yS (y-2000)+mS y (m-1):Nat):Int):=by
 have mon: ∀(y:Nat),∀k:Nat,k≤11→numI y (k+1:Nat) 1=numI y 1 1+(mS y k:Nat):=fun y k=>by
  induction k with
  |zero=>intro _;simp[mS]
  |succ k ih=>
   intro hk
   rw[zhK y (k+1) (by omega) (by omega),ih (by omega),zob];omega
 have yr: ∀k:Nat,numI (2000+k:Nat) 1 1=(yS k:Nat):=fun k=>by
  induction k with
  |zero=>decide
  |succ k ih=>
   have h3:=mon (2000+k) 11 (by omega)
   have h4:=zlH (2000+k)
   have h5:=zlF (2000+k)
   have h6:mS (2000+k) 12=mS (2000+k) 11+31:=rfl
   rw[show 2000+(k+1)=2000+k+1 by omega,h4,zoa,←h5,h6]
   rw[ih] at h3
   have h7:numI ((2000+k:Nat):Int) 12 1=numI ((2000+k:Nat):Int) ((11+1:Nat):Int) 1:=rfl
   rw[h7,h3];omega
 obtain⟨k,rfl⟩: ∃k,y=2000+k:=⟨y-2000,by omega⟩
 obtain⟨j,rfl⟩: ∃j,m=j+1:=⟨m-1,by omega⟩
 rw[mon _ j (by omega),yr,Nat.add_sub_cancel_left,Nat.add_sub_cancel];omega
theorem c73 (y m d:Int):Spec Tryz.prog 73 [.int .i64 y,.int .i64 m,.int .i64 d] (fun v=>v=.tup [.int .i64 (dayG y m d).1,.int .i64 (dayG y m d).2]):=by
 refine Spec.of_awlP hf73 okf73 (by simp) fun S hS=>?_
 by_cases h1:y<2000
 ·rw[oY (by omega)] at hS
  simp only[h1,Qs,List.append_nil,Nat.reduceAdd,Nat.reduceBEq,Q73]
  exact hS _ rfl
 by_cases h2:y>2300
 ·rw[oY (by omega)] at hS
  simp only[h1,h2,Qs,List.append_nil,Nat.reduceAdd,Nat.reduceBEq,Q73]
  exact hS _ rfl
 by_cases h3:m<1
 ·rw[oY (by omega)] at hS
  simp only[h1,h2,h3,Qs,List.append_nil,Nat.reduceAdd,Nat.reduceBEq,Q73]
  exact hS _ rfl
 by_cases h4:m>12
 ·rw[oY (by omega)] at hS
  simp only[h1,h2,h3,h4,Qs,List.append_nil,Nat.reduceAdd,Nat.reduceBEq,Q73]
  exact hS _ rfl
 by_cases h5:d<1
 ·rw[oY (by omega)] at hS
  simp only[h1,h2,h3,h4,h5,Qs,List.append_nil,Nat.reduceAdd,Nat.reduceBEq,Q73]
  exact hS _ rfl
 obtain⟨y,rfl⟩: ∃n:Nat,y=n:=⟨y.toNat,by omega⟩
 obtain⟨m,rfl⟩: ∃n:Nat,m=n:=⟨m.toNat,by omega⟩
 have gl:=zoj y m (by omega)
 have hlm:=oX y m
 simp only[h1,h2,h3,h4,h5,Qs,Nat.reduceAdd,Nat.reduceBEq,Q73]
 refine zC gl ?_ (ha:=by rfl)
 by_cases h6:d>(wD y m:Nat)
 ·rw[oY (by rw[Int.toNat_natCast,Int.toNat_natCast];omega)] at hS
  simp only[h6,Qs,List.append_nil,Nat.reduceBEq,Q73]
  exact hS _ rfl
 obtain⟨d,rfl⟩: ∃n:Nat,d=n:=⟨d.toNat,by omega⟩
 have w1:IntKind.i64.wrap ((d:Int)-1)=((d-1:Nat):Int):=by rw[wrap_in (by omega) (by omega)];omega
 simp only[h6,w1,Qs,Nat.reduceBEq,Q73]
 rw[uu f73l30.eq_1]
 have ysl: ∀k,k≤300→yS k≤366*300:=fun k hk=>Nat.le_trans (zn7 hk) (by decide)
 refine yY (fun k:Nat=>[(0,.int .i64 (y:Int)),(1,.int .i64 (m:Int)),(8,.int .i64 ((d-1+yS k:Nat):Int)),(9,.int .i64 ((2000+k:Nat):Int))]) (fun _=>[]) (fun k=>k≤y-2000) (fun k=>y-2000-k) 0 rfl rfl (Nat.zero_le _) ?_
 intro k hk
 have hyk:=ysl k (by omega)
 by_cases hlt:k<y-2000
 ·have c1:((2000+k:Nat):Int)<y:=by omega
  have gy:=zow (2000+k) (by omega)
  have hyd:yD (2000+k)≤366:=by unfold yD;split<;>simp
  have c2:IntKind.i64.wrap (((d-1+yS k:Nat):Int)+(yD (2000+k):Nat))=((d-1+yS (k+1):Nat):Int):=by rw[wrap_in (by omega) (by omega),zoa];omega
  have c3:IntKind.i64.wrap (((2000+k:Nat):Int)+1)=((2000+(k+1):Nat):Int):=by rw[wrap_in (by omega) (by omega)];omega
  simp only[c1,Qs,Nat.reduceBEq,Q73]
  refine zC gy ?_ (ha:=by rfl)
  simp only[c2,c3,Qs,Nat.reduceBEq]
  exact Next.intro (k+1) rfl rfl (by omega) (by omega)
 ·have c1: ¬((2000+k:Nat):Int)<y:=by omega
  obtain rfl:k=y-2000:=by omega
  simp only[c1,Qs,Nat.reduceBEq,Q73]
  rw[uu f73l17.eq_1]
  refine yY (fun k:Nat=>[(0,.int .i64 (y:Int)),(1,.int .i64 (m:Int)),(8,.int .i64 ((d-1+yS (y-2000)+mS y k:Nat):Int)),(10,.int .i64 ((k+1:Nat):Int))]) (fun _=>[]) (fun k=>k≤m-1) (fun k=>m-1-k) 0 rfl rfl (Nat.zero_le _) ?_
  intro k hk
  have hmk:mS y k≤366:=by
   have h7:=zn4 (y:=y) (k:=k) (j:=12) (by omega)
   have h8:=zlF y
   have h9:yD y≤366:=by unfold yD;split<;>simp
   omega
  by_cases hlt2:k<m-1
  ·have c2:((k+1:Nat):Int)<m:=by omega
   have gk:=zoj y (k+1) (by omega)
   have hlk:=oX y (k+1)
   have c3:IntKind.i64.wrap (((d-1+yS (y-2000)+mS y k:Nat):Int)+(wD y (k+1):Nat))=((d-1+yS (y-2000)+mS y (k+1):Nat):Int):=by rw[wrap_in (by omega) (by omega),zob];omega
   have c4:IntKind.i64.wrap (((k+1:Nat):Int)+1)=((k+1+1:Nat):Int):=by rw[wrap_in (by omega) (by omega)];omega
   simp only[c2,Qs,Nat.reduceBEq,Q73]
   refine zC gk ?_ (ha:=by rfl)
   simp only[c3,c4,Qs,Nat.reduceBEq]
   exact Next.intro (k+1) rfl rfl (by omega) (by omega)
  ·have c2: ¬((k+1:Nat):Int)<m:=by omega
   obtain rfl:k=m-1:=by omega
   have hn:numI (y:Int) (m:Int) (d:Int)=((d-1+yS (y-2000)+mS y (m-1):Nat):Int):=by
    rw[jZ,zoY y m (by omega) (by omega) (by omega)];omega
   have gv:=c44 ((d-1+yS (y-2000)+mS y (m-1):Nat):Int)
   by_cases hv:0≤((d-1+yS (y-2000)+mS y (m-1):Nat):Int)∧((d-1+yS (y-2000)+mS y (m-1):Nat):Int)≤100000
   ·rw[show dayG (y:Int) m d=(((d-1+yS (y-2000)+mS y (m-1):Nat):Int),0) by
     unfold dayG
     rw[if_pos (by rw[hn,Int.toNat_natCast,Int.toNat_natCast];omega),hn]] at hS
    rw[decide_eq_true hv] at gv
    simp only[c2,Qs,Nat.reduceBEq,Q73]
    refine zC gv ?_ (ha:=by rfl)
    simp only[Qs,List.append_nil,Nat.reduceBEq,Q73]
    exact hS _ rfl
   ·rw[oY (by rw[hn];omega)] at hS
    rw[decide_eq_false hv] at gv
    simp only[c2,Qs,Nat.reduceBEq,Q73]
    refine zC gv ?_ (ha:=by rfl)
    simp only[Qs,List.append_nil,Nat.reduceBEq,Q73]
    exact hS _ rfl
theorem c57 (d:Int) (hd:0≤d∧d≤100000):Spec Tryz.prog 57 [.int .i64 d] (fun v=>v=.str (wG zI d)):=by
 refine Spec.of_awlS hf57 okf57 (by simp) fun S hS=>?_
 obtain⟨⟨a1,a2⟩,⟨a3,a4⟩,⟨a5,a6⟩⟩:=zhX hd.1 hd.2
 have g:=c95 d hd
 have gy:=c56 (yZ d).1 a1 (by omega)
 have gm:=c56 (yZ d).2.1 (by omega) (by omega)
 have gd:=c56 (yZ d).2.2 (by omega) (by omega)
 have ly:(dec (yZ d).1).length≤13:=dec_len 12 _ (by omega)
 have lm:(dec (yZ d).2.1).length≤13:=dec_len 12 _ (by omega)
 have ld:(dec (yZ d).2.2).length≤13:=dec_len 12 _ (by omega)
 have e:wG zI d=dec (yZ d).1++[45]++dec (yZ d).2.1++[45]++dec (yZ d).2.2:=by
  show dec _++45::(dec _++45::dec _)=_
  simp[zI]
 rw[e] at hS
 simp only[Qs,Nat.reduceBEq,Q57]
 refine zC g ?_ (ha:=by rfl)
 simp only[Qs,Nat.reduceBEq,Q57]
 refine zC gy ?_ (ha:=by rfl)
 simp only[Qs,Nat.reduceLeDiff,Nat.reduceBEq]
 refine⟨by omega,?_⟩
 refine zC gm ?_ (ha:=by rfl)
 simp only[List.length_append,List.length_cons,List.length_nil,Qs,Nat.reduceLeDiff,Nat.reduceBEq]
 refine⟨by omega,by omega,?_⟩
 refine zC gd ?_ (ha:=by rfl)
 simp only[List.length_append,List.length_cons,List.length_nil,Qs,Nat.reduceBEq]
 exact⟨by omega,hS⟩
theorem c58 (t:Ten) (da:Int) (h0:0≤da) (h:wB t da):Spec Tryz.prog 58 [.agg (iE t)] (fun v=>v=.str (zT 32 (wP zI t)++[10])):=by
 refine Spec.of_awlS hf58 okf58 (by simp) fun S hS=>?_
 obtain⟨k,n,u⟩:=t
 unfold wP at hS
 unfold wB at h
 unfold iE
 simp only[] at h hS⊢
 rcases h with⟨rfl|rfl,rfl,rfl⟩|⟨hk,h2,h3,h4⟩|⟨rfl,h2,h3,rfl⟩
 ·simp only[Qs,BEq.rfl,Nat.reduceAdd,Nat.reduceLeDiff,Nat.reduceBEq,Q58]
  exact hS
 ·simp only[Qs,BEq.rfl,Nat.reduceAdd,Nat.reduceLeDiff,Nat.reduceBEq,Int.reduceBEq,Q58]
  exact hS
 ·have g:=c56 n (by omega) (by omega)
  have l:=dec_len 12 n.toNat (by omega)
  change (dec n).length≤13 at l
  rcases hk with rfl|rfl<;>rcases h4 with rfl|rfl
  all_goals simp only[Qs,Nat.reduceAdd,Nat.reduceLeDiff,Nat.reduceBEq,Int.reduceBEq,Q58]
  all_goals refine zC g ?_ (ha:=by rfl)
  all_goals simp only[List.length_append,List.length_cons,List.length_nil,Qs,BEq.rfl,Nat.reduceAdd,Nat.reduceLeDiff,Nat.reduceBEq,Int.reduceBEq,Q58]
  all_goals refine⟨by omega,by omega,by omega,fin hS ?_⟩
  all_goals simp[zT]
 ·have g:=c57 n (by omega)
  have l:=iF (d:=n) (by omega) h3
  simp only[Qs,BEq.rfl,Nat.reduceAdd,Nat.reduceLeDiff,Nat.reduceBEq,Int.reduceBEq,Q58]
  refine zC g ?_ (ha:=by rfl)
  simp only[List.length_append,List.length_cons,List.length_nil,Qs,Nat.reduceAdd,Nat.reduceLeDiff]
  refine⟨by omega,by omega,fin hS ?_⟩
  simp[zT]
theorem zoy {l:List Txt} (h: ∀w∈l,w≠[]):joinS [32,111,114,32] l=[] ↔ l=[]:=by
 cases l with
 |nil=>simp[joinS]
 |cons w r=>
  have hw:=h w (by simp)
  cases r with
  |nil=>simp[joinS,hw]
  |cons v r=>simp[joinS,hw]
theorem c59 (pt:Nat) (p:Int) (hpt:pt≤4):Spec Tryz.prog 59 [.int .i64 (pt:Int),.int .i64 p] (fun v=>v=.str (zT 32 (vJ pt p))):=by
 refine Spec.of_awlS hf59 okf59 (by simp) fun S hS=>?_
 have hW:zT 32 (vJ pt p)=joinS [32,111,114,32] (wZ pt p):=by rw[zhY];rfl
 rw[hW] at hS
 simp only[Qs,Nat.reduceAdd,Q59]
 rw[uu f59l19.eq_1]
 refine yY (fun i:Nat=>[(0,.int .i64 (pt:Int)),(1,.int .i64 p),(5,.str (joinS [32,111,114,32] (wZ i p))),(6,.int .i64 i)]) (fun _=>[]) (fun i=>i≤pt) (fun i=>pt-i) 0 rfl rfl (Nat.zero_le _) ?_
 intro i hi
 by_cases hlt:i<pt
 ·have c1:(i:Int)<pt:=by omega
  have c4:IntKind.i64.wrap ((i:Int)+1)=(i:Int)+1:=wrap_in (by omega) (by omega)
  have hs:=aC i p
  have hl:(joinS [32,111,114,32] (wZ i p)).length≤1000:=by
   have h1:=aD p i (by omega)
   have h2:=iG p i
   have h3:=bF [32,111,114,32] (wZ i p)
   simp only[List.length_cons,List.length_nil] at h3
   omega
  by_cases hip:(i:Int)=p
  ·have hb:((i:Int) !=p)=false:=by simp[hip]
   rw[if_neg (by simp[hip]),List.append_nil] at hs
   simp only[c1,c4,hb,Qs,Nat.reduceBEq,Q59]
   exact Next.intro (i+1) (by rw[show((i+1:Nat):Int)=(i:Int)+1 by omega,hs];rfl) rfl (by omega) (by omega)
  ·have hb:((i:Int) !=p)=true:=by simp[hip]
   rw[if_pos hip] at hs
   have gi:=c56 ((i:Int)+1) (by omega) (by omega)
   have ld:(dec ((i:Int)+1)).length≤13:=dec_len 12 _ (by omega)
   have hnn: ∀w∈wZ i p,w≠[]:=fun w hw=>by
    unfold wZ at hw
    obtain⟨x,_,rfl⟩:=List.mem_map.1 hw
    exact cF _
   by_cases h0:wZ i p=[]
   ·have e0:joinS [32,111,114,32] (wZ i p)=[]:=(zoy hnn).2 h0
    rw[h0,List.nil_append] at hs
    rw[e0]
    simp only[c1,c4,hb,Qs,zdP,BEq.rfl,Nat.reduceBEq,Q59]
    refine zC gi ?_ (ha:=by rfl)
    simp only[c4,Qs,Nat.reduceBEq]
    refine⟨by omega,Next.intro (i+1) (by rw[show((i+1:Nat):Int)=(i:Int)+1 by omega,hs];rfl) rfl (by omega) (by omega)⟩
   ·simp only[c1,c4,hb,Qs,zdP,Nat.reduceAdd,Nat.reduceLeDiff,Nat.reduceBEq,zbY,Q59]
    refine⟨fun q=>absurd ((zoy hnn).1 q) h0,fun _=>?_⟩
    refine⟨by omega,?_⟩
    refine zC gi ?_ (ha:=by rfl)
    simp only[c4,List.length_append,List.length_cons,List.length_nil,Qs,Nat.reduceAdd,Nat.reduceBEq]
    refine⟨by omega,Next.intro (i+1) (by rw[show((i+1:Nat):Int)=(i:Int)+1 by omega,hs,zhB _ _ _ h0,←List.append_assoc];rfl) rfl (by omega) (by omega)⟩
 ·have c1: ¬(i:Int)<pt:=by omega
  obtain rfl:i=pt:=by omega
  simp only[c1,Qs,Nat.reduceBEq,Q59]
  exact hS
theorem c26 (s h:Txt):Spec Tryz.prog 26 [.str s,.str h] (fun v=>v=.tup [.str (eatT s h).1,.bool (eatT s h).2]):=by
 refine Spec.of_awlP hf26 okf26 (by simp) fun S hS=>?_
 unfold eatT at hS
 by_cases hl:s.length<h.length
 ·have c1:(s.length:Int)<h.length:=by omega
  rw[if_neg (fun e=>by have:=congrArg List.length e;rw[List.length_take] at this;omega)] at hS
  simp only[c1,Qs,zcp,List.append_nil,Nat.reduceAdd,Nat.reduceBEq,Q26]
  exact hS _ rfl
 ·have c1: ¬(s.length:Int)<h.length:=by omega
  by_cases he:s.take h.length=h
  ·rw[if_pos he] at hS
   simp only[c1,List.take_length,Qs,zcp,zdP,List.append_nil,Nat.reduceAdd,Nat.reduceBEq,zbY,Int.reduceLE,Q26]
   exact⟨by omega,fun _=>⟨by omega,hS _ rfl⟩,fun q=>absurd he q⟩
  ·rw[if_neg he] at hS
   simp only[c1,List.take_length,Qs,zcp,zdP,List.append_nil,Nat.reduceAdd,Nat.reduceBEq,zbY,Int.reduceLE,Q26]
   exact⟨by omega,fun q=>absurd q he,fun _=>hS _ rfl⟩
theorem zoZ {s:Txt} {i:Nat} (h:i<s.length):lineT (s.drop i)=if s[i]=10 then s.drop (i+1) else lineT (s.drop (i+1)):=by
 rw[List.drop_eq_getElem_cons h,lineT]
theorem c28 (s:Txt) (hl:s.length≤1000000):Spec Tryz.prog 28 [.str s] (fun v=>v=.str (lineT s)):=by
 refine Spec.of_awlS hf28 okf28 (by simp) fun S hS=>?_
 simp only[Qs,Q28]
 rw[uu f28l15.eq_1]
 refine yY (fun i:Nat=>[(0,.str s),(3,.int .i64 i)]) (fun _=>[]) (fun i=>i≤s.length∧lineT (s.drop i)=lineT s) (fun i=>s.length-i) 0 rfl rfl ⟨Nat.zero_le _,by simp⟩ ?_
 rintro i ⟨hi,hD⟩
 by_cases hlt:i<s.length
 ·have c1:(i:Int)<s.length:=by omega
  have c4:IntKind.i64.wrap ((i:Int)+1)=(i:Int)+1:=wrap_in (by omega) (by omega)
  have hg:s.getD i 0=s[i]:=by rw[List.getD_eq_getElem?_getD,List.getElem?_eq_getElem hlt];rfl
  rw[zoZ hlt] at hD
  have c5:((i:Int)+1).toNat=i+1:=by omega
  simp only[c1,c4,c5,hg,List.take_length,Qs,Nat.reduceBEq,Q28]
  refine⟨fun h=>?_,fun h=>?_⟩
  ·have hb:s[i]=10:=UInt8.toNat_inj.1 (by have:(10:UInt8).toNat=10:=rfl;omega)
   rw[if_pos hb] at hD
   rw[←hD] at hS
   refine⟨by omega,?_⟩
   exact hS
  ·have hb:s[i]≠10:=fun e=>h (by rw[e];rfl)
   rw[if_neg hb] at hD
   exact Next.intro (i+1) rfl rfl ⟨by omega,hD⟩ (by omega)
 ·have c1: ¬(i:Int)<s.length:=by omega
  rw[List.drop_eq_nil_of_le (by omega)] at hD
  rw[←hD] at hS
  simp only[c1,Qs,Nat.reduceBEq,Q28]
  exact hS
theorem zo0 {s:Txt} {i:Nat} (h:i<s.length):wordT (s.drop i)=if cH s[i]=true then(s[i]::(wordT (s.drop (i+1))).1,(wordT (s.drop (i+1))).2) else([],s.drop i):=by
 rw[List.drop_eq_getElem_cons h,wordT,←List.drop_eq_getElem_cons h]
theorem c29 (s:Txt) (hl:s.length≤1000000):Spec Tryz.prog 29 [.str s] (fun v=>v=.tup [.str (wordT s).1,.str (wordT s).2]):=by
 refine Spec.of_awlP hf29 okf29 (by simp) fun S hS=>?_
 simp only[Qs,Q29]
 rw[uu f29l9.eq_1]
 refine yY (fun i:Nat=>[(0,.str s),(4,.int .i64 i)]) (fun _=>[]) (fun i=>i≤s.length∧(wordT s).1=s.take i++(wordT (s.drop i)).1∧(wordT s).2=(wordT (s.drop i)).2) (fun i=>s.length-i) 0 rfl rfl ⟨Nat.zero_le _,by simp,by simp⟩ ?_
 rintro i ⟨hi,hD,hE⟩
 by_cases hlt:i<s.length
 ·have c1:(i:Int)<s.length:=by omega
  have c4:IntKind.i64.wrap ((i:Int)+1)=(i:Int)+1:=wrap_in (by omega) (by omega)
  have hg:s.getD i 0=s[i]:=by rw[List.getD_eq_getElem?_getD,List.getElem?_eq_getElem hlt];rfl
  rw[zo0 hlt] at hD hE
  have hnb:cH s[i]=true ↔ ((48≤s[i].toNat∧s[i].toNat≤57)∨s[i].toNat=95∨(97≤s[i].toNat∧s[i].toNat≤122)∨(65≤s[i].toNat∧s[i].toNat≤90)):=by
   unfold cH
   simp only[Bool.or_eq_true,decide_eq_true_eq]
   omega
  have hY:cH s[i]=true→(i+1≤s.length∧(wordT s).1=s.take (i+1)++(wordT (s.drop (i+1))).1∧(wordT s).2=(wordT (s.drop (i+1))).2):=fun h=>by
   rw[if_pos h] at hD hE
   refine⟨by omega,?_,hE⟩
   rw[hD,List.take_add_one,List.getElem?_eq_getElem hlt,List.append_assoc];rfl
  have hN: ¬cH s[i]=true→wordT s=(s.take i,s.drop i):=fun h=>by
   rw[if_neg h] at hD hE
   rw[List.append_nil] at hD
   exact Prod.ext hD hE
  generalize hcc:s[i].toNat=a at hnb
  simp only[c1,c4,hg,hcc,List.take_length,Qs,zn2,List.append_nil,Nat.reduceBEq,zbV,Int.reduceLE,Q29]
  have hNo: ¬cH s[i]=true→((i:Int)≤s.length∧((i:Int)≤s.length∧(s.length:Int)≤s.length)∧S (.tup [.str (s.take i),.str (s.drop i)])):=fun h=>by
   rw[hN h] at hS
   exact⟨by omega,⟨by omega,by omega⟩,hS _ rfl⟩
  repeat' (apply And.intro<;>intro _)
  all_goals first
   |exact Next.intro (i+1) rfl rfl (hY (hnb.2 (by omega))) (by omega)
   |exact hNo (fun q=>by have:=hnb.1 q;omega)
 ·have c1: ¬(i:Int)<s.length:=by omega
  obtain rfl:i=s.length:=by omega
  rw[List.drop_length] at hD hE
  have hN:wordT s=(s,[]):=Prod.ext (by rw[hD];simp[wordT]) hE
  rw[hN] at hS
  simp only[c1,List.take_length,List.drop_length,Qs,zn2,List.append_nil,Nat.reduceBEq,Int.reduceLE,Q29]
  exact⟨by omega,by omega,hS _ rfl⟩
theorem zoz {s:Txt} {i k:Nat} (n:Int) (h:i<s.length):aY (k+1) n (s.drop i)=if aX s[i]=true then aY k (10*n+s[i].toNat-48) (s.drop (i+1)) else(n,s.drop i):=by
 rw[List.drop_eq_getElem_cons h,aY,←List.drop_eq_getElem_cons h]
theorem c27 (s:Txt) (hl:s.length≤1000000):Spec Tryz.prog 27 [.str s] (fun v=>v=.tup [.int .i64 (numT s).1,.str (numT s).2]):=by
 refine Spec.of_awlP hf27 okf27 (by simp) fun S hS=>?_
 have hnum: ∀h:0<s.length,numT s=if aX s[0]=true then aY 13 0 s else(-1,s):=fun h=>by
  cases s with
  |nil=>exact absurd h (by simp)
  |cons c t=>rfl
 simp only[Qs,Q27]
 rw[uu f27l17.eq_1]
 refine yY (fun x:Nat×Int=>[(0,.str s),(4,.int .i64 x.2),(5,.int .i64 x.1)]) (fun _=>[]) (fun x=>x.1≤s.length∧x.1≤13∧0≤x.2∧x.2<10 ^ x.1∧aY 13 0 s=aY (13-x.1) x.2 (s.drop x.1)∧(x.1=0→x.2=0)∧(0<x.1→ ∀h:0<s.length,aX s[0]=true)) (fun x=>s.length-x.1) (0,0) rfl rfl ⟨Nat.zero_le _,by omega,by simp,by simp,by simp,fun _=>rfl,fun h=>absurd h (by simp)⟩ ?_
 rintro⟨i,n⟩ ⟨hi,h13,hn0,hn1,hD,hz,hd0⟩
 simp only[] at hi h13 hn0 hn1 hD hz hd0
 have hp:(10:Int) ^ i≤10 ^ 13:=by exact_mod_cast Nat.pow_le_pow_right (by decide) h13
 have hs:(∀h:i<s.length,i<13→ ¬aX s[i]=true)→aY (13-i) n (s.drop i)=(n,s.drop i):=fun q=>by
  by_cases h1:i<13
  ·obtain⟨k,hk⟩: ∃k,13-i=k+1:=⟨12-i,by omega⟩
   rw[hk]
   by_cases h2:i<s.length
   ·rw[zoz n h2,if_neg (q h2 h1)]
   ·rw[List.drop_eq_nil_of_le (by omega)];rfl
  ·rw[show 13-i=0 by omega];rfl
 have hEnd:(∀h:i<s.length,i<13→ ¬aX s[i]=true)→((i:Int)=0→S (.tup [.int .i64 (-1),.str s]))∧(¬(i:Int)=0→((i:Int)≤s.length∧(s.length:Int)≤s.length)∧S (.tup [.int .i64 n,.str (s.drop i)])):=fun q=>by
  refine⟨fun h0=>?_,fun h0=>⟨⟨by omega,by omega⟩,?_⟩⟩
  ·obtain rfl:i=0:=by omega
   have:numT s=(-1,s):=by
    by_cases h2:0<s.length
    ·rw[hnum h2,if_neg (q h2 (by omega))]
    ·rw[List.length_eq_zero_iff.1 (by omega:s.length=0)];rfl
   rw[this] at hS
   exact hS _ rfl
  ·have:numT s=(n,s.drop i):=by
    have h2:0<s.length:=by omega
    rw[hnum h2,if_pos (hd0 (by omega) h2),hD,hs q]
   rw[this] at hS
   exact hS _ rfl
 by_cases hlt:i<s.length
 ·have c1:(i:Int)<s.length:=by omega
  have c4:IntKind.i64.wrap ((i:Int)+1)=(i:Int)+1:=wrap_in (by omega) (by omega)
  have hg:s.getD i 0=s[i]:=by rw[List.getD_eq_getElem?_getD,List.getElem?_eq_getElem hlt];rfl
  have hda:aX s[i]=true ↔ 48≤s[i].toNat∧s[i].toNat≤57:=by
   unfold aX;rw[Bool.and_eq_true,decide_eq_true_eq,decide_eq_true_eq]
  by_cases h13b:i<13
  ·have c2:(i:Int)<13:=by omega
   by_cases hdg:aX s[i]=true
   ·have hdd:=hda.1 hdg
    have c5:(s[i].toNat:Int)≥48:=by omega
    have c6:(s[i].toNat:Int)≤57:=by omega
    have w1:IntKind.i64.wrap (10*n)=10*n:=wrap_in (by omega) (by omega)
    have w2:IntKind.i64.wrap (s[i].toNat:Int)=s[i].toNat:=wrap_in (by omega) (by omega)
    have w3:IntKind.i64.wrap (10*n+s[i].toNat)=10*n+s[i].toNat:=wrap_in (by omega) (by omega)
    have w4:IntKind.i64.wrap (10*n+s[i].toNat-48)=10*n+s[i].toNat-48:=wrap_in (by omega) (by omega)
    simp only[c1,c2,c4,c5,c6,w1,w2,w3,w4,hg,Qs,zoC,oC,zoG,Nat.reduceBEq,Q27]
    refine Next.intro (i+1,10*n+s[i].toNat-48) rfl rfl ⟨by simp only;omega,by simp only;omega,by simp only;omega,?_,?_,fun h=>absurd h (by simp),fun _ h=>?_⟩ (by simp only;omega)
    ·simp only
     rw[Int.pow_succ];omega
    ·obtain⟨k,hk⟩: ∃k,13-i=k+1:=⟨12-i,by omega⟩
     rw[hD,hk,zoz n hlt,if_pos hdg,show 13-(i+1)=k by omega]
    ·by_cases h0:i=0
     ·subst h0;exact hdg
     ·exact hd0 (by omega) h
   ·have hE:=hEnd (fun _ _=>hdg)
    by_cases h5:48≤s[i].toNat
    ·have c5:(s[i].toNat:Int)≥48:=by omega
     have c6: ¬(s[i].toNat:Int)≤57:=fun q=>hdg (hda.2 ⟨h5,by omega⟩)
     simp only[c1,c2,c4,c5,c6,hg,List.take_length,Qs,zn2,Int.reduceNeg,List.append_nil,Nat.reduceBEq,Q27]
     exact hE
    ·have c5: ¬(s[i].toNat:Int)≥48:=by omega
     simp only[c1,c2,c4,c5,hg,List.take_length,Qs,zn2,Int.reduceNeg,List.append_nil,Nat.reduceBEq,Q27]
     exact hE
  ·have hE:=hEnd (fun _ h=>absurd h h13b)
   have c2: ¬(i:Int)<13:=by omega
   simp only[c1,c2,List.take_length,Qs,zn2,Int.reduceNeg,List.append_nil,Nat.reduceBEq,Q27]
   exact hE
 ·have hE:=hEnd (fun h=>absurd h hlt)
  have c1: ¬(i:Int)<s.length:=by omega
  simp only[c1,List.take_length,Qs,zn2,Int.reduceNeg,List.append_nil,Nat.reduceBEq,Q27]
  exact hE
theorem znR (s h:Txt):(eatT s h).1.length≤s.length:=by
 unfold eatT;split<;>simp
theorem znY (s:Txt):(numT s).2.length≤s.length:=by
 have hl: ∀(k:Nat) (n:Int) (t:Txt),(aY k n t).2.length≤t.length:=fun k=>by
  induction k with
  |zero=>intro n t;simp[aY]
  |succ k ih=>
   intro n t
   cases t with
   |nil=>simp[aY]
   |cons c t=>
    rw[aY];split
    ·have:=ih (10*n+c.toNat-48) t;simp only[List.length_cons];omega
    ·simp
 cases s with
 |nil=>simp[numT]
 |cons c t=>
  show(if aX c=true then aY 13 0 (c::t) else(-1,c::t)).2.length≤_
  split
  ·exact hl _ _ _
  ·simp
theorem zoc (s:Txt):(wordT s).2.length≤s.length:=by
 induction s with
 |nil=>simp[wordT]
 |cons c t ih=>
  rw[wordT]
  split
  ·simp only[List.length_cons];omega
  ·simp
theorem znZ (s:Txt):(lineT s).length≤s.length:=by
 induction s with
 |nil=>simp[lineT]
 |cons c t ih=>
  rw[lineT]
  split
  ·simp
  ·simp only[List.length_cons];omega
theorem c31 (s:Txt) (hl:s.length≤1000000):Spec Tryz.prog 31 [.str s] (fun v=>v=.tup [.int .i64 (rdDate zI s).1,.str (rdDate zI s).2]):=by
 refine Spec.of_awlP hf31 okf31 (by simp) fun S hS=>?_
 have l1:=znY s
 have l2:=znR (numT s).2 [45]
 have l3:=znY (eatT (numT s).2 [45]).1
 have l4:=znR (numT (eatT (numT s).2 [45]).1).2 [45]
 have g1:=c27 s hl
 have g2:=c26 (numT s).2 [45]
 have g3:=c27 (eatT (numT s).2 [45]).1 (by omega)
 have g4:=c26 (numT (eatT (numT s).2 [45]).1).2 [45]
 have g5:=c27 (eatT (numT (eatT (numT s).2 [45]).1).2 [45]).1 (by omega)
 unfold rdDate zI at hS
 simp only[] at hS
 generalize numT s=a1 at g1 g2 g3 g4 g5 hS
 generalize eatT a1.2 [45]=a2 at g2 g3 g4 g5 hS
 generalize numT a2.1=a3 at g3 g4 g5 hS
 generalize eatT a3.2 [45]=a4 at g4 g5 hS
 generalize numT a4.1=a5 at g5 hS
 have g6:=c73 a1.1 a3.1 a5.1
 generalize dayG a1.1 a3.1 a5.1=a6 at g6 hS
 simp only[Qs,Nat.reduceBEq,Q31]
 refine zC g1 ?_ (ha:=by rfl)
 simp only[Qs,Nat.reduceBEq,Q31]
 refine zC g2 ?_ (ha:=by rfl)
 simp only[Qs,Nat.reduceBEq,Q31]
 refine zC g3 ?_ (ha:=by rfl)
 simp only[Qs,Nat.reduceBEq,Q31]
 refine zC g4 ?_ (ha:=by rfl)
 simp only[Qs,Nat.reduceBEq,Q31]
 refine zC g5 ?_ (ha:=by rfl)
 simp only[Qs,Nat.reduceBEq,Q31]
 refine zC g6 ?_ (ha:=by rfl)
 by_cases h:a6.2=0
 ·have w0:(a6.2 !=0)=false:=by simp[h]
  rw[if_pos h] at hS
  simp only[w0,Qs,List.append_nil,Nat.reduceBEq,Q31]
  exact hS _ rfl
 ·have w0:(a6.2 !=0)=true:=by simp[h]
  rw[if_neg h] at hS
  simp only[w0,Qs,Int.reduceNeg,List.append_nil,Nat.reduceBEq,Q31]
  exact hS _ rfl
theorem c32 (s:Txt) (hl:s.length≤1000000):Spec Tryz.prog 32 [.str s] (fun v=>v=.agg (iE (rdTen zI s))):=by
 refine Spec.of_awlS hf32 okf32 (by simp) fun S hS=>?_
 have g1:=c26 s [112,97,121,32,97,116,32,117,115,97,110,99,101]
 have g2:=c26 s [112,97,121,32,111,110,32]
 have l2:=znR s [112,97,121,32,111,110,32]
 have g3:=c26 s [112,97,121,32,97,116,32,115,105,103,104,116]
 have g4:=c26 s [112,97,121,32]
 have l4:=znR s [112,97,121,32]
 unfold rdTen at hS
 simp only[] at hS
 generalize eatT s [112,97,121,32,97,116,32,117,115,97,110,99,101]=a1 at g1 hS
 generalize eatT s [112,97,121,32,111,110,32]=a2 at g2 l2 hS
 generalize eatT s [112,97,121,32,97,116,32,115,105,103,104,116]=a3 at g3 hS
 generalize eatT s [112,97,121,32]=a4 at g4 l4 hS
 obtain⟨a1,b1⟩:=a1
 obtain⟨a2,b2⟩:=a2
 obtain⟨a3,b3⟩:=a3
 simp only[] at g1 g2 g3 g4 l2 l4 hS
 simp only[Qs,Nat.reduceBEq,Q32]
 refine zC g1 ?_ (ha:=by rfl)
 cases b1 with
 |true=>
  simp only[Qs,List.append_nil,Nat.reduceAdd,Nat.reduceLeDiff,Nat.reduceLT,Nat.reduceBEq,Q32]
  exact hS
 |false=>
  simp only[Qs,Nat.reduceBEq,Q32]
  refine zC g2 ?_ (ha:=by rfl)
  cases b2 with
  |true=>
   have g5:=c31 a2 (by omega)
   simp only[Qs,Nat.reduceBEq,Q32]
   refine zC g5 ?_ (ha:=by rfl)
   simp only[Qs,List.append_nil,Nat.reduceAdd,Nat.reduceLeDiff,Nat.reduceLT,Nat.reduceBEq,Q32]
   exact hS
  |false=>
   simp only[Qs,Nat.reduceBEq,Q32]
   refine zC g3 ?_ (ha:=by rfl)
   cases b3 with
   |true=>
    simp only[Qs,List.append_nil,Nat.reduceAdd,Nat.reduceLeDiff,Nat.reduceLT,Nat.reduceBEq,Q32]
    exact hS
   |false=>
    have g5:=c27 a4.1 (by omega)
    have l5:=znY a4.1
    generalize numT a4.1=a5 at g5 l5 hS
    have g6:=c26 a5.2 [32,100,97,121,115,32,97,102,116,101,114,32]
    have l6:=znR a5.2 [32,100,97,121,115,32,97,102,116,101,114,32]
    generalize eatT a5.2 [32,100,97,121,115,32,97,102,116,101,114,32]=a6 at g6 l6 hS
    obtain⟨a6,b6⟩:=a6
    have g7:=c26 a6 [100,97,116,101]
    have g8:=c26 a6 [32,109,111,110,116,104,115,32,97,102,116,101,114,32]
    have g9:=c26 (eatT a6 [32,109,111,110,116,104,115,32,97,102,116,101,114,32]).1 [100,97,116,101]
    generalize eatT a6 [100,97,116,101]=a7 at g7 hS
    generalize eatT a6 [32,109,111,110,116,104,115,32,97,102,116,101,114,32]=a8 at g8 g9 hS
    generalize eatT a8.1 [100,97,116,101]=a9 at g9 hS
    obtain⟨a7,b7⟩:=a7
    obtain⟨a9,b9⟩:=a9
    simp only[Qs,Nat.reduceBEq,Q32]
    refine zC g4 ?_ (ha:=by rfl)
    simp only[Qs,Nat.reduceBEq,Q32]
    refine zC g5 ?_ (ha:=by rfl)
    simp only[Qs,bne_iff_ne,ne_eq,List.append_nil,Nat.reduceAdd,Nat.reduceEqDiff,Nat.reduceLeDiff,Nat.reduceBEq,Q32]
    refine zC g6 ?_ (ha:=by rfl)
    cases b6 with
    |true=>
     simp only[Qs,Nat.reduceBEq,Q32]
     refine zC g7 ?_ (ha:=by rfl)
     cases b7 with
     |true=>
      simp only[Qs,List.append_nil,Nat.reduceAdd,Nat.reduceLeDiff,Nat.reduceLT,Nat.reduceBEq,Q32]
      exact hS
     |false=>
      simp only[Qs,List.append_nil,Nat.reduceAdd,Nat.reduceLT,Nat.reduceBEq,Q32]
      exact hS
    |false=>
     simp only[Qs,List.append_nil,Nat.reduceAdd,Nat.reduceBEq,Q32]
     refine zC g8 ?_ (ha:=by rfl)
     simp only[Qs,Nat.reduceBEq,Q32]
     refine zC g9 ?_ (ha:=by rfl)
     cases b9 with
     |true=>
      simp only[Qs,List.append_nil,Nat.reduceAdd,Nat.reduceLeDiff,Nat.reduceLT,Nat.reduceBEq,Q32]
      exact hS
     |false=>
      simp only[Qs,List.append_nil,Nat.reduceAdd,Nat.reduceLT,Nat.reduceBEq,Q32]
      exact hS
end Go.Abs
set_option maxRecDepth 100000
set_option maxHeartbeats 8000000
namespace Go.Abs
open Go.Proofs Go.RowKit Go.Lib Go.Wd Go.Wire
def stX (r:Rlm) (b:Bil) (out:Txt):TS:=[(3,.k (.c (.ro (zS r) 0))),(4,.k (.c (.ro (yF b) 0))),(7,.str out)]
def z5 (r:Rlm) (b:Bil):Txt:=[115,105,103,110,101,100,32]++nm (fnm r) b.dr++[10]
def z4 (r:Rlm) (b:Bil):Txt:=(if bit 2 b.fl=true then[119,105,116,104,111,117,116,32,112,114,111,116,101,115,116,10] else[])++z5 r b
def z3 (r:Rlm) (b:Bil):Txt:=(if b.ne= -1 then[] else[105,110,32,110,101,101,100,32,97,115,107,32]++nm (fnm r) b.ne++[10])++z4 r b
def z2 (r:Rlm) (b:Bil) (p:Int):Txt:=[10,116,111,32,98,101,32,112,97,105,100,32,98,121,32]++nm (fnm r) b.de++[32,105,110,32]++nm (cnm r) b.py++[10]++((if b.pt>1 then[117,110,108,101,115,115,32,112,97,114,116,32]++zT 32 (vJ b.pt p)++[32,119,97,115,32,112,97,105,100,10] else[])++z3 r b)
def z1 (r:Rlm) (b:Bil) (p:Int):Txt:=dec b.su++[32]++nm r.cur b.cu++((if b.ra>0 then[32,119,105,116,104,32,105,110,116,101,114,101,115,116,32,97,116,32]++dec b.ra++[32,112,101,114,32,109,105,108,108,101] else[])++z2 r b p)
def z0 (r:Rlm) (b:Bil) (p:Int):Txt:=dec (p+1)++[32,111,102,32]++dec b.pt++[10,100,114,97,119,110,32,105,110,32]++nm (cnm r) b.ci++[32,111,110,32]++wG zI b.da++[10]++(zT 32 (wP zI b.te)++[10])++((if b.pa= -1 then[116,111,32,98,101,97,114,101,114,10] else if bit 4 b.fl=true then[116,111,32]++nm (fnm r) b.pa++[32,110,111,116,32,116,111,32,111,114,100,101,114,10] else[116,111,32]++nm (fnm r) b.pa++[32,111,114,32,111,114,100,101,114,10])++z1 r b p)
theorem zo1 (r:Rlm) (b:Bil) (p:Int) (hra:0≤b.ra):yH (rows zI (nms r) b p)=(if bit 1 b.fl=true then[98,105,108,108,32] else[112,97,112,101,114,32])++z0 r b p:=by
 have r1: ∀c:Prop,[Decidable c]→ ∀ws:List Txt,yH (if c then[ws] else[])=if c then zT 32 ws++[10] else[]:=fun c _ ws=>by
  split
  ·simp[yH]
  ·rfl
 have r2: ∀c:Prop,[Decidable c]→ ∀ws:List Txt,yH (if c then[] else[ws])=if c then[] else zT 32 ws++[10]:=fun c _ ws=>by
  split
  ·rfl
  ·simp[yH]
 have r3:yH (if b.pt>1 then[[117,110,108,101,115,115]::[112,97,114,116]::(vJ b.pt p++[[119,97,115],[112,97,105,100]])] else[])=if b.pt>1 then[117,110,108,101,115,115,32,112,97,114,116,32]++zT 32 (vJ b.pt p)++[32,119,97,115,32,112,97,105,100,10] else[]:=by
  rw[r1]
  split
  ·rw[←unless_row _ (zmT (by assumption))];simp[joinS]
  ·rfl
 have e1:zT 32 [if bit 1 b.fl=true then[98,105,108,108] else[112,97,112,101,114],dec (p+1),[111,102],dec b.pt]++[10]=(if bit 1 b.fl=true then[98,105,108,108,32] else[112,97,112,101,114,32])++(dec (p+1)++[32,111,102,32]++dec b.pt)++[10]:=by
  split<;>simp[zT]
 have e2:zT 32 [[100,114,97,119,110],[105,110],nm (cnm r) b.ci,[111,110],wG zI b.da]++[10]=[100,114,97,119,110,32,105,110,32]++nm (cnm r) b.ci++[32,111,110,32]++wG zI b.da++[10]:=by simp[zT]
 have e4:zT 32 (if b.pa= -1 then[[116,111],[98,101,97,114,101,114]] else if bit 4 b.fl=true then[[116,111],nm (fnm r) b.pa,[110,111,116],[116,111],[111,114,100,101,114]] else[[116,111],nm (fnm r) b.pa,[111,114],[111,114,100,101,114]])++[10]=(if b.pa= -1 then[116,111,32,98,101,97,114,101,114,10] else if bit 4 b.fl=true then[116,111,32]++nm (fnm r) b.pa++[32,110,111,116,32,116,111,32,111,114,100,101,114,10] else[116,111,32]++nm (fnm r) b.pa++[32,111,114,32,111,114,100,101,114,10]):=by
  split
  ·rfl
  ·split<;>simp[zT]
 have e5:zT 32 (if b.ra=0 then[dec b.su,nm r.cur b.cu] else[dec b.su,nm r.cur b.cu,[119,105,116,104],[105,110,116,101,114,101,115,116],[97,116],dec b.ra,[112,101,114],[109,105,108,108,101]])=dec b.su++[32]++nm r.cur b.cu++(if b.ra>0 then[32,119,105,116,104,32,105,110,116,101,114,101,115,116,32,97,116,32]++dec b.ra++[32,112,101,114,32,109,105,108,108,101] else[]):=by
  by_cases h:b.ra=0
  ·rw[if_pos h,if_neg (by omega)];simp[zT]
  ·rw[if_neg h,if_pos (by omega)];simp[zT]
 have e6:zT 32 [[116,111],[98,101],[112,97,105,100],[98,121],nm (fnm r) b.de,[105,110],nm (cnm r) b.py]=[116,111,32,98,101,32,112,97,105,100,32,98,121,32]++nm (fnm r) b.de++[32,105,110,32]++nm (cnm r) b.py:=by simp[zT]
 have e7:zT 32 [[105,110],[110,101,101,100],[97,115,107],nm (fnm r) b.ne]=[105,110,32,110,101,101,100,32,97,115,107,32]++nm (fnm r) b.ne:=by simp[zT]
 have e8:zT 32 [[115,105,103,110,101,100],nm (fnm r) b.dr]=[115,105,103,110,101,100,32]++nm (fnm r) b.dr:=by simp[zT]
 have e9:zT 32 [[119,105,116,104,111,117,116],[112,114,111,116,101,115,116]]=[119,105,116,104,111,117,116,32,112,114,111,116,101,115,116]:=rfl
 unfold rows z0 z1 z2 z3 z4 z5
 have k: ∀(ws:List Txt) (L:List (List Txt)),yH (ws::L)=(zT 32 ws++[10])++yH L:=fun ws L=>by rw[lC];simp
 simp only[aH,k,r3,r1,r2,nms,e6,e7,e8,e9]
 rw[e1,e2,e4,e5]
 simp[yH]
section
variable {S : V → Prop} {r : Rlm} {b : Bil} {p : Int} (hN : RlmOk r) (hb : BilOk (nms r) b) (hp0 : 0 ≤ p) (hp : p < b.pt)
include hN hb
theorem x5 {out:Txt} (ho:out.length≤3000) (hS:S (.str (out++z5 r b))):awl Tryz.prog f15b2 (endK [RX.t 6] S) (stX r b out) []:=by
 have hL:=xZ r
 have hB:yF b=[.int .i64 b.dr,.int .i64 b.de,.int .i64 b.pa,.int .i64 b.su,.int .i64 b.cu,.int .i64 b.te.k,.int .i64 b.te.n,.int .i64 b.te.u,.int .i64 b.da,.int .i64 b.ci,.int .i64 b.py,.int .i64 b.ne,.int .i64 b.ra,.int .i64 b.fl,.int .i64 b.pt]:=rfl
 have hdl:b.dr<r.firms.length:=by have:=hb.dr.2;simp only[nms] at this;rw[sK] at this;exact this
 have hd0:=hb.dr.1
 have hat:=mR r (i:=b.dr.toNat) (by omega)
 rw[show(fnm r).getD b.dr.toNat []=nm (fnm r) b.dr from rfl] at hat
 have hnl:=vP hN.fi hb.dr
 unfold z5 at hS
 unfold stX
 rw[hL,hB]
 simp only[hat,hd0,yW,hdl,List.length_append,List.length_cons,List.length_nil,Qs,Nat.reduceAdd,Nat.reduceLeDiff,Nat.reduceBEq,Q15,uu f15b2.eq_1]
 refine⟨by omega,by omega,by omega,fin hS ?_⟩
 simp
theorem x4 {out:Txt} (ho:out.length≤2900) (hS:S (.str (out++z4 r b))):awl Tryz.prog f15b7 (endK [RX.t 6] S) (stX r b out) []:=by
 have hL:=xZ r
 have hB:yF b=[.int .i64 b.dr,.int .i64 b.de,.int .i64 b.pa,.int .i64 b.su,.int .i64 b.cu,.int .i64 b.te.k,.int .i64 b.te.n,.int .i64 b.te.u,.int .i64 b.da,.int .i64 b.ci,.int .i64 b.py,.int .i64 b.ne,.int .i64 b.ra,.int .i64 b.fl,.int .i64 b.pt]:=rfl
 have h2:=zmN hb.fl.1 hb.fl.2 2 (by simp)
 have T:=@x5 S r b hN hb
 unfold z4 at hS
 unfold stX at T⊢
 rw[hL,hB] at T⊢
 cases hq:bit 2 b.fl with
 |true=>
  rw[hq] at h2 hS
  rw[if_pos rfl,←List.append_assoc] at hS
  simp only[h2,Qs,Nat.reduceAdd,Nat.reduceLeDiff,Nat.reduceBEq,Q15,uu f15b7.eq_1]
  refine⟨by omega,T (by simp only[List.length_append,List.length_cons,List.length_nil];omega) hS⟩
 |false=>
  rw[hq] at h2 hS
  rw[if_neg (by simp),List.nil_append] at hS
  simp only[h2,Qs,Nat.reduceAdd,Nat.reduceLeDiff,Nat.reduceBEq,Q15,uu f15b7.eq_1]
  exact T (by omega) hS
theorem x3 {out:Txt} (ho:out.length≤2800) (hS:S (.str (out++z3 r b))):awl Tryz.prog f15b12 (endK [RX.t 6] S) (stX r b out) []:=by
 have hL:=xZ r
 have hB:yF b=[.int .i64 b.dr,.int .i64 b.de,.int .i64 b.pa,.int .i64 b.su,.int .i64 b.cu,.int .i64 b.te.k,.int .i64 b.te.n,.int .i64 b.te.u,.int .i64 b.da,.int .i64 b.ci,.int .i64 b.py,.int .i64 b.ne,.int .i64 b.ra,.int .i64 b.fl,.int .i64 b.pt]:=rfl
 have T:=@x4 S r b hN hb
 unfold z3 at hS
 unfold stX at T⊢
 rw[hL,hB] at T⊢
 by_cases hq:b.ne= -1
 ·have h2:(b.ne != -1)=false:=by simp[hq]
  rw[if_pos hq,List.nil_append] at hS
  simp only[h2,Qs,Int.reduceNeg,Nat.reduceAdd,Nat.reduceLeDiff,Nat.reduceBEq,Q15,uu f15b12.eq_1]
  exact T (by omega) hS
 ·have h2:(b.ne != -1)=true:=by simp[hq]
  have hin:=hb.ne.resolve_left hq
  have hdl:b.ne<r.firms.length:=by have:=hin.2;simp only[nms] at this;rw[sK] at this;exact this
  have hd0:=hin.1
  have hat:=mR r (i:=b.ne.toNat) (by omega)
  rw[show(fnm r).getD b.ne.toNat []=nm (fnm r) b.ne from rfl] at hat
  have hnl:=vP hN.fi hin
  rw[if_neg hq,←List.append_assoc] at hS
  simp only[h2,hat,hd0,yW,hdl,List.length_append,List.length_cons,List.length_nil,Qs,Int.reduceNeg,Nat.reduceAdd,Nat.reduceLeDiff,Nat.reduceBEq,Q15,uu f15b12.eq_1]
  refine⟨by omega,by omega,by omega,?_⟩
  have T2:=@T (out++([105,110,32,110,101,101,100,32,97,115,107,32]++nm (fnm r) b.ne++[10])) (by simp only[List.length_append,List.length_cons,List.length_nil];omega) hS
  simp only[←List.append_assoc] at T2
  exact T2
include hp0 hp
theorem x2 {out:Txt} (ho:out.length≤1600) (hS:S (.str (out++z2 r b p))):awl Tryz.prog f15b19 (endK [RX.t 6] S) ((2,.int .i64 p)::stX r b out) []:=by
 have _:=hp0
 have _:=hp
 have hL:=xZ r
 have hB:yF b=[.int .i64 b.dr,.int .i64 b.de,.int .i64 b.pa,.int .i64 b.su,.int .i64 b.cu,.int .i64 b.te.k,.int .i64 b.te.n,.int .i64 b.te.u,.int .i64 b.da,.int .i64 b.ci,.int .i64 b.py,.int .i64 b.ne,.int .i64 b.ra,.int .i64 b.fl,.int .i64 b.pt]:=rfl
 have T:=@x3 S r b hN hb
 have hdl:b.de<r.firms.length:=by have:=hb.de.2;simp only[nms] at this;rw[sK] at this;exact this
 have hd0:=hb.de.1
 have hat:=mR r (i:=b.de.toNat) (by omega)
 rw[show(fnm r).getD b.de.toNat []=nm (fnm r) b.de from rfl] at hat
 have hnl:=vP hN.fi hb.de
 have hyl:b.py<r.cities.length:=by have:=hb.py.2;simp only[nms] at this;rw[rO] at this;exact this
 have hy0:=hb.py.1
 have hay:=bD r (i:=b.py.toNat) (by omega)
 rw[show(cnm r).getD b.py.toNat []=nm (cnm r) b.py from rfl] at hay
 have hny:=vP hN.ci hb.py
 have hpt:=hb.pt
 obtain⟨n,hn⟩: ∃n:Nat,b.pt=n:=⟨b.pt.toNat,by omega⟩
 have g59:=c59 n p (by omega)
 have lo:(zT 32 (vJ n p)).length≤1000:=by
  have h1:=aD p n (by omega)
  have h2:=iG p n
  have h3:=bF [32,111,114,32] (wZ n p)
  rw[zhY] at h3
  change (zT 32 (vJ n p)).length≤_ at h3
  simp only[List.length_cons,List.length_nil] at h3
  omega
 rw[←hn] at g59 lo
 unfold z2 at hS
 unfold stX at T⊢
 rw[hL,hB] at T⊢
 by_cases hq:b.pt>1
 ·rw[if_pos hq] at hS
  simp only[hq,hat,hd0,yW,hdl,hay,hy0,hyl,yE,List.length_append,List.length_cons,List.length_nil,Qs,Nat.reduceAdd,Nat.reduceLeDiff,Nat.reduceBEq,Q15,uu f15b19.eq_1]
  refine⟨by omega,by omega,by omega,by omega,by omega,by omega,?_⟩
  refine zC g59 ?_ (ha:=by rfl)
  simp only[List.length_append,List.length_cons,List.length_nil,Qs,Nat.reduceAdd,Nat.reduceLeDiff,Nat.reduceBEq]
  refine⟨by omega,by omega,?_⟩
  have T2:=@T (out++([10,116,111,32,98,101,32,112,97,105,100,32,98,121,32]++nm (fnm r) b.de++[32,105,110,32]++nm (cnm r) b.py++[10]++([117,110,108,101,115,115,32,112,97,114,116,32]++zT 32 (vJ b.pt p)++[32,119,97,115,32,112,97,105,100,10]))) (by simp only[List.length_append,List.length_cons,List.length_nil];omega) (by simp only[List.append_assoc] at hS⊢;exact hS)
  simp only[←List.append_assoc] at T2
  exact T2
 ·rw[if_neg hq,List.nil_append] at hS
  simp only[hq,hat,hd0,yW,hdl,hay,hy0,hyl,yE,List.length_append,List.length_cons,List.length_nil,Qs,Nat.reduceAdd,Nat.reduceLeDiff,Nat.reduceBEq,Q15,uu f15b19.eq_1]
  refine⟨by omega,by omega,by omega,by omega,by omega,?_⟩
  have T2:=@T (out++([10,116,111,32,98,101,32,112,97,105,100,32,98,121,32]++nm (fnm r) b.de++[32,105,110,32]++nm (cnm r) b.py++[10])) (by simp only[List.length_append,List.length_cons,List.length_nil];omega) (by simp only[List.append_assoc] at hS⊢;exact hS)
  simp only[←List.append_assoc] at T2
  exact T2
theorem x1 {out:Txt} (ho:out.length≤1500) (hS:S (.str (out++z1 r b p))):awl Tryz.prog f15b26 (endK [RX.t 6] S) ((2,.int .i64 p)::stX r b out) []:=by
 have hL:=xZ r
 have hB:yF b=[.int .i64 b.dr,.int .i64 b.de,.int .i64 b.pa,.int .i64 b.su,.int .i64 b.cu,.int .i64 b.te.k,.int .i64 b.te.n,.int .i64 b.te.u,.int .i64 b.da,.int .i64 b.ci,.int .i64 b.py,.int .i64 b.ne,.int .i64 b.ra,.int .i64 b.fl,.int .i64 b.pt]:=rfl
 have T:=@x2 S r b p hN hb hp0 hp
 have hsu:=hb.su
 have hra:=hb.ra
 have gs:=c56 b.su (by omega) (by omega)
 have gr:=c56 b.ra (by omega) (by omega)
 have ls:(dec b.su).length≤13:=dec_len 12 _ (by omega)
 have lr:(dec b.ra).length≤13:=dec_len 12 _ (by omega)
 have cl:b.cu<r.cur.length:=hb.cu.2
 have c0:=hb.cu.1
 have hcu:(zE r.cur).getD b.cu.toNat []=[.str (nm r.cur b.cu)]:=by
  have h1:b.cu.toNat<r.cur.length:=by omega
  simp[zE,nm,List.getD,h1]
 have nl1:=vP hN.cu hb.cu
 unfold z1 at hS
 unfold stX at T⊢
 rw[hL,hB] at T⊢
 by_cases hq:b.ra>0
 ·rw[if_pos hq] at hS
  simp only[Qs,Nat.reduceAdd,Nat.reduceLeDiff,Nat.reduceBEq,Q15,uu f15b26.eq_1]
  refine yV gs ?_ (ha:=by rfl)
  simp only[hq,hcu,c0,cl,zK,List.length_append,List.length_cons,List.length_nil,Qs,Nat.reduceAdd,Nat.reduceLeDiff,Nat.reduceBEq,Q15,uu f15b26.eq_1]
  repeat refine⟨by omega,?_⟩
  refine zC gr ?_ (ha:=by rfl)
  simp only[List.length_append,List.length_cons,List.length_nil,Qs,Nat.reduceAdd,Nat.reduceLeDiff,Nat.reduceBEq]
  repeat refine⟨by omega,?_⟩
  have T2:=@T (out++(dec b.su++[32]++nm r.cur b.cu++([32,119,105,116,104,32,105,110,116,101,114,101,115,116,32,97,116,32]++dec b.ra++[32,112,101,114,32,109,105,108,108,101]))) (by simp only[List.length_append,List.length_cons,List.length_nil];omega) (by simp only[List.append_assoc] at hS⊢;exact hS)
  simp only[←List.append_assoc] at T2
  exact T2
 ·rw[if_neg hq,List.nil_append] at hS
  simp only[Qs,Nat.reduceAdd,Nat.reduceLeDiff,Nat.reduceBEq,Q15,uu f15b26.eq_1]
  refine yV gs ?_ (ha:=by rfl)
  simp only[hq,hcu,c0,cl,zK,List.length_append,List.length_cons,List.length_nil,Qs,Nat.reduceAdd,Nat.reduceLeDiff,Nat.reduceBEq,Q15,uu f15b26.eq_1]
  repeat refine⟨by omega,?_⟩
  have T2:=@T (out++(dec b.su++[32]++nm r.cur b.cu)) (by simp only[List.length_append,List.length_cons,List.length_nil];omega) (by simp only[List.append_assoc] at hS⊢;exact hS)
  simp only[←List.append_assoc] at T2
  exact T2
theorem x0 {out:Txt} (ho:out.length≤1000) (hS:S (.str (out++z0 r b p))):awl Tryz.prog f15b38 (endK [RX.t 6] S) ((2,.int .i64 p)::stX r b out) []:=by
 have hL:=xZ r
 have hB:yF b=[.int .i64 b.dr,.int .i64 b.de,.int .i64 b.pa,.int .i64 b.su,.int .i64 b.cu,.int .i64 b.te.k,.int .i64 b.te.n,.int .i64 b.te.u,.int .i64 b.da,.int .i64 b.ci,.int .i64 b.py,.int .i64 b.ne,.int .i64 b.ra,.int .i64 b.fl,.int .i64 b.pt]:=rfl
 have T:=@x1 S r b p hN hb hp0 hp
 have hpt:=hb.pt
 have wp:IntKind.i64.wrap (p+1)=p+1:=wrap_in (by omega) (by omega)
 have gp:=c56 (p+1) (by omega) (by omega)
 have gt:=c56 b.pt (by omega) (by omega)
 have lp:(dec (p+1)).length≤13:=dec_len 12 _ (by omega)
 have lt:(dec b.pt).length≤13:=dec_len 12 _ (by omega)
 have gd:=c57 b.da hb.da
 have ld:=iF hb.da.1 hb.da.2
 have gy:Spec Tryz.prog 58 [.agg [.int .i64 b.te.k,.int .i64 b.te.n,.int .i64 b.te.u]] _:=c58 b.te b.da hb.da.1 hb.te
 have ly:(zT 32 (wP zI b.te)).length≤150:=aJ hN hb hp0 hp _ (by unfold rows;simp)
 have cl:b.ci<r.cities.length:=by have:=hb.ci.2;simp only[nms] at this;rwa [rO] at this
 have c0:=hb.ci.1
 have hci:=bD r (i:=b.ci.toNat) (by omega)
 rw[show(cnm r).getD b.ci.toNat []=nm (cnm r) b.ci from rfl] at hci
 have nl1:=vP hN.ci hb.ci
 have h4:=zmN hb.fl.1 hb.fl.2 4 (by simp)
 have hno:=hb.no
 have hpa:=hb.pa
 unfold z0 at hS
 unfold stX at T⊢
 rw[hL,hB] at T⊢
 simp only[wp,Qs,Nat.reduceBEq,Q15,uu f15b38.eq_1]
 refine yV gp ?_ (ha:=by rfl)
 simp only[List.length_append,List.length_cons,List.length_nil,Qs,Nat.reduceAdd,Nat.reduceLeDiff,Nat.reduceBEq]
 repeat refine⟨by omega,?_⟩
 refine yV gt ?_ (ha:=by rfl)
 simp only[hci,c0,cl,yE,List.length_append,List.length_cons,List.length_nil,Qs,Nat.reduceAdd,Nat.reduceLeDiff,Nat.reduceBEq]
 repeat refine⟨by omega,?_⟩
 refine yV gd ?_ (ha:=by rfl)
 simp only[hci,c0,cl,yE,List.length_append,List.length_cons,List.length_nil,Qs,Nat.reduceAdd,Nat.reduceLeDiff,Nat.reduceBEq]
 repeat refine⟨by omega,?_⟩
 refine yV gy ?_ (ha:=by rfl)
 by_cases hq:b.pa= -1
 ·have q1:(b.pa== -1)=true:=by simp[hq]
  rw[if_pos hq] at hS
  simp only[q1,List.length_append,List.length_cons,List.length_nil,Qs,Int.reduceNeg,Nat.reduceAdd,Nat.reduceLeDiff,Nat.reduceBEq,Q15,uu f15b38.eq_1]
  repeat refine⟨by omega,?_⟩
  have T2:=@T (out++(dec (p+1)++[32,111,102,32]++dec b.pt++[10,100,114,97,119,110,32,105,110,32]++nm (cnm r) b.ci++[32,111,110,32]++wG zI b.da++[10]++(zT 32 (wP zI b.te)++[10])++[116,111,32,98,101,97,114,101,114,10])) (by simp only[List.length_append,List.length_cons,List.length_nil];omega) (by simp only[List.append_assoc] at hS⊢;exact hS)
  simp only[←List.append_assoc] at T2⊢
  exact T2
 ·have q1:(b.pa== -1)=false:=by simp[hq]
  have hin:=hpa.resolve_left hq
  have hdl:b.pa<r.firms.length:=by have:=hin.2;simp only[nms] at this;rw[sK] at this;exact this
  have hd0:=hin.1
  have hat:=mR r (i:=b.pa.toNat) (by omega)
  rw[show(fnm r).getD b.pa.toNat []=nm (fnm r) b.pa from rfl] at hat
  have hnl:=vP hN.fi hin
  rw[if_neg hq] at hS
  cases h4q:bit 4 b.fl with
  |true=>
   rw[h4q] at h4 hS
   rw[if_pos rfl] at hS
   simp only[q1,h4,hat,hd0,hdl,yW,List.length_append,List.length_cons,List.length_nil,Qs,Int.reduceNeg,Nat.reduceAdd,Nat.reduceLeDiff,Nat.reduceBEq,Q15,uu f15b38.eq_1]
   repeat refine⟨by omega,?_⟩
   have T2:=@T (out++(dec (p+1)++[32,111,102,32]++dec b.pt++[10,100,114,97,119,110,32,105,110,32]++nm (cnm r) b.ci++[32,111,110,32]++wG zI b.da++[10]++(zT 32 (wP zI b.te)++[10])++([116,111,32]++nm (fnm r) b.pa++[32,110,111,116,32,116,111,32,111,114,100,101,114,10]))) (by simp only[List.length_append,List.length_cons,List.length_nil];omega) (by simp only[List.append_assoc] at hS⊢;exact hS)
   simp only[←List.append_assoc] at T2⊢
   exact T2
  |false=>
   rw[h4q] at h4 hS
   rw[if_neg (by simp)] at hS
   simp only[q1,h4,hat,hd0,hdl,yW,List.length_append,List.length_cons,List.length_nil,Qs,Int.reduceNeg,Nat.reduceAdd,Nat.reduceLeDiff,Nat.reduceBEq,Q15,uu f15b38.eq_1]
   repeat refine⟨by omega,?_⟩
   have T2:=@T (out++(dec (p+1)++[32,111,102,32]++dec b.pt++[10,100,114,97,119,110,32,105,110,32]++nm (cnm r) b.ci++[32,111,110,32]++wG zI b.da++[10]++(zT 32 (wP zI b.te)++[10])++([116,111,32]++nm (fnm r) b.pa++[32,111,114,32,111,114,100,101,114,10]))) (by simp only[List.length_append,List.length_cons,List.length_nil];omega) (by simp only[List.append_assoc] at hS⊢;exact hS)
   simp only[←List.append_assoc] at T2⊢
   exact T2
end
theorem c15 (r:Rlm) (hr:RlmIn r) (b:Bil) (p:Int):Spec Tryz.prog 15 [.agg (zS r),.agg (yF b),.int .i64 p] (fun v=>v=.str (textG r b p)):=by
 refine Spec.of_awlS hf15 okf15 (by simp) fun S hS=>?_
 have hno:=xY r
 have hL:=xZ r
 have gC:=c13 r hr b
 have g42:Spec _ _ _ (fun v=>v=.bool (inB p b.pt)):=c42 p b.pt
 have hB:yF b=[.int .i64 b.dr,.int .i64 b.de,.int .i64 b.pa,.int .i64 b.su,.int .i64 b.cu,.int .i64 b.te.k,.int .i64 b.te.n,.int .i64 b.te.u,.int .i64 b.da,.int .i64 b.ci,.int .i64 b.py,.int .i64 b.ne,.int .i64 b.ra,.int .i64 b.fl,.int .i64 b.pt]:=rfl
 have hbn:=zhW b
 by_cases hok:okT r b p
 ·rw[nC hok,zo1 _ _ _ hok.1.bil.ra.1] at hS
  obtain⟨hck,hp0,hp⟩:=hok
  have hb:=hck.bil
  have hN:=aF hck.rl
  have hc:=sP.2 hck
  have hin:inB p b.pt=true:=iJ.2 ⟨hp0,hp⟩
  have T:=@x0 S r b p hN hb hp0 hp
  unfold stX at T
  rw[hc] at gC
  rw[hin] at g42
  rw[hL] at gC hno T
  rw[hB] at gC hbn T
  rw[hL,hB]
  simp only[Qs,bne_iff_ne,ne_eq,Nat.reduceAdd,Nat.reduceEqDiff,Nat.reduceBEq,Q15]
  refine zC gC ?_ (ha:=by simp only[List.map_cons,List.map_nil,zD,V.norm,xT,hL,hB,hno,hbn])
  simp only[Qs,Nat.reduceAdd,Nat.reduceBEq,Int.reduceBNe]
  refine zC g42 ?_ (ha:=by rfl)
  have h8:=zmN hb.fl.1 hb.fl.2 1 (by simp)
  cases hq:bit 1 b.fl with
  |true=>
   rw[hq] at h8 hS
   rw[if_pos rfl] at hS
   simp only[h8,Qs,Nat.reduceAdd,Nat.reduceLeDiff,Nat.reduceBEq,Q15]
   exact @T [98,105,108,108,32] (by decide) hS
  |false=>
   rw[hq] at h8 hS
   rw[if_neg (by simp)] at hS
   simp only[h8,Qs,Nat.reduceAdd,Nat.reduceLeDiff,Nat.reduceBEq,Q15]
   exact @T [112,97,112,101,114,32] (by decide) hS
 ·rw[iK hok] at hS
  rw[hL] at gC hno
  rw[hB] at gC hbn
  rw[hL,hB]
  by_cases hc:chkE r b=0
  ·have hin:inB p b.pt=false:=by
    cases hq:inB p b.pt with
    |false=>rfl
    |true=>exact absurd ⟨sP.1 hc,iJ.1 hq⟩ hok
   rw[hc] at gC
   rw[hin] at g42
   simp only[Qs,bne_iff_ne,ne_eq,Nat.reduceAdd,Nat.reduceEqDiff,Nat.reduceBEq,Q15]
   refine zC gC ?_ (ha:=by simp only[List.map_cons,List.map_nil,zD,V.norm,xT,hL,hB,hno,hbn])
   simp only[Qs,Nat.reduceAdd,Nat.reduceBEq,Int.reduceBNe]
   refine zC g42 ?_ (ha:=by rfl)
   simp only[Qs,Nat.reduceBEq,Q15]
   exact hS
  ·have w0:(chkE r b !=0)=true:=by simp[hc]
   simp only[Qs,bne_iff_ne,ne_eq,Nat.reduceAdd,Nat.reduceEqDiff,Nat.reduceBEq,Q15]
   refine zC gC ?_ (ha:=by simp only[List.map_cons,List.map_nil,zD,V.norm,xT,hL,hB,hno,hbn])
   simp only[w0,Qs,Nat.reduceBEq,Q15]
   exact hS
abbrev zn0 (b:Bil):List C:=[.int .i64 b.dr,.int .i64 b.de,.int .i64 b.pa,.int .i64 b.su,.int .i64 b.cu,.int .i64 b.te.k,.int .i64 b.te.n,.int .i64 b.te.u,.int .i64 b.da,.int .i64 b.ci,.int .i64 b.py,.int .i64 b.ne,.int .i64 b.ra,.int .i64 b.fl,.int .i64 b.pt]
def payB (r:Rlm) (b:Bil) (s:Txt):Bil:=if (eatT s [116,111,32,98,101,97,114,101,114,10]).2=true then b else{b with pa:=fstI (fnm r) (wordT (eatT s [116,111,32]).1).1,fl:=if (eatT (wordT (eatT s [116,111,32]).1).2 [32,110,111,116]).2=true then b.fl+4 else b.fl}
theorem zo2 {fl:Int} (h:fl=0∨fl=1):IntKind.i64.wrap ↑(BitVec.ofInt IntKind.i64.bits fl|||BitVec.ofInt IntKind.i64.bits 4).toNat=fl+4:=by
 rcases h with rfl|rfl<;>decide
theorem zo3 {fl:Int} (h:fl=0∨fl=1∨fl=4∨fl=5):IntKind.i64.wrap ↑(BitVec.ofInt IntKind.i64.bits fl|||BitVec.ofInt IntKind.i64.bits 2).toNat=fl+2:=by
 rcases h with rfl|rfl|rfl|rfl<;>decide
theorem c33 (r:Rlm) (hr:RlmIn r) (b:Bil) (hfl:b.fl=0∨b.fl=1) (s:Txt) (hl:s.length≤1000000):Spec Tryz.prog 33 [.agg (zS r),.agg (yF b),.str s] (fun v=>v=.agg (yF (payB r b s))):=by
 refine Spec.of_awlS hf33 okf33 (by simp) fun S hS=>?_
 have hL:=xZ r
 have hno:=xY r
 have ho:=zo2 hfl
 have g1:=c26 s [116,111,32,98,101,97,114,101,114,10]
 have g2:=c26 s [116,111,32]
 have l2:=znR s [116,111,32]
 have g3:=c29 (eatT s [116,111,32]).1 (by omega)
 have g4:=c35 r hr (wordT (eatT s [116,111,32]).1).1
 have g5:=c26 (wordT (eatT s [116,111,32]).1).2 [32,110,111,116]
 unfold payB at hS
 generalize eatT s [116,111,32,98,101,97,114,101,114,10]=a1 at g1 hS
 generalize eatT s [116,111,32]=a2 at g2 g3 g4 g5 hS
 generalize wordT a2.1=a3 at g3 g4 g5 hS
 generalize eatT a3.2 [32,110,111,116]=a4 at g5 hS
 obtain⟨a1,b1⟩:=a1
 obtain⟨a4,b4⟩:=a4
 simp only[] at g1 g5 hS
 rw[hL] at g4 hno
 rw[hL]
 rw[show yF b=zn0 b from rfl]
 cases b1 with
 |true=>
  rw[if_pos rfl] at hS
  simp only[Qs,bne_iff_ne,ne_eq,Nat.reduceAdd,Nat.reduceEqDiff,Nat.reduceBEq,Q33]
  refine zC g1 ?_ (ha:=by rfl)
  simp only[Qs,List.append_nil,Nat.reduceAdd,Nat.reduceLT,Nat.reduceBEq,Q33]
  exact hS
 |false=>
  rw[if_neg (by simp)] at hS
  simp only[Qs,bne_iff_ne,ne_eq,Nat.reduceAdd,Nat.reduceEqDiff,Nat.reduceBEq,Q33]
  refine zC g1 ?_ (ha:=by rfl)
  simp only[Qs,Nat.reduceBEq,Q33]
  refine zC g2 ?_ (ha:=by rfl)
  simp only[Qs,Nat.reduceBEq,Q33]
  refine zC g3 ?_ (ha:=by rfl)
  simp only[Qs,Nat.reduceAdd,Nat.reduceBEq,Q33]
  refine zC g4 ?_ (ha:=by simp only[List.map_cons,List.map_nil,zD,V.norm,xT,hno]<;>rfl)
  simp only[Qs,Nat.reduceAdd,Nat.reduceLeDiff,Nat.reduceBEq,Q33]
  refine zC g5 ?_ (ha:=by rfl)
  cases b4 with
  |true=>
   simp only[ho,Qs,dL,List.append_nil,Nat.reduceAdd,Nat.reduceLeDiff,Nat.reduceLT,Nat.reduceBEq,Q33]
   exact hS
  |false=>
   simp only[Qs,List.append_nil,Nat.reduceAdd,Nat.reduceLT,Nat.reduceBEq,Q33]
   exact hS
def sumB (r:Rlm) (b:Bil) (s:Txt):Bil:={b with su:=(numT s).1,cu:=wQ r.cur (wordT (eatT (numT s).2 [32]).1).1 0 b.cu,ra:=if (eatT (wordT (eatT (numT s).2 [32]).1).2 [32,119,105,116,104,32,105,110,116,101,114,101,115,116,32,97,116,32]).2=true then(numT (eatT (wordT (eatT (numT s).2 [32]).1).2 [32,119,105,116,104,32,105,110,116,101,114,101,115,116,32,97,116,32]).1).1 else b.ra}
theorem zo4 {l:List Txt} {i:Nat} (s:Txt) (h:i<l.length) (r0:Int):wQ (l.drop i) s i r0=wQ (l.drop (i+1)) s ((i+1:Nat):Int) (if l[i]=s then(i:Int) else r0):=by
 rw[List.drop_eq_getElem_cons h,wQ];rfl
theorem c34 (r:Rlm) (hr:RlmIn r) (b:Bil) (s:Txt) (hl:s.length≤1000000):Spec Tryz.prog 34 [.agg (zS r),.agg (yF b),.str s] (fun v=>v=.agg (yF (sumB r b s))):=by
 refine Spec.of_awlS hf34 okf34 (by simp) fun S hS=>?_
 have hL:=xZ r
 have hcu:=hr.cu
 have g1:=c27 s hl
 have l1:=znY s
 have g2:=c26 (numT s).2 [32]
 have l2:=znR (numT s).2 [32]
 have g3:=c29 (eatT (numT s).2 [32]).1 (by omega)
 have l3:=zoc (eatT (numT s).2 [32]).1
 have g4:=c26 (wordT (eatT (numT s).2 [32]).1).2 [32,119,105,116,104,32,105,110,116,101,114,101,115,116,32,97,116,32]
 have l4:=znR (wordT (eatT (numT s).2 [32]).1).2 [32,119,105,116,104,32,105,110,116,101,114,101,115,116,32,97,116,32]
 have g5:=c27 (eatT (wordT (eatT (numT s).2 [32]).1).2 [32,119,105,116,104,32,105,110,116,101,114,101,115,116,32,97,116,32]).1 (by omega)
 unfold sumB at hS
 generalize numT s=a1 at g1 g2 g3 g4 g5 hS
 generalize eatT a1.2 [32]=a2 at g2 g3 g4 g5 hS
 generalize wordT a2.1=a3 at g3 g4 g5 hS
 generalize eatT a3.2 [32,119,105,116,104,32,105,110,116,101,114,101,115,116,32,97,116,32]=a4 at g4 g5 hS
 generalize numT a4.1=a5 at g5 hS
 obtain⟨a4,b4⟩:=a4
 simp only[] at g4 g5 hS
 rw[hL]
 rw[show yF b=zn0 b from rfl]
 simp only[Qs,bne_iff_ne,ne_eq,Nat.reduceAdd,Nat.reduceEqDiff,Nat.reduceBEq,Q34]
 refine zC g1 ?_ (ha:=by rfl)
 simp only[Qs,Nat.reduceAdd,Nat.reduceLeDiff,Nat.reduceBEq,Q34]
 refine zC g2 ?_ (ha:=by rfl)
 simp only[Qs,Nat.reduceBEq,Q34]
 refine zC g3 ?_ (ha:=by rfl)
 simp only[Qs,Nat.reduceBEq,Q34]
 rw[uu f34l21.eq_1]
 have hOb: ∀(cu:Int),List.map K.c (zn0 {b with su:=a1.1,cu:=cu})=[.c (.int .i64 b.dr),.c (.int .i64 b.de),.c (.int .i64 b.pa),.c (.int .i64 a1.1),.c (.int .i64 cu),.c (.int .i64 b.te.k),.c (.int .i64 b.te.n),.c (.int .i64 b.te.u),.c (.int .i64 b.da),.c (.int .i64 b.ci),.c (.int .i64 b.py),.c (.int .i64 b.ne),.c (.int .i64 b.ra),.c (.int .i64 b.fl),.c (.int .i64 b.pt)]:=fun _=>rfl
 refine yY (fun x:Nat×Int=>[(3,.k (.ptr 3 0)),(4,.k (.ptr 4 0)),(6,.k (.ptr 6 0)),(8,.str a3.2),(9,.str a3.1),(10,.int .i64 x.1)])
  (fun x=>[(3,.var 31 [.c (zB 1 (zE r.cur)),.c (zB 6 (xW r.cities)),.c (zB 1 (zN r.groups)),.c (zB 3 (xX r.firms)),.c (zB 4 (wK r.orders)),.c (zB 3 (t3s r.usances)),.c (zB 5 (t5s r.rates)),.c (zB 3 (t3s r.halts))]),
   (4,.var 35 [.c (.int .i64 b.dr),.c (.int .i64 b.de),.c (.int .i64 b.pa),.c (.int .i64 a1.1),.c (.int .i64 x.2),.c (.int .i64 b.te.k),.c (.int .i64 b.te.n),.c (.int .i64 b.te.u),.c (.int .i64 b.da),.c (.int .i64 b.ci),.c (.int .i64 b.py),.c (.int .i64 b.ne),.c (.int .i64 b.ra),.c (.int .i64 b.fl),.c (.int .i64 b.pt)]),
   (6,.var 35 [.c (.int .i64 0),.c (.int .i64 0),.c (.int .i64 0),.c (.int .i64 0),.c (.int .i64 0),.c (.int .i64 0),.c (.int .i64 0),.c (.int .i64 0),.c (.int .i64 0),.c (.int .i64 0),.c (.int .i64 0),.c (.int .i64 0),.c (.int .i64 0),.c (.int .i64 0),.c (.int .i64 0)])])
  (fun x=>x.1≤r.cur.length∧wQ (r.cur.drop x.1) a3.1 (x.1:Int) x.2=wQ r.cur a3.1 0 b.cu) (fun x=>r.cur.length-x.1) (0,b.cu) rfl rfl ⟨Nat.zero_le _,rfl⟩ ?_
 rintro⟨i,cu⟩ ⟨hi,hD⟩
 simp only[] at hi hD
 by_cases hlt:i<r.cur.length
 ·have c1:(i:Int)<r.cur.length:=by omega
  have c4:IntKind.i64.wrap ((i:Int)+1)=(i:Int)+1:=wrap_in (by omega) (by omega)
  rw[zo4 _ hlt] at hD
  by_cases he:r.cur[i]=a3.1
  ·have e1:(r.cur[i]==a3.1)=true:=by simp[he]
   rw[if_pos he] at hD
   simp only[c1,c4,e1,zK,zom hlt,Qs,Nat.reduceAdd,Nat.reduceLeDiff,Nat.reduceBEq,Q34]
   exact Next.intro (i+1,(i:Int)) rfl rfl ⟨by simp only;omega,hD⟩ (by simp only;omega)
  ·have e1:(r.cur[i]==a3.1)=false:=by simp[he]
   rw[if_neg he] at hD
   simp only[c1,c4,e1,zK,zom hlt,Qs,Nat.reduceAdd,Nat.reduceLeDiff,Nat.reduceBEq,Q34]
   exact Next.intro (i+1,cu) rfl rfl ⟨by simp only;omega,hD⟩ (by simp only;omega)
 ·have c1: ¬(i:Int)<r.cur.length:=by omega
  rw[List.drop_eq_nil_of_le (by omega)] at hD
  have hD2:cu=wQ r.cur a3.1 0 b.cu:=hD
  rw[←hD2] at hS
  simp only[c1,zK,Qs,Nat.reduceAdd,Nat.reduceLeDiff,Nat.reduceBEq,Q34]
  refine zC g4 ?_ (ha:=by rfl)
  cases b4 with
  |true=>
   rw[if_pos rfl] at hS
   simp only[Qs,Nat.reduceBEq,Q34]
   refine zC g5 ?_ (ha:=by rfl)
   simp only[Qs,List.append_nil,Nat.reduceAdd,Nat.reduceLeDiff,Nat.reduceLT,Nat.reduceBEq,Q34]
   exact hS
  |false=>
   rw[if_neg (by simp)] at hS
   simp only[Qs,List.append_nil,Nat.reduceAdd,Nat.reduceLT,Nat.reduceBEq,Q34]
   exact hS
def lasB (r:Rlm) (b:Bil) (s:Txt):Bil:=
 let s1:=if (eatT s [117,110,108,101,115,115,32]).2=true then lineT s else s
 let a:=eatT s1 [105,110,32,110,101,101,100,32,97,115,107,32]
 let s2:=if a.2=true then lineT s1 else s1
 let np:=(eatT s2 [119,105,116,104,111,117,116,32]).2
 let s3:=if np=true then lineT s2 else s2
 {b with ne:=if a.2=true then fstI (fnm r) (wordT a.1).1 else b.ne,fl:=if np=true then b.fl+2 else b.fl,dr:=fstI (fnm r) (wordT (eatT s3 [115,105,103,110,101,100,32]).1).1}
theorem c36 (r:Rlm) (hr:RlmIn r) (b:Bil) (hfl:b.fl=0∨b.fl=1∨b.fl=4∨b.fl=5) (s:Txt) (hl:s.length≤1000000):Spec Tryz.prog 36 [.agg (zS r),.agg (yF b),.str s] (fun v=>v=.agg (yF (lasB r b s))):=by
 refine Spec.of_awlS hf36 okf36 (by simp) fun S hS=>?_
 have hL:=xZ r
 have hno:=xY r
 have ho:=zo3 hfl
 have g1:=c26 s [117,110,108,101,115,115,32]
 have k1:=c28 s hl
 have m1:=znZ s
 unfold lasB at hS
 simp only[] at hS
 generalize eatT s [117,110,108,101,115,115,32]=a1 at g1 hS
 obtain⟨a1,b1⟩:=a1
 simp only[] at g1 hS
 have key: ∀s1:Txt,s1.length≤1000000→(eatT s1 [105,110,32,110,101,101,100,32,97,115,107,32]).1.length≤1000000:=fun s1 h=>Nat.le_trans (znR _ _) h
 rw[hL] at hno
 rw[hL]
 rw[show yF b=zn0 b from rfl]
 generalize hs1:(if b1=true then lineT s else s)=s1 at hS
 have m2:s1.length≤1000000:=by rw[←hs1];split<;>omega
 have g2:=c26 s1 [105,110,32,110,101,101,100,32,97,115,107,32]
 have m3:=znR s1 [105,110,32,110,101,101,100,32,97,115,107,32]
 have g3:=c29 (eatT s1 [105,110,32,110,101,101,100,32,97,115,107,32]).1 (by omega)
 have g4:=c35 r hr (wordT (eatT s1 [105,110,32,110,101,101,100,32,97,115,107,32]).1).1
 have k2:=c28 s1 m2
 have m4:=znZ s1
 rw[hL] at g4
 generalize eatT s1 [105,110,32,110,101,101,100,32,97,115,107,32]=a2 at g2 g3 g4 hS
 generalize wordT a2.1=a3 at g3 g4 hS
 obtain⟨a2,b2⟩:=a2
 simp only[] at g2 g3 hS
 generalize hs2:(if b2=true then lineT s1 else s1)=s2 at hS
 have m5:s2.length≤1000000:=by rw[←hs2];split<;>omega
 have g5:=c26 s2 [119,105,116,104,111,117,116,32]
 have k3:=c28 s2 m5
 have m6:=znZ s2
 generalize eatT s2 [119,105,116,104,111,117,116,32]=a4 at g5 hS
 obtain⟨a4,b4⟩:=a4
 simp only[] at g5 hS
 generalize hs3:(if b4=true then lineT s2 else s2)=s3 at hS
 have m7:s3.length≤1000000:=by rw[←hs3];split<;>omega
 have g6:=c26 s3 [115,105,103,110,101,100,32]
 have m8:=znR s3 [115,105,103,110,101,100,32]
 have g7:=c29 (eatT s3 [115,105,103,110,101,100,32]).1 (by omega)
 have g8:=c35 r hr (wordT (eatT s3 [115,105,103,110,101,100,32]).1).1
 rw[hL] at g8
 generalize eatT s3 [115,105,103,110,101,100,32]=a5 at g6 g7 g8 hS
 generalize wordT a5.1=a6 at g7 g8 hS
 simp only[Qs,bne_iff_ne,ne_eq,Nat.reduceAdd,Nat.reduceEqDiff,Nat.reduceBEq,Q36]
 refine zC g1 ?_ (ha:=by rfl)
 cases b1<;>cases b2<;>cases b4
 all_goals simp only[Bool.false_eq_true,if_false,if_true] at hs1 hs2 hs3 hS
 all_goals subst hs1
 all_goals subst hs2
 all_goals subst hs3
 all_goals simp only[Qs,Nat.reduceBEq,Q36]
 all_goals try refine zC k1 ?_ (ha:=by rfl)
 all_goals try simp only[Qs,Q36]
 all_goals refine zC g2 ?_ (ha:=by rfl)
 all_goals simp only[Qs,Nat.reduceBEq,Q36]
 all_goals try refine zC g3 ?_ (ha:=by rfl)
 all_goals try simp only[Qs,Nat.reduceAdd,Nat.reduceBEq,Q36]
 all_goals try refine zC g4 ?_ (ha:=by simp only[List.map_cons,List.map_nil,zD,V.norm,xT,hno]<;>rfl)
 all_goals try simp only[Qs,Nat.reduceAdd,Nat.reduceLeDiff,Nat.reduceBEq]
 all_goals try refine zC k2 ?_ (ha:=by rfl)
 all_goals try simp only[Qs,Q36]
 all_goals refine zC g5 ?_ (ha:=by rfl)
 all_goals simp only[ho,Qs,dL,Nat.reduceAdd,Nat.reduceLeDiff,Nat.reduceBEq,Q36]
 all_goals try refine zC k3 ?_ (ha:=by rfl)
 all_goals try simp only[Qs,Q36]
 all_goals refine zC g6 ?_ (ha:=by rfl)
 all_goals simp only[Qs,Nat.reduceBEq,Q36]
 all_goals refine zC g7 ?_ (ha:=by rfl)
 all_goals simp only[Qs,Nat.reduceAdd,Nat.reduceBEq,Q36]
 all_goals refine zC g8 ?_ (ha:=by simp only[List.map_cons,List.map_nil,zD,V.norm,xT,hno]<;>rfl)
 all_goals simp only[Qs,List.append_nil,Nat.reduceAdd,Nat.reduceLeDiff,Nat.reduceLT,Nat.reduceBEq,Q36]
 all_goals exact hS
theorem zo5 (s:Txt): -1≤(numT s).1∧(numT s).1<10 ^ 13:=by
 have hl: ∀(k j:Nat) (n:Int) (t:Txt),0≤n→n<10 ^ j→0≤(aY k n t).1∧(aY k n t).1<10 ^ (j+k):=fun k=>by
  induction k with
  |zero=>intro j n t h0 h1;exact⟨h0,h1⟩
  |succ k ih=>
   intro j n t h0 h1
   have hp:(10:Int) ^ j≤10 ^ (j+(k+1)):=by exact_mod_cast Nat.pow_le_pow_right (by decide) (by omega)
   cases t with
   |nil=>exact⟨h0,Int.lt_of_lt_of_le h1 hp⟩
   |cons c t=>
    rw[aY]
    split
    ·rename_i hd
     unfold aX at hd
     rw[Bool.and_eq_true,decide_eq_true_eq,decide_eq_true_eq] at hd
     have:=ih (j+1) (10*n+c.toNat-48) t (by omega) (by rw[Int.pow_succ];omega)
     rwa [show j+1+k=j+(k+1) by omega] at this
    ·exact⟨h0,Int.lt_of_lt_of_le h1 hp⟩
 cases s with
 |nil=>exact⟨by decide,by decide⟩
 |cons c t=>
  show-1≤(if aX c=true then aY 13 0 (c::t) else(-1,c::t)).1∧(if aX c=true then aY 13 0 (c::t) else(-1,c::t)).1<10 ^ 13
  split
  ·have:=hl 13 0 0 (c::t) (by decide) (by decide)
   rw[Nat.zero_add] at this
   omega
  ·exact⟨by simp only;omega,by simp only;omega⟩
def zn3 (r:Rlm) (t:Txt):Bil×Int×Int:=if t=[]∨textG r (znU zI (nms r) t).1 ((znU zI (nms r) t).2-1)≠t then(vG,0,9) else((znU zI (nms r) t).1,(znU zI (nms r) t).2-1,0)
theorem zoA (r:Rlm) (t:Txt):zn3 r t=parseP r t:=by
 unfold zn3
 split
 ·rename_i h
  by_cases hz:(parseP r t).2.2=0
  ·obtain⟨hok,ht,hne⟩:=znc hz
   have hN:=(aF hok.1.rl).nms
   have hr:=zoS zlR hN hok.1.bil hok.2.1 hok.2.2
   rw[←nC hok,ht] at hr
   rw[hr] at h
   simp only[] at h
   rw[Int.add_sub_cancel,ht] at h
   rcases h with h|h
   ·exact absurd h hne
   ·exact absurd rfl h
  ·exact(zif hz).symm
 ·rename_i h
  have h1: ¬t=[]:=fun e=>h (.inl e)
  have h2:textG r (znU zI (nms r) t).1 ((znU zI (nms r) t).2-1)=t:=Decidable.byContradiction fun e=>h (.inr e)
  have hok:okT r (znU zI (nms r) t).1 ((znU zI (nms r) t).2-1):=Classical.byContradiction fun e=>h1 (by rw[←h2,iK e])
  have hp:=aS hok
  rw[h2] at hp
  exact hp.symm
end Go.Abs
set_option maxRecDepth 100000
set_option maxHeartbeats 16000000
namespace Go.Abs
open Go.Proofs Go.RowKit Go.Lib Go.Wd Go.Wire
def zok (r:Rlm) (t:Txt):Bil×Int:=
 let a:=eatT t [98,105,108,108,32]
 let s0:=if a.2=true then a.1 else(eatT t [112,97,112,101,114,32]).1
 let n1:=numT s0
 let e2:=eatT n1.2 [32,111,102,32]
 let n2:=numT e2.1
 let e3:=eatT (lineT n2.2) [100,114,97,119,110,32,105,110,32]
 let w1:=wordT e3.1
 let e4:=eatT w1.2 [32,111,110,32]
 let d1:=rdDate zI e4.1
 let s5:=lineT d1.2
 let s6:=lineT s5
 let b2:=payB r ⟨0,0,-1,0,-1,rdTen zI s5,d1.1,fstI (cnm r) w1.1,0,-1,0,if a.2=true then 1 else 0,n2.1⟩ s6
 let s7:=lineT s6
 let b3:=sumB r b2 s7
 let e5:=eatT (lineT s7) [116,111,32,98,101,32,112,97,105,100,32,98,121,32]
 let w2:=wordT e5.1
 let e6:=eatT w2.2 [32,105,110,32]
 let w3:=wordT e6.1
 (lasB r {b3 with de:=fstI (fnm r) w2.1,py:=fstI (cnm r) w3.1} (lineT w3.2),n1.1)
theorem zo6 (r:Rlm) (t:Txt):zok r t=znU zI (nms r) t:=by
 unfold zok znU
 simp only[]
 generalize eatT t [98,105,108,108,32]=a
 generalize (if a.2=true then a.1 else(eatT t [112,97,112,101,114,32]).1)=s0
 generalize numT s0=n1
 generalize numT (eatT n1.2 [32,111,102,32]).1=n2
 generalize wordT (eatT (lineT n2.2) [100,114,97,119,110,32,105,110,32]).1=w1
 generalize rdDate zI (eatT w1.2 [32,111,110,32]).1=d1
 generalize lineT d1.2=s5
 generalize lineT s5=s6
 generalize lineT s6=s7
 generalize wordT (eatT (lineT s7) [116,111,32,98,101,32,112,97,105,100,32,98,121,32]).1=w2
 generalize wordT (eatT w2.2 [32,105,110,32]).1=w3
 generalize lineT w3.2=s8
 generalize rdTen zI s5=te
 unfold zn5 zn6 zn9 payB sumB lasB nms
 simp only[]
 by_cases h1:(eatT s6 [116,111,32,98,101,97,114,101,114,10]).2=true<;>by_cases h2:(eatT (wordT (eatT s6 [116,111,32]).1).2 [32,110,111,116]).2=true<;>by_cases h3:(eatT (if (eatT (if (eatT s8 [117,110,108,101,115,115,32]).2=true then lineT s8 else s8) [105,110,32,110,101,101,100,32,97,115,107,32]).2=true then lineT (if (eatT s8 [117,110,108,101,115,115,32]).2=true then lineT s8 else s8) else(if (eatT s8 [117,110,108,101,115,115,32]).2=true then lineT s8 else s8)) [119,105,116,104,111,117,116,32]).2=true
 all_goals simp only[h1,h2,h3,if_true,if_false]
 all_goals cases a.2
 all_goals simp
theorem zo7 (C:Cal) (s:Txt):(rdDate C s).2.length≤s.length:=by
 have l1:=znY s
 have l2:=znR (numT s).2 [45]
 have l3:=znY (eatT (numT s).2 [45]).1
 have l4:=znR (numT (eatT (numT s).2 [45]).1).2 [45]
 have l5:=znY (eatT (numT (eatT (numT s).2 [45]).1).2 [45]).1
 unfold rdDate
 simp only[]
 omega
theorem zo8 (r:Rlm) (b:Bil) (s:Txt) (h:b.fl=0∨b.fl=1):(payB r b s).fl=0∨(payB r b s).fl=1∨(payB r b s).fl=4∨(payB r b s).fl=5:=by
 unfold payB
 split
 ·omega
 ·simp only;split<;>omega
theorem c11 (r:Rlm) (hr:RlmIn r) (t:Txt) (hl:t.length≤1000000):Spec Tryz.prog 11 [.agg (zS r),.str t] (fun v=>v=.tup [.agg (yF (zn3 r t).1),.int .i64 (zn3 r t).2.1,.int .i64 (zn3 r t).2.2]):=by
 refine Spec.of_awlP hf11 okf11 (by simp) fun S hS=>?_
 have hL:=xZ r
 have hno:=xY r
 unfold zn3 at hS
 rw[←zo6] at hS
 unfold zok at hS
 simp only[] at hS
 have g1:=c26 t [98,105,108,108,32]
 have g1b:=c26 t [112,97,112,101,114,32]
 have l1:=znR t [98,105,108,108,32]
 have l1b:=znR t [112,97,112,101,114,32]
 generalize eatT t [98,105,108,108,32]=a at g1 l1 hS
 generalize eatT t [112,97,112,101,114,32]=ap at g1b l1b hS
 obtain⟨a,ab⟩:=a
 simp only[] at g1 l1 hS
 generalize hs0:(if ab=true then a else ap.1)=s0 at hS
 have l2:s0.length≤t.length:=by rw[←hs0];split<;>assumption
 have g2:=c27 s0 (by omega)
 have l3:=znY s0
 have rg:=zo5 s0
 generalize numT s0=n1 at g2 l3 rg hS
 have g3:=c26 n1.2 [32,111,102,32]
 have l4:=znR n1.2 [32,111,102,32]
 generalize eatT n1.2 [32,111,102,32]=e2 at g3 l4 hS
 have g4:=c27 e2.1 (by omega)
 have l5:=znY e2.1
 generalize numT e2.1=n2 at g4 l5 hS
 have g5:=c28 n2.2 (by omega)
 have l6:=znZ n2.2
 generalize lineT n2.2=t1 at g5 l6 hS
 have g6:=c26 t1 [100,114,97,119,110,32,105,110,32]
 have l7:=znR t1 [100,114,97,119,110,32,105,110,32]
 generalize eatT t1 [100,114,97,119,110,32,105,110,32]=e3 at g6 l7 hS
 have g7:=c29 e3.1 (by omega)
 have l8:=zoc e3.1
 generalize wordT e3.1=w1 at g7 l8 hS
 have g8:=c30 r hr w1.1
 generalize fstI (cnm r) w1.1=ci at g8 hS
 have g9:=c26 w1.2 [32,111,110,32]
 have l9:=znR w1.2 [32,111,110,32]
 generalize eatT w1.2 [32,111,110,32]=e4 at g9 l9 hS
 have g10:=c31 e4.1 (by omega)
 have l10:=zo7 zI e4.1
 generalize rdDate zI e4.1=d1 at g10 l10 hS
 have g11:=c28 d1.2 (by omega)
 have l11:=znZ d1.2
 generalize lineT d1.2=s5 at g11 l11 hS
 have g12:=c32 s5 (by omega)
 generalize rdTen zI s5=te at g12 hS
 have g13:=c28 s5 (by omega)
 have l13:=znZ s5
 generalize lineT s5=s6 at g13 l13 hS
 generalize hb1:(⟨0,0,-1,0,-1,te,d1.1,ci,0,-1,0,if ab=true then 1 else 0,n2.1⟩:Bil)=b1 at hS
 have hf1:b1.fl=0∨b1.fl=1:=by rw[←hb1];simp only;split<;>simp
 have g14:=c33 r hr b1 hf1 s6 (by omega)
 have hf2:=zo8 r b1 s6 hf1
 generalize payB r b1 s6=b2 at g14 hf2 hS
 have g15:=c28 s6 (by omega)
 have l15:=znZ s6
 generalize lineT s6=s7 at g15 l15 hS
 have g16:=c34 r hr b2 s7 (by omega)
 have hf3:(sumB r b2 s7).fl=b2.fl:=rfl
 generalize sumB r b2 s7=b3 at g16 hf3 hS
 have g17:=c28 s7 (by omega)
 have l17:=znZ s7
 generalize lineT s7=t2 at g17 l17 hS
 have g18:=c26 t2 [116,111,32,98,101,32,112,97,105,100,32,98,121,32]
 have l18:=znR t2 [116,111,32,98,101,32,112,97,105,100,32,98,121,32]
 generalize eatT t2 [116,111,32,98,101,32,112,97,105,100,32,98,121,32]=e5 at g18 l18 hS
 have g19:=c29 e5.1 (by omega)
 have l19:=zoc e5.1
 generalize wordT e5.1=w2 at g19 l19 hS
 have g20:=c35 r hr w2.1
 generalize fstI (fnm r) w2.1=de at g20 hS
 have g21:=c26 w2.2 [32,105,110,32]
 have l21:=znR w2.2 [32,105,110,32]
 generalize eatT w2.2 [32,105,110,32]=e6 at g21 l21 hS
 have g22:=c29 e6.1 (by omega)
 have l22:=zoc e6.1
 generalize wordT e6.1=w3 at g22 l22 hS
 have g23:=c30 r hr w3.1
 generalize fstI (cnm r) w3.1=py at g23 hS
 have g24:=c28 w3.2 (by omega)
 have l24:=znZ w3.2
 generalize lineT w3.2=t3 at g24 l24 hS
 have g25:=c36 r hr {b3 with de:=de,py:=py} (by simp only;omega) t3 (by omega)
 generalize lasB r {b3 with de:=de,py:=py} t3=b4 at g25 hS
 have g26:=c15 r hr b4 (n1.1-1)
 have w0:IntKind.i64.wrap (n1.1-1)=n1.1-1:=wrap_in (by omega) (by omega)
 rw[hL] at g8 g14 g16 g20 g23 g25 g26 hno
 rw[hL]
 rw[show yF b2=zn0 b2 from rfl] at g14 g16
 rw[show yF b3=zn0 b3 from rfl] at g16
 rw[show yF b4=zn0 b4 from rfl] at g25 g26
 rw[show iE te=[.int .i64 te.k,.int .i64 te.n,.int .i64 te.u] from rfl] at g12
 simp only[Qs,bne_iff_ne,ne_eq,Int.reduceNeg,List.append_nil,Nat.reduceAdd,Nat.reduceEqDiff,Nat.reduceLeDiff,Nat.reduceBEq,Q11]
 refine zC g1 ?_ (ha:=by rfl)
 cases ab
 all_goals simp only[Bool.false_eq_true,if_false,if_true] at hs0 hb1
 all_goals subst hs0
 all_goals subst hb1
 all_goals simp only[Qs,Int.reduceNeg,Nat.reduceAdd,Nat.reduceLeDiff,Nat.reduceBEq,Q11]
 all_goals try refine zC g1b ?_ (ha:=by rfl)
 all_goals try simp only[Qs,Int.reduceNeg,Nat.reduceBEq,Q11]
 all_goals refine zC g2 ?_ (ha:=by rfl)
 all_goals simp only[Qs,Int.reduceNeg,Nat.reduceBEq,Q11]
 all_goals refine zC g3 ?_ (ha:=by rfl)
 all_goals simp only[Qs,Int.reduceNeg,Nat.reduceBEq,Q11]
 all_goals refine zC g4 ?_ (ha:=by rfl)
 all_goals simp only[Qs,Int.reduceNeg,List.append_nil,Nat.reduceAdd,Nat.reduceBEq,Q11]
 all_goals refine zC g5 ?_ (ha:=by rfl)
 all_goals simp only[Qs,Int.reduceNeg,Q11]
 all_goals refine zC g6 ?_ (ha:=by rfl)
 all_goals simp only[Qs,Int.reduceNeg,Nat.reduceBEq,Q11]
 all_goals refine zC g7 ?_ (ha:=by rfl)
 all_goals simp only[Qs,Int.reduceNeg,Nat.reduceAdd,Nat.reduceBEq,Q11]
 all_goals refine zC g8 ?_ (ha:=by simp only[List.map_cons,List.map_nil,zD,V.norm,xT,hno]<;>rfl)
 all_goals simp only[Qs,Int.reduceNeg,Nat.reduceAdd,Nat.reduceLeDiff,Nat.reduceBEq,Q11]
 all_goals refine zC g9 ?_ (ha:=by rfl)
 all_goals simp only[Qs,Int.reduceNeg,Nat.reduceBEq,Q11]
 all_goals refine zC g10 ?_ (ha:=by rfl)
 all_goals simp only[Qs,Int.reduceNeg,Nat.reduceAdd,Nat.reduceLeDiff,Nat.reduceBEq,Q11]
 all_goals refine zC g11 ?_ (ha:=by rfl)
 all_goals simp only[Qs,Int.reduceNeg,Q11]
 all_goals refine sG g12 ?_ (ha:=by rfl)
 all_goals simp only[Qs,Int.reduceNeg,Nat.reduceAdd,Nat.reduceMul,Nat.reduceLeDiff,Nat.reduceBEq,Q11]
 all_goals refine zC g13 ?_ (ha:=by rfl)
 all_goals simp only[Qs,Int.reduceNeg,Nat.reduceAdd,Nat.reduceBEq,Q11]
 all_goals refine sG g14 ?_ (ha:=by simp only[List.map_cons,List.map_nil,zD,V.norm,xT,hno]<;>rfl)
 all_goals simp only[Qs,Int.reduceNeg,List.append_nil,Nat.reduceAdd,Nat.reduceMul,Nat.reduceBEq,Q11]
 all_goals refine zC g15 ?_ (ha:=by rfl)
 all_goals simp only[Qs,Int.reduceNeg,Nat.reduceAdd,Nat.reduceBEq,Q11]
 all_goals refine sG g16 ?_ (ha:=by simp only[List.map_cons,List.map_nil,zD,V.norm,xT,hno]<;>rfl)
 all_goals simp only[Qs,Int.reduceNeg,List.append_nil,Nat.reduceAdd,Nat.reduceMul,Nat.reduceBEq,Q11]
 all_goals refine zC g17 ?_ (ha:=by rfl)
 all_goals simp only[Qs,Int.reduceNeg,Q11]
 all_goals refine zC g18 ?_ (ha:=by rfl)
 all_goals simp only[Qs,Int.reduceNeg,Nat.reduceBEq,Q11]
 all_goals refine zC g19 ?_ (ha:=by rfl)
 all_goals simp only[Qs,Int.reduceNeg,Nat.reduceAdd,Nat.reduceBEq,Q11]
 all_goals refine zC g20 ?_ (ha:=by simp only[List.map_cons,List.map_nil,zD,V.norm,xT,hno]<;>rfl)
 all_goals simp only[Qs,Int.reduceNeg,Nat.reduceAdd,Nat.reduceLeDiff,Nat.reduceBEq,Q11]
 all_goals refine zC g21 ?_ (ha:=by rfl)
 all_goals simp only[Qs,Int.reduceNeg,Nat.reduceBEq,Q11]
 all_goals refine zC g22 ?_ (ha:=by rfl)
 all_goals simp only[Qs,Int.reduceNeg,Nat.reduceAdd,Nat.reduceBEq,Q11]
 all_goals refine zC g23 ?_ (ha:=by simp only[List.map_cons,List.map_nil,zD,V.norm,xT,hno]<;>rfl)
 all_goals simp only[Qs,Int.reduceNeg,Nat.reduceAdd,Nat.reduceLeDiff,Nat.reduceBEq,Q11]
 all_goals refine yV g24 ?_ (ha:=by rfl)
 all_goals simp only[Qs,Int.reduceNeg,Nat.reduceBEq]
 all_goals refine zkQ g25 ?_ (ha:=by simp only[List.map_cons,List.map_nil,zD,V.norm,xT,hno]<;>rfl)
 ·rcases Classical.em (t=[]) with ht|ht
  ·rw[if_pos (.inl ht)] at hS
   have e1:(t==[])=true:=by simp[ht]
   simp only[e1,w0,Qs,zkx,Int.reduceNeg,List.append_nil,Nat.reduceAdd,Nat.reduceLT,Nat.reduceBEq,Q11]
   exact hS _ rfl
  ·have e1:(t==[])=false:=by simp[ht]
   simp only[e1,w0,Qs,zkx,Int.reduceNeg,List.append_nil,Nat.reduceAdd,Nat.reduceBEq,Q11]
   refine zC g26 ?_ (ha:=by simp only[List.map_cons,List.map_nil,zD,V.norm,xT,hno]<;>rfl)
   simp only[w0,Qs,zdP,Int.reduceNeg,List.append_nil,Nat.reduceAdd,Nat.reduceLT,Nat.reduceBEq,zbY,Q11]
   refine⟨fun hx=>?_,fun hx=>?_⟩
   ·rw[if_neg (by rw[hx];simp[ht])] at hS
    exact hS _ rfl
   ·rw[if_pos (.inr hx)] at hS
    exact hS _ rfl
 ·rcases Classical.em (t=[]) with ht|ht
  ·rw[if_pos (.inl ht)] at hS
   have e1:(t==[])=true:=by simp[ht]
   simp only[e1,w0,Qs,zkx,Int.reduceNeg,List.append_nil,Nat.reduceAdd,Nat.reduceLT,Nat.reduceBEq,Q11]
   exact hS _ rfl
  ·have e1:(t==[])=false:=by simp[ht]
   simp only[e1,w0,Qs,zkx,Int.reduceNeg,List.append_nil,Nat.reduceAdd,Nat.reduceBEq,Q11]
   refine zC g26 ?_ (ha:=by simp only[List.map_cons,List.map_nil,zD,V.norm,xT,hno]<;>rfl)
   simp only[w0,Qs,zdP,Int.reduceNeg,List.append_nil,Nat.reduceAdd,Nat.reduceLT,Nat.reduceBEq,zbY,Q11]
   refine⟨fun hx=>?_,fun hx=>?_⟩
   ·rw[if_neg (by rw[hx];simp[ht])] at hS
    exact hS _ rfl
   ·rw[if_pos (.inr hx)] at hS
    exact hS _ rfl
theorem c17 (r:Rlm) (hr:RlmIn r) (s t:Txt) (hs:s.length≤1000000) (ht:t.length≤1000000):Spec Tryz.prog 17 [.agg (zS r),.str s,.str t] (fun v=>v=.bool (alikeP r s t)):=by
 refine Spec.of_awlS hf17 okf17 (by simp) fun S hS=>?_
 have hL:=xZ r
 have hno:=xY r
 have g1:=c11 r hr s hs
 have g2:=c11 r hr t ht
 rw[zoA] at g1 g2
 unfold alikeP at hS
 rw[hL] at g1 g2 hno
 rw[hL]
 unfold yF at g1 g2
 simp only[Qs,Nat.reduceAdd,Nat.reduceBEq,Q17]
 refine sG g1 ?_ (ha:=by simp only[List.map_cons,List.map_nil,zD,V.norm,xT,hno];rfl)
 simp only[Qs,bne_iff_ne,ne_eq,List.append_nil,Nat.reduceAdd,Nat.reduceMul,Nat.reduceEqDiff,Nat.reduceBEq,Q17]
 refine sG g2 ?_ (ha:=by simp only[List.map_cons,List.map_nil,zD,V.norm,xT,hno];rfl)
 simp only[Qs,jB,jC,jD,jE,jF,jG,jH,bne_iff_ne,ne_eq,List.append_nil,Nat.reduceAdd,Nat.reduceMul,Nat.reduceEqDiff,Nat.reduceBEq,Option.bind_some,Q17]
 rw[zna]
 refine⟨fun h1=>⟨fun h2=>?_,fun h2=>?_⟩,fun h1=>?_⟩
 ·rw[h1,h2] at hS;exact hS
 ·rw[h1,decide_eq_false h2] at hS;exact hS
 ·rw[decide_eq_false h1] at hS;exact hS
end Go.Abs
set_option maxRecDepth 100000
set_option maxHeartbeats 16000000
namespace Go.Abs
open Go.Proofs Go.RowKit Go.Lib Go.Wd
theorem l3 (r:Rlm) (hw:iS r) (b:Bil) (p:Int) (s o:Txt):Spec Tryz.prog 3 [.agg (zS r),.agg (yF b),.int .i64 p,.str s,.str o] (fun v=>v=.bool true):=by
 refine Spec.of_awlS hf3 okf3 (by simp) fun S hS=>?_
 have hL:=xZ r
 have hno:=xY r
 have hB:yF b=zn0 b:=rfl
 have hbn:=zhW b
 have g9:=c9 r s
 cases hf:nI r s with
 |false=>
  rw[hf] at g9
  rw[hL] at g9 hno
  rw[hL,hB]
  simp only[Qs,bne_iff_ne,ne_eq,Nat.reduceAdd,Nat.reduceEqDiff,Nat.reduceBEq,Q3]
  refine zC c8 ?_ (ha:=by rfl)
  simp only[Qs,Nat.reduceAdd,Nat.reduceBEq,Q3]
  refine zC g9 ?_ (ha:=by simp only[List.map_cons,List.map_nil,zD,V.norm,xT,hno]<;>rfl)
  simp only[Qs,Nat.reduceBEq,Q3]
  exact hS
 |true=>
  have hq:=hf
  unfold nI at hq
  rw[Bool.and_eq_true,decide_eq_true_eq] at hq
  obtain⟨hr,hod⟩:=zik hq.1 hw
  have gC:=c12 r hr hod b
  have gD:=c13 r hr b
  have gT:=c14 r hr hod b p
  have gU:=c15 r hr b p
  have gP:=c10 r hr hod s
  have gQ:=c11 r hr s (by omega)
  rw[zoA] at gQ
  rw[hf] at g9
  by_cases ho:(o.length:Int)>1000
  ·rw[hL] at g9 hno
   rw[hL,hB]
   simp only[Qs,bne_iff_ne,ne_eq,Nat.reduceAdd,Nat.reduceEqDiff,Nat.reduceBEq,Q3]
   refine zC c8 ?_ (ha:=by rfl)
   simp only[Qs,Nat.reduceAdd,Nat.reduceBEq,Q3]
   refine zC g9 ?_ (ha:=by simp only[List.map_cons,List.map_nil,zD,V.norm,xT,hno]<;>rfl)
   simp only[ho,Qs,Nat.reduceBEq,Q3]
   exact hS
  ·have gA:=c16 r hr hod s o
   have gB:=c17 r hr s o (by omega) (by omega)
   generalize parseP r s=x at gP gQ
   obtain⟨x,y,z⟩:=x
   simp only[] at gP gQ
   rw[hL] at g9 hno gC gD gT gU gP gQ gA gB
   rw[hB] at hbn gC gD gT gU
   rw[show yF x=zn0 x from rfl] at gP gQ
   rw[hL,hB]
   generalize textG r b p=t0 at gT gU
   generalize alikeP r s o=al at gA gB
   generalize chkE r b=ck at gC gD
   simp only[Qs,bne_iff_ne,ne_eq,Nat.reduceAdd,Nat.reduceEqDiff,Nat.reduceBEq,Q3]
   refine zC c8 ?_ (ha:=by rfl)
   simp only[Qs,Nat.reduceAdd,Nat.reduceBEq,Q3]
   refine zC g9 ?_ (ha:=by simp only[List.map_cons,List.map_nil,zD,V.norm,xT,hno]<;>rfl)
   simp only[ho,Qs,Nat.reduceAdd,Nat.reduceBEq,Q3]
   refine sG gP ?_ (ha:=by simp only[List.map_cons,List.map_nil,zD,V.norm,xT,hno]<;>rfl)
   simp only[Qs,bne_iff_ne,ne_eq,List.append_nil,Nat.reduceAdd,Nat.reduceMul,Nat.reduceEqDiff,Nat.reduceBEq,Q3]
   refine sG gQ ?_ (ha:=by simp only[List.map_cons,List.map_nil,zD,V.norm,xT,hno]<;>rfl)
   simp only[Qs,bne_iff_ne,ne_eq,List.append_nil,Nat.reduceAdd,Nat.reduceMul,Nat.reduceEqDiff,Nat.reduceBEq,Q3]
   refine yV gC ?_ (ha:=by simp only[List.map_cons,List.map_nil,zD,V.norm,xT,hno,hbn]<;>rfl)
   simp only[beq_self_eq_true,Qs,Nat.reduceAdd,Nat.reduceBEq]
   refine yV gD ?_ (ha:=by simp only[List.map_cons,List.map_nil,zD,V.norm,xT,hno,hbn]<;>rfl)
   simp only[beq_self_eq_true,Qs,Nat.reduceAdd,Nat.reduceBEq]
   refine yV gT ?_ (ha:=by simp only[List.map_cons,List.map_nil,zD,V.norm,xT,hno,hbn]<;>rfl)
   simp only[beq_self_eq_true,Qs,Nat.reduceAdd,Nat.reduceBEq]
   refine yV gU ?_ (ha:=by simp only[List.map_cons,List.map_nil,zD,V.norm,xT,hno,hbn]<;>rfl)
   simp only[beq_self_eq_true,Qs,jB,zoE,jD,jE,jF,jG,jH,Nat.reduceAdd,Nat.reduceBEq,Option.bind_some]
   refine yV gA ?_ (ha:=by simp only[List.map_cons,List.map_nil,zD,V.norm,xT,hno]<;>rfl)
   simp only[beq_self_eq_true,Qs,Nat.reduceAdd,Nat.reduceBEq]
   refine yV gB ?_ (ha:=by simp only[List.map_cons,List.map_nil,zD,V.norm,xT,hno]<;>rfl)
   simp only[beq_self_eq_true,Qs,zoB,zoD,zoF,Nat.reduceBEq]
   exact hS
end Go.Abs
set_option maxRecDepth 100000
namespace Go.Proofs.YtlepbngfdpifjaaGreatDoor
open Go.Abs Go.RowKit Go.ChangeShapes Go.WideShapes Go.ChangeAt Go.WideMaps Go.WideElems Go.Wd
theorem zo9 (xs:List V) (h:mF Tryz.prog [31,35,3,9,9] xs):Go.Abs.Spec Tryz.prog 3 xs (fun r=>r=.bool true):=by
 match xs,h with
 |[a0,a1,a2,a3,a4],⟨⟨_,_,h0,q0⟩,⟨_,_,h1,q1⟩,⟨_,_,h2,q2⟩,⟨_,_,h3,q3⟩,⟨_,_,h4,q4⟩,_⟩=>
  obtain⟨x0,e0,w0⟩:=znu h0
  obtain⟨x1,e1⟩:=zoT h1
  obtain⟨x2,e2,_⟩:=zoV Tryz.underlying3 h2
  obtain⟨x3,e3,_⟩:=znv Tryz.underlying9 h3
  obtain⟨x4,e4,_⟩:=znv Tryz.underlying9 h4
  rw[q0,q1,q2,q3,q4,e0,e1,e2,e3,e4]
  exact l3 x0 w0 x1 x2 x3 x4
theorem zpa (os:Os) {H:Type} (enc:TypeId×Value→H): ∃lW,DataW.whole enc Tryz.prog ((aW os).forCall (fun _ _=>0) ⟨#[],#[Value.agg #[.slice none 0 0,.slice none 0 0,.slice none 0 0,.slice none 0 0,.slice none 0 0,.slice none 0 0,.slice none 0 0,.slice none 0 0],.agg #[.int .i64 0,.int .i64 0,.int .i64 0,.int .i64 0,.int .i64 0,.int .i64 0,.int .i64 0,.int .i64 0,.int .i64 0,.int .i64 0,.int .i64 0,.int .i64 0,.int .i64 0,.int .i64 0,.int .i64 0],.int .i64 0,.string ⟨#[]⟩,.string ⟨#[]⟩],[]⟩).memory Tryz.f3.params.toList Rows.wordingTellsSpec.vars false #[Value.agg #[.slice none 0 0,.slice none 0 0,.slice none 0 0,.slice none 0 0,.slice none 0 0,.slice none 0 0,.slice none 0 0,.slice none 0 0],.agg #[.int .i64 0,.int .i64 0,.int .i64 0,.int .i64 0,.int .i64 0,.int .i64 0,.int .i64 0,.int .i64 0,.int .i64 0,.int .i64 0,.int .i64 0,.int .i64 0,.int .i64 0,.int .i64 0,.int .i64 0],.int .i64 0,.string ⟨#[]⟩,.string ⟨#[]⟩].toList 8=some ([.agg [.nil,.nil,.nil,.nil,.nil,.nil,.nil,.nil],.agg [.lit (.int .i64 0),.lit (.int .i64 0),.lit (.int .i64 0),.lit (.int .i64 0),.lit (.int .i64 0),.agg [.lit (.int .i64 0),.lit (.int .i64 0),.lit (.int .i64 0)],.lit (.int .i64 0),.lit (.int .i64 0),.lit (.int .i64 0),.lit (.int .i64 0),.lit (.int .i64 0),.lit (.int .i64 0),.lit (.int .i64 0)],.lit (.int .i64 0),.lit (.string []),.lit (.string [])],[],lW):=
 ⟨[],by kernel_rfl⟩
theorem zpb (os:Os) (started:os.Started) (H:Type) (enc:TypeId×Value→H) (F:Stop.Interp):
  ReturnsInHanded {} Tryz.checked os 3 .any ((OpenSpec.ofChange Rows.wordingTellsSpec).preRow enc Tryz.prog Tryz.f3 Rows.wordingTellsRow.domain false Rows.wordingTellsRow.laid) (((OpenSpec.ofChange Rows.wordingTellsSpec).at F).post enc Tryz.prog Tryz.f3 false true false false):=by
 obtain⟨lW,hx⟩:=zpa os enc
 refine returnsInHanded_of_row (C:=Tryz.checked) (s:=OpenSpec.ofChange Rows.wordingTellsSpec) own started (by kernel_rfl) Tryz.func3
  (witness_row_atRef (enc:=enc) (C:=Tryz.checked) false (aW os) #[Value.agg #[.slice none 0 0,.slice none 0 0,.slice none 0 0,.slice none 0 0,.slice none 0 0,.slice none 0 0,.slice none 0 0,.slice none 0 0],.agg #[.int .i64 0,.int .i64 0,.int .i64 0,.int .i64 0,.int .i64 0,.int .i64 0,.int .i64 0,.int .i64 0,.int .i64 0,.int .i64 0,.int .i64 0,.int .i64 0,.int .i64 0,.int .i64 0,.int .i64 0],.int .i64 0,.string ⟨#[]⟩,.string ⟨#[]⟩] rfl (by kernel_rfl) (by kernel_rfl) (by kernel_rfl)
   (OpenSpec.preRow_of_cond 8 hx (by kernel_rfl) (fun k hk=>by cases hk) (by kernel_rfl) (znA os _))) ?_
 intro W base args ds gs before hval hW _ hcond _ hL hsh _
 refine zkL (C:=Tryz.checked) (T:=iU) (tb:=4) (s:=Rows.wordingTellsSpec) znx zny ?_ kids full rfl ?_ ?_ Tryz.underlying4 ?_ W base args ds gs before hval hW (znz hL hsh)
 ·rw[Tryz.params3];decide
 ·intro ds hds
  rw[Tryz.params3] at hds
  match ds,hds with
  |[a0,a1,a2,a3,a4],_=>rfl
 ·kernel_rfl
 ·intro xs hxs
  rw[Tryz.params3] at hxs
  exact zo9 xs hxs
theorem WordingTells_row:Rows.WordingTellsSaid:=
 OpenClaim.holds_of_cond 3 Tryz.f3 rfl rfl rfl rfl rfl rfl rfl ⟨rfl,rfl,rfl,rfl,rfl⟩ rfl rfl rfl rfl rfl (by kernel_rfl) Tryz.func3 (by kernel_rfl)
  (of_decide_eq_true (by kernel_rfl)) (by unfold Func.isWrapper;first|(rw[if_pos (by decide+kernel)];kernel_rfl)|(rw[if_neg (by decide+kernel)];exact⟨rfl,rfl⟩))
  (fun os started H enc _ F=>by rw[OpenClaim.pre_eq_preRow];exact zpb os started H enc F)
theorem WordingTells_holds:Rows.WordingTellsCardSaid:=
 Claim7.holds_tied_plain_at .later [] _ _ _ _ WordingTells_row (fun _ h=>by cases h) (by kernel_rfl) (fun _ h=>by cases h) wordingTells_row_tie rfl ⟨rfl,rfl⟩ (by kernel_rfl) rfl
  (fun f fn hf hfn=>by
   obtain rfl:f=3:=Option.some.inj ((show Tryz.prog.funcNamed "allonge/allongelaw10.WordingTells" =some 3 by kernel_rfl).symm.trans hf)|>.symm
   obtain rfl:fn=Tryz.f3:=(Option.some.inj (Tryz.func3.symm.trans hfn)).symm
   exact⟨by kernel_rfl,fun j t ht=>by
    rw[Tryz.params3] at ht
    have hm:t∈[31,35,3,9,9]:=by simpa using Array.mem_of_getElem? ht
    have hall:([31,35,3,9,9].all fun u=> !Tryz.prog.wantsStandIn u)=true:=by kernel_rfl
    exact(show Tryz.prog.wantsStandIn t=false by simpa using List.all_eq_true.1 hall t hm)⟩)
  (by kernel_rfl)
end Go.Proofs.YtlepbngfdpifjaaGreatDoor
