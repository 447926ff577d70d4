/- A part of the proof; the last text states what is proved. -/
import Derived.Test.YtcglilececjppaaGreatDoorP5
import Derived.Test.YtcglilececjppaaGreatDoorRows
import Derived.Test.YtcglilececjppaaGreatDoorCards
import Derived.Test.YtcglilececjppaaGreatDoorTie
import Derived.ProofKit
import Derived.DataShut
import Derived.LaidMore
import Derived.Lib.LaidTab
import Derived.Lib.LaidU8
import Derived.OpenShut
import Derived.SevenTiedAt
import Derived.Deep.DeepHandedRow
import Derived.Deep.DeepWitnessRowRef
import Derived.Shelf.Vars
set_option linter.unusedVariables false
set_option linter.unusedSimpArgs false
set_option maxRecDepth 100000
set_option maxHeartbeats 8000000
open Array renaming getElem?_eq_some_iff → Zs
open Option renaming bind_some → YG
open Option.some renaming inj → Yr
namespace Go.Abs
theorem zzE {m:Int} (h:(Lit.int .i64 m).wf=true): -9223372036854775808<=m/\m<=9223372036854775807:=by
 have:=(Lit.wf_int_iff _ _).1 h;simpa [IntKind.min,IntKind.max,IntKind.signed,IntKind.bits] using this
section
variable {P : Program}
theorem zzF {n:Nat} {t:TypeId} {r:List C} (ht:P.underlying t=some (.int .i64)) (hr:wE P n t r): ∃m:Int,rB P t r=.int .i64 m/\(-9223372036854775808<=m/\m<=9223372036854775807):=by
 obtain⟨m,rfl,h⟩:=cX ht hr;exact⟨m,by simp only[rB,ht],zzE h⟩
end
end Go.Abs
namespace Go.Proofs.YtcglilececjppaaGreatDoor
open Go.Abs Go.RowKit Go.ChangeShapes Go.WideShapes Go.ChangeAt Go.WideMaps Go.WideElems Go.Ex
theorem own:ownKnob Tryz.prog.godebug=none:=by kernel_rfl
theorem kids:Kids Tryz.prog (· <Tryz.prog.types.size):=kids_rows (by kernel_rfl) (by kernel_rfl)
theorem full: ∀t e,t<Tryz.prog.types.size->Tryz.prog.underlying t=some (.slice e)->0<Tryz.prog.cellsOf e:=slices_full_of Tryz.prog (by kernel_rfl)
def aX:List TypeId:=[3,4,5,9,22,23,25,35,67,69,74,76,96,131]
theorem zwu:lG Tryz.prog aX=true:=by kernel_rfl
theorem zwv: ∀t∈aX,t<Tryz.prog.types.size:=by
 have:aX.all (fun t=>decide (t<Tryz.prog.types.size))=true:=by kernel_rfl
 simpa using this
abbrev aY:List (String×DataW Unit):=Rows.cureHitsRow.laid
theorem zox {W:World} {name:String} {g:Nat} {cs:Array Value} (hn:Tryz.prog.globalNamed name=some g) (hv:W.var? Tryz.prog name=some cs): ∃t f,W.heap[g]?=some (.cells cs t f):=by
 unfold World.var? at hv;rw[hn,YG] at hv;split at hv
 ·rename_i h
  cases hv;exact⟨_,_,h⟩
 ·cases hv
theorem zoy {W:World} (hL:laidMet Tryz.prog aY W) {name:String} {g n:Nat} {T:TypeId} {zs:List Int} {d:DataW Unit} (hm:(name,d)∈aY) (hd0:d=Lib.tabData .u8 zs) (hn:Tryz.prog.globalNamed name=some g)
  (hT:(Tryz.prog.globals[g]?).map (·.type)=some T) (ht:Tryz.prog.underlying T=some (.array n 5)) (hct:Tryz.prog.cellsOf T=n):g<W.heap.size/\ ∃b,W.heap[g]?=some b/\sK (zs.map fun z=>Value.int .u8 z).toArray b:=by
 obtain⟨g',t',cs,fuel,p,hg',hty,hvar,hd⟩:=Lib.laidMet.reads hL (n:=name) hm;obtain rfl:=Yr (hn.symm.trans hg');obtain rfl:=Yr (hT.symm.trans hty);obtain⟨t,f,hb⟩:=zox hn hvar;refine⟨(Zs.1 hb).1,_,hb,?_⟩;subst hd0;have e:=Lib.cells_of_tab ht Tryz.underlying5 (by kernel_rfl) hct hd;show cs=_;rw[<-e]
theorem zww {W:World} (hL:laidMetH Tryz.prog aY W) (hsh:W.ShapedOpen Tryz.prog):yN (Go.Abs.base W):=by
 rw[MakeChecks.laidMetH_plain _ _ _ (by kernel_rfl)] at hL;refine⟨(fun _ _ h=>nomatch h),fun g p hg=>?_⟩
 match g,hg with
 |3,hg=>
  cases hg;obtain⟨m,hm⟩:=cell_of_shapedOpen_int (zero:= #[.int .i64 0]) (t:=3) (k:=.i64) (g:=3) hsh (of_decide_eq_true (by kernel_rfl)) (by kernel_rfl) rfl (by kernel_rfl) (by kernel_rfl) Tryz.underlying3;unfold World.cell? at hm;cases hb:W.heap[3]? with
  |none=>rw[hb] at hm;simp at hm
  |some ob=>
   refine⟨(Zs.1 hb).1,ob,rfl,?_⟩;rw[hb] at hm;cases ob with
   |cells cs t f=>exact⟨_,by simpa using hm,m,rfl⟩
   |_=>simp at hm
 |0,hg=>cases hg;exact zoy hL (name:= "math/bits.deBruijn32tab") (T:=273) (.head _) rfl (by kernel_rfl) (by kernel_rfl) Tryz.underlying273 (by kernel_rfl)
 |1,hg=>cases hg;exact zoy hL (name:= "math/bits.deBruijn64tab") (T:=274) (.tail _ (.head _)) rfl (by kernel_rfl) (by kernel_rfl) Tryz.underlying274 (by kernel_rfl)
 |2,hg=>
  cases hg;obtain⟨g',t',cs,fuel,p,hg',hty,hvar,hd⟩:=Lib.laidMet.reads hL (n:= "internal/strconv.uint64pow10") ((.tail _ (.tail _ (.head _))))
  have hn:Tryz.prog.globalNamed "internal/strconv.uint64pow10" =some 2:=by kernel_rfl
  obtain rfl:=Yr (hn.symm.trans hg');have hT:(Tryz.prog.globals[2]?).map (·.type)=some 299:=by kernel_rfl
  obtain rfl:=Yr (hT.symm.trans hty);obtain⟨t,f,hb⟩:=zox hn hvar;refine⟨(Zs.1 hb).1,_,hb,?_⟩;have hd':DataW.trod (fun _=>()) Tryz.prog W 0 (fun _=>true) false fuel 299 cs.toList=some (Lib.tabData .u64 zdR,p):=hd;have e:=Lib.cells_of_tab Tryz.underlying299 Tryz.underlying197 (by kernel_rfl) (by kernel_rfl) hd';show cs=_;rw[<-e]
noncomputable def zdb (os:Os):World:=
 {World.doorLaid Tryz.prog 400 os with heap:=(World.doorLaid Tryz.prog 400 os).heap.modify 4 fun
  | .cells _ t frozen=> .cells (Lib.firstTab.map fun z=>Value.int .u8 z).toArray t frozen
  |o=>o}
theorem zwx (os:Os) (args:Array Value):laidMetH Tryz.prog aY ((zdb os).forCall (fun _ _=>0) ⟨#[],args,[]⟩).memory:=
 laidMetH_of_parts3 (fuel:=8) (laidMet_of_run' 8 (by kernel_rfl) (by kernel_rfl)) (by kernel_rfl) (by kernel_rfl)
end Go.Proofs.YtcglilececjppaaGreatDoor
namespace Go.Abs
open Go.RowKit Go.Proofs Go.Wd Go.Wire Go.Ex
theorem zzG {n:Nat} {r:List C} (hr:wE Tryz.prog n 25 r): ∃p:Plc,rB Tryz.prog 25 r=.agg (wG p):=by
 obtain⟨m,rs,_,rfl,h⟩:=cY Tryz.underlying25 hr
 match rs,h with
 |[x0,x1],⟨h0,h1,_⟩=>
  obtain⟨a0,rfl,_⟩:=cX Tryz.underlying3 h0;obtain⟨a1,rfl,_⟩:=cX Tryz.underlying3 h1;exact⟨⟨a0,a1⟩,by simp only[rB,Tryz.underlying25];rfl⟩
end Go.Abs
