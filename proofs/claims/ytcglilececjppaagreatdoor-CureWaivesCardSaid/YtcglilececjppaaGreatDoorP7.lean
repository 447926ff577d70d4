/- A part of the proof; the last text states what is proved. -/
import Derived.Test.YtcglilececjppaaGreatDoorP6
set_option linter.unusedVariables false
set_option linter.unusedSimpArgs false
set_option maxRecDepth 100000
set_option maxHeartbeats 8000000
open List renaming all_eq_true → ZA
open Option.some renaming inj → Yt
namespace Go.Proofs.YtcglilececjppaaGreatDoor
open Go.Abs Go.RowKit Go.ChangeShapes Go.WideShapes Go.ChangeAt Go.WideMaps Go.WideElems Go.Ex
theorem zzj (xs:List V) (h:gJ Tryz.prog [22,23] xs):Go.Abs.Spec Tryz.prog 5 xs (fun r=>r=.bool true):=by
 match xs,h with
 |[a0,a1],⟨⟨_,_,h0,q0⟩,⟨_,_,h1,q1⟩,_⟩=>
  obtain⟨x0,e0,w0⟩:=zwo h0;obtain⟨x1,e1⟩:=zws h1;rw[q0,q1,e0,e1];exact zzi x0 x1 w0
theorem zzk (os:Os) {H:Type} (enc:TypeId×Value->H): ∃eU,DataW.whole enc Tryz.prog ((zdb os).forCall (fun _ _=>0) ⟨#[],#[Value.slice none 0 0,.slice none 0 0],[]⟩).memory Tryz.f5.params.toList Rows.cureWaivesSpec.vars false #[Value.slice none 0 0,.slice none 0 0].toList 8=some ([.nil,.nil],[],eU):=
 ⟨[],by kernel_rfl⟩
theorem zzl (os:Os) (started:os.Started) (H:Type) (enc:TypeId×Value->H) (F:Stop.Interp):
  ReturnsInHanded {} Tryz.checked os 5 .any ((OpenSpec.ofChange Rows.cureWaivesSpec).preRow enc Tryz.prog Tryz.f5 Rows.cureWaivesRow.domain false Rows.cureWaivesRow.laid) (((OpenSpec.ofChange Rows.cureWaivesSpec).at F).post enc Tryz.prog Tryz.f5 false true false false):=by
 obtain⟨eU,hx⟩:=zzk os enc;refine returnsInHanded_of_row (C:=Tryz.checked) (s:=OpenSpec.ofChange Rows.cureWaivesSpec) own started (by kernel_rfl) Tryz.func5
  (witness_row_atRef (enc:=enc) (C:=Tryz.checked) false (zdb os) #[Value.slice none 0 0,.slice none 0 0] rfl (by kernel_rfl) (by kernel_rfl) (by kernel_rfl)
   (OpenSpec.preRow_of_cond 8 hx (by kernel_rfl) (fun k hk=>by cases hk) (by kernel_rfl) (zwx os _))) ?_
 intro W base args ds gs before hval hW _ hcond _ hL hsh _;refine zso (C:=Tryz.checked) (T:=aX) (tb:=4) (s:=Rows.cureWaivesSpec) zwu zwv ?_ kids full rfl ?_ ?_ Tryz.underlying4 ?_ W base args ds gs before hval hW (zww hL hsh)
 ·rw[Tryz.params5];decide
 ·intro ds hds
  rw[Tryz.params5] at hds
  match ds,hds with
  |[a0,a1],_=>rfl
 ·kernel_rfl
 ·intro xs hxs
  rw[Tryz.params5] at hxs;exact zzj xs hxs
theorem nm5:Tryz.pinned.checked.prog.funcNamed Rows.cureWaivesRow.func=some 5:=by kernel_rfl
theorem jf5:joinedFacts Tryz.pinned.checked.prog 5 Tryz.f5 (OpenSpec.ofChange Rows.cureWaivesSpec).bare Rows.cureWaivesRow=true:=by kernel_rfl
theorem in5:Tryz.f5.isInstance Tryz.pinned.checked.prog Rows.cureWaivesRow.origin Rows.cureWaivesRow.targs:=of_decide_eq_true (by kernel_rfl)
theorem wr5:Tryz.f5.isWrapper Tryz.pinned.checked.prog Rows.cureWaivesRow.wrapper Rows.cureWaivesRow.mainSum:=by unfold Func.isWrapper;first|(rw[if_pos (by decide+kernel)];kernel_rfl)|(rw[if_neg (by decide+kernel)];exact⟨rfl,rfl⟩)
theorem bt5:OpenClaim.wfByText (OpenSpec.ofChange Rows.cureWaivesSpec) Rows.cureWaivesRow=true:=by kernel_rfl
theorem mi5:Tryz.pinned.checked.prog.mainIs=some (Rows.cureWaivesCard.stood.harness.1,Rows.cureWaivesCard.stood.harness.2.toList):=by kernel_rfl
theorem lo5:Rows.cureWaivesCard.stood.looks=Tryz.pinned.checked.prog.looks []:=by kernel_rfl
theorem gb5:false=Rows.cureWaivesRow.goesBy Tryz.pinned.checked.prog:=by kernel_rfl
theorem si5:([22,23].all fun u=> !Tryz.prog.wantsStandIn u)=true:=by kernel_rfl
theorem CureWaives_row:Rows.CureWaivesSaid:=
 OpenClaim.holds_of_cond 5 Tryz.f5 rfl rfl rfl rfl rfl rfl rfl ⟨rfl,rfl,rfl,rfl,rfl⟩ rfl rfl rfl rfl rfl nm5 Tryz.func5 jf5 in5 wr5
  (fun os started H enc _ F=>by rw[OpenClaim.pre_eq_preRow];exact zzl os started H enc F)
theorem CureWaives_holds:Rows.CureWaivesCardSaid:=
 Claim7.holds_tied_plain_at .later [] _ _ _ _ CureWaives_row (fun _ h=>by cases h) bt5 (fun _ h=>by cases h) cureWaives_row_tie rfl ⟨rfl,rfl⟩ mi5 rfl
  (fun f fn hf hfn=>by
   obtain rfl:f=5:=Yt (nm5.symm.trans hf)|>.symm
   obtain rfl:fn=Tryz.f5:=(Yt (Tryz.func5.symm.trans hfn)).symm
   exact⟨lo5,fun j t ht=>by
    rw[Tryz.params5] at ht
    have hm:t∈[22,23]:=by simpa using Array.mem_of_getElem? ht
    exact(show Tryz.prog.wantsStandIn t=false by simpa using ZA.1 si5 t hm)⟩)
  gb5
end Go.Proofs.YtcglilececjppaaGreatDoor
