/- A part of the proof; the last text states what is proved. -/
import Derived.Test.YtcglilececjppaaGreatDoorP6
set_option linter.unusedVariables false
set_option linter.unusedSimpArgs false
set_option maxRecDepth 100000
set_option maxHeartbeats 8000000
open List renaming all_eq_true → ZA
open Option.some renaming inj → Yr
namespace Go.Proofs.YtcglilececjppaaGreatDoor
open Go.Abs Go.RowKit Go.ChangeShapes Go.WideShapes Go.ChangeAt Go.WideMaps Go.WideElems Go.Ex
theorem zzF (xs:List V) (h:gJ Tryz.prog [22,23] xs):Go.Abs.Spec Tryz.prog 6 xs (fun r=>r=.bool true):=by
 match xs,h with
 |[a0,a1],⟨⟨_,_,h0,q0⟩,⟨_,_,h1,q1⟩,_⟩=>
  obtain⟨x0,e0,w0⟩:=zwo h0;obtain⟨x1,e1⟩:=zws h1;rw[q0,q1,e0,e1];exact zzE x0 x1 w0
theorem zzG (os:Os) {H:Type} (enc:TypeId×Value->H): ∃eU,DataW.whole enc Tryz.prog ((zdb os).forCall (fun _ _=>0) ⟨#[],#[Value.slice none 0 0,.slice none 0 0],[]⟩).memory Tryz.f6.params.toList Rows.cureCorrectsSpec.vars false #[Value.slice none 0 0,.slice none 0 0].toList 8=some ([.nil,.nil],[],eU):=
 ⟨[],by kernel_rfl⟩
theorem zzH (os:Os) (started:os.Started) (H:Type) (enc:TypeId×Value->H) (F:Stop.Interp):
  ReturnsInHanded {} Tryz.checked os 6 .any ((OpenSpec.ofChange Rows.cureCorrectsSpec).preRow enc Tryz.prog Tryz.f6 Rows.cureCorrectsRow.domain false Rows.cureCorrectsRow.laid) (((OpenSpec.ofChange Rows.cureCorrectsSpec).at F).post enc Tryz.prog Tryz.f6 false true false false):=by
 obtain⟨eU,hx⟩:=zzG os enc;refine returnsInHanded_of_row (C:=Tryz.checked) (s:=OpenSpec.ofChange Rows.cureCorrectsSpec) own started (by kernel_rfl) Tryz.func6
  (witness_row_atRef (enc:=enc) (C:=Tryz.checked) false (zdb os) #[Value.slice none 0 0,.slice none 0 0] rfl (by kernel_rfl) (by kernel_rfl) (by kernel_rfl)
   (OpenSpec.preRow_of_cond 8 hx (by kernel_rfl) (fun k hk=>by cases hk) (by kernel_rfl) (zwx os _))) ?_
 intro W base args ds gs before hval hW _ hcond _ hL hsh _;refine zso (C:=Tryz.checked) (T:=aX) (tb:=4) (s:=Rows.cureCorrectsSpec) zwu zwv ?_ kids full rfl ?_ ?_ Tryz.underlying4 ?_ W base args ds gs before hval hW (zww hL hsh)
 ·rw[Tryz.params6];decide
 ·intro ds hds
  rw[Tryz.params6] at hds
  match ds,hds with
  |[a0,a1],_=>rfl
 ·kernel_rfl
 ·intro xs hxs
  rw[Tryz.params6] at hxs;exact zzF xs hxs
theorem nm6:Tryz.pinned.checked.prog.funcNamed Rows.cureCorrectsRow.func=some 6:=by kernel_rfl
theorem jf6:joinedFacts Tryz.pinned.checked.prog 6 Tryz.f6 (OpenSpec.ofChange Rows.cureCorrectsSpec).bare Rows.cureCorrectsRow=true:=by kernel_rfl
theorem in6:Tryz.f6.isInstance Tryz.pinned.checked.prog Rows.cureCorrectsRow.origin Rows.cureCorrectsRow.targs:=of_decide_eq_true (by kernel_rfl)
theorem wr6:Tryz.f6.isWrapper Tryz.pinned.checked.prog Rows.cureCorrectsRow.wrapper Rows.cureCorrectsRow.mainSum:=by unfold Func.isWrapper;first|(rw[if_pos (by decide+kernel)];kernel_rfl)|(rw[if_neg (by decide+kernel)];exact⟨rfl,rfl⟩)
theorem bt6:OpenClaim.wfByText (OpenSpec.ofChange Rows.cureCorrectsSpec) Rows.cureCorrectsRow=true:=by kernel_rfl
theorem mi6:Tryz.pinned.checked.prog.mainIs=some (Rows.cureCorrectsCard.stood.harness.1,Rows.cureCorrectsCard.stood.harness.2.toList):=by kernel_rfl
theorem lo6:Rows.cureCorrectsCard.stood.looks=Tryz.pinned.checked.prog.looks []:=by kernel_rfl
theorem gb6:false=Rows.cureCorrectsRow.goesBy Tryz.pinned.checked.prog:=by kernel_rfl
theorem si6:([22,23].all fun u=> !Tryz.prog.wantsStandIn u)=true:=by kernel_rfl
theorem CureCorrects_row:Rows.CureCorrectsSaid:=
 OpenClaim.holds_of_cond 6 Tryz.f6 rfl rfl rfl rfl rfl rfl rfl ⟨rfl,rfl,rfl,rfl,rfl⟩ rfl rfl rfl rfl rfl nm6 Tryz.func6 jf6 in6 wr6
  (fun os started H enc _ F=>by rw[OpenClaim.pre_eq_preRow];exact zzH os started H enc F)
theorem CureCorrects_holds:Rows.CureCorrectsCardSaid:=
 Claim7.holds_tied_plain_at .later [] _ _ _ _ CureCorrects_row (fun _ h=>by cases h) bt6 (fun _ h=>by cases h) cureCorrects_row_tie rfl ⟨rfl,rfl⟩ mi6 rfl
  (fun f fn hf hfn=>by
   obtain rfl:f=6:=Yr (nm6.symm.trans hf)|>.symm
   obtain rfl:fn=Tryz.f6:=(Yr (Tryz.func6.symm.trans hfn)).symm
   exact⟨lo6,fun j t ht=>by
    rw[Tryz.params6] at ht
    have hm:t∈[22,23]:=by simpa using Array.mem_of_getElem? ht
    exact(show Tryz.prog.wantsStandIn t=false by simpa using ZA.1 si6 t hm)⟩)
  gb6
end Go.Proofs.YtcglilececjppaaGreatDoor
