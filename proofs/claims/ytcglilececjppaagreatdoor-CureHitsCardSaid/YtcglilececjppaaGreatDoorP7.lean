/- A part of the proof; the last text states what is proved. -/
import Derived.Test.YtcglilececjppaaGreatDoorP6
set_option linter.unusedVariables false
set_option linter.unusedSimpArgs false
set_option maxRecDepth 100000
set_option maxHeartbeats 8000000
open List renaming all_eq_true → Zy
open Option.some renaming inj → Yt
namespace Go.Proofs.YtcglilececjppaaGreatDoor
open Go.Abs Go.RowKit Go.ChangeShapes Go.WideShapes Go.ChangeAt Go.WideMaps Go.WideElems Go.Ex
theorem zyz (xs:List V) (h:gJ Tryz.prog [22,23,5] xs):Go.Abs.Spec Tryz.prog 4 xs (fun r=>r=.bool true):=by
 match xs,h with
 |[a0,a1,a2],⟨⟨_,_,h0,q0⟩,⟨_,_,h1,q1⟩,⟨_,_,h2,q2⟩,_⟩=>
  obtain⟨x0,e0,w0⟩:=zwo h0;obtain⟨x1,e1⟩:=zws h1;obtain⟨x2,e2,w2⟩:=zwt Tryz.underlying5 rfl h2;rw[q0,q1,q2,e0,e1,e2];exact zyy x0 x1 w0 x2 w2
theorem zyA (os:Os) {H:Type} (enc:TypeId×Value->H): ∃eU,DataW.whole enc Tryz.prog ((zdb os).forCall (fun _ _=>0) ⟨#[],#[Value.slice none 0 0,.slice none 0 0,.int .u8 0],[]⟩).memory Tryz.f4.params.toList Rows.cureHitsSpec.vars false #[Value.slice none 0 0,.slice none 0 0,.int .u8 0].toList 8=some ([.nil,.nil,.lit (.int .u8 0)],[],eU):=
 ⟨[],by kernel_rfl⟩
theorem zyB (os:Os) (started:os.Started) (H:Type) (enc:TypeId×Value->H) (F:Stop.Interp):
  ReturnsInHanded {} Tryz.checked os 4 .any ((OpenSpec.ofChange Rows.cureHitsSpec).preRow enc Tryz.prog Tryz.f4 Rows.cureHitsRow.domain false Rows.cureHitsRow.laid) (((OpenSpec.ofChange Rows.cureHitsSpec).at F).post enc Tryz.prog Tryz.f4 false true false false):=by
 obtain⟨eU,hx⟩:=zyA os enc;refine returnsInHanded_of_row (C:=Tryz.checked) (s:=OpenSpec.ofChange Rows.cureHitsSpec) own started (by kernel_rfl) Tryz.func4
  (witness_row_atRef (enc:=enc) (C:=Tryz.checked) false (zdb os) #[Value.slice none 0 0,.slice none 0 0,.int .u8 0] rfl (by kernel_rfl) (by kernel_rfl) (by kernel_rfl)
   (OpenSpec.preRow_of_cond 8 hx (by kernel_rfl) (fun k hk=>by cases hk) (by kernel_rfl) (zwx os _))) ?_
 intro W base args ds gs before hval hW _ hcond _ hL hsh _;refine zso (C:=Tryz.checked) (T:=aX) (tb:=4) (s:=Rows.cureHitsSpec) zwu zwv ?_ kids full rfl ?_ ?_ Tryz.underlying4 ?_ W base args ds gs before hval hW (zww hL hsh)
 ·rw[Tryz.params4];decide
 ·intro ds hds
  rw[Tryz.params4] at hds
  match ds,hds with
  |[a0,a1,a2],_=>rfl
 ·kernel_rfl
 ·intro xs hxs
  rw[Tryz.params4] at hxs;exact zyz xs hxs
theorem nm4:Tryz.pinned.checked.prog.funcNamed Rows.cureHitsRow.func=some 4:=by kernel_rfl
theorem jf4:joinedFacts Tryz.pinned.checked.prog 4 Tryz.f4 (OpenSpec.ofChange Rows.cureHitsSpec).bare Rows.cureHitsRow=true:=by kernel_rfl
theorem in4:Tryz.f4.isInstance Tryz.pinned.checked.prog Rows.cureHitsRow.origin Rows.cureHitsRow.targs:=of_decide_eq_true (by kernel_rfl)
theorem wr4:Tryz.f4.isWrapper Tryz.pinned.checked.prog Rows.cureHitsRow.wrapper Rows.cureHitsRow.mainSum:=by unfold Func.isWrapper;first|(rw[if_pos (by decide+kernel)];kernel_rfl)|(rw[if_neg (by decide+kernel)];exact⟨rfl,rfl⟩)
theorem bt4:OpenClaim.wfByText (OpenSpec.ofChange Rows.cureHitsSpec) Rows.cureHitsRow=true:=by kernel_rfl
theorem mi4:Tryz.pinned.checked.prog.mainIs=some (Rows.cureHitsCard.stood.harness.1,Rows.cureHitsCard.stood.harness.2.toList):=by kernel_rfl
theorem lo4:Rows.cureHitsCard.stood.looks=Tryz.pinned.checked.prog.looks []:=by kernel_rfl
theorem gb4:false=Rows.cureHitsRow.goesBy Tryz.pinned.checked.prog:=by kernel_rfl
theorem si4:([22,23,5].all fun u=> !Tryz.prog.wantsStandIn u)=true:=by kernel_rfl
theorem CureHits_row:Rows.CureHitsSaid:=
 OpenClaim.holds_of_cond 4 Tryz.f4 rfl rfl rfl rfl rfl rfl rfl ⟨rfl,rfl,rfl,rfl,rfl⟩ rfl rfl rfl rfl rfl nm4 Tryz.func4 jf4 in4 wr4
  (fun os started H enc _ F=>by rw[OpenClaim.pre_eq_preRow];exact zyB os started H enc F)
theorem CureHits_holds:Rows.CureHitsCardSaid:=
 Claim7.holds_tied_plain_at .later [] _ _ _ _ CureHits_row (fun _ h=>by cases h) bt4 (fun _ h=>by cases h) cureHits_row_tie rfl ⟨rfl,rfl⟩ mi4 rfl
  (fun f fn hf hfn=>by
   obtain rfl:f=4:=Yt (nm4.symm.trans hf)|>.symm
   obtain rfl:fn=Tryz.f4:=(Yt (Tryz.func4.symm.trans hfn)).symm
   exact⟨lo4,fun j t ht=>by
    rw[Tryz.params4] at ht
    have hm:t∈[22,23,5]:=by simpa using Array.mem_of_getElem? ht
    exact(show Tryz.prog.wantsStandIn t=false by simpa using Zy.1 si4 t hm)⟩)
  gb4
end Go.Proofs.YtcglilececjppaaGreatDoor
