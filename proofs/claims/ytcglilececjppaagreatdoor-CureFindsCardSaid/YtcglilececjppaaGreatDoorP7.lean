/- A part of the proof; the last text states what is proved. -/
import Derived.Test.YtcglilececjppaaGreatDoorP6
set_option linter.unusedVariables false
set_option linter.unusedSimpArgs false
set_option maxRecDepth 100000
set_option maxHeartbeats 8000000
open List renaming all_eq_true → ZA
open Option.some renaming inj → Yr
namespace Go.Proofs.YtcglilececjppaaGreatDoor
open Go.Abs Go.RowKit Go.ChangeShapes Go.WideShapes Go.ChangeAt Go.WideMaps Go.WideElems Go.Ex
theorem zzH (xs:List V) (h:gJ Tryz.prog [22,23,25,3] xs):Go.Abs.Spec Tryz.prog 7 xs (fun r=>r=.bool true):=by
 match xs,h with
 |[a0,a1,a2,a3],⟨⟨_,_,h0,q0⟩,⟨_,_,h1,q1⟩,⟨_,_,h2,q2⟩,⟨_,_,h3,q3⟩,_⟩=>
  obtain⟨x0,e0,w0⟩:=zwo h0;obtain⟨x1,e1⟩:=zws h1;obtain⟨x2,e2⟩:=zzG h2;obtain⟨x3,e3,w3⟩:=zzF Tryz.underlying3 h3;rw[q0,q1,q2,q3,e0,e1,e2,e3];exact zzD x0 x1 w0 x2 x3 w3
theorem zzI (os:Os) {H:Type} (enc:TypeId×Value->H): ∃eU,DataW.whole enc Tryz.prog ((zdb os).forCall (fun _ _=>0) ⟨#[],#[Value.slice none 0 0,.slice none 0 0,.agg #[.int .i64 0,.int .i64 0],.int .i64 0],[]⟩).memory Tryz.f7.params.toList Rows.cureFindsSpec.vars false #[Value.slice none 0 0,.slice none 0 0,.agg #[.int .i64 0,.int .i64 0],.int .i64 0].toList 8=some ([.nil,.nil,.agg [.lit (.int .i64 0),.lit (.int .i64 0)],.lit (.int .i64 0)],[],eU):=
 ⟨[],by kernel_rfl⟩
theorem zzJ (os:Os) (started:os.Started) (H:Type) (enc:TypeId×Value->H) (F:Stop.Interp):
  ReturnsInHanded {} Tryz.checked os 7 .any ((OpenSpec.ofChange Rows.cureFindsSpec).preRow enc Tryz.prog Tryz.f7 Rows.cureFindsRow.domain false Rows.cureFindsRow.laid) (((OpenSpec.ofChange Rows.cureFindsSpec).at F).post enc Tryz.prog Tryz.f7 false true false false):=by
 obtain⟨eU,hx⟩:=zzI os enc;refine returnsInHanded_of_row (C:=Tryz.checked) (s:=OpenSpec.ofChange Rows.cureFindsSpec) own started (by kernel_rfl) Tryz.func7
  (witness_row_atRef (enc:=enc) (C:=Tryz.checked) false (zdb os) #[Value.slice none 0 0,.slice none 0 0,.agg #[.int .i64 0,.int .i64 0],.int .i64 0] rfl (by kernel_rfl) (by kernel_rfl) (by kernel_rfl)
   (OpenSpec.preRow_of_cond 8 hx (by kernel_rfl) (fun k hk=>by cases hk) (by kernel_rfl) (zwx os _))) ?_
 intro W base args ds gs before hval hW _ hcond _ hL hsh _;refine zso (C:=Tryz.checked) (T:=aX) (tb:=4) (s:=Rows.cureFindsSpec) zwu zwv ?_ kids full rfl ?_ ?_ Tryz.underlying4 ?_ W base args ds gs before hval hW (zww hL hsh)
 ·rw[Tryz.params7];decide
 ·intro ds hds
  rw[Tryz.params7] at hds
  match ds,hds with
  |[a0,a1,a2,a3],_=>rfl
 ·kernel_rfl
 ·intro xs hxs
  rw[Tryz.params7] at hxs;exact zzH xs hxs
theorem nm7:Tryz.pinned.checked.prog.funcNamed Rows.cureFindsRow.func=some 7:=by kernel_rfl
theorem jf7:joinedFacts Tryz.pinned.checked.prog 7 Tryz.f7 (OpenSpec.ofChange Rows.cureFindsSpec).bare Rows.cureFindsRow=true:=by kernel_rfl
theorem in7:Tryz.f7.isInstance Tryz.pinned.checked.prog Rows.cureFindsRow.origin Rows.cureFindsRow.targs:=of_decide_eq_true (by kernel_rfl)
theorem wr7:Tryz.f7.isWrapper Tryz.pinned.checked.prog Rows.cureFindsRow.wrapper Rows.cureFindsRow.mainSum:=by unfold Func.isWrapper;first|(rw[if_pos (by decide+kernel)];kernel_rfl)|(rw[if_neg (by decide+kernel)];exact⟨rfl,rfl⟩)
theorem bt7:OpenClaim.wfByText (OpenSpec.ofChange Rows.cureFindsSpec) Rows.cureFindsRow=true:=by kernel_rfl
theorem mi7:Tryz.pinned.checked.prog.mainIs=some (Rows.cureFindsCard.stood.harness.1,Rows.cureFindsCard.stood.harness.2.toList):=by kernel_rfl
theorem lo7:Rows.cureFindsCard.stood.looks=Tryz.pinned.checked.prog.looks []:=by kernel_rfl
theorem gb7:false=Rows.cureFindsRow.goesBy Tryz.pinned.checked.prog:=by kernel_rfl
theorem si7:([22,23,25,3].all fun u=> !Tryz.prog.wantsStandIn u)=true:=by kernel_rfl
theorem CureFinds_row:Rows.CureFindsSaid:=
 OpenClaim.holds_of_cond 7 Tryz.f7 rfl rfl rfl rfl rfl rfl rfl ⟨rfl,rfl,rfl,rfl,rfl⟩ rfl rfl rfl rfl rfl nm7 Tryz.func7 jf7 in7 wr7
  (fun os started H enc _ F=>by rw[OpenClaim.pre_eq_preRow];exact zzJ os started H enc F)
theorem CureFinds_holds:Rows.CureFindsCardSaid:=
 Claim7.holds_tied_plain_at .later [] _ _ _ _ CureFinds_row (fun _ h=>by cases h) bt7 (fun _ h=>by cases h) cureFinds_row_tie rfl ⟨rfl,rfl⟩ mi7 rfl
  (fun f fn hf hfn=>by
   obtain rfl:f=7:=Yr (nm7.symm.trans hf)|>.symm
   obtain rfl:fn=Tryz.f7:=(Yr (Tryz.func7.symm.trans hfn)).symm
   exact⟨lo7,fun j t ht=>by
    rw[Tryz.params7] at ht
    have hm:t∈[22,23,25,3]:=by simpa using Array.mem_of_getElem? ht
    exact(show Tryz.prog.wantsStandIn t=false by simpa using ZA.1 si7 t hm)⟩)
  gb7
end Go.Proofs.YtcglilececjppaaGreatDoor
