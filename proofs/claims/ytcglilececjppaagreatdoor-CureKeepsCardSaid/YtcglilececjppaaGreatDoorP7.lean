/- A part of the proof; the last text states what is proved. -/
import Derived.Test.YtcglilececjppaaGreatDoorP6
set_option linter.unusedVariables false
set_option linter.unusedSimpArgs false
set_option maxRecDepth 100000
set_option maxHeartbeats 8000000
open List renaming all_eq_true → ZA
open Option.some renaming inj → Yo
namespace Go.Proofs.YtcglilececjppaaGreatDoor
open Go.Abs Go.RowKit Go.ChangeShapes Go.WideShapes Go.ChangeAt Go.WideMaps Go.WideElems Go.Ex
theorem zzk (xs:List V) (h:gJ Tryz.prog [22,23,25,9] xs):Go.Abs.Spec Tryz.prog 8 xs (fun r=>r=.bool true):=by
 match xs,h with
 |[a0,a1,a2,a3],⟨⟨_,_,h0,q0⟩,⟨_,_,h1,q1⟩,⟨_,_,h2,q2⟩,⟨_,_,h3,q3⟩,_⟩=>
  obtain⟨x0,e0,w0⟩:=zwo h0;obtain⟨x1,e1⟩:=zws h1;obtain⟨x2,e2⟩:=zzj h2;obtain⟨x3,e3,w3⟩:=zzi Tryz.underlying9 h3;rw[q0,q1,q2,q3,e0,e1,e2,e3];exact zzh x0 x1 w0 x2 x3
theorem zzl (os:Os) {H:Type} (enc:TypeId×Value->H): ∃eU,DataW.whole enc Tryz.prog ((zdb os).forCall (fun _ _=>0) ⟨#[],#[Value.slice none 0 0,.slice none 0 0,.agg #[.int .i64 0,.int .i64 0],.string ⟨#[]⟩],[]⟩).memory Tryz.f8.params.toList Rows.cureKeepsSpec.vars false #[Value.slice none 0 0,.slice none 0 0,.agg #[.int .i64 0,.int .i64 0],.string ⟨#[]⟩].toList 8=some ([.nil,.nil,.agg [.lit (.int .i64 0),.lit (.int .i64 0)],.lit (.string [])],[],eU):=
 ⟨[],by kernel_rfl⟩
theorem zzm (os:Os) (started:os.Started) (H:Type) (enc:TypeId×Value->H) (F:Stop.Interp):
  ReturnsInHanded {} Tryz.checked os 8 .any ((OpenSpec.ofChange Rows.cureKeepsSpec).preRow enc Tryz.prog Tryz.f8 Rows.cureKeepsRow.domain false Rows.cureKeepsRow.laid) (((OpenSpec.ofChange Rows.cureKeepsSpec).at F).post enc Tryz.prog Tryz.f8 false true false false):=by
 obtain⟨eU,hx⟩:=zzl os enc;refine returnsInHanded_of_row (C:=Tryz.checked) (s:=OpenSpec.ofChange Rows.cureKeepsSpec) own started (by kernel_rfl) Tryz.func8
  (witness_row_atRef (enc:=enc) (C:=Tryz.checked) false (zdb os) #[Value.slice none 0 0,.slice none 0 0,.agg #[.int .i64 0,.int .i64 0],.string ⟨#[]⟩] rfl (by kernel_rfl) (by kernel_rfl) (by kernel_rfl)
   (OpenSpec.preRow_of_cond 8 hx (by kernel_rfl) (fun k hk=>by cases hk) (by kernel_rfl) (zwx os _))) ?_
 intro W base args ds gs before hval hW _ hcond _ hL hsh _;refine zso (C:=Tryz.checked) (T:=aX) (tb:=4) (s:=Rows.cureKeepsSpec) zwu zwv ?_ kids full rfl ?_ ?_ Tryz.underlying4 ?_ W base args ds gs before hval hW (zww hL hsh)
 ·rw[Tryz.params8];decide
 ·intro ds hds
  rw[Tryz.params8] at hds
  match ds,hds with
  |[a0,a1,a2,a3],_=>rfl
 ·kernel_rfl
 ·intro xs hxs
  rw[Tryz.params8] at hxs;exact zzk xs hxs
theorem nm8:Tryz.pinned.checked.prog.funcNamed Rows.cureKeepsRow.func=some 8:=by kernel_rfl
theorem jf8:joinedFacts Tryz.pinned.checked.prog 8 Tryz.f8 (OpenSpec.ofChange Rows.cureKeepsSpec).bare Rows.cureKeepsRow=true:=by kernel_rfl
theorem in8:Tryz.f8.isInstance Tryz.pinned.checked.prog Rows.cureKeepsRow.origin Rows.cureKeepsRow.targs:=of_decide_eq_true (by kernel_rfl)
theorem wr8:Tryz.f8.isWrapper Tryz.pinned.checked.prog Rows.cureKeepsRow.wrapper Rows.cureKeepsRow.mainSum:=by unfold Func.isWrapper;first|(rw[if_pos (by decide+kernel)];kernel_rfl)|(rw[if_neg (by decide+kernel)];exact⟨rfl,rfl⟩)
theorem bt8:OpenClaim.wfByText (OpenSpec.ofChange Rows.cureKeepsSpec) Rows.cureKeepsRow=true:=by kernel_rfl
theorem mi8:Tryz.pinned.checked.prog.mainIs=some (Rows.cureKeepsCard.stood.harness.1,Rows.cureKeepsCard.stood.harness.2.toList):=by kernel_rfl
theorem lo8:Rows.cureKeepsCard.stood.looks=Tryz.pinned.checked.prog.looks []:=by kernel_rfl
theorem gb8:false=Rows.cureKeepsRow.goesBy Tryz.pinned.checked.prog:=by kernel_rfl
theorem si8:([22,23,25,9].all fun u=> !Tryz.prog.wantsStandIn u)=true:=by kernel_rfl
theorem CureKeeps_row:Rows.CureKeepsSaid:=
 OpenClaim.holds_of_cond 8 Tryz.f8 rfl rfl rfl rfl rfl rfl rfl ⟨rfl,rfl,rfl,rfl,rfl⟩ rfl rfl rfl rfl rfl nm8 Tryz.func8 jf8 in8 wr8
  (fun os started H enc _ F=>by rw[OpenClaim.pre_eq_preRow];exact zzm os started H enc F)
theorem CureKeeps_holds:Rows.CureKeepsCardSaid:=
 Claim7.holds_tied_plain_at .later [] _ _ _ _ CureKeeps_row (fun _ h=>by cases h) bt8 (fun _ h=>by cases h) cureKeeps_row_tie rfl ⟨rfl,rfl⟩ mi8 rfl
  (fun f fn hf hfn=>by
   obtain rfl:f=8:=Yo (nm8.symm.trans hf)|>.symm
   obtain rfl:fn=Tryz.f8:=(Yo (Tryz.func8.symm.trans hfn)).symm
   exact⟨lo8,fun j t ht=>by
    rw[Tryz.params8] at ht
    have hm:t∈[22,23,25,9]:=by simpa using Array.mem_of_getElem? ht
    exact(show Tryz.prog.wantsStandIn t=false by simpa using ZA.1 si8 t hm)⟩)
  gb8
end Go.Proofs.YtcglilececjppaaGreatDoor
