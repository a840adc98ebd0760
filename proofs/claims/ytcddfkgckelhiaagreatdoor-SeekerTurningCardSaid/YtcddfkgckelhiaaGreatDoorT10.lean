/- Texts for the statements of chapter 9: what all of them need, part 11. It holds of every program, tape and world that the statements name, as each theorem says. -/
import Derived.Test.YtcddfkgckelhiaaGreatDoorT9
section
set_option linter.all false
set_option maxRecDepth 20000
set_option maxHeartbeats 60000000
open Go.Proofs.Tryz renaming prog -> tp
namespace Go.Vel
open Go Go.Conc Go.Proofs Go.ChangeShapes Go.WideShapes Go.ChangeAt Go.RowKit
open Go.Proofs.YtcddfkgckelhiaaGreatDoor (Tryz.pinned)
theorem and32 {a1 a2 a3 a4 a5 a6 a7 a8 a9 a10 a11 a12 a13 a14 a15 a16 a17 a18 a19 a20 a21 a22 a23 a24 a25 a26 a27 a28 a29 a30 a31 a32:Bool} (h1:a1=true) (h2:a2=true) (h3:a3=true) (h4:a4=true) (h5:a5=true) (h6:a6=true) (h7:a7=true) (h8:a8=true) (h9:a9=true) (h10:a10=true) (h11:a11=true) (h12:a12=true) (h13:a13=true) (h14:a14=true) (h15:a15=true) (h16:a16=true) (h17:a17=true) (h18:a18=true) (h19:a19=true) (h20:a20=true) (h21:a21=true) (h22:a22=true) (h23:a23=true) (h24:a24=true) (h25:a25=true) (h26:a26=true) (h27:a27=true) (h28:a28=true) (h29:a29=true) (h30:a30=true) (h31:a31=true) (h32:a32=true):(a1&&a2&&a3&&a4&&a5&&a6&&a7&&a8&&a9&&a10&&a11&&a12&&a13&&a14&&a15&&a16&&a17&&a18&&a19&&a20&&a21&&a22&&a23&&a24&&a25&&a26&&a27&&a28&&a29&&a30&&a31&&a32)=true:=by
 rw [h1,h2,h3,h4,h5,h6,h7,h8,h9,h10,h11,h12,h13,h14,h15,h16,h17,h18,h19,h20,h21,h22,h23,h24,h25,h26,h27,h28,h29,h30,h31,h32];rfl
theorem kf3:mapsRowed tp=true:=by kernel_rfl
theorem kf7:(tp.stops==[])=true:=by kernel_rfl
theorem kf9:(tp.stopKnobs==[])=true:=by kernel_rfl
theorem kf25:tp.stopsHeard=true:=by kernel_rfl
theorem kf26:tp.mayEnter=true:=by kernel_rfl
theorem kf27:(Go.Proofs.YtcddfkgckelhiaaGreatDoor.Rows.seekerTurningRow.lifted==tp.liftsFinal)=true:=by kernel_rfl
theorem kf28:(tp.make==some Go.Proofs.YtcddfkgckelhiaaGreatDoor.Rows.seekerTurningRow.make)=true:=by kernel_rfl
theorem kf23:(Go.Proofs.YtcddfkgckelhiaaGreatDoor.Rows.seekerTurningRow.plainKeys==tp.plainKeys)=true:=by kernel_rfl
theorem zaC:tp.funcNamed "velarium/velariumlaw09.SeekerTurning" = some 5:=by kernel_rfl
set_option maxRecDepth 100000 in
open Go.Proofs.YtcddfkgckelhiaaGreatDoor in
theorem zan:joinedFacts tp 5 Tryz.f5 Rows.seekerTurningSpec Rows.seekerTurningRow=true:=by
 unfold joinedFacts;exact and32 (by as_aux_lemma=>kernel_rfl) kS kf3 (by as_aux_lemma=>kernel_rfl) (by as_aux_lemma=>kernel_rfl) (by as_aux_lemma=>kernel_rfl) kf7 (by as_aux_lemma=>kernel_rfl) kf9 (by as_aux_lemma=>kernel_rfl) (by as_aux_lemma=>kernel_rfl) (by as_aux_lemma=>kernel_rfl) (by as_aux_lemma=>kernel_rfl) (by as_aux_lemma=>kernel_rfl) (by as_aux_lemma=>kernel_rfl) (by as_aux_lemma=>kernel_rfl) (by as_aux_lemma=>kernel_rfl) (by as_aux_lemma=>kernel_rfl) (by as_aux_lemma=>kernel_rfl) (by as_aux_lemma=>kernel_rfl) (by as_aux_lemma=>kernel_rfl) (by as_aux_lemma=>kernel_rfl) kf23 (by as_aux_lemma=>kernel_rfl) kf25 kf26 kf27 kf28 (by as_aux_lemma=>kernel_rfl) (by as_aux_lemma=>kernel_rfl) (by as_aux_lemma=>kernel_rfl) (by as_aux_lemma=>kernel_rfl)
open Go.Proofs.YtcddfkgckelhiaaGreatDoor in
theorem zjB:Rows.SeekerTurningSaid :=
 OpenClaim.holds_of_wide_leaving 5 Tryz.f5 rfl rfl rfl rfl rfl rfl rfl ⟨rfl,rfl,rfl,rfl,rfl⟩ rfl rfl rfl rfl rfl zaC Tryz.func5 zan
  (of_decide_eq_true (by as_aux_lemma=>kernel_rfl)) (by unfold Func.isWrapper; first | (rw [if_pos (by decide +kernel)]; kernel_rfl) | (rw [if_neg (by decide +kernel)]; exact ⟨rfl,rfl⟩))
  (fun os started H enc _=>zao os started H enc)
end Go.Vel
namespace Go.Proofs.YtcddfkgckelhiaaGreatDoor
open Go
theorem seekerTurning_holds:Rows.SeekerTurningCardSaid :=
 Go.Vel.zlh .later [.funcs,.funcs,.funcs] true (true,"3155e7a4eae54f693aaa11df5a00bfaad98e5283f1f55b7e06449e5a2c1f4547") false
  Go.Vel.zjB (by as_aux_lemma=>kernel_rfl) seekerTurning_row_tie rfl ⟨rfl,rfl⟩ (by as_aux_lemma=>kernel_rfl) rfl
  (fun f fn hf hfn=>by
   obtain rfl:f=5:=Option.some.inj (Go.Vel.zaC.symm.trans hf) |>.symm;obtain rfl:fn=Tryz.f5:=(Option.some.inj (Tryz.func5.symm.trans hfn)).symm;exact ⟨by as_aux_lemma=>kernel_rfl,fun j t ht=>by
    rw [Tryz.params5] at ht;have hm:t∈[27,57,23,5,5,5,5,5]:=by simpa using Array.mem_of_getElem? ht
    have hall:([27,57,23,5,5,5,5,5].all fun u => !tp.wantsStandIn u)=true:=by as_aux_lemma=>kernel_rfl
    exact (show tp.wantsStandIn t=false by simpa using List.all_eq_true.1 hall t hm)⟩)
  (by as_aux_lemma=>kernel_rfl)
#print axioms seekerTurning_holds
end Go.Proofs.YtcddfkgckelhiaaGreatDoor
end
