/- The law RollTurned: a book that begins at another seam tells the same at other indexes. It holds of every program, tape and world that the statements name, as each theorem says. -/
import Derived.Test.YtamcohjpanjdiaaGreatDoorJ9
import Derived.Test.YtamcohjpanjdiaaGreatDoorTurned1
section
set_option linter.all false
set_option maxRecDepth 20000
set_option maxHeartbeats 60000000
open Go.Proofs.Tryz renaming prog -> tp
open List renaming mem_cons -> lI
namespace Go.Vel
open Go Go.Conc Go.Proofs Go.ChangeShapes Go.WideShapes Go.ChangeAt Go.RowKit
open Go.ConcM (OsLater)
open Go.Proofs.YtamcohjpanjdiaaGreatDoor (Tryz.pinned)
def rollTurnedPhi (x0a x0b x0c:Value):Nat->Loc3
 | 0=>⟨0,0,0⟩
 | 1=>locV x0a
 | 2=>locV x0b
 | 3=>locV x0c
 | _=>⟨0,0,0⟩
theorem qb {W:World} (hl:laidMetH tp tblLaid W) {b0:RBk} {x0a x0b x0c:Value} {k1:Int} {k2:Int} {k3:Int} (h0a:SlIn W seamV 5 b0.seams x0a) (h0b:SlIn W bandV 2 b0.shrinks x0b) (h0c:SlIn W measV 3 b0.measures x0c) (h1:0<=k1/\k1<256) (h2:0<=k2/\k2<256) (h3:0<=k3/\k3<256) :
  ∃ M last o w' t',runNT tp (M+1) (solo (G (Frame.enter tp 10 #[.agg #[.int .i64 b0.steps,.int .i64 b0.round,.int .i64 b0.roll,.int .i64 b0.rolls,x0a,x0b,x0c],.int .u8 k1,.int .u8 k2,.int .u8 k3] .normal) []) W) #[]=(.ended o w',t') /\
   runN tp M (solo (G (Frame.enter tp 10 #[.agg #[.int .i64 b0.steps,.int .i64 b0.round,.int .i64 b0.roll,.int .i64 b0.rolls,x0a,x0b,x0c],.int .u8 k1,.int .u8 k2,.int .u8 k3] .normal) []) W)=.next last /\
   step tp last=.ended o w'/\Conc.Good tp (fun v w=>v=.bool true/\OsLater W.os w.os/\w.output=W.output/\KeptAll W w) last o w' t':=by
 have ht0:=zi7 hl;refine zi4 (objs:=[zy,zk b0,zB b0,zq b0]) (f:=rollTurnedPhi x0a x0b x0c) Tryz.func10 Z (by kernel_rfl) (qx (b:=b0) (s:=1) (h:=2) (e:=3) (k1:=k1) (k2:=k2) (k3:=k3) h1 h2 h3) ?_ ?_ Z sQ ?_ ?_ ?_
 ·intro x hx;simp only [lI,List.not_mem_nil,or_false] at hx;rcases hx with rfl | rfl | rfl | rfl <;> rfl
 ·simp [keys]
 ·intro o hx;simp only [lI,List.not_mem_nil,or_false] at hx;rcases hx with rfl | rfl | rfl | rfl <;> rfl
 ·intro φ n i o ho
  match i,ho with
  | 0,ho=>cases ho; exact zja ht0
  | 1,ho=>cases ho; exact zi9 h0a (fun _=>rfl) zi5
  | 2,ho=>cases ho; exact zi9 h0b (fun _=>rfl) ziY
  | 3,ho=>cases ho; exact zi9 h0c (fun _=>rfl) zi3
  | i+4,ho=>simp at ho
 ·intro φ n hφ;refine ⟨rfl,fun j a y ha hy=>?_⟩
  match j,ha,hy with
  | 0,ha,hy=>cases ha; cases hy; exact ziZ h0a h0b h0c ⟨(hφ 1 sQ).1,(hφ 1 sQ).2⟩ ⟨(hφ 2 sQ).1,(hφ 2 sQ).2⟩ ⟨(hφ 3 sQ).1,(hφ 3 sQ).2⟩
  | 1,ha,hy=>cases ha; cases hy; exact .v _
  | 2,ha,hy=>cases ha; cases hy; exact .v _
  | 3,ha,hy=>cases ha; cases hy; exact .v _
  | j+4,ha,hy=>simp at ha
set_option maxRecDepth 100000 in
theorem xC (os:Os) (started:os.Started) (H:Type) (enc:TypeId×Value->H) (F:Stop.Interp) :
  ReturnsInLeavingWide Go.Proofs.YtamcohjpanjdiaaGreatDoor.Rows.rollTurnedRow.assume Tryz.checked os 10 .any (Go.Proofs.YtamcohjpanjdiaaGreatDoor.Rows.rollTurnedRow.pre enc tp Tryz.f10 (OpenSpec.ofChange Go.Proofs.YtamcohjpanjdiaaGreatDoor.Rows.rollTurnedSpec))
   ((OpenSpec.ofChange Go.Proofs.YtamcohjpanjdiaaGreatDoor.Rows.rollTurnedSpec).postWith enc tp Tryz.f10 F (outsideKept [.timePasses]) false true false):=by
 refine returnsInLeavingWide_of_good (C:=Tryz.checked) own started
  (ziK (enc:=enc) (C:=Tryz.checked) (os:=os) (X:=fun w _=>laidMetH tp tblLaid w) (World.doorLaid tp 400 os) #[.agg #[.int .i64 0,.int .i64 0,.int .i64 0,.int .i64 0,.slice none 0 0,.slice none 0 0,.slice none 0 0],.int .u8 0,.int .u8 0,.int .u8 0] 8 rfl (World.shaped_of_RefB (by kernel_rfl) (by kernel_rfl)) (by kernel_rfl) (by kernel_rfl) (by kernel_rfl) (zi0 os _)) ?_
 intro w tape i _ _ _ hok hpre _;obtain ⟨_,_,_,fn',hfn',_,_,_,_,hval0⟩:=hok;obtain rfl:fn'=Tryz.f10:=Option.some.inj (hfn'.symm.trans Tryz.func10);obtain ⟨⟨⟨ds,gs,before,hw,hc⟩,hL0⟩,_⟩:=hpre;have hW:=DataW.Whole.of_heap (w':=w.forCall tape i) (by rfl) hw;have hL:laidMetH tp tblLaid (w.forCall tape i):=laidMetH.of_heap (by rfl) hL0;obtain ⟨bl,args,vars⟩:=i;generalize w.forCall tape ⟨bl,args,vars⟩=W at hW hL hval0 ⊢;have hW':=hW;obtain ⟨p,q,hA0,hV0,rfl,_,_⟩:=hW;have hA:DataW.TrodAll enc tp W 0 (fun _=>true) true [26,5,5,5] args.toList ds p:=hA0;obtain ⟨v0,u0,d0,ds0,p0,q0,hargs,rfl,rfl,t0,hr0⟩:=trodAll_cons hA;obtain ⟨v1,u1,d1,ds1,p1,q1,rfl,rfl,rfl,t1,hr1⟩:=trodAll_cons hr0;obtain ⟨v2,u2,d2,ds2,p2,q2,rfl,rfl,rfl,t2,hr2⟩:=trodAll_cons hr1;obtain ⟨v3,u3,d3,ds3,p3,q3,rfl,rfl,rfl,t3,hr3⟩:=trodAll_cons hr2;obtain ⟨rfl,rfl,rfl⟩:=trodAll_nil hr3;obtain rfl:args=#[v0,v1,v2,v3]:=by cases args; simp_all
 obtain ⟨rfl,rfl⟩:=trodVars_none hV0;obtain ⟨b0,x0a,x0b,x0c,rfl,s0a,s0b,s0c⟩:=ziV (okAgg Tryz.underlying26 (hval0 0 26 v0 rfl rfl)) t0;obtain ⟨k1,rfl,rfl,rfl,s1⟩:=open_int Tryz.underlying5 (hval0 1 5 v1 rfl rfl) t1;obtain ⟨k2,rfl,rfl,rfl,s2⟩:=open_int Tryz.underlying5 (hval0 2 5 v2 rfl rfl) t2;obtain ⟨k3,rfl,rfl,rfl,s3⟩:=open_int Tryz.underlying5 (hval0 3 5 v3 rfl rfl) t3;obtain ⟨M,last,o,w',t',g1,g2,g3,g4⟩:=qb hL s0a s0b s0c (u8_wf s1) (u8_wf s2) (u8_wf s3);obtain ⟨v,e1,hF,r1,r2,r3,r4⟩:=g4;refine ⟨M,last,o,w',t',g1,g2,g3,v,e1,?_,r1,r2,r3,r4⟩;obtain ⟨rfl,ho,hu,hkp⟩:=hF;have hkp:KeptAll W { w' with os:=W.os }:=hkp;refine postWith_blind (postWith_of_post ?_ ho);exact ⟨_,_,_,[],_,[],hW',trodAll_mk1 (shut_bool Tryz.underlying4 true),⟨_,_,ziX zi2 t0 hkp,⟨_,_,ziX zi2 t1 hkp,⟨_,_,ziX zi2 t2 hkp,⟨_,_,ziX zi2 t3 hkp,trodAll_mk0,rfl⟩,rfl⟩,rfl⟩,rfl⟩,rfl,zi1 (show ({ w' with os:=W.os }:World).os=W.os from rfl) hu hkp _,fun h=>by cases h⟩
theorem xM:tp.funcNamed "velarium/velariumlaw08.RollTurned" = some 10:=by kernel_rfl
set_option maxRecDepth 100000 in
open Go.Proofs.YtamcohjpanjdiaaGreatDoor in
theorem xB:joinedFacts tp 10 Tryz.f10 Rows.rollTurnedSpec Rows.rollTurnedRow=true:=by
 unfold joinedFacts;exact and32 (by as_aux_lemma=>kernel_rfl) zi2 kf3 (by as_aux_lemma=>kernel_rfl) (by as_aux_lemma=>kernel_rfl) (by as_aux_lemma=>kernel_rfl) kf7 (by as_aux_lemma=>kernel_rfl) kf9 (by as_aux_lemma=>kernel_rfl) (by as_aux_lemma=>kernel_rfl) (by as_aux_lemma=>kernel_rfl) (by as_aux_lemma=>kernel_rfl) (by as_aux_lemma=>kernel_rfl) (by as_aux_lemma=>kernel_rfl) (by as_aux_lemma=>kernel_rfl) (by as_aux_lemma=>kernel_rfl) (by as_aux_lemma=>kernel_rfl) (by as_aux_lemma=>kernel_rfl) (by as_aux_lemma=>kernel_rfl) (by as_aux_lemma=>kernel_rfl) (by as_aux_lemma=>kernel_rfl) kf23 (by as_aux_lemma=>kernel_rfl) kf25 kf26 kf27 kf28 (by as_aux_lemma=>kernel_rfl) (by as_aux_lemma=>kernel_rfl) (by as_aux_lemma=>kernel_rfl) (by as_aux_lemma=>kernel_rfl)
open Go.Proofs.YtamcohjpanjdiaaGreatDoor in
theorem jbh:Rows.RollTurnedSaid :=
 OpenClaim.holds_of_wide_leaving_time 10 Tryz.f10 rfl rfl rfl rfl rfl rfl rfl ⟨rfl,rfl,rfl,rfl,rfl⟩ rfl rfl rfl rfl rfl xM Tryz.func10 xB
  (of_decide_eq_true (by as_aux_lemma=>kernel_rfl)) (by unfold Func.isWrapper; first | (rw [if_pos (by decide +kernel)]; kernel_rfl) | (rw [if_neg (by decide +kernel)]; exact ⟨rfl,rfl⟩))
  (fun os started H enc _ F=>xC os started H enc F)
end Go.Vel
namespace Go.Proofs.YtamcohjpanjdiaaGreatDoor
open Go
theorem rollTurned_holds:Rows.RollTurnedCardSaid :=
 Go.Vel.zgK .later [.funcs] true (true,"a8dbade53a295b34d71f2e42ef9c81e21a1da82da629ae191411721f06478221") false
  Go.Vel.jbh (by as_aux_lemma=>kernel_rfl) rollTurned_row_tie rfl ⟨rfl,rfl⟩ (by as_aux_lemma=>kernel_rfl) rfl
  (fun f fn hf hfn=>by
   obtain rfl:f=10:=(Option.some.inj (Go.Vel.xM.symm.trans hf)).symm;obtain rfl:fn=Tryz.f10:=(Option.some.inj (Tryz.func10.symm.trans hfn)).symm;exact ⟨by as_aux_lemma=>kernel_rfl,fun j t ht=>by
    rw [Tryz.params10] at ht;have hm:t∈[26,5,5,5]:=by simpa using Array.mem_of_getElem? ht
    have hall:([26,5,5,5].all fun u => !tp.wantsStandIn u)=true:=by as_aux_lemma=>kernel_rfl
    exact (show tp.wantsStandIn t=false by simpa using List.all_eq_true.1 hall t hm)⟩)
  (by as_aux_lemma=>kernel_rfl)
#print axioms rollTurned_holds
end Go.Proofs.YtamcohjpanjdiaaGreatDoor
end
