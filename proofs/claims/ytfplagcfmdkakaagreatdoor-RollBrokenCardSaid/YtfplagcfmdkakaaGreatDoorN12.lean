/- Texts for the statements of chapter 8: what all of them need, part 13. It holds of every program, tape and world that the statements name, as each theorem says. -/
import Derived.Test.YtfplagcfmdkakaaGreatDoorN10
import Derived.Test.YtfplagcfmdkakaaGreatDoorN11
section
set_option linter.all false
set_option maxRecDepth 20000
set_option maxHeartbeats 60000000
open Go.Proofs.Tryz renaming prog -> tp
open List renaming mem_cons -> lI
namespace Go.Vel
open Go Go.Conc Go.Proofs Go.ChangeShapes Go.WideShapes Go.ChangeAt Go.RowKit
open Go.ConcM (OsLater)
open Go.Proofs.YtfplagcfmdkakaaGreatDoor (Tryz.pinned)
def rollBrokenPhi (x0a x0b x0c x1a x1b x1c x1d:Value):Nat->Loc3
 | 0=>⟨0,0,0⟩
 | 1=>⟨1,0,0⟩
 | 2=>locV x0a
 | 3=>locV x0b
 | 4=>locV x0c
 | 5=>locV x1a
 | 6=>locV x1b
 | 7=>locV x1c
 | 8=>locV x1d
 | _=>⟨0,0,0⟩
theorem zcK {W:World} (hl:laidMetH tp tblLaid W) {b0:RBk} {x0a x0b x0c:Value} {q1:TrB} {w1:List TTd} {x1a x1b x1c x1d:Value} {k2:Int} {k3:Int} (h0a:SlIn W seamV 5 b0.seams x0a) (h0b:SlIn W bandV 2 b0.shrinks x0b) (h0c:SlIn W measV 3 b0.measures x0c) (h1a:SlIn W ptV 2 q1.earth x1a) (h1b:SlIn W prV 2 q1.props x1b) (h1c:SlIn W eyV 3 q1.eyes x1c) (h1d:SlIn W tdV 2 w1 x1d) (h2:0<=k2/\k2<256) (h3:0<=k3/\k3<256) :
  ∃ M last o w' t',runNT tp (M+1) (solo (G (Frame.enter tp 3 #[.agg #[.int .i64 b0.steps,.int .i64 b0.round,.int .i64 b0.roll,.int .i64 b0.rolls,x0a,x0b,x0c],.agg #[.int .i64 q1.canvas,.int .i64 q1.paint,.int .i64 q1.fine.num,.int .i64 q1.fine.den,x1a,x1b,x1c,x1d],.int .u8 k2,.int .u8 k3] .normal) []) W) #[]=(.ended o w',t') /\
   runN tp M (solo (G (Frame.enter tp 3 #[.agg #[.int .i64 b0.steps,.int .i64 b0.round,.int .i64 b0.roll,.int .i64 b0.rolls,x0a,x0b,x0c],.agg #[.int .i64 q1.canvas,.int .i64 q1.paint,.int .i64 q1.fine.num,.int .i64 q1.fine.den,x1a,x1b,x1c,x1d],.int .u8 k2,.int .u8 k3] .normal) []) W)=.next last /\
   step tp last=.ended o w'/\Conc.Good tp (fun v w=>v=.bool true/\OsLater W.os w.os/\w.output=W.output/\KeptAll W w) last o w' t':=by
 obtain ⟨ht0,ht1⟩:=zlk hl;refine zj7 (objs:=[zx,trChecksG,zk b0,zC b0,zr b0,ptO q1,prO q1,eyO q1,tdO w1]) (f:=rollBrokenPhi x0a x0b x0c x1a x1b x1c x1d) Tryz.func3 Z (by kernel_rfl) (zdD (b:=b0) (s:=2) (h:=3) (e:=4) (q:=q1) (e3:=5) (p3:=6) (y3:=7) (w3:=8) (tl:=w1) (k3:=k2) (k4:=k3) h2 h3) ?_ ?_ Z Z sQ ?_ ?_ ?_
 ·intro x hx;simp only [lI,List.not_mem_nil,or_false] at hx;rcases hx with rfl | rfl | rfl | rfl | rfl | rfl | rfl | rfl | rfl <;> rfl
 ·simp [keys]
 ·intro o hx;simp only [lI,List.not_mem_nil,or_false] at hx;rcases hx with rfl | rfl | rfl | rfl | rfl | rfl | rfl | rfl | rfl <;> rfl
 ·intro φ n i o ho
  match i,ho with
  | 0,ho=>cases ho; exact zlE ht0
  | 1,ho=>cases ho; exact zkh ht1
  | 2,ho=>cases ho; exact vc h0a (fun _=>rfl) zj9
  | 3,ho=>cases ho; exact vc h0b (fun _=>rfl) zi3
  | 4,ho=>cases ho; exact vc h0c (fun _=>rfl) zjH
  | 5,ho=>cases ho; exact vc h1a (fun _=>rfl) zmO
  | 6,ho=>cases ho; exact vc h1b (fun _=>rfl) zmM
  | 7,ho=>cases ho; exact vc h1c (fun _=>rfl) zl0
  | 8,ho=>cases ho; exact vc h1d (fun _=>rfl) zm1
  | i+9,ho=>simp at ho
 ·intro φ n hφ;refine ⟨rfl,fun j a y ha hy=>?_⟩
  match j,ha,hy with
  | 0,ha,hy=>cases ha; cases hy; exact zi6 h0a h0b h0c ⟨(hφ 2 sQ).1,(hφ 2 sQ).2⟩ ⟨(hφ 3 sQ).1,(hφ 3 sQ).2⟩ ⟨(hφ 4 sQ).1,(hφ 4 sQ).2⟩
  | 1,ha,hy =>
   cases ha; cases hy;refine .agg Z fun t u z hu hz=>?_
   match t,hu,hz with
   | 0,hu,hz=>cases hu; cases hz; exact .v _
   | 1,hu,hz=>cases hu; cases hz; exact .v _
   | 2,hu,hz=>cases hu; cases hz; exact .v _
   | 3,hu,hz=>cases hu; cases hz; exact .v _
   | 4,hu,hz=>cases hu; cases hz; exact vd h1a (hφ 5 sQ).1 (hφ 5 sQ).2
   | 5,hu,hz=>cases hu; cases hz; exact vd h1b (hφ 6 sQ).1 (hφ 6 sQ).2
   | 6,hu,hz=>cases hu; cases hz; exact vd h1c (hφ 7 sQ).1 (hφ 7 sQ).2
   | 7,hu,hz=>cases hu; cases hz; exact vd h1d (hφ 8 sQ).1 (hφ 8 sQ).2
   | t+8,hu,hz=>simp at hu
  | 2,ha,hy=>cases ha; cases hy; exact .v _
  | 3,ha,hy=>cases ha; cases hy; exact .v _
  | j+4,ha,hy=>simp at ha
set_option maxRecDepth 100000 in
theorem zbc (os:Os) (started:os.Started) (H:Type) (enc:TypeId×Value->H) (F:Stop.Interp) :
  ReturnsInLeavingWide Go.Proofs.YtfplagcfmdkakaaGreatDoor.Rows.rollBrokenRow.assume Tryz.checked os 3 .any (Go.Proofs.YtfplagcfmdkakaaGreatDoor.Rows.rollBrokenRow.pre enc tp Tryz.f3 (OpenSpec.ofChange Go.Proofs.YtfplagcfmdkakaaGreatDoor.Rows.rollBrokenSpec))
   ((OpenSpec.ofChange Go.Proofs.YtfplagcfmdkakaaGreatDoor.Rows.rollBrokenSpec).postWith enc tp Tryz.f3 F (outsideKept [.timePasses]) false true false):=by
 refine returnsInLeavingWide_of_good (C:=Tryz.checked) own started
  (zfg (enc:=enc) (C:=Tryz.checked) (os:=os) (X:=fun w _=>laidMetH tp tblLaid w) (World.doorLaid tp 400 os) #[.agg #[.int .i64 0,.int .i64 0,.int .i64 0,.int .i64 0,.slice none 0 0,.slice none 0 0,.slice none 0 0],.agg #[.int .i64 0,.int .i64 0,.int .i64 0,.int .i64 0,.slice none 0 0,.slice none 0 0,.slice none 0 0,.slice none 0 0],.int .u8 0,.int .u8 0] 8 rfl (World.shaped_of_RefB (by kernel_rfl) (by kernel_rfl)) (by kernel_rfl) (by kernel_rfl) (by kernel_rfl) (zjh os _)) ?_
 intro w tape i _ _ _ hok hpre _;obtain ⟨_,_,_,fn',hfn',_,_,_,_,hval0⟩:=hok;obtain rfl:fn'=Tryz.f3:=Option.some.inj (hfn'.symm.trans Tryz.func3);obtain ⟨⟨⟨ds,gs,before,hw,hc⟩,hL0⟩,_⟩:=hpre;have hW:=DataW.Whole.of_heap (w':=w.forCall tape i) (by rfl) hw;have hL:laidMetH tp tblLaid (w.forCall tape i):=laidMetH.of_heap (by rfl) hL0;obtain ⟨bl,args,vars⟩:=i;generalize w.forCall tape ⟨bl,args,vars⟩=W at hW hL hval0 ⊢;have hW':=hW;obtain ⟨p,q,hA0,hV0,rfl,_,_⟩:=hW;have hA:DataW.TrodAll enc tp W 0 (fun _=>true) true [26,34,5,5] args.toList ds p:=hA0;obtain ⟨v0,u0,d0,ds0,p0,q0,hargs,rfl,rfl,t0,hr0⟩:=trodAll_cons hA;obtain ⟨v1,u1,d1,ds1,p1,q1,rfl,rfl,rfl,t1,hr1⟩:=trodAll_cons hr0;obtain ⟨v2,u2,d2,ds2,p2,q2,rfl,rfl,rfl,t2,hr2⟩:=trodAll_cons hr1;obtain ⟨v3,u3,d3,ds3,p3,q3,rfl,rfl,rfl,t3,hr3⟩:=trodAll_cons hr2;obtain ⟨rfl,rfl,rfl⟩:=trodAll_nil hr3;obtain rfl:args=#[v0,v1,v2,v3]:=by cases args; simp_all
 obtain ⟨rfl,rfl⟩:=trodVars_none hV0;obtain ⟨b0,x0a,x0b,x0c,rfl,s0a,s0b,s0c⟩:=zh6 (okAgg Tryz.underlying26 (hval0 0 26 v0 rfl rfl)) t0;obtain ⟨q1,w1,x1a,x1b,x1c,x1d,rfl,s1a,s1b,s1c,s1d⟩:=zh7 (okAgg Tryz.underlying34 (hval0 1 34 v1 rfl rfl)) t1;obtain ⟨k2,rfl,rfl,rfl,s2⟩:=open_int Tryz.underlying5 (hval0 2 5 v2 rfl rfl) t2;obtain ⟨k3,rfl,rfl,rfl,s3⟩:=open_int Tryz.underlying5 (hval0 3 5 v3 rfl rfl) t3;obtain ⟨M,last,o,w',t',g1,g2,g3,g4⟩:=zcK hL s0a s0b s0c s1a s1b s1c s1d (u8_wf s2) (u8_wf s3);obtain ⟨v,e1,hF,r1,r2,r3,r4⟩:=g4;refine ⟨M,last,o,w',t',g1,g2,g3,v,e1,?_,r1,r2,r3,r4⟩;obtain ⟨rfl,ho,hu,hkp⟩:=hF;have hkp:KeptAll W { w' with os:=W.os }:=hkp;refine postWith_blind (postWith_of_post ?_ ho);exact ⟨_,_,_,[],_,[],hW',trodAll_mk1 (shut_bool Tryz.underlying4 true),⟨_,_,ul vT t0 hkp,⟨_,_,ul vT t1 hkp,⟨_,_,ul vT t2 hkp,⟨_,_,ul vT t3 hkp,trodAll_mk0,rfl⟩,rfl⟩,rfl⟩,rfl⟩,rfl,zjz (show ({ w' with os:=W.os }:World).os=W.os from rfl) hu hkp _,fun h=>by cases h⟩
theorem zbI:tp.funcNamed "velarium/velariumlaw08.RollBroken" = some 3:=by kernel_rfl
set_option maxRecDepth 100000 in
open Go.Proofs.YtfplagcfmdkakaaGreatDoor in
theorem zbb:joinedFacts tp 3 Tryz.f3 Rows.rollBrokenSpec Rows.rollBrokenRow=true:=by
 unfold joinedFacts;exact and32 (by as_aux_lemma=>kernel_rfl) vT kf3 (by as_aux_lemma=>kernel_rfl) (by as_aux_lemma=>kernel_rfl) (by as_aux_lemma=>kernel_rfl) kf7 (by as_aux_lemma=>kernel_rfl) kf9 (by as_aux_lemma=>kernel_rfl) (by as_aux_lemma=>kernel_rfl) (by as_aux_lemma=>kernel_rfl) (by as_aux_lemma=>kernel_rfl) (by as_aux_lemma=>kernel_rfl) (by as_aux_lemma=>kernel_rfl) (by as_aux_lemma=>kernel_rfl) (by as_aux_lemma=>kernel_rfl) (by as_aux_lemma=>kernel_rfl) (by as_aux_lemma=>kernel_rfl) (by as_aux_lemma=>kernel_rfl) (by as_aux_lemma=>kernel_rfl) (by as_aux_lemma=>kernel_rfl) kf23 (by as_aux_lemma=>kernel_rfl) kf25 kf26 kf27 kf28 (by as_aux_lemma=>kernel_rfl) (by as_aux_lemma=>kernel_rfl) (by as_aux_lemma=>kernel_rfl) (by as_aux_lemma=>kernel_rfl)
open Go.Proofs.YtfplagcfmdkakaaGreatDoor in
theorem zkC:Rows.RollBrokenSaid :=
 OpenClaim.holds_of_wide_leaving_time 3 Tryz.f3 rfl rfl rfl rfl rfl rfl rfl ⟨rfl,rfl,rfl,rfl,rfl⟩ rfl rfl rfl rfl rfl zbI Tryz.func3 zbb
  (of_decide_eq_true (by as_aux_lemma=>kernel_rfl)) (by unfold Func.isWrapper; first | (rw [if_pos (by decide +kernel)]; kernel_rfl) | (rw [if_neg (by decide +kernel)]; exact ⟨rfl,rfl⟩))
  (fun os started H enc _ F=>zbc os started H enc F)
end Go.Vel
namespace Go.Proofs.YtfplagcfmdkakaaGreatDoor
open Go
theorem rollBroken_holds:Rows.RollBrokenCardSaid :=
 Go.Vel.zkB .later [.funcs,.funcs] true (true,"0fbac9345386269831e87bea3a88caf51c33706822c66abc5d71c9eb0c0907dd") false
  Go.Vel.zkC (by as_aux_lemma=>kernel_rfl) rollBroken_row_tie rfl ⟨rfl,rfl⟩ (by as_aux_lemma=>kernel_rfl) rfl
  (fun f fn hf hfn=>by
   obtain rfl:f=3:=(Option.some.inj (Go.Vel.zbI.symm.trans hf)).symm;obtain rfl:fn=Tryz.f3:=(Option.some.inj (Tryz.func3.symm.trans hfn)).symm;exact ⟨by as_aux_lemma=>kernel_rfl,fun j t ht=>by
    rw [Tryz.params3] at ht;have hm:t∈[26,34,5,5]:=by simpa using Array.mem_of_getElem? ht
    have hall:([26,34,5,5].all fun u => !tp.wantsStandIn u)=true:=by as_aux_lemma=>kernel_rfl
    exact (show tp.wantsStandIn t=false by simpa using List.all_eq_true.1 hall t hm)⟩)
  (by as_aux_lemma=>kernel_rfl)
#print axioms rollBroken_holds
end Go.Proofs.YtfplagcfmdkakaaGreatDoor
end
