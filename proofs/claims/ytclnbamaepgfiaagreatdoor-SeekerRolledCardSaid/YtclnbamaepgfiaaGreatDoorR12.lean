/- Texts for the law SeekerRolled (chapters 8 and 9), part 13. It holds of every program, tape and world that the statements name, as each theorem says. -/
import Derived.Test.YtclnbamaepgfiaaGreatDoorR7
import Derived.Test.YtclnbamaepgfiaaGreatDoorR11
open Bool renaming true -> tt
section
set_option linter.all false
set_option maxRecDepth 20000
set_option maxHeartbeats 60000000
open Go.Proofs.Tryz renaming prog -> tp
open List renaming mem_cons -> lI
namespace Go.Vel
open Go Go.Conc Go.Proofs Go.ChangeShapes Go.WideShapes Go.ChangeAt Go.RowKit
open Go.ConcM (OsLater)
open Go.Proofs.YtclnbamaepgfiaaGreatDoor (Tryz.pinned)
def seekerRolledPhi(x0a x0b x1a x1b x1c:Value):Nat->Loc3
 | 0=>⟨1,0,0⟩
 | 1=>⟨0,0,0⟩
 | 2=>⟨2,0,0⟩
 | 3=>locV x0a
 | 4=>locV x0b
 | 5=>locV x1a
 | 6=>locV x1b
 | 7=>locV x1c
 | _=>⟨0,0,0⟩
theorem zcp{W:World}(hl:laidMetH tp tblLaid W){b0:Bk}{x0a x0b:Value}{b1:RBk}{x1a x1b x1c:Value}{z2:RBand}{k3:Int}{k4:Int}{k5:Int}{k6:Int}(h0a:SlIn W saysV 5 b0.kE x0a)(h0b:SlIn W seenV 2 b0.seen x0b)(h1a:SlIn W seamV 5 b1.sE x1a)(h1b:SlIn W bandV 2 b1.sH x1b)(h1c:SlIn W measV 3 b1.mE x1c)(h3:0<=k3/\k3<256)(h4:0<=k4/\k4<256)(h5:0<=k5/\k5<256)(h6:0<=k6/\k6<256) :
  ∃ M last o w' t',runNT tp (M+1) (solo (G (Frame.enter tp 3 #[.agg #[.int .i64 b0.sP,.int .i64 b0.wrong,.int .i64 b0.low,.int .i64 b0.high,x0a,x0b],.agg #[.int .i64 b1.sP,.int .i64 b1.round,.int .i64 b1.roll,.int .i64 b1.rolls,x1a,x1b,x1c],.agg (bandV z2).toArray,.int .u8 k3,.int .u8 k4,.int .u8 k5,.int .u8 k6] .normal) []) W) #[]=(.ended o w',t') /\
   runN tp M (solo (G (Frame.enter tp 3 #[.agg #[.int .i64 b0.sP,.int .i64 b0.wrong,.int .i64 b0.low,.int .i64 b0.high,x0a,x0b],.agg #[.int .i64 b1.sP,.int .i64 b1.round,.int .i64 b1.roll,.int .i64 b1.rolls,x1a,x1b,x1c],.agg (bandV z2).toArray,.int .u8 k3,.int .u8 k4,.int .u8 k5,.int .u8 k6] .normal) []) W)=.next last /\
   step tp last=.ended o w'/\Conc.Good tp (fun v w=>v=.bool tt/\OsLater W.os w.os/\w.output=W.output/\KeptAll W w) last o w' t':=by
 obtain⟨ht0,ht1,ht2⟩:=znx hl;refine zmh (objs:=[zx,zC,checksG,zu b0,zw b0,zt b1,zX b1,zG b1]) (f:=seekerRolledPhi x0a x0b x1a x1b x1c) Tryz.func3 Z (by kernel_rfl) (zeL (b:=b0) (s:=3) (e:=4) (q:=b1) (s3:=5) (h3:=6) (e3:=7) (x:=z2) (k3:=k3) (k4:=k4) (k5:=k5) (k6:=k6) dQ h3 h4 h5 h6) ?_ ?_ Z Z Z sQ ?_ ?_ ?_
 ·intro x hx;simp only[lI,List.not_mem_nil,or_false]at hx;rcases hx with rfl|rfl|rfl|rfl|rfl|rfl|rfl|rfl <;> rfl
 ·simp[keys]
 ·intro o hx;simp only[lI,List.not_mem_nil,or_false]at hx;rcases hx with rfl|rfl|rfl|rfl|rfl|rfl|rfl|rfl <;> rfl
 ·intro φ n i o ho
  match i,ho with
  | 0,ho=>cases ho;exact zeA ht1
  | 1,ho=>cases ho;exact zeA ht2
  | 2,ho=>cases ho;exact zn7 ht0
  | 3,ho=>cases ho;exact zak h0a (fun _=>rfl) zmi
  | 4,ho=>cases ho;exact zak h0b (fun _=>rfl) zmn
  | 5,ho=>cases ho;exact zak h1a (fun _=>rfl) zmk
  | 6,ho=>cases ho;exact zak h1b (fun _=>rfl) zeX
  | 7,ho=>cases ho;exact zak h1c (fun _=>rfl) zlH
  | i+8,ho=>simp at ho
 ·intro φ n hφ;refine⟨rfl,fun j a y ha hy=>?_⟩
  match j,ha,hy with
  | 0,ha,hy=>cases ha;cases hy;exact ziW h0a h0b ⟨(hφ 3 sQ).1,(hφ 3 sQ).2⟩ ⟨(hφ 4 sQ).1,(hφ 4 sQ).2⟩
  | 1,ha,hy=>cases ha;cases hy;exact zkT h1a h1b h1c ⟨(hφ 5 sQ).1,(hφ 5 sQ).2⟩ ⟨(hφ 6 sQ).1,(hφ 6 sQ).2⟩ ⟨(hφ 7 sQ).1,(hφ 7 sQ).2⟩
  | 2,ha,hy=>cases ha;cases hy;exact zpt rfl (zeX z2)
  | 3,ha,hy=>cases ha;cases hy;exact .v _
  | 4,ha,hy=>cases ha;cases hy;exact .v _
  | 5,ha,hy=>cases ha;cases hy;exact .v _
  | 6,ha,hy=>cases ha;cases hy;exact .v _
  | j+7,ha,hy=>simp at ha
set_option maxRecDepth 100000 in
theorem za1(os:Os)(started:os.Started)(H:Type)(enc:TypeId×Value->H)(F:Stop.Interp) :
  ReturnsInLeavingWide Go.Proofs.YtclnbamaepgfiaaGreatDoor.Rows.seekerRolledRow.assume Tryz.checked os 3 .any (Go.Proofs.YtclnbamaepgfiaaGreatDoor.Rows.seekerRolledRow.pre enc tp Tryz.f3 (OpenSpec.ofChange Go.Proofs.YtclnbamaepgfiaaGreatDoor.Rows.seekerRolledSpec))
   ((OpenSpec.ofChange Go.Proofs.YtclnbamaepgfiaaGreatDoor.Rows.seekerRolledSpec).postWith enc tp Tryz.f3 F (outsideKept [.timePasses]) false tt false):=by
 refine returnsInLeavingWide_of_good (C:=Tryz.checked) own started
  (zgu (enc:=enc) (C:=Tryz.checked) (os:=os) (X:=fun w _=>laidMetH tp tblLaid w) (World.doorLaid tp 400 os) #[.agg #[.int .i64 0,.int .i64 0,.int .i64 0,.int .i64 0,.slice none 0 0,.slice none 0 0],.agg #[.int .i64 0,.int .i64 0,.int .i64 0,.int .i64 0,.slice none 0 0,.slice none 0 0,.slice none 0 0],.agg #[.int .i64 0,.int .i64 0],.int .u8 0,.int .u8 0,.int .u8 0,.int .u8 0] 8 rfl (World.shaped_of_RefB (by kernel_rfl) (by kernel_rfl)) (by kernel_rfl) (by kernel_rfl) (by kernel_rfl) (zk3 os _)) ?_
 intro w tape i _ _ _ hok hpre _;obtain⟨_,_,_,fn',hfn',_,_,_,_,hval0⟩:=hok;obtain rfl:fn'=Tryz.f3:=Option.some.inj (hfn'.symm.trans Tryz.func3);obtain⟨⟨⟨ds,gs,before,hw,hc⟩,hL0⟩,_⟩:=hpre;have hW:=DataW.Whole.of_heap (w':=w.forCall tape i) (by rfl) hw;have hL:laidMetH tp tblLaid (w.forCall tape i):=laidMetH.of_heap (by rfl) hL0;obtain⟨bl,args,vars⟩:=i;generalize w.forCall tape ⟨bl,args,vars⟩=W at hW hL hval0 ⊢;have hW':=hW;obtain⟨p,q,hA0,hV0,rfl,_,_⟩:=hW;have hA:DataW.TrodAll enc tp W 0 (fun _=>tt) tt [27,32,23,5,5,5,5] args.toList ds p:=hA0;obtain⟨v0,u0,d0,ds0,p0,q0,Qg,rfl,rfl,t0,hr0⟩:=trodAll_cons hA;obtain⟨v1,u1,d1,ds1,p1,q1,rfl,rfl,rfl,t1,hr1⟩:=trodAll_cons hr0;obtain⟨v2,u2,d2,ds2,p2,q2,rfl,rfl,rfl,t2,hr2⟩:=trodAll_cons hr1;obtain⟨v3,u3,d3,ds3,p3,q3,rfl,rfl,rfl,t3,hr3⟩:=trodAll_cons hr2;obtain⟨v4,u4,d4,ds4,p4,q4,rfl,rfl,rfl,t4,hr4⟩:=trodAll_cons hr3;obtain⟨v5,u5,d5,ds5,p5,q5,rfl,rfl,rfl,t5,hr5⟩:=trodAll_cons hr4;obtain⟨v6,u6,d6,ds6,p6,q6,rfl,rfl,rfl,t6,hr6⟩:=trodAll_cons hr5;obtain⟨rfl,rfl,rfl⟩:=trodAll_nil hr6;obtain rfl:args=#[v0,v1,v2,v3,v4,v5,v6]:=by cases args;simp_all
 obtain⟨rfl,rfl⟩:=trodVars_none hV0;obtain⟨b0,x0a,x0b,rfl,s0a,s0b⟩:=zio (okAgg Tryz.underlying27 (hval0 0 27 v0 rfl rfl)) t0;obtain⟨b1,x1a,x1b,x1c,rfl,s1a,s1b,s1c⟩:=zjS (okAgg Tryz.underlying32 (hval0 1 32 v1 rfl rfl)) t1;obtain⟨z2,rfl⟩:=znC zff (okAgg Tryz.underlying23 (hval0 2 23 v2 rfl rfl)) t2;obtain⟨k3,rfl,rfl,rfl,s3⟩:=open_int Tryz.underlying5 (hval0 3 5 v3 rfl rfl) t3;obtain⟨k4,rfl,rfl,rfl,s4⟩:=open_int Tryz.underlying5 (hval0 4 5 v4 rfl rfl) t4;obtain⟨k5,rfl,rfl,rfl,s5⟩:=open_int Tryz.underlying5 (hval0 5 5 v5 rfl rfl) t5;obtain⟨k6,rfl,rfl,rfl,s6⟩:=open_int Tryz.underlying5 (hval0 6 5 v6 rfl rfl) t6;obtain⟨M,last,o,w',t',g1,g2,g3,g4⟩:=zcp hL s0a s0b s1a s1b s1c (u8_wf s3) (u8_wf s4) (u8_wf s5) (u8_wf s6) (z2:=z2);obtain⟨v,e1,hF,r1,r2,r3,r4⟩:=g4;refine⟨M,last,o,w',t',g1,g2,g3,v,e1,?_,r1,r2,r3,r4⟩;obtain⟨rfl,ho,hu,hkp⟩:=hF;have hkp:KeptAll W { w' with os:=W.os }:=hkp;refine postWith_blind (postWith_of_post ?_ ho);exact⟨_,_,_,[],_,[],hW',trodAll_mk1 (shut_bool Tryz.underlying4 tt),⟨_,_,wI wE t0 hkp,⟨_,_,wI wE t1 hkp,⟨_,_,wI wE t2 hkp,⟨_,_,wI wE t3 hkp,⟨_,_,wI wE t4 hkp,⟨_,_,wI wE t5 hkp,⟨_,_,wI wE t6 hkp,trodAll_mk0,rfl⟩,rfl⟩,rfl⟩,rfl⟩,rfl⟩,rfl⟩,rfl⟩,rfl,zlw (show({ w' with os:=W.os }:World).os=W.os from rfl) hu hkp _,fun h=>by cases h⟩
theorem zbn:tp.funcNamed "velarium/velariumlaw09.SeekerRolled" = some 3:=by kernel_rfl
set_option maxRecDepth 100000 in
open Go.Proofs.YtclnbamaepgfiaaGreatDoor in
theorem za0:joinedFacts tp 3 Tryz.f3 Rows.seekerRolledSpec Rows.seekerRolledRow=tt:=by
 unfold joinedFacts;exact and32 (by as_aux_lemma=>kernel_rfl) wE kf3 (by as_aux_lemma=>kernel_rfl) (by as_aux_lemma=>kernel_rfl) (by as_aux_lemma=>kernel_rfl) kf7 (by as_aux_lemma=>kernel_rfl) kf9 (by as_aux_lemma=>kernel_rfl) (by as_aux_lemma=>kernel_rfl) (by as_aux_lemma=>kernel_rfl) (by as_aux_lemma=>kernel_rfl) (by as_aux_lemma=>kernel_rfl) (by as_aux_lemma=>kernel_rfl) (by as_aux_lemma=>kernel_rfl) (by as_aux_lemma=>kernel_rfl) (by as_aux_lemma=>kernel_rfl) (by as_aux_lemma=>kernel_rfl) (by as_aux_lemma=>kernel_rfl) (by as_aux_lemma=>kernel_rfl) (by as_aux_lemma=>kernel_rfl) kf23 (by as_aux_lemma=>kernel_rfl) kf25 kf26 kf27 kf28 (by as_aux_lemma=>kernel_rfl) (by as_aux_lemma=>kernel_rfl) (by as_aux_lemma=>kernel_rfl) (by as_aux_lemma=>kernel_rfl)
open Go.Proofs.YtclnbamaepgfiaaGreatDoor in
theorem zkN:Rows.SeekerRolledSaid :=
 OpenClaim.holds_of_wide_leaving_time 3 Tryz.f3 rfl rfl rfl rfl rfl rfl rfl ⟨rfl,rfl,rfl,rfl,rfl⟩ rfl rfl rfl rfl rfl zbn Tryz.func3 za0
  (oT_ (by as_aux_lemma=>kernel_rfl)) (by unfold Func.isWrapper;first|(rw[if_pos (by decide +kernel)];kernel_rfl)|(rw[if_neg (by decide +kernel)];exact⟨rfl,rfl⟩))
  (fun os started H enc _ F=>za1 os started H enc F)
end Go.Vel
namespace Go.Proofs.YtclnbamaepgfiaaGreatDoor
open Go
theorem seekerRolled_holds:Rows.SeekerRolledCardSaid :=
 Go.Vel.zmE .later [.funcs,.funcs,.funcs] tt (tt,"1fe19799315bba311156e4fa473785bd1d60e10dc114c81e894572dc5e50c777") false
  Go.Vel.zkN (by as_aux_lemma=>kernel_rfl) seekerRolled_row_tie rfl ⟨rfl,rfl⟩ (by as_aux_lemma=>kernel_rfl) rfl
  (fun f fn hf hfn=>by
   obtain rfl:f=3:=(Option.some.inj (Go.Vel.zbn.symm.trans hf)).symm;obtain rfl:fn=Tryz.f3:=(Option.some.inj (Tryz.func3.symm.trans hfn)).symm;exact⟨by as_aux_lemma=>kernel_rfl,fun j t ht=>by
    rw[Tryz.params3]at ht;have hm:t∈[27,32,23,5,5,5,5]:=by simpa using Array.mem_of_getElem? ht
    have hall:([27,32,23,5,5,5,5].all fun u => !tp.wantsStandIn u)=tt:=by as_aux_lemma=>kernel_rfl
    exact(show tp.wantsStandIn t=false by simpa using List.all_eq_true.1 hall t hm)⟩)
  (by as_aux_lemma=>kernel_rfl)
#print axioms seekerRolled_holds
end Go.Proofs.YtclnbamaepgfiaaGreatDoor
end
