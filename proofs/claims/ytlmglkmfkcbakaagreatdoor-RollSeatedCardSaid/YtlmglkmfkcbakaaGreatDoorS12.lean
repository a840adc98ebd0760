/- Texts for the statements of chapter 8: what all of them need, part 13. It holds of every program, tape and world that the statements name, as each theorem says. -/
import Derived.Test.YtlmglkmfkcbakaaGreatDoorS10
import Derived.Test.YtlmglkmfkcbakaaGreatDoorS11
open Go renaming Value -> gV
open Bool renaming true -> tt, false -> ff
section
set_option linter.all false
set_option maxRecDepth 20000
set_option maxHeartbeats 60000000
open Go.Proofs.Tryz renaming prog -> tp
open List renaming mem_cons -> lI
namespace Go.Vel
open Go Go.Conc Go.Proofs Go.ChangeShapes Go.WideShapes Go.ChangeAt Go.RowKit
open Go.ConcM (OsLater)
open Go.Proofs.YtlmglkmfkcbakaaGreatDoor (Tryz.pinned)
def u16V (x:Fin 65536):List gV:=[.int .u16 (x.1:Int)]
theorem zmc {H:Type} {enc:TypeId×gV->H} {W:World} {sp:Nat->Bool} {held:Bool} (m:Nat) (cs:List gV) (x:DataW H×List MemPlace) (h:DataW.trod enc tp W 0 sp held m 181 cs=some x):∃ z,cs=u16V z:=by
 obtain ⟨s,e0,_,hw⟩:=DataW.trod_int Tryz.underlying181 h;have hb:0<=s/\s<65536:=by
  simp only [Lit.wf,Bool.and_eq_true,decide_eq_true_eq] at hw;have h1:IntKind.u16.min=0:=by decide
  have h2:IntKind.u16.max=65535:=by decide
  omega
 refine ⟨⟨s.toNat,oQ⟩,?_⟩;rw [e0];show _=[Value.int .u16 ((s.toNat:Nat):Int)];rw [show ((s.toNat:Nat):Int)=s by omega]
theorem znz {φ:Nat->Loc3} {n:Nat} (z:Fin 65536) (jj:Nat) (a:AV) (h:([u16A z]:List AV)[jj]? =some a):∃ y,(u16V z)[jj]? =some y/\RelV φ n a y:=by
 match jj,h with
 | 0,h=>cases h; exact ⟨_,rfl,.v _⟩
 | jj+1,h=>simp at h
def rollSeatedPhi (x0a x0b x0c x1a x2:gV) (y1:List (SkT×gV)):Nat->Loc3
 | 0=>⟨0,0,0⟩
 | 1=>⟨1,0,0⟩
 | 2=>locV x0a
 | 3=>locV x0b
 | 4=>locV x0c
 | 5=>locV x1a
 | 6=>locV x2
 | i+7=>locV (((y1[i]?).map (·.2)).getD (.bool ff))
theorem zde {W:World} (hl:laidMetH tp tblLaid W) {b0:RBk} {x0a x0b x0c:gV} {st1 wr1:Int} {y1:List (SkT×gV)} {x1a:gV} {l2:List (Fin 65536)} {x2:gV} {k3:Int} {k4:Int} {k5:Int} {k6:Int} (h0a:SlIn W seamV 5 b0.sE x0a) (h0b:SlIn W bandV 2 b0.sH x0b) (h0c:SlIn W measV 3 b0.mE x0c) (h1a:SlIn W skV 7 y1 x1a) (h1m:∀ p∈y1,SlIn W mkV 3 p.1.mK p.2) (h2:SlIn W u16V 1 l2 x2) (h3:0<=k3/\k3<256) (h4:0<=k4/\k4<256) (h5:0<=k5/\k5<256) (h6:0<=k6/\k6<256) :
  ∃ M last o w' t',runNT tp (M+1) (solo (G (Frame.enter tp 3 #[.agg #[.int .i64 b0.steps,.int .i64 b0.round,.int .i64 b0.roll,.int .i64 b0.rolls,x0a,x0b,x0c],.agg #[.int .i64 st1,.int .i64 wr1,x1a],x2,.int .u8 k3,.int .u8 k4,.int .u8 k5,.int .u8 k6] .normal) []) W) #[]=(.ended o w',t') /\
   runN tp M (solo (G (Frame.enter tp 3 #[.agg #[.int .i64 b0.steps,.int .i64 b0.round,.int .i64 b0.roll,.int .i64 b0.rolls,x0a,x0b,x0c],.agg #[.int .i64 st1,.int .i64 wr1,x1a],x2,.int .u8 k3,.int .u8 k4,.int .u8 k5,.int .u8 k6] .normal) []) W)=.next last /\
   step tp last=.ended o w'/\Conc.Good tp (fun v w=>v=.bool tt/\OsLater W.os w.os/\w.output=W.output/\KeptAll W w) last o w' t':=by
 obtain ⟨ht0,ht1⟩:=zmP hl;refine zlw (objs:=zB::spChecksG::zp b0::zF b0::zz b0::skO (zOf y1)::u16O l2::y1.map fun y=>mkO y.1) (f:=rollSeatedPhi x0a x0b x0c x1a x2 y1) Tryz.func3 rfl (by kernel_rfl) (zek (b:=b0) (s:=2) (h:=3) (e:=4) (st:=st1) (wr:=wr1) (g:=5) (Zq:=zOf y1) (j:=6) (ps:=l2) (k3:=k3) (k4:=k4) (k5:=k5) (k6:=k6) h3 h4 h5 h6) ?_ ?_ rfl rfl sQ ?_ ?_ ?_
 ·intro x hx;simp only [lI] at hx;rcases hx with rfl | rfl | rfl | rfl | rfl | rfl | rfl | hx
  iterate 7 rfl
  obtain ⟨i,h1,h2⟩:=zmB hx;obtain ⟨k,o⟩:=x;dsimp only at h1 h2 ⊢;subst h1;exact h2
 ·exact keysU
 ·intro o hx;simp only [lI] at hx;rcases hx with rfl | rfl | rfl | rfl | rfl | rfl | rfl | hx
  iterate 7 rfl
  obtain ⟨y,_,rfl⟩:=List.mem_map.1 hx;rfl
 ·intro φ n hφ i o ho
  match i,ho with
  | 0,ho=>cases ho; exact znt ht0
  | 1,ho=>cases ho; exact zjY ht1
  | 2,ho=>cases ho; exact uW h0a (fun _=>rfl) zlz
  | 3,ho=>cases ho; exact uW h0b (fun _=>rfl) zke
  | 4,ho=>cases ho; exact uW h0c (fun _=>rfl) zkU
  | 5,ho=>cases ho; exact zoX h1a h1m (fun i y hy=>(hφ (i+7) (by have:=(List.getElem?_eq_some_iff.1 hy).1; simp; omega)).2.trans (by show locV (((y1[i]?).map (·.2)).getD (.bool ff))=locV y.2; rw [hy]; rfl)) (by have:=(hφ (y1.length+6) sQ).1; omega)
  | 6,ho=>cases ho; exact uW h2 (fun _=>rfl) znz
  | i+7,ho =>
   obtain ⟨y,hy,rfl⟩:=zns ho;show RelO _ _ (locV (((y1[i]?).map (·.2)).getD (.bool ff))) _ _;rw [hy];exact uW (h1m y (List.mem_of_getElem? hy)) (fun _=>rfl) zn4
 ·intro φ n hφ;refine ⟨rfl,fun j a y ha hy=>?_⟩
  match j,ha,hy with
  | 0,ha,hy=>cases ha; cases hy; exact zkk h0a h0b h0c ⟨(hφ 2 (by simp <;> omega)).1,(hφ 2 (by simp <;> omega)).2⟩ ⟨(hφ 3 (by simp <;> omega)).1,(hφ 3 (by simp <;> omega)).2⟩ ⟨(hφ 4 (by simp <;> omega)).1,(hφ 4 (by simp <;> omega)).2⟩
  | 1,ha,hy =>
   cases ha; cases hy;refine .agg Z fun t u z hu hz=>?_
   match t,hu,hz with
   | 0,hu,hz=>cases hu; cases hz; exact .v _
   | 1,hu,hz=>cases hu; cases hz; exact .v _
   | 2,hu,hz=>cases hu; cases hz; rw [znF]; exact vP h1a (hφ 5 (by simp <;> omega)).1 (hφ 5 (by simp <;> omega)).2
   | t+3,hu,hz=>simp [stpC] at hu
  | 2,ha,hy=>cases ha; cases hy; exact vP h2 (hφ 6 (by simp <;> omega)).1 (hφ 6 (by simp <;> omega)).2
  | 3,ha,hy=>cases ha; cases hy; exact .v _
  | 4,ha,hy=>cases ha; cases hy; exact .v _
  | 5,ha,hy=>cases ha; cases hy; exact .v _
  | 6,ha,hy=>cases ha; cases hy; exact .v _
  | j+7,ha,hy=>simp at ha
set_option maxRecDepth 100000 in
theorem zbC (os:Os) (started:os.Started) (H:Type) (enc:TypeId×gV->H) (F:Stop.Interp) :
  ReturnsInLeavingWide Go.Proofs.YtlmglkmfkcbakaaGreatDoor.Rows.rollSeatedRow.assume Tryz.checked os 3 .any (Go.Proofs.YtlmglkmfkcbakaaGreatDoor.Rows.rollSeatedRow.pre enc tp Tryz.f3 (OpenSpec.ofChange Go.Proofs.YtlmglkmfkcbakaaGreatDoor.Rows.rollSeatedSpec))
   ((OpenSpec.ofChange Go.Proofs.YtlmglkmfkcbakaaGreatDoor.Rows.rollSeatedSpec).postWith enc tp Tryz.f3 F (outsideKept [.timePasses]) ff tt ff):=by
 refine returnsInLeavingWide_of_good (C:=Tryz.checked) own started
  (zfW (enc:=enc) (C:=Tryz.checked) (os:=os) (X:=fun w _=>laidMetH tp tblLaid w) (World.doorLaid tp 400 os) #[.agg #[.int .i64 0,.int .i64 0,.int .i64 0,.int .i64 0,.slice none 0 0,.slice none 0 0,.slice none 0 0],.agg #[.int .i64 0,.int .i64 0,.slice none 0 0],.slice none 0 0,.int .u8 0,.int .u8 0,.int .u8 0,.int .u8 0] 8 rfl (World.shaped_of_RefB (by kernel_rfl) (by kernel_rfl)) (by kernel_rfl) (by kernel_rfl) (by kernel_rfl) (zkt os _)) ?_
 intro w tape i _ _ _ hok hpre _;obtain ⟨_,_,_,fn',hfn',_,_,_,_,hval0⟩:=hok;obtain rfl:fn'=Tryz.f3:=Option.some.inj (hfn'.symm.trans Tryz.func3);obtain ⟨⟨⟨ds,gs,before,hw,hc⟩,hL0⟩,_⟩:=hpre;have hW:=DataW.Whole.of_heap (w':=w.forCall tape i) (by rfl) hw;have hL:laidMetH tp tblLaid (w.forCall tape i):=laidMetH.of_heap (by rfl) hL0;obtain ⟨bl,args,vars⟩:=i;generalize w.forCall tape ⟨bl,args,vars⟩=W at hW hL hval0 ⊢;have hW':=hW;obtain ⟨p,q,hA0,hV0,rfl,_,_⟩:=hW;have hA:DataW.TrodAll enc tp W 0 (fun _=>tt) tt [26,29,30,5,5,5,5] args.toList ds p:=hA0;obtain ⟨v0,u0,d0,ds0,p0,q0,Qg,rfl,rfl,t0,hr0⟩:=trodAll_cons hA;obtain ⟨v1,u1,d1,ds1,p1,q1,rfl,rfl,rfl,t1,hr1⟩:=trodAll_cons hr0;obtain ⟨v2,u2,d2,ds2,p2,q2,rfl,rfl,rfl,t2,hr2⟩:=trodAll_cons hr1;obtain ⟨v3,u3,d3,ds3,p3,q3,rfl,rfl,rfl,t3,hr3⟩:=trodAll_cons hr2;obtain ⟨v4,u4,d4,ds4,p4,q4,rfl,rfl,rfl,t4,hr4⟩:=trodAll_cons hr3;obtain ⟨v5,u5,d5,ds5,p5,q5,rfl,rfl,rfl,t5,hr5⟩:=trodAll_cons hr4;obtain ⟨v6,u6,d6,ds6,p6,q6,rfl,rfl,rfl,t6,hr6⟩:=trodAll_cons hr5;obtain ⟨rfl,rfl,rfl⟩:=trodAll_nil hr6;obtain rfl:args=#[v0,v1,v2,v3,v4,v5,v6]:=by cases args; simp_all
 obtain ⟨rfl,rfl⟩:=trodVars_none hV0;obtain ⟨b0,x0a,x0b,x0c,rfl,s0a,s0b,s0c⟩:=zjg (okAgg Tryz.underlying26 (hval0 0 26 v0 rfl rfl)) t0;obtain ⟨st1,wr1,y1,x1a,rfl,s1a,s1m⟩:=zh8 (okAgg Tryz.underlying29 (hval0 1 29 v1 rfl rfl)) t1;obtain ⟨a2,len2,cap2,rfl⟩:=okWide_slice Tryz.underlying30 (hval0 2 30 v2 rfl rfl);have t2':=t2;obtain ⟨n2,hh2⟩:=t2';obtain ⟨l2,bb2,cap2',e2,ll2,rr2⟩:=wX (vals:=u16V) (c:=1) Tryz.underlying30 (by kernel_rfl) dQ zmc hh2;have s2:SlIn W u16V 1 l2 (.slice a2 len2 cap2):=⟨bb2,cap2',by simpa [Value.cells] using e2,ll2,rr2⟩;obtain ⟨k3,rfl,rfl,rfl,s3⟩:=open_int Tryz.underlying5 (hval0 3 5 v3 rfl rfl) t3;obtain ⟨k4,rfl,rfl,rfl,s4⟩:=open_int Tryz.underlying5 (hval0 4 5 v4 rfl rfl) t4;obtain ⟨k5,rfl,rfl,rfl,s5⟩:=open_int Tryz.underlying5 (hval0 5 5 v5 rfl rfl) t5;obtain ⟨k6,rfl,rfl,rfl,s6⟩:=open_int Tryz.underlying5 (hval0 6 5 v6 rfl rfl) t6;obtain ⟨M,last,o,w',t',g1,g2,g3,g4⟩:=zde hL s0a s0b s0c s1a s1m s2 (u8_wf s3) (u8_wf s4) (u8_wf s5) (u8_wf s6);obtain ⟨v,e1,hF,r1,r2,r3,r4⟩:=g4;refine ⟨M,last,o,w',t',g1,g2,g3,v,e1,?_,r1,r2,r3,r4⟩;obtain ⟨rfl,ho,hu,hkp⟩:=hF;have hkp:KeptAll W { w' with os:=W.os }:=hkp;refine postWith_blind (postWith_of_post ?_ ho);exact ⟨_,_,_,[],_,[],hW',trodAll_mk1 (shut_bool Tryz.underlying4 tt),⟨_,_,wv wl t0 hkp,⟨_,_,wv wl t1 hkp,⟨_,_,wv wl t2 hkp,⟨_,_,wv wl t3 hkp,⟨_,_,wv wl t4 hkp,⟨_,_,wv wl t5 hkp,⟨_,_,wv wl t6 hkp,trodAll_mk0,rfl⟩,rfl⟩,rfl⟩,rfl⟩,rfl⟩,rfl⟩,rfl⟩,rfl,zkL (show ({ w' with os:=W.os }:World).os=W.os from rfl) hu hkp _,fun h=>by cases h⟩
theorem zb6:tp.funcNamed "velarium/velariumlaw08.RollSeated" = some 3:=by kernel_rfl
set_option maxRecDepth 100000 in
open Go.Proofs.YtlmglkmfkcbakaaGreatDoor in
theorem zbB:joinedFacts tp 3 Tryz.f3 Rows.rollSeatedSpec Rows.rollSeatedRow=tt:=by
 unfold joinedFacts;exact and32 (by as_aux_lemma=>kernel_rfl) wl kf3 (by as_aux_lemma=>kernel_rfl) (by as_aux_lemma=>kernel_rfl) (by as_aux_lemma=>kernel_rfl) kf7 (by as_aux_lemma=>kernel_rfl) kf9 (by as_aux_lemma=>kernel_rfl) (by as_aux_lemma=>kernel_rfl) (by as_aux_lemma=>kernel_rfl) (by as_aux_lemma=>kernel_rfl) (by as_aux_lemma=>kernel_rfl) (by as_aux_lemma=>kernel_rfl) (by as_aux_lemma=>kernel_rfl) (by as_aux_lemma=>kernel_rfl) (by as_aux_lemma=>kernel_rfl) (by as_aux_lemma=>kernel_rfl) (by as_aux_lemma=>kernel_rfl) (by as_aux_lemma=>kernel_rfl) (by as_aux_lemma=>kernel_rfl) kf23 (by as_aux_lemma=>kernel_rfl) kf25 kf26 kf27 kf28 (by as_aux_lemma=>kernel_rfl) (by as_aux_lemma=>kernel_rfl) (by as_aux_lemma=>kernel_rfl) (by as_aux_lemma=>kernel_rfl)
open Go.Proofs.YtlmglkmfkcbakaaGreatDoor in
theorem zlT:Rows.RollSeatedSaid :=
 OpenClaim.holds_of_wide_leaving_time 3 Tryz.f3 rfl rfl rfl rfl rfl rfl rfl ⟨rfl,rfl,rfl,rfl,rfl⟩ rfl rfl rfl rfl rfl zb6 Tryz.func3 zbB
  (of_decide_eq_true (by as_aux_lemma=>kernel_rfl)) (by unfold Func.isWrapper; first | (rw [if_pos (by decide +kernel)]; kernel_rfl) | (rw [if_neg (by decide +kernel)]; exact ⟨rfl,rfl⟩))
  (fun os started H enc _ F=>zbC os started H enc F)
end Go.Vel
namespace Go.Proofs.YtlmglkmfkcbakaaGreatDoor
open Go
theorem rollSeated_holds:Rows.RollSeatedCardSaid :=
 Go.Vel.zlS .later [.funcs,.funcs] tt (tt,"db31ffff6d308c54018d5192e206a55a5a5a6ef86049b9fa01faadbea5cfdb72") ff
  Go.Vel.zlT (by as_aux_lemma=>kernel_rfl) rollSeated_row_tie rfl ⟨rfl,rfl⟩ (by as_aux_lemma=>kernel_rfl) rfl
  (fun f fn hf hfn=>by
   obtain rfl:f=3:=(Option.some.inj (Go.Vel.zb6.symm.trans hf)).symm;obtain rfl:fn=Tryz.f3:=(Option.some.inj (Tryz.func3.symm.trans hfn)).symm;exact ⟨by as_aux_lemma=>kernel_rfl,fun j t ht=>by
    rw [Tryz.params3] at ht;have hm:t∈[26,29,30,5,5,5,5]:=by simpa using Array.mem_of_getElem? ht
    have hall:([26,29,30,5,5,5,5].all fun u => !tp.wantsStandIn u)=tt:=by as_aux_lemma=>kernel_rfl
    exact (show tp.wantsStandIn t=ff by simpa using List.all_eq_true.1 hall t hm)⟩)
  (by as_aux_lemma=>kernel_rfl)
#print axioms rollSeated_holds
end Go.Proofs.YtlmglkmfkcbakaaGreatDoor
end
