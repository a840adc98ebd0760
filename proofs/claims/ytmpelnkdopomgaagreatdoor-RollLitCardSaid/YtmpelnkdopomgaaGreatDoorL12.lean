/- Texts for the statements of chapter 8: what all of them need, part 13. It holds of every program, tape and world that the statements name, as each theorem says. -/
import Derived.Test.YtmpelnkdopomgaaGreatDoorL10
import Derived.Test.YtmpelnkdopomgaaGreatDoorL11
section
set_option linter.all false
set_option maxRecDepth 20000
set_option maxHeartbeats 60000000
open Go.Proofs.Tryz renaming prog -> tp
open List renaming mem_cons -> lI
namespace Go.Vel
open Go Go.Conc Go.Proofs Go.ChangeShapes Go.WideShapes Go.ChangeAt Go.RowKit
open Go.ConcM (OsLater)
open Go.Proofs.YtmpelnkdopomgaaGreatDoor (Tryz.pinned)
def u16V (x:Fin 65536):List Value:=[.int .u16 (x.1:Int)]
theorem zld {H:Type} {enc:TypeId×Value->H} {W:World} {sp:Nat->Bool} {held:Bool} (m:Nat) (cs:List Value) (x:DataW H×List MemPlace) (h:DataW.trod enc tp W 0 sp held m 177 cs=some x):∃ z,cs=u16V z:=by
 obtain ⟨s,e0,_,hw⟩:=DataW.trod_int Tryz.underlying177 h;have hb:0<=s/\s<65536:=by
  simp only [Lit.wf,Bool.and_eq_true,decide_eq_true_eq] at hw;have h1:IntKind.u16.min=0:=by decide
  have h2:IntKind.u16.max=65535:=by decide
  omega
 refine ⟨⟨s.toNat,oQ⟩,?_⟩;rw [e0];show _=[Value.int .u16 ((s.toNat:Nat):Int)];rw [show ((s.toNat:Nat):Int)=s by omega]
theorem zmj {φ:Nat->Loc3} {n:Nat} (z:Fin 65536) (jj:Nat) (a:AV) (h:([u16A z]:List AV)[jj]? =some a):∃ y,(u16V z)[jj]? =some y/\RelV φ n a y:=by
 match jj,h with
 | 0,h=>cases h; exact ⟨_,rfl,.v _⟩
 | jj+1,h=>simp at h
def rollLitPhi (x0a x0b x0c x1a x1b x1c x1d x2:Value):Nat->Loc3
 | 0=>⟨1,0,0⟩
 | 1=>⟨0,0,0⟩
 | 2=>locV x0a
 | 3=>locV x0b
 | 4=>locV x0c
 | 5=>locV x1a
 | 6=>locV x1b
 | 7=>locV x1c
 | 8=>locV x1d
 | 9=>locV x2
 | _=>⟨0,0,0⟩
theorem zfO {W:World} (hl:laidMetH tp tblLaid W) {b0:RBk} {x0a x0b x0c:Value} {q1:SlB} {x1a x1b x1c x1d:Value} {l2:List (Fin 65536)} {x2:Value} {k3:Int} {k4:Int} (h0a:SlIn W seamV 5 b0.seams x0a) (h0b:SlIn W bandV 2 b0.shrinks x0b) (h0c:SlIn W measV 3 b0.measures x0c) (h1a:SlIn W (fun n:Int=>[Value.int .i64 n]) 1 q1.clean x1a) (h1b:SlIn W sunV 2 q1.suns x1b) (h1c:SlIn W eyeV 2 q1.eyes x1c) (h1d:SlIn W watV 3 q1.watches x1d) (h2:SlIn W u16V 1 l2 x2) (h3:0<=k3/\k3<256) (h4:0<=k4/\k4<256) :
  ∃ M last o w' t',runNT tp (M+1) (solo (G (Frame.enter tp 3 #[.agg #[.int .i64 b0.steps,.int .i64 b0.round,.int .i64 b0.roll,.int .i64 b0.rolls,x0a,x0b,x0c],.agg #[.int .i64 q1.steps,.int .i64 q1.dirty,.int .i64 q1.slope,.int .i64 q1.lo,.int .i64 q1.hi,x1a,.int .i64 q1.rf,.int .i64 q1.rh,.int .i64 q1.cf,.int .i64 q1.ch,x1b,x1c,x1d],x2,.int .u8 k3,.int .u8 k4] .normal) []) W) #[]=(.ended o w',t') /\
   runN tp M (solo (G (Frame.enter tp 3 #[.agg #[.int .i64 b0.steps,.int .i64 b0.round,.int .i64 b0.roll,.int .i64 b0.rolls,x0a,x0b,x0c],.agg #[.int .i64 q1.steps,.int .i64 q1.dirty,.int .i64 q1.slope,.int .i64 q1.lo,.int .i64 q1.hi,x1a,.int .i64 q1.rf,.int .i64 q1.rh,.int .i64 q1.cf,.int .i64 q1.ch,x1b,x1c,x1d],x2,.int .u8 k3,.int .u8 k4] .normal) []) W)=.next last /\
   step tp last=.ended o w'/\Conc.Good tp (fun v w=>v=.bool true/\OsLater W.os w.os/\w.output=W.output/\KeptAll W w) last o w' t':=by
 obtain ⟨ht0,ht1⟩:=zlQ hl;refine zkA (objs:=[zB,yq,zl b0,zF b0,zt b0,clO q1,suO q1,eyO q1,waO q1,u16O l2]) (f:=rollLitPhi x0a x0b x0c x1a x1b x1c x1d x2) Tryz.func3 Z (by kernel_rfl) (zhg (b:=b0) (s:=2) (h:=3) (e:=4) (q:=q1) (c3:=5) (s3:=6) (e3:=7) (w3:=8) (j:=9) (ps:=l2) (k3:=k3) (k4:=k4) h3 h4) ?_ ?_ Z Z sQ ?_ ?_ ?_
 ·intro x hx;simp only [lI,List.not_mem_nil,or_false] at hx;rcases hx with rfl | rfl | rfl | rfl | rfl | rfl | rfl | rfl | rfl | rfl <;> rfl
 ·simp [keys]
 ·intro o hx;simp only [lI,List.not_mem_nil,or_false] at hx;rcases hx with rfl | rfl | rfl | rfl | rfl | rfl | rfl | rfl | rfl | rfl <;> rfl
 ·intro φ n i o ho
  match i,ho with
  | 0,ho=>cases ho; exact zmg ht0
  | 1,ho=>cases ho; exact zkO ht1
  | 2,ho=>cases ho; exact wO h0a (fun _=>rfl) zkC
  | 3,ho=>cases ho; exact wO h0b (fun _=>rfl) zjl
  | 4,ho=>cases ho; exact wO h0c (fun _=>rfl) zj7
  | 5,ho=>cases ho; exact (by show RelO _ _ _ _ (.cells (q1.clean.map intA) 3 false); rw [zj5]; exact wO h1a (fun _=>rfl) zlu)
  | 6,ho=>cases ho; exact wO h1b (fun _=>rfl) zmf
  | 7,ho=>cases ho; exact wO h1c (fun _=>rfl) zlj
  | 8,ho=>cases ho; exact wO h1d (fun _=>rfl) zmn
  | 9,ho=>cases ho; exact wO h2 (fun _=>rfl) zmj
  | i+10,ho=>simp at ho
 ·intro φ n hφ;refine ⟨rfl,fun j a y ha hy=>?_⟩
  match j,ha,hy with
  | 0,ha,hy=>cases ha; cases hy; exact zjp h0a h0b h0c ⟨(hφ 2 sQ).1,(hφ 2 sQ).2⟩ ⟨(hφ 3 sQ).1,(hφ 3 sQ).2⟩ ⟨(hφ 4 sQ).1,(hφ 4 sQ).2⟩
  | 1,ha,hy =>
   cases ha; cases hy;refine .agg Z fun t u z hu hz=>?_
   match t,hu,hz with
   | 0,hu,hz=>cases hu; cases hz; exact .v _
   | 1,hu,hz=>cases hu; cases hz; exact .v _
   | 2,hu,hz=>cases hu; cases hz; exact .v _
   | 3,hu,hz=>cases hu; cases hz; exact .v _
   | 4,hu,hz=>cases hu; cases hz; exact .v _
   | 5,hu,hz=>cases hu; cases hz; exact wP h1a (hφ 5 sQ).1 (hφ 5 sQ).2
   | 6,hu,hz=>cases hu; cases hz; exact .v _
   | 7,hu,hz=>cases hu; cases hz; exact .v _
   | 8,hu,hz=>cases hu; cases hz; exact .v _
   | 9,hu,hz=>cases hu; cases hz; exact .v _
   | 10,hu,hz=>cases hu; cases hz; exact wP h1b (hφ 6 sQ).1 (hφ 6 sQ).2
   | 11,hu,hz=>cases hu; cases hz; exact wP h1c (hφ 7 sQ).1 (hφ 7 sQ).2
   | 12,hu,hz=>cases hu; cases hz; exact wP h1d (hφ 8 sQ).1 (hφ 8 sQ).2
   | t+13,hu,hz=>simp [slC] at hu
  | 2,ha,hy=>cases ha; cases hy; exact wP h2 (hφ 9 sQ).1 (hφ 9 sQ).2
  | 3,ha,hy=>cases ha; cases hy; exact .v _
  | 4,ha,hy=>cases ha; cases hy; exact .v _
  | j+5,ha,hy=>simp at ha
set_option maxRecDepth 100000 in
theorem zcT (os:Os) (started:os.Started) (H:Type) (enc:TypeId×Value->H) (F:Stop.Interp) :
  ReturnsInLeavingWide Go.Proofs.YtmpelnkdopomgaaGreatDoor.Rows.rollLitRow.assume Tryz.checked os 3 .any (Go.Proofs.YtmpelnkdopomgaaGreatDoor.Rows.rollLitRow.pre enc tp Tryz.f3 (OpenSpec.ofChange Go.Proofs.YtmpelnkdopomgaaGreatDoor.Rows.rollLitSpec))
   ((OpenSpec.ofChange Go.Proofs.YtmpelnkdopomgaaGreatDoor.Rows.rollLitSpec).postWith enc tp Tryz.f3 F (outsideKept [.timePasses]) false true false):=by
 refine returnsInLeavingWide_of_good (C:=Tryz.checked) own started
  (zfw (enc:=enc) (C:=Tryz.checked) (os:=os) (X:=fun w _=>laidMetH tp tblLaid w) (World.doorLaid tp 400 os) #[.agg #[.int .i64 0,.int .i64 0,.int .i64 0,.int .i64 0,.slice none 0 0,.slice none 0 0,.slice none 0 0],.agg #[.int .i64 0,.int .i64 0,.int .i64 0,.int .i64 0,.int .i64 0,.slice none 0 0,.int .i64 0,.int .i64 0,.int .i64 0,.int .i64 0,.slice none 0 0,.slice none 0 0,.slice none 0 0],.slice none 0 0,.int .u8 0,.int .u8 0] 8 rfl (World.shaped_of_RefB (by kernel_rfl) (by kernel_rfl)) (by kernel_rfl) (by kernel_rfl) (by kernel_rfl) (zjB os _)) ?_
 intro w tape i _ _ _ hok hpre _;obtain ⟨_,_,_,fn',hfn',_,_,_,_,hval0⟩:=hok;obtain rfl:fn'=Tryz.f3:=Option.some.inj (hfn'.symm.trans Tryz.func3);obtain ⟨⟨⟨ds,gs,before,hw,hc⟩,hL0⟩,_⟩:=hpre;have hW:=DataW.Whole.of_heap (w':=w.forCall tape i) (by rfl) hw;have hL:laidMetH tp tblLaid (w.forCall tape i):=laidMetH.of_heap (by rfl) hL0;obtain ⟨bl,args,vars⟩:=i;generalize w.forCall tape ⟨bl,args,vars⟩=W at hW hL hval0 ⊢;have hW':=hW;obtain ⟨p,q,hA0,hV0,rfl,_,_⟩:=hW;have hA:DataW.TrodAll enc tp W 0 (fun _=>true) true [26,36,37,5,5] args.toList ds p:=hA0;obtain ⟨v0,u0,d0,ds0,p0,q0,hargs,rfl,rfl,t0,hr0⟩:=trodAll_cons hA;obtain ⟨v1,u1,d1,ds1,p1,q1,rfl,rfl,rfl,t1,hr1⟩:=trodAll_cons hr0;obtain ⟨v2,u2,d2,ds2,p2,q2,rfl,rfl,rfl,t2,hr2⟩:=trodAll_cons hr1;obtain ⟨v3,u3,d3,ds3,p3,q3,rfl,rfl,rfl,t3,hr3⟩:=trodAll_cons hr2;obtain ⟨v4,u4,d4,ds4,p4,q4,rfl,rfl,rfl,t4,hr4⟩:=trodAll_cons hr3;obtain ⟨rfl,rfl,rfl⟩:=trodAll_nil hr4;obtain rfl:args=#[v0,v1,v2,v3,v4]:=by cases args; simp_all
 obtain ⟨rfl,rfl⟩:=trodVars_none hV0;obtain ⟨b0,x0a,x0b,x0c,rfl,s0a,s0b,s0c⟩:=zix (okAgg Tryz.underlying26 (hval0 0 26 v0 rfl rfl)) t0;obtain ⟨q1,x1a,x1b,x1c,x1d,rfl,s1a,s1b,s1c,s1d⟩:=ziy (okAgg Tryz.underlying36 (hval0 1 36 v1 rfl rfl)) t1;obtain ⟨a2,len2,cap2,rfl⟩:=okWide_slice Tryz.underlying37 (hval0 2 37 v2 rfl rfl);have t2':=t2;obtain ⟨n2,hh2⟩:=t2';obtain ⟨l2,bb2,cap2',e2,ll2,rr2⟩:=kU (vals:=u16V) (c:=1) Tryz.underlying37 (by kernel_rfl) dQ zld hh2;have s2:SlIn W u16V 1 l2 (.slice a2 len2 cap2):=⟨bb2,cap2',by simpa [Value.cells] using e2,ll2,rr2⟩;obtain ⟨k3,rfl,rfl,rfl,s3⟩:=open_int Tryz.underlying5 (hval0 3 5 v3 rfl rfl) t3;obtain ⟨k4,rfl,rfl,rfl,s4⟩:=open_int Tryz.underlying5 (hval0 4 5 v4 rfl rfl) t4;obtain ⟨M,last,o,w',t',g1,g2,g3,g4⟩:=zfO hL s0a s0b s0c s1a s1b s1c s1d s2 (u8_wf s3) (u8_wf s4);obtain ⟨v,e1,hF,r1,r2,r3,r4⟩:=g4;refine ⟨M,last,o,w',t',g1,g2,g3,v,e1,?_,r1,r2,r3,r4⟩;obtain ⟨rfl,ho,hu,hkp⟩:=hF;have hkp:KeptAll W { w' with os:=W.os }:=hkp;refine postWith_blind (postWith_of_post ?_ ho);exact ⟨_,_,_,[],_,[],hW',trodAll_mk1 (shut_bool Tryz.underlying4 true),⟨_,_,vx ve t0 hkp,⟨_,_,vx ve t1 hkp,⟨_,_,vx ve t2 hkp,⟨_,_,vx ve t3 hkp,⟨_,_,vx ve t4 hkp,trodAll_mk0,rfl⟩,rfl⟩,rfl⟩,rfl⟩,rfl⟩,rfl,zjX (show ({ w' with os:=W.os }:World).os=W.os from rfl) hu hkp _,fun h=>by cases h⟩
theorem zdS:tp.funcNamed "velarium/velariumlaw08.RollLit" = some 3:=by kernel_rfl
set_option maxRecDepth 100000 in
open Go.Proofs.YtmpelnkdopomgaaGreatDoor in
theorem zcS:joinedFacts tp 3 Tryz.f3 Rows.rollLitSpec Rows.rollLitRow=true:=by
 unfold joinedFacts;exact and32 (by as_aux_lemma=>kernel_rfl) ve kf3 (by as_aux_lemma=>kernel_rfl) (by as_aux_lemma=>kernel_rfl) (by as_aux_lemma=>kernel_rfl) kf7 (by as_aux_lemma=>kernel_rfl) kf9 (by as_aux_lemma=>kernel_rfl) (by as_aux_lemma=>kernel_rfl) (by as_aux_lemma=>kernel_rfl) (by as_aux_lemma=>kernel_rfl) (by as_aux_lemma=>kernel_rfl) (by as_aux_lemma=>kernel_rfl) (by as_aux_lemma=>kernel_rfl) (by as_aux_lemma=>kernel_rfl) (by as_aux_lemma=>kernel_rfl) (by as_aux_lemma=>kernel_rfl) (by as_aux_lemma=>kernel_rfl) (by as_aux_lemma=>kernel_rfl) (by as_aux_lemma=>kernel_rfl) kf23 (by as_aux_lemma=>kernel_rfl) kf25 kf26 kf27 kf28 (by as_aux_lemma=>kernel_rfl) (by as_aux_lemma=>kernel_rfl) (by as_aux_lemma=>kernel_rfl) (by as_aux_lemma=>kernel_rfl)
open Go.Proofs.YtmpelnkdopomgaaGreatDoor in
theorem znr:Rows.RollLitSaid :=
 OpenClaim.holds_of_wide_leaving_time 3 Tryz.f3 rfl rfl rfl rfl rfl rfl rfl ⟨rfl,rfl,rfl,rfl,rfl⟩ rfl rfl rfl rfl rfl zdS Tryz.func3 zcS
  (of_decide_eq_true (by as_aux_lemma=>kernel_rfl)) (by unfold Func.isWrapper; first | (rw [if_pos (by decide +kernel)]; kernel_rfl) | (rw [if_neg (by decide +kernel)]; exact ⟨rfl,rfl⟩))
  (fun os started H enc _ F=>zcT os started H enc F)
end Go.Vel
namespace Go.Proofs.YtmpelnkdopomgaaGreatDoor
open Go
theorem rollLit_holds:Rows.RollLitCardSaid :=
 Go.Vel.zkZ .later [.funcs,.funcs] true (true,"93c3ef5ea501e39187e746a041bf5af694222bc6e313cd817e1828b3d954ece8") false
  Go.Vel.znr (by as_aux_lemma=>kernel_rfl) rollLit_row_tie rfl ⟨rfl,rfl⟩ (by as_aux_lemma=>kernel_rfl) rfl
  (fun f fn hf hfn=>by
   obtain rfl:f=3:=(Option.some.inj (Go.Vel.zdS.symm.trans hf)).symm;obtain rfl:fn=Tryz.f3:=(Option.some.inj (Tryz.func3.symm.trans hfn)).symm;exact ⟨by as_aux_lemma=>kernel_rfl,fun j t ht=>by
    rw [Tryz.params3] at ht;have hm:t∈[26,36,37,5,5]:=by simpa using Array.mem_of_getElem? ht
    have hall:([26,36,37,5,5].all fun u => !tp.wantsStandIn u)=true:=by as_aux_lemma=>kernel_rfl
    exact (show tp.wantsStandIn t=false by simpa using List.all_eq_true.1 hall t hm)⟩)
  (by as_aux_lemma=>kernel_rfl)
#print axioms rollLit_holds
end Go.Proofs.YtmpelnkdopomgaaGreatDoor
end
