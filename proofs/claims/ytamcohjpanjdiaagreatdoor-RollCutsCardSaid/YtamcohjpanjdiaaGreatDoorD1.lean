/- The law RollCuts: CheckBook, Cut, Fits, Hang and Places agree with the specification for every book, cuts and state. It holds of every program, tape and world that the statements name, as each theorem says. -/
import Derived.Test.YtamcohjpanjdiaaGreatDoorU9
import Derived.Test.YtamcohjpanjdiaaGreatDoorD0
section
set_option linter.all false
set_option maxRecDepth 20000
set_option maxHeartbeats 60000000
namespace Go.Vel
open Go Go.Conc Go.Proofs Go.ChangeShapes Go.WideShapes Go.ChangeAt Go.RowKit
open Go.ConcM (OsLater)
open Go.Proofs.YtamcohjpanjdiaaGreatDoor (Tryz.pinned)
theorem qI {H:Type} {enc:TypeId×Value->H} {W:World} {sp:Nat->Bool} {held:Bool} (m:Nat) (cs:List Value) (x:DataW H×List MemPlace) (h:DataW.trod enc Tryz.prog W 0 sp held m 3 cs=some x):∃ z:Int,cs=intV z:=by
 obtain ⟨s,e0,_⟩:=DataW.trod_int Tryz.underlying3 h
 exact ⟨s,e0⟩
theorem qL {φ:Nat->Loc3} {n:Nat} (z:Int) (jj:Nat) (a:AV) (h:([intA z]:List AV)[jj]? =some a):∃ y,(intV z)[jj]? =some y/\RelV φ n a y:=by
 match jj,h with
 | 0,h=>cases h; exact ⟨_,rfl,.v _⟩
 | jj+1,h=>simp at h
theorem qE (xs:List Int):xs.map intA=xs.flatMap fun x=>[intA x]:=by
 induction xs with
 | nil=>rfl
 | cons x xs ih=>rw [List.map_cons,List.flatMap_cons,ih]; rfl
def rollCutsPhi (x0a x0b x0c x1 x2:Value):Nat->Loc3
 | 0=>⟨0,0,0⟩
 | 1=>locV x0a
 | 2=>locV x0b
 | 3=>locV x0c
 | 4=>locV x1
 | 5=>locV x2
 | _=>⟨0,0,0⟩
theorem qM {W:World} (hl:laidMetH Tryz.prog tblLaid W) {b0:RBk} {x0a x0b x0c:Value} {l1:List Int} {x1:Value} {l2:List Int} {x2:Value} (h0a:SlIn W seamV 5 b0.seams x0a) (h0b:SlIn W bandV 2 b0.shrinks x0b) (h0c:SlIn W measV 3 b0.measures x0c) (h1:SlIn W intV 1 l1 x1) (h2:SlIn W intV 1 l2 x2) :
  ∃ M last o w' t',runNT Tryz.prog (M+1) (solo (G (Frame.enter Tryz.prog 3 #[.agg #[.int .i64 b0.steps,.int .i64 b0.round,.int .i64 b0.roll,.int .i64 b0.rolls,x0a,x0b,x0c],x1,x2] .normal) []) W) #[]=(.ended o w',t') /\
   runN Tryz.prog M (solo (G (Frame.enter Tryz.prog 3 #[.agg #[.int .i64 b0.steps,.int .i64 b0.round,.int .i64 b0.roll,.int .i64 b0.rolls,x0a,x0b,x0c],x1,x2] .normal) []) W)=.next last /\
   step Tryz.prog last=.ended o w'/\Conc.Good Tryz.prog (fun v w=>v=.bool true/\OsLater W.os w.os/\w.output=W.output/\KeptAll W w) last o w' t':=by
 have ht0:=zhg hl
 refine zgj (objs:=[checksG,seamO b0,shrO b0,measO b0,.cells (l1.map intA) 3 false,.cells (l2.map intA) 3 false]) (f:=rollCutsPhi x0a x0b x0c x1 x2) Tryz.func3 rfl (by kernel_rfl) (qP (b:=b0) (s:=1) (h:=2) (e:=3) (j:=4) (j2:=5) (l:=l1) (st:=l2)) ?_ ?_ rfl sQ ?_ ?_ ?_
 ·intro x hx
  simp only [List.mem_cons,List.not_mem_nil,or_false] at hx
  rcases hx with rfl | rfl | rfl | rfl | rfl | rfl <;> rfl
 ·simp [keys]
 ·intro o hx
  simp only [List.mem_cons,List.not_mem_nil,or_false] at hx
  rcases hx with rfl | rfl | rfl | rfl | rfl | rfl <;> rfl
 ·intro φ n i o ho
  match i,ho with
  | 0,ho=>cases ho; exact zhy ht0
  | 1,ho=>cases ho; exact zai h0a (fun _=>rfl) zgl
  | 2,ho=>cases ho; exact zai h0b (fun _=>rfl) zfn
  | 3,ho=>cases ho; exact zai h0c (fun _=>rfl) zfU
  | 4,ho=>cases ho; exact (by rw [qE]; exact zai h1 (fun _=>rfl) qL)
  | 5,ho=>cases ho; exact (by rw [qE]; exact zai h2 (fun _=>rfl) qL)
  | i+6,ho=>simp at ho
 ·intro φ n hφ
  refine ⟨rfl,fun j a y ha hy=>?_⟩
  match j,ha,hy with
  | 0,ha,hy=>cases ha; cases hy; exact zfq h0a h0b h0c ⟨(hφ 1 sQ).1,(hφ 1 sQ).2⟩ ⟨(hφ 2 sQ).1,(hφ 2 sQ).2⟩ ⟨(hφ 3 sQ).1,(hφ 3 sQ).2⟩
  | 1,ha,hy=>cases ha; cases hy; exact zaj h1 (hφ 4 sQ).1 (hφ 4 sQ).2
  | 2,ha,hy=>cases ha; cases hy; exact zaj h2 (hφ 5 sQ).1 (hφ 5 sQ).2
  | j+3,ha,hy=>simp at ha
set_option maxRecDepth 100000 in
theorem qv (os:Os) (started:os.Started) (H:Type) (enc:TypeId×Value->H) (F:Stop.Interp) :
  ReturnsInLeavingWide Go.Proofs.YtamcohjpanjdiaaGreatDoor.Rows.rollCutsRow.assume Tryz.checked os 3 .any (Go.Proofs.YtamcohjpanjdiaaGreatDoor.Rows.rollCutsRow.pre enc Tryz.prog Tryz.f3 (OpenSpec.ofChange Go.Proofs.YtamcohjpanjdiaaGreatDoor.Rows.rollCutsSpec))
   ((OpenSpec.ofChange Go.Proofs.YtamcohjpanjdiaaGreatDoor.Rows.rollCutsSpec).postWith enc Tryz.prog Tryz.f3 F (outsideKept [.timePasses]) false true false):=by
 refine returnsInLeavingWide_of_good (C:=Tryz.checked) own started
  (zcw (enc:=enc) (C:=Tryz.checked) (os:=os) (X:=fun w _=>laidMetH Tryz.prog tblLaid w) (World.doorLaid Tryz.prog 400 os) #[.agg #[.int .i64 0,.int .i64 0,.int .i64 0,.int .i64 0,.slice none 0 0,.slice none 0 0,.slice none 0 0],.slice none 0 0,.slice none 0 0] 8 rfl (World.shaped_of_RefB (by kernel_rfl) (by kernel_rfl)) (by kernel_rfl) (by kernel_rfl) (by kernel_rfl) (zfA os _)) ?_
 intro w tape i _ _ _ hok hpre _
 obtain ⟨_,_,_,fn',hfn',_,_,_,_,hval0⟩:=hok
 obtain rfl:fn'=Tryz.f3:=Option.some.inj (hfn'.symm.trans Tryz.func3)
 obtain ⟨⟨⟨ds,gs,before,hw,hc⟩,hL0⟩,_⟩:=hpre
 have hW:=DataW.Whole.of_heap (w':=w.forCall tape i) (by rfl) hw
 have hL:laidMetH Tryz.prog tblLaid (w.forCall tape i):=laidMetH.of_heap (by rfl) hL0
 obtain ⟨bl,args,vars⟩:=i
 generalize w.forCall tape ⟨bl,args,vars⟩=W at hW hL hval0 ⊢
 have hW':=hW
 obtain ⟨p,q,hA0,hV0,rfl,_,_⟩:=hW
 have hA:DataW.TrodAll enc Tryz.prog W 0 (fun _=>true) true [26,27,27] args.toList ds p:=hA0
 obtain ⟨v0,u0,d0,ds0,p0,q0,hargs,rfl,rfl,t0,hr0⟩:=trodAll_cons hA
 obtain ⟨v1,u1,d1,ds1,p1,q1,rfl,rfl,rfl,t1,hr1⟩:=trodAll_cons hr0
 obtain ⟨v2,u2,d2,ds2,p2,q2,rfl,rfl,rfl,t2,hr2⟩:=trodAll_cons hr1
 obtain ⟨rfl,rfl,rfl⟩:=trodAll_nil hr2
 obtain rfl:args=#[v0,v1,v2]:=by cases args; simp_all
 obtain ⟨rfl,rfl⟩:=trodVars_none hV0
 obtain ⟨b0,x0a,x0b,x0c,rfl,s0a,s0b,s0c⟩:=zeO (okAgg Tryz.underlying26 (hval0 0 26 v0 rfl rfl)) t0
 obtain ⟨a1,len1,cap1,rfl⟩:=okWide_slice Tryz.underlying27 (hval0 1 27 v1 rfl rfl)
 have t1':=t1
 obtain ⟨n1,hh1⟩:=t1'
 obtain ⟨l1,bb1,cap1',e1,ll1,rr1⟩:=uE (vals:=intV) (c:=1) Tryz.underlying27 (by kernel_rfl) dQ qI hh1
 have s1:SlIn W intV 1 l1 (.slice a1 len1 cap1):=⟨bb1,cap1',by simpa [Value.cells] using e1,ll1,rr1⟩
 obtain ⟨a2,len2,cap2,rfl⟩:=okWide_slice Tryz.underlying27 (hval0 2 27 v2 rfl rfl)
 have t2':=t2
 obtain ⟨n2,hh2⟩:=t2'
 obtain ⟨l2,bb2,cap2',e2,ll2,rr2⟩:=uE (vals:=intV) (c:=1) Tryz.underlying27 (by kernel_rfl) dQ qI hh2
 have s2:SlIn W intV 1 l2 (.slice a2 len2 cap2):=⟨bb2,cap2',by simpa [Value.cells] using e2,ll2,rr2⟩
 obtain ⟨M,last,o,w',t',g1,g2,g3,g4⟩:=qM hL s0a s0b s0c s1 s2
 obtain ⟨v,e1,hF,r1,r2,r3,r4⟩:=g4
 refine ⟨M,last,o,w',t',g1,g2,g3,v,e1,?_,r1,r2,r3,r4⟩
 obtain ⟨rfl,ho,hu,hkp⟩:=hF
 have hkp:KeptAll W { w' with os:=W.os }:=hkp
 refine postWith_blind (postWith_of_post ?_ ho)
 exact ⟨_,_,_,[],_,[],hW',trodAll_mk1 (shut_bool Tryz.underlying4 true),⟨_,_,km kg t0 hkp,⟨_,_,km kg t1 hkp,⟨_,_,km kg t2 hkp,trodAll_mk0,rfl⟩,rfl⟩,rfl⟩,rfl,zfO (show ({ w' with os:=W.os }:World).os=W.os from rfl) hu hkp _,fun h=>by cases h⟩
theorem qz:Tryz.prog.funcNamed "velarium/velariumlaw08.RollCuts" = some 3:=by kernel_rfl
set_option maxRecDepth 100000 in
open Go.Proofs.YtamcohjpanjdiaaGreatDoor in
theorem qu:joinedFacts Tryz.prog 3 Tryz.f3 Rows.rollCutsSpec Rows.rollCutsRow=true:=by
 unfold joinedFacts
 exact and32 (by as_aux_lemma=>kernel_rfl) kg kf3 (by as_aux_lemma=>kernel_rfl) (by as_aux_lemma=>kernel_rfl) (by as_aux_lemma=>kernel_rfl) kf7 (by as_aux_lemma=>kernel_rfl) kf9 (by as_aux_lemma=>kernel_rfl) (by as_aux_lemma=>kernel_rfl) (by as_aux_lemma=>kernel_rfl) (by as_aux_lemma=>kernel_rfl) (by as_aux_lemma=>kernel_rfl) (by as_aux_lemma=>kernel_rfl) (by as_aux_lemma=>kernel_rfl) (by as_aux_lemma=>kernel_rfl) (by as_aux_lemma=>kernel_rfl) (by as_aux_lemma=>kernel_rfl) (by as_aux_lemma=>kernel_rfl) (by as_aux_lemma=>kernel_rfl) (by as_aux_lemma=>kernel_rfl) kf23 (by as_aux_lemma=>kernel_rfl) kf25 kf26 kf27 kf28 (by as_aux_lemma=>kernel_rfl) (by as_aux_lemma=>kernel_rfl) (by as_aux_lemma=>kernel_rfl) (by as_aux_lemma=>kernel_rfl)
open Go.Proofs.YtamcohjpanjdiaaGreatDoor in
theorem jas:Rows.RollCutsSaid :=
 OpenClaim.holds_of_wide_leaving_time 3 Tryz.f3 rfl rfl rfl rfl rfl rfl rfl ⟨rfl,rfl,rfl,rfl,rfl⟩ rfl rfl rfl rfl rfl qz Tryz.func3 qu
  (of_decide_eq_true (by as_aux_lemma=>kernel_rfl)) (by unfold Func.isWrapper; first | (rw [if_pos (by decide +kernel)]; kernel_rfl) | (rw [if_neg (by decide +kernel)]; exact ⟨rfl,rfl⟩))
  (fun os started H enc _ F=>qv os started H enc F)
end Go.Vel
namespace Go.Proofs.YtamcohjpanjdiaaGreatDoor
open Go
theorem rollCuts_holds:Rows.RollCutsCardSaid :=
 Go.Vel.zgB .later [.funcs] true (true,"a8dbade53a295b34d71f2e42ef9c81e21a1da82da629ae191411721f06478221") false
  Go.Vel.jas (by as_aux_lemma=>kernel_rfl) rollCuts_row_tie rfl ⟨rfl,rfl⟩ (by as_aux_lemma=>kernel_rfl) rfl
  (fun f fn hf hfn=>by
   obtain rfl:f=3:=(Option.some.inj (Go.Vel.qz.symm.trans hf)).symm
   obtain rfl:fn=Tryz.f3:=(Option.some.inj (Tryz.func3.symm.trans hfn)).symm
   exact ⟨by as_aux_lemma=>kernel_rfl,fun j t ht=>by
    rw [Tryz.params3] at ht
    have hm:t∈[26,27,27]:=by simpa using Array.mem_of_getElem? ht
    have hall:([26,27,27].all fun u => !Tryz.prog.wantsStandIn u)=true:=by as_aux_lemma=>kernel_rfl
    exact (show Tryz.prog.wantsStandIn t=false by simpa using List.all_eq_true.1 hall t hm)⟩)
  (by as_aux_lemma=>kernel_rfl)
#print axioms rollCuts_holds
end Go.Proofs.YtamcohjpanjdiaaGreatDoor
end
