/- Texts for the statements of chapter 9: what all of them need, part 10. It holds of every program, tape and world that the statements name, as each theorem says. -/
import Derived.Test.YtcddfkgckelhiaaGreatDoorT8
section
set_option linter.all false
set_option maxRecDepth 20000
set_option maxHeartbeats 60000000
open Go.Proofs.Tryz renaming prog -> tp
namespace Go.Vel
open Go Go.Conc Go.Proofs Go.ChangeShapes Go.WideShapes Go.ChangeAt Go.RowKit
open Go.Proofs.YtcddfkgckelhiaaGreatDoor (Tryz.pinned)
def seekerTurningPhi (x0a x0b x1a:Value) (y1:List (SkT×Value)):Nat->Loc3
 | 0=>⟨4,0,0⟩
 | 1=>⟨3,0,0⟩
 | 2=>⟨5,0,0⟩
 | 3=>⟨7,0,0⟩
 | 4=>⟨0,0,0⟩
 | 5=>⟨6,0,0⟩
 | 6=>⟨2,0,0⟩
 | 7=>locV x0a
 | 8=>locV x0b
 | 9=>locV x1a
 | i+10=>locV (((y1[i]?).map (·.2)).getD (.bool false))
theorem zbs {W:World} (hl:laidMetH tp tblLaidT W) {b0:Bk} {x0a x0b:Value} {st1 wr1:Int} {y1:List (SkT×Value)} {x1a:Value} {z2:Int×Int} {k3:Int} {k4:Int} {k5:Int} {k6:Int} {k7:Int} (h0a:SlIn W saysV 5 b0.seekers x0a) (h0b:SlIn W seenV 2 b0.seen x0b) (h1a:SlIn W skV 7 y1 x1a) (h1m:∀ p∈y1,SlIn W mkV 3 p.1.marks p.2) (h3:0<=k3/\k3<256) (h4:0<=k4/\k4<256) (h5:0<=k5/\k5<256) (h6:0<=k6/\k6<256) (h7:0<=k7/\k7<256) :
  ∃ M last o w' t',runNT tp (M+1) (solo (G (Frame.enter tp 5 #[.agg #[.int .i64 b0.steps,.int .i64 b0.wrong,.int .i64 b0.low,.int .i64 b0.high,x0a,x0b],.agg #[.int .i64 st1,.int .i64 wr1,x1a],.agg (pairV z2).toArray,.int .u8 k3,.int .u8 k4,.int .u8 k5,.int .u8 k6,.int .u8 k7] .normal) []) W) #[]=(.ended o w',t') /\
   runN tp M (solo (G (Frame.enter tp 5 #[.agg #[.int .i64 b0.steps,.int .i64 b0.wrong,.int .i64 b0.low,.int .i64 b0.high,x0a,x0b],.agg #[.int .i64 st1,.int .i64 wr1,x1a],.agg (pairV z2).toArray,.int .u8 k3,.int .u8 k4,.int .u8 k5,.int .u8 k6,.int .u8 k7] .normal) []) W)=.next last /\
   step tp last=.ended o w'/\Conc.Good tp (fun v w=>v=.bool true/\w.os=W.os/\w.output=W.output/\KeptAll W w) last o w' t':=by
 refine zkl (R:=fun v w=>v=.bool true/\KeptAll W w) (R':=fun v w=>v=.bool true/\w.os=W.os/\w.output=W.output/\KeptAll W w) Tryz.func5 rfl (by kernel_rfl) (fun v w' ho hu hr=>⟨hr.1,ho,hu,hr.2⟩) (fun v w τ d h=>h) (zfo W) ?_;obtain ⟨ht0,ht1,ht2⟩:=zkI hl;refine zdk (b:=b0) (s:=7) (e:=8) (st:=st1) (wr:=wr1) (g:=9) (Zq:=zOf y1) (lo:=z2.1) (hi:=z2.2) (k3:=k3) (k4:=k4) (k5:=k5) (k6:=k6) (k7:=k7) dQ h3 h4 h5 h6 h7 (A:=zw::zA::.cells [] 0 false::.cells [] 0 false::.cells [] 0 false::spChecksG::.cells [] 0 false::zn b0::zo b0::skO (zOf y1)::y1.map fun y=>mkO y.1) (φ:=seekerTurningPhi x0a x0b x1a y1) (F:=holdAll W) ?_ ?_ ?_ ?_ ?_ ?_
 ·intro x hx;simp only [List.mem_cons] at hx;rcases hx with rfl | rfl | rfl | rfl | rfl | rfl | hx
  iterate 6 rfl
  obtain ⟨i,h1,h2⟩:=zlJ hx;obtain ⟨k,o⟩:=x;dsimp only at h1 h2 ⊢;subst h1;exact h2
 ·exact keysT
 ·intro g i hg
  match g,hg with
  | 0,hg=>cases hg; exact ⟨by simp <;> omega,rfl,rfl⟩
  | 1,hg=>cases hg
  | 2,hg=>cases hg; exact ⟨by simp <;> omega,rfl,rfl⟩
  | 3,hg=>cases hg; exact ⟨by simp <;> omega,rfl,rfl⟩
  | 4,hg=>cases hg; exact ⟨by simp <;> omega,rfl,rfl⟩
  | 5,hg=>cases hg; exact ⟨by simp <;> omega,rfl,rfl⟩
  | 6,hg=>cases hg; exact ⟨by simp <;> omega,rfl,rfl⟩
  | 7,hg=>cases hg; exact ⟨by simp <;> omega,rfl,rfl⟩
  | g+8,hg=>simp [gmS] at hg
 ·refine ⟨fun i o ho=>?_,fun i j o o' hi _ _ hx=>?_,fun b x h=>h,fun i o hi hx=>?_⟩
  ·match i,ho with
   | 0,ho=>cases ho; exact zdD ht0
   | 1,ho=>cases ho; exact zdD ht1
   | 2,ho=>cases ho; exact zac
   | 3,ho=>cases ho; exact zac
   | 4,ho=>cases ho; exact zac
   | 5,ho=>cases ho; exact zdD ht2
   | 6,ho=>cases ho; exact zac
   | 7,ho=>cases ho; exact zds h0a (fun _=>rfl) zk1
   | 8,ho=>cases ho; exact zds h0b (fun _=>rfl) zk4
   | 9,ho=>cases ho; exact zm4 h1a h1m (fun i y hy=>by show locV (((y1[i]?).map (·.2)).getD (.bool false))=locV y.2; rw [hy]; rfl) (by simp <;> omega)
   | i+10,ho =>
    obtain ⟨y,hy,rfl⟩:=zdC ho;show RelO _ _ (locV (((y1[i]?).map (·.2)).getD (.bool false))) _ _;rw [hy];exact zds (h1m y (List.mem_of_getElem? hy)) (fun _=>rfl) zmJ
  ·match i,hi with
   | 0,hi=>cases hi; cases hx
   | 1,hi=>cases hi; cases hx
   | 2,hi=>cases hi; cases hx
   | 3,hi=>cases hi; cases hx
   | 4,hi=>cases hi; cases hx
   | 5,hi=>cases hi; cases hx
   | 6,hi=>cases hi; cases hx
   | 7,hi=>cases hi; cases hx
   | 8,hi=>cases hi; cases hx
   | 9,hi=>cases hi; cases hx
   | i+10,hi =>
    obtain ⟨y,hy,rfl⟩:=zdC hi;cases hx
  ·match i,hi with
   | 0,hi=>cases hi; cases hx
   | 1,hi=>cases hi; cases hx
   | 2,hi=>cases hi; cases hx
   | 3,hi=>cases hi; cases hx
   | 4,hi=>cases hi; cases hx
   | 5,hi=>cases hi; cases hx
   | 6,hi=>cases hi; cases hx
   | 7,hi=>cases hi; cases hx
   | 8,hi=>cases hi; cases hx
   | 9,hi=>cases hi; cases hx
   | i+10,hi =>
    obtain ⟨y,hy,rfl⟩:=zdC hi;cases hx
 ·refine ⟨rfl,fun j a y ha hy=>?_⟩
  match j,ha,hy with
  | 0,ha,hy =>
   cases ha; cases hy;refine .agg Z fun t u z hu hz=>?_
   match t,hu,hz with
   | 0,hu,hz=>cases hu; cases hz; exact .v _
   | 1,hu,hz=>cases hu; cases hz; exact .v _
   | 2,hu,hz=>cases hu; cases hz; exact .v _
   | 3,hu,hz=>cases hu; cases hz; exact .v _
   | 4,hu,hz=>cases hu; cases hz; exact zbn h0a (by simp <;> omega) rfl
   | 5,hu,hz=>cases hu; cases hz; exact zbn h0b (by simp <;> omega) rfl
   | t+6,hu,hz=>simp [zx] at hu
  | 1,ha,hy =>
   cases ha; cases hy;refine .agg Z fun t u z hu hz=>?_
   match t,hu,hz with
   | 0,hu,hz=>cases hu; cases hz; exact .v _
   | 1,hu,hz=>cases hu; cases hz; exact .v _
   | 2,hu,hz=>cases hu; cases hz; rw [zmi]; exact zbn h1a (by simp <;> omega) rfl
   | t+3,hu,hz=>simp [stpC] at hu
  | 2,ha,hy =>
   cases ha; cases hy; exact zmc (cf:=pairC) rfl (zkT z2)
  | 3,ha,hy =>
   cases ha; cases hy; exact .v _
  | 4,ha,hy =>
   cases ha; cases hy; exact .v _
  | 5,ha,hy =>
   cases ha; cases hy; exact .v _
  | 6,ha,hy =>
   cases ha; cases hy; exact .v _
  | 7,ha,hy =>
   cases ha; cases hy; exact .v _
  | j+8,ha,hy=>simp at ha
 ·rintro r K' φ' A' H' v w hrr hH' hv' hfit;obtain rfl:r=zm true:=hrr;refine ⟨inv_v hv',fun i hi=>?_⟩;have hh:=Array.getElem?_eq_getElem hi;rw [hh];exact hfit i false _ (hH'.fr _ _ (ve hh))
set_option maxRecDepth 100000 in
theorem zao (os:Os) (started:os.Started) (H:Type) (enc:TypeId×Value->H) :
  ReturnsInLeavingWide Go.Proofs.YtcddfkgckelhiaaGreatDoor.Rows.seekerTurningRow.assume Tryz.checked os 5 .any (Go.Proofs.YtcddfkgckelhiaaGreatDoor.Rows.seekerTurningRow.pre enc tp Tryz.f5 (OpenSpec.ofChange Go.Proofs.YtcddfkgckelhiaaGreatDoor.Rows.seekerTurningSpec))
   (Go.Proofs.YtcddfkgckelhiaaGreatDoor.Rows.seekerTurningSpec.post enc tp Tryz.f5 false true false false):=by
 refine returnsInLeavingWide_of_good (C:=Tryz.checked) own started
  (ChangeSpec.witness_shaped (enc:=enc) (C:=Tryz.checked) (os:=os) (X:=fun w _=>laidMetH tp tblLaidT w) false (World.doorLaid tp 400 os) #[.agg #[.int .i64 0,.int .i64 0,.int .i64 0,.int .i64 0,.slice none 0 0,.slice none 0 0],.agg #[.int .i64 0,.int .i64 0,.slice none 0 0],.agg #[.int .i64 0,.int .i64 0],.int .u8 0,.int .u8 0,.int .u8 0,.int .u8 0,.int .u8 0] 8 rfl (World.shaped_of_RefB (by kernel_rfl) (by kernel_rfl)) (by kernel_rfl) (by kernel_rfl) (by kernel_rfl) (ziq os _)) ?_
 intro w tape i _ _ _ hok hpre _;obtain ⟨_,_,_,fn',hfn',_,_,_,_,hval0⟩:=hok;obtain rfl:fn'=Tryz.f5:=Option.some.inj (hfn'.symm.trans Tryz.func5);obtain ⟨⟨⟨ds,gs,before,hw,hc⟩,hL0⟩,_⟩:=hpre;have hW:=DataW.Whole.of_heap (w':=w.forCall tape i) (by rfl) hw;have hL:laidMetH tp tblLaidT (w.forCall tape i):=laidMetH.of_heap (by rfl) hL0;obtain ⟨bl,args,vars⟩:=i;generalize w.forCall tape ⟨bl,args,vars⟩=W at hW hL hval0 ⊢;have hW':=hW;obtain ⟨p,q,hA0,hV0,rfl,_,_⟩:=hW;have hA:DataW.TrodAll enc tp W 0 (fun _=>true) true [27,57,23,5,5,5,5,5] args.toList ds p:=hA0;obtain ⟨v0,u0,d0,ds0,p0,q0,hargs,rfl,rfl,t0,hr0⟩:=trodAll_cons hA;obtain ⟨v1,u1,d1,ds1,p1,q1,rfl,rfl,rfl,t1,hr1⟩:=trodAll_cons hr0;obtain ⟨v2,u2,d2,ds2,p2,q2,rfl,rfl,rfl,t2,hr2⟩:=trodAll_cons hr1;obtain ⟨v3,u3,d3,ds3,p3,q3,rfl,rfl,rfl,t3,hr3⟩:=trodAll_cons hr2;obtain ⟨v4,u4,d4,ds4,p4,q4,rfl,rfl,rfl,t4,hr4⟩:=trodAll_cons hr3;obtain ⟨v5,u5,d5,ds5,p5,q5,rfl,rfl,rfl,t5,hr5⟩:=trodAll_cons hr4;obtain ⟨v6,u6,d6,ds6,p6,q6,rfl,rfl,rfl,t6,hr6⟩:=trodAll_cons hr5;obtain ⟨v7,u7,d7,ds7,p7,q7,rfl,rfl,rfl,t7,hr7⟩:=trodAll_cons hr6;obtain ⟨rfl,rfl,rfl⟩:=trodAll_nil hr7;obtain rfl:args=#[v0,v1,v2,v3,v4,v5,v6,v7]:=by cases args; simp_all
 obtain ⟨rfl,rfl⟩:=trodVars_none hV0;obtain ⟨b0,x0a,x0b,rfl,s0a,s0b⟩:=zi9 (okAgg Tryz.underlying27 (hval0 0 27 v0 rfl rfl)) t0;obtain ⟨st1,wr1,y1,x1a,rfl,s1a,s1m⟩:=zhU (okAgg Tryz.underlying57 (hval0 1 57 v1 rfl rfl)) t1;obtain ⟨z2,rfl⟩:=zkQ zb1 (okAgg Tryz.underlying23 (hval0 2 23 v2 rfl rfl)) t2;obtain ⟨k3,rfl,rfl,rfl,s3⟩:=open_int Tryz.underlying5 (hval0 3 5 v3 rfl rfl) t3;obtain ⟨k4,rfl,rfl,rfl,s4⟩:=open_int Tryz.underlying5 (hval0 4 5 v4 rfl rfl) t4;obtain ⟨k5,rfl,rfl,rfl,s5⟩:=open_int Tryz.underlying5 (hval0 5 5 v5 rfl rfl) t5;obtain ⟨k6,rfl,rfl,rfl,s6⟩:=open_int Tryz.underlying5 (hval0 6 5 v6 rfl rfl) t6;obtain ⟨k7,rfl,rfl,rfl,s7⟩:=open_int Tryz.underlying5 (hval0 7 5 v7 rfl rfl) t7;obtain ⟨M,last,o,w',t',g1,g2,g3,g4⟩:=zbs hL s0a s0b s1a s1m (u8_wf s3) (u8_wf s4) (u8_wf s5) (u8_wf s6) (u8_wf s7) (z2:=z2);refine ⟨M,last,o,w',t',g1,g2,g3,g4.mono fun v hF=>?_⟩;obtain ⟨rfl,ho,hu,hkp⟩:=hF;refine ChangeSpec.post_blind ?_;exact ⟨_,_,_,[],_,[],hW',trodAll_mk1 (shut_bool Tryz.underlying4 true),⟨_,_,kK kS t0 hkp,⟨_,_,kK kS t1 hkp,⟨_,_,kK kS t2 hkp,⟨_,_,kK kS t3 hkp,⟨_,_,kK kS t4 hkp,⟨_,_,kK kS t5 hkp,⟨_,_,kK kS t6 hkp,⟨_,_,kK kS t7 hkp,trodAll_mk0,rfl⟩,rfl⟩,rfl⟩,rfl⟩,rfl⟩,rfl⟩,rfl⟩,rfl⟩,rfl,zku ho hu hkp _,fun h=>by cases h⟩
end Go.Vel
end
