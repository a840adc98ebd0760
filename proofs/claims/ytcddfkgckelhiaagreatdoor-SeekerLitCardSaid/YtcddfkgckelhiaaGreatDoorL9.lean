/- Texts for the statements of chapter 9: what all of them need, part 10. It holds of every program, tape and world that the statements name, as each theorem says. -/
import Derived.Test.YtcddfkgckelhiaaGreatDoorL8
section
set_option linter.all false
set_option maxRecDepth 20000
set_option maxHeartbeats 60000000
open Go.Proofs.Tryz renaming prog -> tp
namespace Go.Vel
open Go Go.Conc Go.Proofs Go.ChangeShapes Go.WideShapes Go.ChangeAt Go.RowKit
open Go.Proofs.YtcddfkgckelhiaaGreatDoor (Tryz.pinned)
def seekerLitPhi (x0a x0b x1a x1b x1c x1d:Value):Nat->Loc3
 | 0=>⟨4,0,0⟩
 | 1=>⟨3,0,0⟩
 | 2=>⟨5,0,0⟩
 | 3=>⟨7,0,0⟩
 | 4=>⟨0,0,0⟩
 | 5=>⟨6,0,0⟩
 | 6=>⟨2,0,0⟩
 | 7=>locV x0a
 | 8=>locV x0b
 | 9=>locV x1a
 | 10=>locV x1b
 | 11=>locV x1c
 | 12=>locV x1d
 | _=>⟨0,0,0⟩
theorem zeH {W:World} (hl:laidMetH tp tblLaidL W) {b0:Bk} {x0a x0b:Value} {q1:SlB} {x1a x1b x1c x1d:Value} {z2:WatR} {k3:Int} {k4:Int} {k5:Int} {k6:Int} (h0a:SlIn W saysV 5 b0.seekers x0a) (h0b:SlIn W seenV 2 b0.seen x0b) (h1a:SlIn W (fun n:Int=>[Value.int .i64 n]) 1 q1.clean x1a) (h1b:SlIn W sunV 2 q1.suns x1b) (h1c:SlIn W eyeV 2 q1.eyes x1c) (h1d:SlIn W watV 3 q1.watches x1d) (h3:0<=k3/\k3<256) (h4:0<=k4/\k4<256) (h5:0<=k5/\k5<256) (h6:0<=k6/\k6<256) :
  ∃ M last o w' t',runNT tp (M+1) (solo (G (Frame.enter tp 6 #[.agg #[.int .i64 b0.steps,.int .i64 b0.wrong,.int .i64 b0.low,.int .i64 b0.high,x0a,x0b],.agg #[.int .i64 q1.steps,.int .i64 q1.dirty,.int .i64 q1.slope,.int .i64 q1.lo,.int .i64 q1.hi,x1a,.int .i64 q1.rf,.int .i64 q1.rh,.int .i64 q1.cf,.int .i64 q1.ch,x1b,x1c,x1d],.agg (watV z2).toArray,.int .u8 k3,.int .u8 k4,.int .u8 k5,.int .u8 k6] .normal) []) W) #[]=(.ended o w',t') /\
   runN tp M (solo (G (Frame.enter tp 6 #[.agg #[.int .i64 b0.steps,.int .i64 b0.wrong,.int .i64 b0.low,.int .i64 b0.high,x0a,x0b],.agg #[.int .i64 q1.steps,.int .i64 q1.dirty,.int .i64 q1.slope,.int .i64 q1.lo,.int .i64 q1.hi,x1a,.int .i64 q1.rf,.int .i64 q1.rh,.int .i64 q1.cf,.int .i64 q1.ch,x1b,x1c,x1d],.agg (watV z2).toArray,.int .u8 k3,.int .u8 k4,.int .u8 k5,.int .u8 k6] .normal) []) W)=.next last /\
   step tp last=.ended o w'/\Conc.Good tp (fun v w=>v=.bool true/\w.os=W.os/\w.output=W.output/\KeptAll W w) last o w' t':=by
 refine zkr (R:=fun v w=>v=.bool true/\KeptAll W w) (R':=fun v w=>v=.bool true/\w.os=W.os/\w.output=W.output/\KeptAll W w) Tryz.func6 rfl (by kernel_rfl) (fun v w' ho hu hr=>⟨hr.1,ho,hu,hr.2⟩) (fun v w τ d h=>h) (zfg W) ?_;obtain ⟨ht0,ht1,ht2⟩:=zkQ hl;refine zhG (b:=b0) (s:=7) (e:=8) (q:=q1) (c3:=9) (s3:=10) (e3:=11) (w3:=12) (x:=z2) (k3:=k3) (k4:=k4) (k5:=k5) (k6:=k6) dQ h3 h4 h5 h6 (A:=[zr,zz,.cells [] 0 false,.cells [] 0 false,.cells [] 0 false,.cells [] 0 false,yn,zo b0,zp b0,clO q1,suO q1,eyO q1,waO q1]) (φ:=seekerLitPhi x0a x0b x1a x1b x1c x1d) (F:=holdAll W) ?_ ?_ ?_ ?_ ?_ ?_
 ·intro x hx;simp only [List.mem_cons,List.not_mem_nil,or_false] at hx;rcases hx with rfl | rfl | rfl | rfl | rfl | rfl | rfl | rfl | rfl <;> rfl
 ·simp [keys]
 ·intro g i hg
  match g,hg with
  | 0,hg=>cases hg; exact ⟨by simp,rfl,rfl⟩
  | 1,hg=>cases hg
  | 2,hg=>cases hg; exact ⟨by simp,rfl,rfl⟩
  | 3,hg=>cases hg; exact ⟨by simp,rfl,rfl⟩
  | 4,hg=>cases hg; exact ⟨by simp,rfl,rfl⟩
  | 5,hg=>cases hg; exact ⟨by simp,rfl,rfl⟩
  | 6,hg=>cases hg; exact ⟨by simp,rfl,rfl⟩
  | 7,hg=>cases hg; exact ⟨by simp,rfl,rfl⟩
  | g+8,hg=>simp [gmS] at hg
 ·refine ⟨fun i o ho=>?_,fun i j o o' hi _ _ hx=>?_,fun b x h=>h,fun i o hi hx=>?_⟩
  ·match i,ho with
   | 0,ho=>cases ho; exact zg2 ht1
   | 1,ho=>cases ho; exact zg2 ht2
   | 2,ho=>cases ho; exact zab
   | 3,ho=>cases ho; exact zab
   | 4,ho=>cases ho; exact zab
   | 5,ho=>cases ho; exact zab
   | 6,ho=>cases ho; exact zlh ht0
   | 7,ho=>cases ho; exact vT h0a (fun _=>rfl) zk3
   | 8,ho=>cases ho; exact vT h0b (fun _=>rfl) zk6
   | 9,ho=>cases ho; exact (by show RelO _ _ _ _ (.cells (q1.clean.map intA) 3 false); rw [zkL]; exact vT h1a (fun _=>rfl) zlK)
   | 10,ho=>cases ho; exact vT h1b (fun _=>rfl) zmo
   | 11,ho=>cases ho; exact vT h1c (fun _=>rfl) zlE
   | 12,ho=>cases ho; exact vT h1d (fun _=>rfl) zg4
   | i+13,ho=>simp at ho
  ·match i,hi with
   | 0,hi=>cases hi; cases hx
   | 1,hi=>cases hi; cases hx
   | 2,hi=>cases hi; cases hx
   | 3,hi=>cases hi; cases hx
   | 4,hi=>cases hi; cases hx
   | 5,hi=>cases hi; cases hx
   | 6,hi=>cases hi; cases hx
   | 7,hi=>cases hi; cases hx
   | 8,hi=>cases hi; cases hx
   | 9,hi=>cases hi; cases hx
   | 10,hi=>cases hi; cases hx
   | 11,hi=>cases hi; cases hx
   | 12,hi=>cases hi; cases hx
   | i+13,hi=>simp at hi
  ·match i,hi with
   | 0,hi=>cases hi; cases hx
   | 1,hi=>cases hi; cases hx
   | 2,hi=>cases hi; cases hx
   | 3,hi=>cases hi; cases hx
   | 4,hi=>cases hi; cases hx
   | 5,hi=>cases hi; cases hx
   | 6,hi=>cases hi; cases hx
   | 7,hi=>cases hi; cases hx
   | 8,hi=>cases hi; cases hx
   | 9,hi=>cases hi; cases hx
   | 10,hi=>cases hi; cases hx
   | 11,hi=>cases hi; cases hx
   | 12,hi=>cases hi; cases hx
   | i+13,hi=>simp at hi
 ·refine ⟨rfl,fun j a y ha hy=>?_⟩
  match j,ha,hy with
  | 0,ha,hy =>
   cases ha; cases hy;refine .agg Z fun t u z hu hz=>?_
   match t,hu,hz with
   | 0,hu,hz=>cases hu; cases hz; exact .v _
   | 1,hu,hz=>cases hu; cases hz; exact .v _
   | 2,hu,hz=>cases hu; cases hz; exact .v _
   | 3,hu,hz=>cases hu; cases hz; exact .v _
   | 4,hu,hz=>cases hu; cases hz; exact vU h0a sQ rfl
   | 5,hu,hz=>cases hu; cases hz; exact vU h0b sQ rfl
   | t+6,hu,hz=>simp [zx] at hu
  | 1,ha,hy =>
   cases ha; cases hy;refine .agg Z fun t u z hu hz=>?_
   match t,hu,hz with
   | 0,hu,hz=>cases hu; cases hz; exact .v _
   | 1,hu,hz=>cases hu; cases hz; exact .v _
   | 2,hu,hz=>cases hu; cases hz; exact .v _
   | 3,hu,hz=>cases hu; cases hz; exact .v _
   | 4,hu,hz=>cases hu; cases hz; exact .v _
   | 5,hu,hz=>cases hu; cases hz; exact vU h1a sQ rfl
   | 6,hu,hz=>cases hu; cases hz; exact .v _
   | 7,hu,hz=>cases hu; cases hz; exact .v _
   | 8,hu,hz=>cases hu; cases hz; exact .v _
   | 9,hu,hz=>cases hu; cases hz; exact .v _
   | 10,hu,hz=>cases hu; cases hz; exact vU h1b sQ rfl
   | 11,hu,hz=>cases hu; cases hz; exact vU h1c sQ rfl
   | 12,hu,hz=>cases hu; cases hz; exact vU h1d sQ rfl
   | t+13,hu,hz=>simp [slC] at hu
  | 2,ha,hy =>
   cases ha; cases hy; exact zmm rfl (zg4 z2)
  | 3,ha,hy =>
   cases ha; cases hy; exact .v _
  | 4,ha,hy =>
   cases ha; cases hy; exact .v _
  | 5,ha,hy =>
   cases ha; cases hy; exact .v _
  | 6,ha,hy =>
   cases ha; cases hy; exact .v _
  | j+7,ha,hy=>simp at ha
 ·rintro r K' φ' A' H' v w ⟨rfl,_⟩ hH' hv' hfit;refine ⟨inv_v hv',fun i hi=>?_⟩;have hh:=Array.getElem?_eq_getElem hi;rw [hh];exact hfit i false _ (hH'.fr _ _ (vi hh))
set_option maxRecDepth 100000 in
theorem zb7 (os:Os) (started:os.Started) (H:Type) (enc:TypeId×Value->H) :
  ReturnsInLeavingWide Go.Proofs.YtcddfkgckelhiaaGreatDoor.Rows.seekerLitRow.assume Tryz.checked os 6 .any (Go.Proofs.YtcddfkgckelhiaaGreatDoor.Rows.seekerLitRow.pre enc tp Tryz.f6 (OpenSpec.ofChange Go.Proofs.YtcddfkgckelhiaaGreatDoor.Rows.seekerLitSpec))
   (Go.Proofs.YtcddfkgckelhiaaGreatDoor.Rows.seekerLitSpec.post enc tp Tryz.f6 false true false false):=by
 refine returnsInLeavingWide_of_good (C:=Tryz.checked) own started
  (ChangeSpec.witness_shaped (enc:=enc) (C:=Tryz.checked) (os:=os) (X:=fun w _=>laidMetH tp tblLaidL w) false (World.doorLaid tp 400 os) #[.agg #[.int .i64 0,.int .i64 0,.int .i64 0,.int .i64 0,.slice none 0 0,.slice none 0 0],.agg #[.int .i64 0,.int .i64 0,.int .i64 0,.int .i64 0,.int .i64 0,.slice none 0 0,.int .i64 0,.int .i64 0,.int .i64 0,.int .i64 0,.slice none 0 0,.slice none 0 0,.slice none 0 0],.agg #[.int .i64 0,.int .i64 0,.bool false],.int .u8 0,.int .u8 0,.int .u8 0,.int .u8 0] 8 rfl (World.shaped_of_RefB (by kernel_rfl) (by kernel_rfl)) (by kernel_rfl) (by kernel_rfl) (by kernel_rfl) (zit os _)) ?_
 intro w tape i _ _ _ hok hpre _;obtain ⟨_,_,_,fn',hfn',_,_,_,_,hval0⟩:=hok;obtain rfl:fn'=Tryz.f6:=Option.some.inj (hfn'.symm.trans Tryz.func6);obtain ⟨⟨⟨ds,gs,before,hw,hc⟩,hL0⟩,_⟩:=hpre;have hW:=DataW.Whole.of_heap (w':=w.forCall tape i) (by rfl) hw;have hL:laidMetH tp tblLaidL (w.forCall tape i):=laidMetH.of_heap (by rfl) hL0;obtain ⟨bl,args,vars⟩:=i;generalize w.forCall tape ⟨bl,args,vars⟩=W at hW hL hval0 ⊢;have hW':=hW;obtain ⟨p,q,hA0,hV0,rfl,_,_⟩:=hW;have hA:DataW.TrodAll enc tp W 0 (fun _=>true) true [27,74,76,5,5,5,5] args.toList ds p:=hA0;obtain ⟨v0,u0,d0,ds0,p0,q0,hargs,rfl,rfl,t0,hr0⟩:=trodAll_cons hA;obtain ⟨v1,u1,d1,ds1,p1,q1,rfl,rfl,rfl,t1,hr1⟩:=trodAll_cons hr0;obtain ⟨v2,u2,d2,ds2,p2,q2,rfl,rfl,rfl,t2,hr2⟩:=trodAll_cons hr1;obtain ⟨v3,u3,d3,ds3,p3,q3,rfl,rfl,rfl,t3,hr3⟩:=trodAll_cons hr2;obtain ⟨v4,u4,d4,ds4,p4,q4,rfl,rfl,rfl,t4,hr4⟩:=trodAll_cons hr3;obtain ⟨v5,u5,d5,ds5,p5,q5,rfl,rfl,rfl,t5,hr5⟩:=trodAll_cons hr4;obtain ⟨v6,u6,d6,ds6,p6,q6,rfl,rfl,rfl,t6,hr6⟩:=trodAll_cons hr5;obtain ⟨rfl,rfl,rfl⟩:=trodAll_nil hr6;obtain rfl:args=#[v0,v1,v2,v3,v4,v5,v6]:=by cases args; simp_all
 obtain ⟨rfl,rfl⟩:=trodVars_none hV0;obtain ⟨b0,x0a,x0b,rfl,s0a,s0b⟩:=zjc (okAgg Tryz.underlying27 (hval0 0 27 v0 rfl rfl)) t0;obtain ⟨q1,x1a,x1b,x1c,x1d,rfl,s1a,s1b,s1c,s1d⟩:=zjd (okAgg Tryz.underlying74 (hval0 1 74 v1 rfl rfl)) t1;obtain ⟨z2,rfl⟩:=zkY zgK (okAgg Tryz.underlying76 (hval0 2 76 v2 rfl rfl)) t2;obtain ⟨k3,rfl,rfl,rfl,s3⟩:=open_int Tryz.underlying5 (hval0 3 5 v3 rfl rfl) t3;obtain ⟨k4,rfl,rfl,rfl,s4⟩:=open_int Tryz.underlying5 (hval0 4 5 v4 rfl rfl) t4;obtain ⟨k5,rfl,rfl,rfl,s5⟩:=open_int Tryz.underlying5 (hval0 5 5 v5 rfl rfl) t5;obtain ⟨k6,rfl,rfl,rfl,s6⟩:=open_int Tryz.underlying5 (hval0 6 5 v6 rfl rfl) t6;obtain ⟨M,last,o,w',t',g1,g2,g3,g4⟩:=zeH hL s0a s0b s1a s1b s1c s1d (u8_wf s3) (u8_wf s4) (u8_wf s5) (u8_wf s6) (z2:=z2);refine ⟨M,last,o,w',t',g1,g2,g3,g4.mono fun v hF=>?_⟩;obtain ⟨rfl,ho,hu,hkp⟩:=hF;refine ChangeSpec.post_blind ?_;exact ⟨_,_,_,[],_,[],hW',trodAll_mk1 (shut_bool Tryz.underlying4 true),⟨_,_,we kZ t0 hkp,⟨_,_,we kZ t1 hkp,⟨_,_,we kZ t2 hkp,⟨_,_,we kZ t3 hkp,⟨_,_,we kZ t4 hkp,⟨_,_,we kZ t5 hkp,⟨_,_,we kZ t6 hkp,trodAll_mk0,rfl⟩,rfl⟩,rfl⟩,rfl⟩,rfl⟩,rfl⟩,rfl⟩,rfl,zkC ho hu hkp _,fun h=>by cases h⟩
end Go.Vel
end
