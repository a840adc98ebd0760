/- Texts for the statements of chapter 8: what all of them need, part 11. It holds of every program, tape and world that the statements name, as each theorem says. -/
import Derived.Test.YtamcohjpanjdiaaGreatDoorK8
section
set_option linter.all false
set_option maxRecDepth 20000
set_option maxHeartbeats 60000000
open Go.Proofs.Tryz renaming prog -> tp
open List.Mem renaming head -> mC
open Nat renaming zero_le -> mN
open Bool renaming not_eq_true' -> mV, not_eq_false' -> mW
namespace Go.Vel
open Go Go.Conc Go.Proofs
instance:Cal tp 106:={}
instance:Cal tp 127:={}
instance:Cal tp 18:={}
instance:Cal tp 25:={}
instance:Cal tp 67:={}
instance:Cal tp 97:={}
instance:Cal tp 98:={}
theorem yz {main T} (hT:zo tp main T) {gm} {n lo hi:Int} :
  zA tp T gm 67 [intA n,intA lo,intA hi] [] (fun r K'=>r=zP (betw n lo hi)/\K'=[]):=by
 refine zp 15 hT Tryz.func67 fun Y hret=>?_
 refine au [4,5,2,3,4,5,1,1,6,1] ?_
 refine TK.sp 10 (fun g1_4=>?_) (fun g1_4=>?_)
 ·refine au [1,1,6,26,2,3] ?_
  refine TK.rta hret ?_
  exact ⟨by simp [zP,betw,g1_4],rfl⟩
 refine au [11,11,11,25,2,3] ?_
 refine TK.rta hret ?_
 exact ⟨by simp [zP,betw,g1_4],rfl⟩
theorem zek {main T} (hT:zo tp main T) {gm} {x:RBand} {lo hi:Int} :
  zA tp T gm 127 [.agg (bandC x),intA lo,intA hi] [] (fun r K'=>r=zP (isBd x lo hi)/\K'=[]):=by
 refine zp 24 hT Tryz.func127 fun Y hret=>?_
 refine au [4,5,21] ?_
 intro j1 hj1
 refine au [2,3,4,5,1,7,9,6,1] ?_
 refine TK.sp 11 (fun g1_5=>?_) (fun g1_5=>?_)
 ·refine au [7,9,7,9,6,26,1] ?_
  refine TK.sp 18 (fun g1_12=>?_) (fun g1_12=>?_)
  ·refine au [7,9,1,6,26,2,3] ?_
   refine TK.rt hret [] ?_
   exact ⟨by simp_all [isBd,bandC] <;> (intros; omega),rfl⟩
  refine au [11,11,11,11,25,2,3] ?_
  refine TK.rt hret [] ?_
  exact ⟨by simp_all [isBd,bandC] <;> (intros; omega),rfl⟩
 refine au [11,11,11,11,11,25,1,11,11,11,11,25,2,3] ?_
 refine TK.rt hret [] ?_
 exact ⟨by simp_all [isBd,bandC] <;> (intros; omega),rfl⟩
theorem zfx {main T} (hT:zo tp main T) {gm} {b:RBk} {s h e i:Nat} (hr:RndOk b) (hs:SmOk b) (hi:i<b.seams.length) :
  zA tp T gm 106 [.agg (zE b s h e),intA i] [(s,zk b)] (fun r K'=>r=intA (wideM b i)/\K'=[(s,zk b)]):=by
 refine zp 40 hT Tryz.func106 fun Y hret=>?_
 refine au [] ?_
 have h5:=hs.len
 have hst:=hr.steps
 have f0:=hs.fld 0 oQ
 have fi:=hs.fld i hi
 refine au [4,5,21] ?_
 intro jb hjb
 refine au [2,3,4,4,5,1,23,7,9,28,6,3,20] ?_
 refine ⟨fun hc0=>?_,fun hc0=>?_⟩
 ·have hlt:i+1<b.seams.length:=by simp at hc0; omega
  have fn:=hs.fld (i+1) hlt
  refine au [4] ?_
  refine TK.draw [0,1,2,3,4,5,6,7,8,9,10,11,12,13,14] [0,1,2,3,4,5,6,7,8,9,10,11,12,13,14] (by kernel_rfl) (by kernel_rfl) ?_
  refine TD.z [2] Z (zg Z Z zl.h dQ) ?_
  refine TD.y [11] Z (hq:=zm Z Z zi.h (mC _) Z) (h:=?_)
  refine TD.z [1] Z (zh Z Z) ?_
  refine TD.z [13] Z (q_add Z Z Z oQ) ?_
  refine TD.z [12,14] Z (zQ Z Z Z zF.h oQ oQ) ?_
  refine TD.z [15] Z (zg Z Z zl.h dQ) ?_
  refine TD.y [16] Z (hq:=zm Z Z zi.h (mC _) (ym (c:=0) (sm_at (i:=i+1) b hlt Z) dQ Z)) (h:=?_)
  refine TD.z [2] Z (zg Z Z zl.h dQ) ?_
  refine TD.y [18] Z (hq:=zm Z Z zi.h (mC _) Z) (h:=?_)
  refine TD.z [1] Z (zh Z Z) ?_
  refine TD.z [19,20] Z (zQ Z Z Z zF.h oQ oQ) ?_
  refine TD.z [21] Z (zg Z Z zl.h dQ) ?_
  refine TD.y [22] Z (hq:=zm Z Z zi.h (mC _) (ym (c:=0) (sm_at (i:=i) b hi Z) dQ Z)) (h:=?_)
  refine TD.z [17,23] Z (q_sub Z Z Z oQ) ?_
  refine TD.as (pend':=[]) [24] Z Z (zD Z Z) ?_
  refine TD.fin ?_
  refine au [] ?_
  refine TK.rt hret [(s,_)] ?_
  exact ⟨by unfold wideM; rw [if_pos hlt]; rfl,rfl⟩
 have hlt:¬ i+1<b.seams.length:=by simp at hc0; omega
 refine au [12,4] ?_
 refine TK.draw [0,1,2,3,4,5,6,7,8,9,10,11,12,13,14,15] [0,1,2,3,4,5,6,7,8,9,10,11,12,13,14,15] (by kernel_rfl) (by kernel_rfl) ?_
 refine TD.z [2] Z (zg Z Z zl.h dQ) ?_
 refine TD.y [25] Z (hq:=zm Z Z zi.h (mC _) Z) (h:=?_)
 refine TD.z [26] Z (zQ Z Z Z zF.h oQ oQ) ?_
 refine TD.z [27] Z (zg Z Z zl.h dQ) ?_
 refine TD.y [28] Z (hq:=zm Z Z zi.h (mC _) (ym (c:=0) (sm_at (i:=0) b oQ Z) dQ Z)) (h:=?_)
 refine TD.z [2] Z (zg Z Z zl.h dQ) ?_
 refine TD.y [30] Z (hq:=zm Z Z zi.h (mC _) Z) (h:=?_)
 refine TD.z [29,31] Z (q_add Z Z Z oQ) ?_
 refine TD.z [2] Z (zg Z Z zl.h dQ) ?_
 refine TD.y [33] Z (hq:=zm Z Z zi.h (mC _) Z) (h:=?_)
 refine TD.z [1] Z (zh Z Z) ?_
 refine TD.z [34,35] Z (zQ Z Z Z zF.h oQ oQ) ?_
 refine TD.z [36] Z (zg Z Z zl.h dQ) ?_
 refine TD.y [37] Z (hq:=zm Z Z zi.h (mC _) (ym (c:=0) (sm_at (i:=i) b hi Z) dQ Z)) (h:=?_)
 refine TD.z [32,38] Z (q_sub Z Z Z oQ) ?_
 refine TD.as (pend':=[]) [39] Z Z (zD Z Z) ?_
 refine TD.fin ?_
 refine au [] ?_
 refine TK.rt hret [(s,_)] ?_
 exact ⟨by unfold wideM; rw [if_neg hlt]; rfl,rfl⟩
theorem zfn {main T} (hT:zo tp main T) {gm} {b:RBk} {s h e:Nat} (hr:RndOk b) (hl:b.seams.length<=100) :
  zA tp T gm 97 [.agg (zE b s h e)] [(s,zk b)] (fun r K'=>r=intA (seamsM b)/\K'=[(s,zk b)]):=by
 refine zp 61 hT Tryz.func97 fun Y hret=>?_
 refine au [] ?_
 have hst:=hr.steps
 refine au [4,5,21] ?_
 intro jb hjb
 refine au [2,3,4,4,5,7,9,28] ?_
 refine TK.cl Z Z Z Z (yz hT) ?_
 rintro r1 K2 ⟨rfl,rfl⟩
 refine au [30,3,20] ?_
 refine ⟨fun hc0=>?_,fun hc0=>?_⟩
 ·refine au [4,5,2,3] ?_
  refine TK.rt hret [(s,_)] ?_
  simp only [mV,mW] at hc0
  exact ⟨by simp [seamsM,hc0],rfl⟩
 simp only [mV,mW] at hc0
 have hl5:=vL hc0
 refine au [12,4,4,5,2,3,13] ?_
 refine TK.maskL [1,2,3] ?_
 refine TK.loopN (fun n env K=>∃ (i:Nat) (last:Int),n=b.seams.length - i/\i<=b.seams.length/\seamsL b last (b.seams.drop i)=seamsM b/\(0<i->last=(sm b (i - 1)).step)/\(i=0->last = -1)/\env=.any::.ptr jb 0::intA 0::intA i::naL 57 []/\K=[(jb,.cells (zE b s h e) 26 true),(s,zk b)]) b.seams.length ⟨0,-1,rfl,mN _,by unfold seamsM; rw [if_neg (by rw [hc0]; decide)]; rfl,fun h=>absurd h (Nat.lt_irrefl _),fun _=>rfl,rfl,rfl⟩ fun n env K hI hnext=>?_
 obtain ⟨i,last,rfl,hi,hinv,hlast,hlast0,rfl,rfl⟩:=hI
 refine TK.na nQ ?_
 refine au [4,4,5,1,7,9,28,6,3,20] ?_
 refine ⟨fun hc1=>?_,fun hc1=>?_⟩
 ·have hil:i<b.seams.length:=by simp at hc1; omega
  refine au [12,4,13,4,5,7,9,1,36] ?_
  refine TK.a Z (z8 Z Z zi.h mQ (sm_at (i:=i) b hil Z)) ?_
  refine au [22] ?_
  intro jx hjx
  refine au [17,3,4,4,5,7,9,7,9,24] ?_
  refine TK.cl Z Z Z Z (yz hT) ?_
  rintro r4 K5 ⟨rfl,rfl⟩
  refine au [30,1] ?_
  refine TK.sp 29 (fun g7_8=>?_) (fun g7_8=>?_)
  ·refine au [11,11,11,11,26,1,11,11,11,11,26,1,11,11,11,11,26,3,18,4,5,2,3] ?_
   refine TK.rt hret [(s,_)] ?_
   exact ⟨by rw [<- hinv,zH (yV hil),seamsL,if_pos (by simp only [mV,mW] at g7_8; simp [seamB,g7_8])],rfl⟩
  refine au [7,9] ?_
  refine TK.cl Z Z Z Z (yz hT) ?_
  rintro r7 K8 ⟨rfl,rfl⟩
  refine au [30,25,1] ?_
  refine TK.sp 35 (fun g7_14=>?_) (fun g7_14=>?_)
  ·refine au [11,11,11,11,26,1,11,11,11,11,26,3,18,4,5,2,3] ?_
   refine TK.rt hret [(s,_)] ?_
   exact ⟨by rw [<- hinv,zH (yV hil),seamsL,if_pos (by simp only [mV,mW] at g7_8 g7_14; simp [seamB,g7_8,g7_14])],rfl⟩
  refine au [7,9] ?_
  refine TK.cl Z Z Z Z (yz hT) ?_
  rintro r10 K11 ⟨rfl,rfl⟩
  refine au [30,25,1] ?_
  refine TK.sp 41 (fun g7_20=>?_) (fun g7_20=>?_)
  ·refine au [11,11,11,11,26,3,18,4,5,2,3] ?_
   refine TK.rt hret [(s,_)] ?_
   exact ⟨by rw [<- hinv,zH (yV hil),seamsL,if_pos (by simp only [mV,mW] at g7_8 g7_14 g7_20; simp [seamB,g7_8,g7_14,g7_20])],rfl⟩
  refine au [7,9] ?_
  refine TK.cl Z Z Z Z (yz hT) ?_
  rintro r13 K14 ⟨rfl,rfl⟩
  refine au [30,25,3,20] ?_
  refine ⟨fun hc2=>?_,fun hc2=>?_⟩
  ·refine au [4,5,2,3] ?_
   refine TK.rt hret [(s,_)] ?_
   exact ⟨by rw [<- hinv,zH (yV hil),seamsL,if_pos (by simp only [mV,mW] at g7_8 g7_14 g7_20 hc2; simp [seamB,g7_8,g7_14,g7_20,hc2])],rfl⟩
  have hsb:seamB b (sm b i)=true:=by simp only [mV,mW] at g7_8 g7_14 g7_20 hc2; simp [seamB,g7_8,g7_14,g7_20,hc2]
  refine au [12,4] ?_
  refine TK.draw [0,1,2,3,4,5,6,7,8,9,10,11,12,13] [0,1,2,3,4,5,6,7,8,9,10,11,12,13] (by kernel_rfl) (by kernel_rfl) ?_
  refine TD.z [3] Z (zh Z Z) ?_
  refine TD.z [47] Z (q_cmp Z Z Z Z) ?_
  refine TD.z [48] Z (zh Z Z) ?_
  refine TD.sp 49 (fun g9_3=>?_) (fun g9_3=>?_)
  ·have hi0:0<i:=by simp at g9_3; omega
   refine TD.z [4,49] Z (zg Z Z zl.h dQ) ?_
   refine TD.y [49,50] Z (hq:=zm Z Z zi.h (mC _) Z) (h:=?_)
   refine TD.z [1,49] Z (zg Z Z zl.h dQ) ?_
   refine TD.y [49,52] Z (hq:=zm Z Z zi.h (mC _) Z) (h:=?_)
   refine TD.z [3,49] Z (zh Z Z) ?_
   refine TD.z [49,54] Z (q_sub Z Z Z oQ) ?_
   refine TD.z [49,53,55] Z (zQ Z Z Z zF.h oQ oQ) ?_
   refine TD.z [49,56] Z (zg Z Z zl.h dQ) ?_
   refine TD.y [49,57] Z (hq:=zm Z Z zi.h (mC _) (ym (c:=0) (sm_at (i:=i - 1) b oQ oQ) dQ Z)) (h:=?_)
   refine TD.z [49,51,58] Z (q_cmp Z Z Z Z) ?_
   refine TD.z [49,59] Z (yE Z Z Z) ?_
   refine TD.fin ?_
   refine au [20] ?_
   refine ⟨fun hc3=>?_,fun hc3=>?_⟩
   ·refine au [4,5,2,3] ?_
    refine TK.rt hret [(s,_)] ?_
    exact ⟨by rw [<- hinv,zH (yV hil),seamsL,if_neg (by rw [hsb]; decide),if_pos (by rw [hlast (by simp at g9_3; omega)]; exact of_decide_eq_true hc3)],rfl⟩
   refine au [12,14,5,1,23,2,3] ?_
   refine TK.maskL [1,2,3] ?_
   refine TK.kp [(jb,_),(s,_)] ?_
   exact hnext _ _ _ oQ ⟨i+1,(sm b i).step,rfl,by omega,by rw [<- hinv,zH (yV hil),seamsL,if_neg (by rw [hsb]; decide),if_neg (by rw [hlast (by simp at g9_3; omega)]; exact of_decide_eq_false hc3)],fun _=>rfl,fun h=>by omega,rfl,rfl⟩
  refine TD.u [4,49] Z ?_
  refine TD.u [49,50] Z ?_
  refine TD.u [1,49] Z ?_
  refine TD.u [49,52] Z ?_
  refine TD.u [3,49] Z ?_
  refine TD.u [49,54] Z ?_
  refine TD.u [49,53,55] Z ?_
  refine TD.u [49,56] Z ?_
  refine TD.u [49,57] Z ?_
  refine TD.u [49,51,58] Z ?_
  refine TD.z [49,59] Z (yf Z Z Z) ?_
  refine TD.fin ?_
  refine au [19,12,14,5,1,23,2,3] ?_
  refine TK.maskL [1,2,3] ?_
  refine TK.kp [(jb,_),(s,_)] ?_
  exact hnext _ _ _ oQ ⟨i+1,(sm b i).step,rfl,by omega,by have h0:=(zdU hsb).1; rw [<- hinv,zH (yV hil),seamsL,if_neg (by rw [hsb]; decide),if_neg (by rw [hlast0 (by simp at g9_3; omega)]; omega)],fun _=>rfl,fun h=>by omega,rfl,rfl⟩
 obtain rfl:i=b.seams.length:=by simp at hc1; omega
 refine au [16,4,5,2,3] ?_
 refine TK.rt hret [(s,_)] ?_
 exact ⟨by rw [<- hinv,List.drop_length]; rfl,rfl⟩
theorem zec {main T} (hT:zo tp main T) {gm} {b:RBk} {s h e:Nat} (hr:RndOk b) (hs:SmOk b) (hm:b.measures.length<=100) :
  zA tp T gm 98 [.agg (zE b s h e)] [(s,zk b),(h,zB b),(e,zq b)] (fun r K'=>r=intA (if clothsM b≠0 then clothsM b else measM b)/\K'=[(s,zk b),(h,zB b),(e,zq b)]):=by
 refine zp 80 hT Tryz.func98 fun Y hret=>?_
 refine au [] ?_
 have hst:=hr.steps
 have hl5:=hs.len
 refine au [4,5,21] ?_
 intro jb hjb
 refine au [2,3,4,4,5,7,9,28,7,9,28,6,3,20] ?_
 refine ⟨fun hc0=>?_,fun hc0=>?_⟩
 ·refine au [4,5,2,3] ?_
  refine TK.rt hret [(s,_),(h,_),(e,_)] ?_
  exact ⟨by rw [show clothsM b=2 by unfold clothsM; rw [if_pos (by simp at hc0; omega)]]; rfl,rfl⟩
 have hle:b.shrinks.length=b.seams.length:=by simp at hc0; omega
 refine au [12,4,4,5,2,3,13] ?_
 refine TK.maskL [1,2,3] ?_
 refine TK.loopN (fun n env K=>∃ (i:Nat),n=b.shrinks.length - i/\i<=b.shrinks.length/\clothsL b i (b.shrinks.drop i)=clothsM b/\env=.any::.ptr jb 0::intA 0::intA i::naL 76 []/\K=[(jb,.cells (zE b s h e) 26 true),(s,zk b),(h,zB b),(e,zq b)]) b.shrinks.length ⟨0,rfl,mN _,by unfold clothsM; rw [if_neg (by simpa using hle)]; rfl,rfl,rfl⟩ fun n env K hI hnext=>?_
 obtain ⟨i,rfl,hi,hinv,rfl,rfl⟩:=hI
 refine TK.na nQ ?_
 refine au [4,4,5,1,7,9,28,6,3,20] ?_
 refine ⟨fun hc1=>?_,fun hc1=>?_⟩
 ·have hil:i<b.shrinks.length:=by simp at hc1; omega
  refine au [12,4,13,4,5,7,9,1,36] ?_
  refine TK.a Z (z8 Z Z zi.h mQ (bd_at (i:=i) b hil Z)) ?_
  refine au [22] ?_
  intro jx hjx
  refine au [17,3,4,4,5,8] ?_
  refine TK.cl Z Z Z Z (zek hT (x:=bd b i)) ?_
  rintro r1 K2 ⟨rfl,rfl⟩
  refine au [30,1] ?_
  refine TK.sp 29 (fun g7_4=>?_) (fun g7_4=>?_)
  ·refine au [11,11,11,11,11,11,26,3,18,4,5,2,3] ?_
   refine TK.rt hret [(s,_),(h,_),(e,_)] ?_
   exact ⟨by rw [show clothsM b=1 by rw [<- hinv,zH (ko hil),clothsL,if_pos (by simp at g7_4; simp [bandB,g7_4])]]; rfl,rfl⟩
  have hbd:0<=(bd b i).low/\(bd b i).low<=(bd b i).high/\(bd b i).high<=5:=by simp [isBd] at g7_4; omega
  refine au [7,9,7,9,24,6,25,3,20] ?_
  refine ⟨fun hc2=>?_,fun hc2=>?_⟩
  ·refine au [4,5,2,3] ?_
   refine TK.rt hret [(s,_),(h,_),(e,_)] ?_
   exact ⟨by rw [show clothsM b=1 by rw [<- hinv,zH (ko hil),clothsL,if_pos (by simp at g7_4 hc2; simp [bandB,g7_4] <;> omega)]]; rfl,rfl⟩
  have hbb:bandB (bd b i)=true:=by simp at g7_4 hc2; simp [bandB,g7_4]; omega
  refine au [12,4] ?_
  refine TK.draw [0,1,2,3,4,5] [0,1,2,3,4,5] (by kernel_rfl) (by kernel_rfl) ?_
  refine TD.z [4] Z (zg Z Z zl.h dQ) ?_
  refine TD.y [37] Z (hq:=zm Z Z zi.h (mC _) Z) (h:=?_)
  refine TD.y [1] Z (hq:=z8 Z Z zi.h (mC _) Z) (h:=?_)
  refine TD.z [3] Z (zh Z Z) ?_
  refine TD.cl (pend':=[⟨1,[37],[(_,_)]⟩,⟨0,[4],[]⟩]) [39,40] Z Z Z Z Z (zfx hT (i:=i) hr hs oQ) (fun r4 K5 h6=>⟨?_,?_⟩)
  ·rcases h6 with ⟨rfl,rfl⟩
   all_goals simp
  obtain ⟨rfl,rfl⟩:=h6
  try simp only [cA]
  refine TD.norm tQ ?_
  refine TD.z [38,41] Z (q_cmp Z Z Z Z) ?_
  refine TD.fin ?_
  refine au [20] ?_
  refine ⟨fun hc3=>?_,fun hc3=>?_⟩
  ·refine au [4,5,2,3] ?_
   refine TK.rt hret [(s,_),(h,_),(e,_)] ?_
   exact ⟨by rw [show clothsM b=8 by rw [<- hinv,zH (ko hil),clothsL,if_neg (by rw [hbb]; decide),if_pos (of_decide_eq_true hc3)]]; rfl,rfl⟩
  refine au [12,14,5,1,23,2,3] ?_
  refine TK.maskL [1,2,3] ?_
  refine TK.kp [(jb,_),(s,_),(h,_),(e,_)] ?_
  exact hnext _ _ _ oQ ⟨i+1,rfl,by omega,by rw [<- hinv,zH (ko hil),clothsL,if_neg (by rw [hbb]; decide),if_neg (of_decide_eq_false hc3)],rfl,rfl⟩
 obtain rfl:i=b.shrinks.length:=by simp at hc1; omega
 have hcl:clothsM b=0:=by rw [<- hinv,List.drop_length]; rfl
 refine au [16,4,4,5,7,9,28,6,3,20] ?_
 refine ⟨fun hc4=>?_,fun hc4=>?_⟩
 ·refine au [4,5,2,3] ?_
  refine TK.rt hret [(s,_),(h,_),(e,_)] ?_
  exact ⟨by rw [if_neg (fun h=>h hcl),show measM b=2 by unfold measM; rw [if_pos (by simp at hc4; omega)]],rfl⟩
 refine au [12,4,4,5,2,3,13] ?_
 refine TK.maskL [1,2,5] ?_
 refine TK.loopN (fun n env K=>∃ (i:Nat),n=b.measures.length - i/\i<=b.measures.length/\measL b (b.measures.drop i)=measM b/\env=.any::.ptr jb 0::intA 0::naL 2 (intA i::naL 74 [])/\K=[(jb,.cells (zE b s h e) 26 true),(s,zk b),(h,zB b),(e,zq b)]) b.measures.length ⟨0,rfl,mN _,by unfold measM; rw [if_neg (by simp at hc4; omega)]; rfl,rfl,rfl⟩ fun n env K hI hnext=>?_
 obtain ⟨i,rfl,hi,hinv2,rfl,rfl⟩:=hI
 refine TK.na nQ ?_
 refine au [4,4,5,1,7,9,28,6,3,20] ?_
 refine ⟨fun hc5=>?_,fun hc5=>?_⟩
 ·have hil:i<b.measures.length:=by simp at hc5; omega
  obtain ⟨x,hg⟩:∃ x,b.measures[i]? =some x:=⟨_,List.getElem?_eq_getElem hil⟩
  refine au [12,4,13,4,5,7,9,1,36] ?_
  refine TK.a Z (z8 Z Z zi.h mQ (zcE (i:=i) hg Z)) ?_
  refine au [22] ?_
  intro jy hjy
  refine au [17,3,4,4,5,7,9,7,9,28,24] ?_
  refine TK.cl Z Z Z Z (yz hT) ?_
  rintro r7 K8 ⟨rfl,rfl⟩
  refine au [30,3,20] ?_
  refine ⟨fun hc6=>?_,fun hc6=>?_⟩
  ·refine au [4,5,2,3] ?_
   refine TK.rt hret [(s,_),(h,_),(e,_)] ?_
   exact ⟨by rw [if_neg (fun h=>h hcl),<- hinv2,zH hg,measL,if_pos (by simp at hc6; simp [thereM,hc6]),show thereM b x.cloth=6 by simp at hc6; simp [thereM,hc6]],rfl⟩
  refine au [12,4,5,7,9,7,9,28] ?_
  refine TK.cl Z Z Z Z (yz hT) ?_
  rintro r10 K11 ⟨rfl,rfl⟩
  refine au [30,1] ?_
  refine TK.sp 74 (fun g19_8=>?_) (fun g19_8=>?_)
  ·refine au [11,11,11,11,26,3,18,4,5,2,3] ?_
   refine TK.rt hret [(s,_),(h,_),(e,_)] ?_
   exact ⟨by rw [if_neg (fun h=>h hcl),<- hinv2,zH hg,measL,if_neg (by simp at hc6; simp [thereM,hc6]),if_pos (by simp at g19_8; simp [measB,g19_8])],rfl⟩
  refine au [7,9] ?_
  refine TK.cl Z Z Z Z (yz hT) ?_
  rintro r13 K14 ⟨rfl,rfl⟩
  refine au [30,25,3,20] ?_
  refine ⟨fun hc7=>?_,fun hc7=>?_⟩
  ·refine au [4,5,2,3] ?_
   refine TK.rt hret [(s,_),(h,_),(e,_)] ?_
   exact ⟨by rw [if_neg (fun h=>h hcl),<- hinv2,zH hg,measL,if_neg (by simp at hc6; simp [thereM,hc6]),if_pos (by simp at g19_8 hc7; simp [measB,g19_8,hc7])],rfl⟩
  refine au [12,14,5,1,23,2,3] ?_
  refine TK.maskL [1,2,5] ?_
  refine TK.kp [(jb,_),(s,_),(h,_),(e,_)] ?_
  exact hnext _ _ _ oQ ⟨i+1,rfl,by omega,by rw [<- hinv2,zH hg,measL,if_neg (by simp at hc6; simp [thereM,hc6]),if_neg (by simp at g19_8 hc7; simp [measB,g19_8,hc7])],rfl,rfl⟩
 obtain rfl:i=b.measures.length:=by simp at hc5; omega
 refine au [16,4,5,2,3] ?_
 refine TK.rt hret [(s,_),(h,_),(e,_)] ?_
 exact ⟨by rw [if_neg (fun h=>h hcl),<- hinv2,List.drop_length]; rfl,rfl⟩
theorem zeH {main T} (hT:zo tp main T) {gm} {b:RBk} {s h e:Nat} (hl:b.seams.length<=100) (hm:b.measures.length<=100) :
  zA tp T gm 25 [.agg (zE b s h e)] [(s,zk b),(h,zB b),(e,zq b)] (fun r K'=>r=intA (zr b)/\K'=[(s,zk b),(h,zB b),(e,zq b)]):=by
 refine zp 35 hT Tryz.func25 fun Y hret=>?_
 refine au [4,5,21] ?_
 intro jb hjb
 refine au [2,3,4,4,5,7,9] ?_
 refine TK.cl Z Z Z Z (yz hT) ?_
 rintro r1 K2 ⟨rfl,rfl⟩
 refine au [30,1] ?_
 refine TK.sp 8 (fun g1_5=>?_) (fun g1_5=>?_)
 ·refine au [11,11,11,11,11,11,26,1,11,11,11,11,26,1,11,11,11,11,26,3,18,4,5,2,3] ?_
  refine TK.rt hret [(s,_),(h,_),(e,_)] ?_
  simp only [mV,mW] at g1_5
  exact ⟨by rw [show zr b=1 by unfold zr; rw [if_pos (by rw [show roundsM b=1 by simp [roundsM,g1_5]]; decide)]; simp [roundsM,g1_5]],rfl⟩
 refine au [7,9,7,9] ?_
 refine TK.cl Z Z Z Z (yz hT) ?_
 rintro r4 K5 ⟨rfl,rfl⟩
 refine au [30,25,1] ?_
 refine TK.sp 16 (fun g1_13=>?_) (fun g1_13=>?_)
 ·refine au [11,11,11,11,26,1,11,11,11,11,26,3,18,4,5,2,3] ?_
  refine TK.rt hret [(s,_),(h,_),(e,_)] ?_
  simp only [mV,mW] at g1_5 g1_13
  exact ⟨by rw [show zr b=1 by unfold zr; rw [if_pos (by rw [show roundsM b=1 by simp [roundsM,g1_5,g1_13]]; decide)]; simp [roundsM,g1_5,g1_13]],rfl⟩
 refine au [7,9] ?_
 refine TK.cl Z Z Z Z (yz hT) ?_
 rintro r7 K8 ⟨rfl,rfl⟩
 refine au [30,25,1] ?_
 refine TK.sp 22 (fun g1_19=>?_) (fun g1_19=>?_)
 ·refine au [11,11,11,11,26,3,18,4,5,2,3] ?_
  refine TK.rt hret [(s,_),(h,_),(e,_)] ?_
  simp only [mV,mW] at g1_5 g1_13 g1_19
  exact ⟨by rw [show zr b=1 by unfold zr; rw [if_pos (by rw [show roundsM b=1 by simp [roundsM,g1_5,g1_13,g1_19]]; decide)]; simp [roundsM,g1_5,g1_13,g1_19]],rfl⟩
 refine au [7,9] ?_
 refine TK.cl Z Z Z Z (yz hT) ?_
 rintro r10 K11 ⟨rfl,rfl⟩
 refine au [30,25,3,20] ?_
 refine ⟨fun hc0=>?_,fun hc0=>?_⟩
 ·refine au [4,5,2,3] ?_
  refine TK.rt hret [(s,_),(h,_),(e,_)] ?_
  simp only [mV,mW] at g1_5 g1_13 g1_19 hc0
  exact ⟨by rw [show zr b=1 by unfold zr; rw [if_pos (by rw [show roundsM b=1 by simp [roundsM,g1_5,g1_13,g1_19,hc0]]; decide)]; simp [roundsM,g1_5,g1_13,g1_19,hc0]],rfl⟩
 simp only [mV,mW] at g1_5 g1_13 g1_19 hc0
 have hr0:roundsM b=0:=by simp [roundsM,g1_5,g1_13,g1_19,hc0]
 have hr:=uh hr0
 refine au [12,4,4,5,8] ?_
 refine TK.cl Z Z Z Z (zfn hT hr hl) ?_
 rintro r13 K14 ⟨rfl,rfl⟩
 refine au [2,3,4,5,1,6,3,20] ?_
 refine ⟨fun hc1=>?_,fun hc1=>?_⟩
 ·refine au [4,5,1,2,3] ?_
  refine TK.rt hret [(s,_),(h,_),(e,_)] ?_
  exact ⟨by unfold zr; rw [if_neg (by simpa using hr0),if_pos (by simpa using hc1)],rfl⟩
 have hs0:seamsM b=0:=by simpa using hc1
 have hs:=uP hs0
 refine au [12,4,5,8] ?_
 refine TK.cl Z Z Z Z (zec hT hr hs hm) ?_
 rintro r16 K17 ⟨rfl,rfl⟩
 refine au [2,3] ?_
 refine TK.rt hret [(s,_),(h,_),(e,_)] ?_
 exact ⟨by rw [show zr b=(if clothsM b≠0 then clothsM b else measM b) by unfold zr; rw [if_neg (by simpa using hr0),if_neg (by simpa using hs0)]],rfl⟩
theorem zja {main T} (hT:zo tp main T) {gm} {b:RBk} {s h e:Nat} :
  zA tp T gm 49 [.agg (zE b s h e)] [(s,zk b),(h,zB b),(e,zq b)] (fun r K'=>r=zP (!greatM b&&decide (zr b=0))/\K'=[(s,zk b),(h,zB b),(e,zq b)]):=by
 refine zp 11 hT Tryz.func49 fun Y hret=>?_
 refine au [4,5,21] ?_
 intro jb hjb
 refine au [2,3,4,5,8] ?_
 refine TK.cl Z Z Z Z (zfZ hT) ?_ (hs:=(.none _))
 rintro r1 K2 ⟨rfl,rfl⟩
 refine au [30,1] ?_
 refine TK.sp 6 (fun g1_4=>?_) (fun g1_4=>?_)
 ·refine au [8] ?_
  refine TK.cl Z Z Z Z (zeH hT (by simp [greatM] at g1_4; omega) (by simp [greatM] at g1_4; omega)) ?_
  rintro r4 K5 ⟨rfl,rfl⟩
  refine au [6,26,2,3] ?_
  refine TK.rt hret [(s,_),(h,_),(e,_)] ?_
  exact ⟨by simp at g1_4; rw [g1_4]; simp; rfl,rfl⟩
 refine au [11,11,11,25,2,3] ?_
 refine TK.rt hret [(s,_),(h,_),(e,_)] ?_
 exact ⟨by simp at g1_4; rw [g1_4]; rfl,rfl⟩
end Go.Vel
end
