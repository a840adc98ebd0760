/- Texts for the statements of chapter 8: what all of them need, part 11. It holds of every program, tape and world that the statements name, as each theorem says. -/
import Derived.Test.YtamcohjpanjdiaaGreatDoorU8
section
set_option linter.all false
set_option maxRecDepth 20000
set_option maxHeartbeats 60000000
namespace Go.Vel
open Go Go.Conc Go.Proofs
instance:Cal Tryz.prog 106:=⟨by kernel_rfl⟩
instance:Cal Tryz.prog 127:=⟨by kernel_rfl⟩
instance:Cal Tryz.prog 18:=⟨by kernel_rfl⟩
instance:Cal Tryz.prog 25:=⟨by kernel_rfl⟩
instance:Cal Tryz.prog 67:=⟨by kernel_rfl⟩
instance:Cal Tryz.prog 97:=⟨by kernel_rfl⟩
instance:Cal Tryz.prog 98:=⟨by kernel_rfl⟩
instance {a0 a1 a2 a3 a4 a5 a6 a7 a8 a9 a10 a11 a12 a13 a14 a15 a16 a17 a18 a19 a20 a21 a22 a23:Oper}:RgL #[a0,a1,a2,a3,a4,a5,a6,a7,a8,a9,a10,a11,a12,a13,a14,a15,a16,a17,a18,a19,a20,a21,a22,a23] [0,1,2,3,4,5,6,7,8,9,10,11,12,13,14,15,16,17,18,19,20,21,22,23]:=⟨rfl⟩
instance {a0 a1 a2 a3 a4 a5 a6 a7 a8 a9 a10 a11 a12 a13 a14 a15 a16 a17 a18 a19 a20 a21 a22 a23 a24:Oper}:RgL #[a0,a1,a2,a3,a4,a5,a6,a7,a8,a9,a10,a11,a12,a13,a14,a15,a16,a17,a18,a19,a20,a21,a22,a23,a24] [0,1,2,3,4,5,6,7,8,9,10,11,12,13,14,15,16,17,18,19,20,21,22,23,24]:=⟨rfl⟩
theorem zV {main:Bool} {T:Goroutine->Hp->Prop} (hT:Shut Tryz.prog main T) {gm:Nat->Option Nat} {n lo hi:Int} :
  CallK Tryz.prog T gm 67 [intA n,intA lo,intA hi] [] (fun r K'=>r=boolA (betw n lo hi)/\K'=[]):=by
 refine zf 15 hT Tryz.func67 fun Y hret=>?_
 refine au [4,5,2,3,4,5,1,1,6,1] ?_
 refine TK.sp 10 (fun g1_4=>?_) (fun g1_4=>?_)
 ·refine au [1,1,6,26,2,3] ?_
  refine TK.rta hret ?_
  exact ⟨by simp [boolA,betw,g1_4],rfl⟩
 refine au [11,11,11,25,2,3] ?_
 refine TK.rta hret ?_
 exact ⟨by simp [boolA,betw,g1_4],rfl⟩
theorem zdN {main:Bool} {T:Goroutine->Hp->Prop} (hT:Shut Tryz.prog main T) {gm:Nat->Option Nat} {x:RBand} {lo hi:Int} :
  CallK Tryz.prog T gm 127 [.agg (bandC x),intA lo,intA hi] [] (fun r K'=>r=boolA (isBd x lo hi)/\K'=[]):=by
 refine zf 24 hT Tryz.func127 fun Y hret=>?_
 refine au [4,5,21] ?_
 intro j1 hj1
 refine au [2,3,4,5,1,7,9,6,1] ?_
 refine TK.sp 11 (fun g1_5=>?_) (fun g1_5=>?_)
 ·refine au [7,9,7,9,6,26,1] ?_
  refine TK.sp 18 (fun g1_12=>?_) (fun g1_12=>?_)
  ·refine au [7,9,1,6,26,2,3] ?_
   refine TK.rt hret [] ?_
   exact ⟨by simp_all [isBd,bandC] <;> (intros; omega),rfl⟩
  refine au [11,11,11,11,25,2,3] ?_
  refine TK.rt hret [] ?_
  exact ⟨by simp_all [isBd,bandC] <;> (intros; omega),rfl⟩
 refine au [11,11,11,11,11,25,1,11,11,11,11,25,2,3] ?_
 refine TK.rt hret [] ?_
 exact ⟨by simp_all [isBd,bandC] <;> (intros; omega),rfl⟩
theorem za5 {main:Bool} {T:Goroutine->Hp->Prop} (hT:Shut Tryz.prog main T) {gm:Nat->Option Nat} {b:RBk} {s h e i:Nat} (hr:RndOk b) (hs:SmOk b) (hi:i<b.seams.length) :
  CallK Tryz.prog T gm 106 [.agg (rollC b s h e),intA i] [(s,seamO b)] (fun r K'=>r=intA (wideM b i)/\K'=[(s,seamO b)]):=by
 refine zf 40 hT Tryz.func106 fun Y hret=>?_
 refine au [] ?_
 have h5:=hs.len
 have hst:=hr.steps
 have f0:=hs.fld 0 oQ
 have fi:=hs.fld i hi
 refine au [4,5,21] ?_
 intro jb hjb
 refine au [2,3,4,4,5,1,23,7,9,28,6,3,20] ?_
 refine ⟨fun hc0=>?_,fun hc0=>?_⟩
 ·have hlt:i+1<b.seams.length:=by simp at hc0; omega
  have fn:=hs.fld (i+1) hlt
  refine au [4] ?_
  refine TK.draw [0,1,2,3,4,5,6,7,8,9,10,11,12,13,14] [0,1,2,3,4,5,6,7,8,9,10,11,12,13,14] (by kernel_rfl) (by kernel_rfl) ?_
  refine TD.z [2] rfl (zc rfl rfl FldOf.h dQ) ?_
  refine TD.y [11] rfl (hq:=ze rfl rfl TySz.h (List.Mem.head _) rfl) (h:=?_)
  refine TD.z [1] rfl (zd rfl rfl) ?_
  refine TD.z [13] rfl (q_add rfl rfl rfl oQ) ?_
  refine TD.z [12,14] rfl (zm rfl rfl rfl SlEl.h oQ oQ) ?_
  refine TD.z [15] rfl (zc rfl rfl FldOf.h dQ) ?_
  refine TD.y [16] rfl (hq:=ze rfl rfl TySz.h (List.Mem.head _) (zG (c:=0) (sm_at (i:=i+1) b hlt rfl) dQ rfl)) (h:=?_)
  refine TD.z [2] rfl (zc rfl rfl FldOf.h dQ) ?_
  refine TD.y [18] rfl (hq:=ze rfl rfl TySz.h (List.Mem.head _) rfl) (h:=?_)
  refine TD.z [1] rfl (zd rfl rfl) ?_
  refine TD.z [19,20] rfl (zm rfl rfl rfl SlEl.h oQ oQ) ?_
  refine TD.z [21] rfl (zc rfl rfl FldOf.h dQ) ?_
  refine TD.y [22] rfl (hq:=ze rfl rfl TySz.h (List.Mem.head _) (zG (c:=0) (sm_at (i:=i) b hi rfl) dQ rfl)) (h:=?_)
  refine TD.z [17,23] rfl (q_sub rfl rfl rfl oQ) ?_
  refine TD.as (pend':=[]) [24] rfl rfl (zj rfl rfl) ?_
  refine TD.fin ?_
  refine au [] ?_
  refine TK.rt hret [(s,_)] ?_
  exact ⟨by unfold wideM; rw [if_pos hlt]; rfl,rfl⟩
 have hlt:¬ i+1<b.seams.length:=by simp at hc0; omega
 refine au [12,4] ?_
 refine TK.draw [0,1,2,3,4,5,6,7,8,9,10,11,12,13,14,15] [0,1,2,3,4,5,6,7,8,9,10,11,12,13,14,15] (by kernel_rfl) (by kernel_rfl) ?_
 refine TD.z [2] rfl (zc rfl rfl FldOf.h dQ) ?_
 refine TD.y [25] rfl (hq:=ze rfl rfl TySz.h (List.Mem.head _) rfl) (h:=?_)
 refine TD.z [26] rfl (zm rfl rfl rfl SlEl.h oQ oQ) ?_
 refine TD.z [27] rfl (zc rfl rfl FldOf.h dQ) ?_
 refine TD.y [28] rfl (hq:=ze rfl rfl TySz.h (List.Mem.head _) (zG (c:=0) (sm_at (i:=0) b oQ rfl) dQ rfl)) (h:=?_)
 refine TD.z [2] rfl (zc rfl rfl FldOf.h dQ) ?_
 refine TD.y [30] rfl (hq:=ze rfl rfl TySz.h (List.Mem.head _) rfl) (h:=?_)
 refine TD.z [29,31] rfl (q_add rfl rfl rfl oQ) ?_
 refine TD.z [2] rfl (zc rfl rfl FldOf.h dQ) ?_
 refine TD.y [33] rfl (hq:=ze rfl rfl TySz.h (List.Mem.head _) rfl) (h:=?_)
 refine TD.z [1] rfl (zd rfl rfl) ?_
 refine TD.z [34,35] rfl (zm rfl rfl rfl SlEl.h oQ oQ) ?_
 refine TD.z [36] rfl (zc rfl rfl FldOf.h dQ) ?_
 refine TD.y [37] rfl (hq:=ze rfl rfl TySz.h (List.Mem.head _) (zG (c:=0) (sm_at (i:=i) b hi rfl) dQ rfl)) (h:=?_)
 refine TD.z [32,38] rfl (q_sub rfl rfl rfl oQ) ?_
 refine TD.as (pend':=[]) [39] rfl rfl (zj rfl rfl) ?_
 refine TD.fin ?_
 refine au [] ?_
 refine TK.rt hret [(s,_)] ?_
 exact ⟨by unfold wideM; rw [if_neg hlt]; rfl,rfl⟩
theorem ze4 {main:Bool} {T:Goroutine->Hp->Prop} (hT:Shut Tryz.prog main T) {gm:Nat->Option Nat} {b:RBk} {s h e:Nat} (hr:RndOk b) (hl:b.seams.length<=100) :
  CallK Tryz.prog T gm 97 [.agg (rollC b s h e)] [(s,seamO b)] (fun r K'=>r=intA (seamsM b)/\K'=[(s,seamO b)]):=by
 refine zf 61 hT Tryz.func97 fun Y hret=>?_
 refine au [] ?_
 have hst:=hr.steps
 refine au [4,5,21] ?_
 intro jb hjb
 refine au [2,3,4,4,5,7,9,28] ?_
 refine TK.cl rfl rfl rfl rfl (zV hT) ?_
 rintro r1 K2 ⟨rfl,rfl⟩
 refine au [30,3,20] ?_
 refine ⟨fun hc0=>?_,fun hc0=>?_⟩
 ·refine au [4,5,2,3] ?_
  refine TK.rt hret [(s,_)] ?_
  simp only [Bool.not_eq_true',Bool.not_eq_false'] at hc0
  exact ⟨by simp [seamsM,hc0],rfl⟩
 simp only [Bool.not_eq_true',Bool.not_eq_false'] at hc0
 have hl5:=vu hc0
 refine au [12,4,4,5,2,3,13] ?_
 refine TK.maskL [1,2,3] ?_
 refine TK.loopN (fun n env K=>∃ (i:Nat) (last:Int),n=b.seams.length - i/\i<=b.seams.length/\seamsL b last (b.seams.drop i)=seamsM b/\(0<i->last=(sm b (i - 1)).step)/\(i=0->last = -1)/\env=[.any,.ptr jb 0,intA 0,intA i,.any,.any,.any,.any,.any,.any,.any,.any,.any,.any,.any,.any,.any,.any,.any,.any,.any,.any,.any,.any,.any,.any,.any,.any,.any,.any,.any,.any,.any,.any,.any,.any,.any,.any,.any,.any,.any,.any,.any,.any,.any,.any,.any,.any,.any,.any,.any,.any,.any,.any,.any,.any,.any,.any,.any,.any,.any]/\K=[(jb,.cells (rollC b s h e) 26 true),(s,seamO b)]) b.seams.length ⟨0,-1,rfl,Nat.zero_le _,by unfold seamsM; rw [if_neg (by rw [hc0]; decide)]; rfl,fun h=>absurd h (Nat.lt_irrefl _),fun _=>rfl,rfl,rfl⟩ fun n env K hI hnext=>?_
 obtain ⟨i,last,rfl,hi,hinv,hlast,hlast0,rfl,rfl⟩:=hI
 refine au [4,4,5,1,7,9,28,6,3,20] ?_
 refine ⟨fun hc1=>?_,fun hc1=>?_⟩
 ·have hil:i<b.seams.length:=by simp at hc1; omega
  refine au [12,4,13,4,5,7,9,1,36] ?_
  refine TK.a rfl (zx rfl rfl TySz.h mQ (sm_at (i:=i) b hil rfl)) ?_
  refine au [22] ?_
  intro jx hjx
  refine au [17,3,4,4,5,7,9,7,9,24] ?_
  refine TK.cl rfl rfl rfl rfl (zV hT) ?_
  rintro r4 K5 ⟨rfl,rfl⟩
  refine au [30,1] ?_
  refine TK.sp 29 (fun g7_8=>?_) (fun g7_8=>?_)
  ·refine au [11,11,11,11,26,1,11,11,11,11,26,1,11,11,11,11,26,3,18,4,5,2,3] ?_
   refine TK.rt hret [(s,_)] ?_
   exact ⟨by rw [<- hinv,zl (z7 hil),seamsL,if_pos (by simp only [Bool.not_eq_true',Bool.not_eq_false'] at g7_8; simp [seamB,g7_8])],rfl⟩
  refine au [7,9] ?_
  refine TK.cl rfl rfl rfl rfl (zV hT) ?_
  rintro r7 K8 ⟨rfl,rfl⟩
  refine au [30,25,1] ?_
  refine TK.sp 35 (fun g7_14=>?_) (fun g7_14=>?_)
  ·refine au [11,11,11,11,26,1,11,11,11,11,26,3,18,4,5,2,3] ?_
   refine TK.rt hret [(s,_)] ?_
   exact ⟨by rw [<- hinv,zl (z7 hil),seamsL,if_pos (by simp only [Bool.not_eq_true',Bool.not_eq_false'] at g7_8 g7_14; simp [seamB,g7_8,g7_14])],rfl⟩
  refine au [7,9] ?_
  refine TK.cl rfl rfl rfl rfl (zV hT) ?_
  rintro r10 K11 ⟨rfl,rfl⟩
  refine au [30,25,1] ?_
  refine TK.sp 41 (fun g7_20=>?_) (fun g7_20=>?_)
  ·refine au [11,11,11,11,26,3,18,4,5,2,3] ?_
   refine TK.rt hret [(s,_)] ?_
   exact ⟨by rw [<- hinv,zl (z7 hil),seamsL,if_pos (by simp only [Bool.not_eq_true',Bool.not_eq_false'] at g7_8 g7_14 g7_20; simp [seamB,g7_8,g7_14,g7_20])],rfl⟩
  refine au [7,9] ?_
  refine TK.cl rfl rfl rfl rfl (zV hT) ?_
  rintro r13 K14 ⟨rfl,rfl⟩
  refine au [30,25,3,20] ?_
  refine ⟨fun hc2=>?_,fun hc2=>?_⟩
  ·refine au [4,5,2,3] ?_
   refine TK.rt hret [(s,_)] ?_
   exact ⟨by rw [<- hinv,zl (z7 hil),seamsL,if_pos (by simp only [Bool.not_eq_true',Bool.not_eq_false'] at g7_8 g7_14 g7_20 hc2; simp [seamB,g7_8,g7_14,g7_20,hc2])],rfl⟩
  have hsb:seamB b (sm b i)=true:=by simp only [Bool.not_eq_true',Bool.not_eq_false'] at g7_8 g7_14 g7_20 hc2; simp [seamB,g7_8,g7_14,g7_20,hc2]
  refine au [12,4] ?_
  refine TK.draw [0,1,2,3,4,5,6,7,8,9,10,11,12,13] [0,1,2,3,4,5,6,7,8,9,10,11,12,13] (by kernel_rfl) (by kernel_rfl) ?_
  refine TD.z [3] rfl (zd rfl rfl) ?_
  refine TD.z [47] rfl (q_cmp rfl rfl rfl rfl) ?_
  refine TD.z [48] rfl (zd rfl rfl) ?_
  refine TD.sp 49 (fun g9_3=>?_) (fun g9_3=>?_)
  ·have hi0:0<i:=by simp at g9_3; omega
   refine TD.z [4,49] rfl (zc rfl rfl FldOf.h dQ) ?_
   refine TD.y [49,50] rfl (hq:=ze rfl rfl TySz.h (List.Mem.head _) rfl) (h:=?_)
   refine TD.z [1,49] rfl (zc rfl rfl FldOf.h dQ) ?_
   refine TD.y [49,52] rfl (hq:=ze rfl rfl TySz.h (List.Mem.head _) rfl) (h:=?_)
   refine TD.z [3,49] rfl (zd rfl rfl) ?_
   refine TD.z [49,54] rfl (q_sub rfl rfl rfl oQ) ?_
   refine TD.z [49,53,55] rfl (zm rfl rfl rfl SlEl.h oQ oQ) ?_
   refine TD.z [49,56] rfl (zc rfl rfl FldOf.h dQ) ?_
   refine TD.y [49,57] rfl (hq:=ze rfl rfl TySz.h (List.Mem.head _) (zG (c:=0) (sm_at (i:=i - 1) b oQ oQ) dQ rfl)) (h:=?_)
   refine TD.z [49,51,58] rfl (q_cmp rfl rfl rfl rfl) ?_
   refine TD.z [49,59] rfl (z6 rfl rfl rfl) ?_
   refine TD.fin ?_
   refine au [20] ?_
   refine ⟨fun hc3=>?_,fun hc3=>?_⟩
   ·refine au [4,5,2,3] ?_
    refine TK.rt hret [(s,_)] ?_
    exact ⟨by rw [<- hinv,zl (z7 hil),seamsL,if_neg (by rw [hsb]; decide),if_pos (by rw [hlast (by simp at g9_3; omega)]; exact of_decide_eq_true hc3)],rfl⟩
   refine au [12,14,5,1,23,2,3] ?_
   refine TK.maskL [1,2,3] ?_
   refine TK.kp [(jb,_),(s,_)] ?_
   exact hnext _ _ _ oQ ⟨i+1,(sm b i).step,rfl,by omega,by rw [<- hinv,zl (z7 hil),seamsL,if_neg (by rw [hsb]; decide),if_neg (by rw [hlast (by simp at g9_3; omega)]; exact of_decide_eq_false hc3)],fun _=>rfl,fun h=>by omega,rfl,rfl⟩
  refine TD.u [4,49] rfl ?_
  refine TD.u [49,50] rfl ?_
  refine TD.u [1,49] rfl ?_
  refine TD.u [49,52] rfl ?_
  refine TD.u [3,49] rfl ?_
  refine TD.u [49,54] rfl ?_
  refine TD.u [49,53,55] rfl ?_
  refine TD.u [49,56] rfl ?_
  refine TD.u [49,57] rfl ?_
  refine TD.u [49,51,58] rfl ?_
  refine TD.z [49,59] rfl (zE rfl rfl rfl) ?_
  refine TD.fin ?_
  refine au [19,12,14,5,1,23,2,3] ?_
  refine TK.maskL [1,2,3] ?_
  refine TK.kp [(jb,_),(s,_)] ?_
  exact hnext _ _ _ oQ ⟨i+1,(sm b i).step,rfl,by omega,by have h0:=(zdm hsb).1; rw [<- hinv,zl (z7 hil),seamsL,if_neg (by rw [hsb]; decide),if_neg (by rw [hlast0 (by simp at g9_3; omega)]; omega)],fun _=>rfl,fun h=>by omega,rfl,rfl⟩
 obtain rfl:i=b.seams.length:=by simp at hc1; omega
 refine au [16,4,5,2,3] ?_
 refine TK.rt hret [(s,_)] ?_
 exact ⟨by rw [<- hinv,List.drop_length]; rfl,rfl⟩
theorem zdF {main:Bool} {T:Goroutine->Hp->Prop} (hT:Shut Tryz.prog main T) {gm:Nat->Option Nat} {b:RBk} {s h e:Nat} (hr:RndOk b) (hs:SmOk b) (hm:b.measures.length<=100) :
  CallK Tryz.prog T gm 98 [.agg (rollC b s h e)] [(s,seamO b),(h,shrO b),(e,measO b)] (fun r K'=>r=intA (if clothsM b≠0 then clothsM b else measM b)/\K'=[(s,seamO b),(h,shrO b),(e,measO b)]):=by
 refine zf 80 hT Tryz.func98 fun Y hret=>?_
 refine au [] ?_
 have hst:=hr.steps
 have hl5:=hs.len
 refine au [4,5,21] ?_
 intro jb hjb
 refine au [2,3,4,4,5,7,9,28,7,9,28,6,3,20] ?_
 refine ⟨fun hc0=>?_,fun hc0=>?_⟩
 ·refine au [4,5,2,3] ?_
  refine TK.rt hret [(s,_),(h,_),(e,_)] ?_
  exact ⟨by rw [show clothsM b=2 by unfold clothsM; rw [if_pos (by simp at hc0; omega)]]; rfl,rfl⟩
 have hle:b.shrinks.length=b.seams.length:=by simp at hc0; omega
 refine au [12,4,4,5,2,3,13] ?_
 refine TK.maskL [1,2,3] ?_
 refine TK.loopN (fun n env K=>∃ (i:Nat),n=b.shrinks.length - i/\i<=b.shrinks.length/\clothsL b i (b.shrinks.drop i)=clothsM b/\env=[.any,.ptr jb 0,intA 0,intA i,.any,.any,.any,.any,.any,.any,.any,.any,.any,.any,.any,.any,.any,.any,.any,.any,.any,.any,.any,.any,.any,.any,.any,.any,.any,.any,.any,.any,.any,.any,.any,.any,.any,.any,.any,.any,.any,.any,.any,.any,.any,.any,.any,.any,.any,.any,.any,.any,.any,.any,.any,.any,.any,.any,.any,.any,.any,.any,.any,.any,.any,.any,.any,.any,.any,.any,.any,.any,.any,.any,.any,.any,.any,.any,.any,.any]/\K=[(jb,.cells (rollC b s h e) 26 true),(s,seamO b),(h,shrO b),(e,measO b)]) b.shrinks.length ⟨0,rfl,Nat.zero_le _,by unfold clothsM; rw [if_neg (by simpa using hle)]; rfl,rfl,rfl⟩ fun n env K hI hnext=>?_
 obtain ⟨i,rfl,hi,hinv,rfl,rfl⟩:=hI
 refine au [4,4,5,1,7,9,28,6,3,20] ?_
 refine ⟨fun hc1=>?_,fun hc1=>?_⟩
 ·have hil:i<b.shrinks.length:=by simp at hc1; omega
  refine au [12,4,13,4,5,7,9,1,36] ?_
  refine TK.a rfl (zx rfl rfl TySz.h mQ (bd_at (i:=i) b hil rfl)) ?_
  refine au [22] ?_
  intro jx hjx
  refine au [17,3,4,4,5,8] ?_
  refine TK.cl rfl rfl rfl rfl (zdN hT (x:=bd b i)) ?_
  rintro r1 K2 ⟨rfl,rfl⟩
  refine au [30,1] ?_
  refine TK.sp 29 (fun g7_4=>?_) (fun g7_4=>?_)
  ·refine au [11,11,11,11,11,11,26,3,18,4,5,2,3] ?_
   refine TK.rt hret [(s,_),(h,_),(e,_)] ?_
   exact ⟨by rw [show clothsM b=1 by rw [<- hinv,zl (yA hil),clothsL,if_pos (by simp at g7_4; simp [bandB,g7_4])]]; rfl,rfl⟩
  have hbd:0<=(bd b i).low/\(bd b i).low<=(bd b i).high/\(bd b i).high<=5:=by simp [isBd] at g7_4; omega
  refine au [7,9,7,9,24,6,25,3,20] ?_
  refine ⟨fun hc2=>?_,fun hc2=>?_⟩
  ·refine au [4,5,2,3] ?_
   refine TK.rt hret [(s,_),(h,_),(e,_)] ?_
   exact ⟨by rw [show clothsM b=1 by rw [<- hinv,zl (yA hil),clothsL,if_pos (by simp at g7_4 hc2; simp [bandB,g7_4] <;> omega)]]; rfl,rfl⟩
  have hbb:bandB (bd b i)=true:=by simp at g7_4 hc2; simp [bandB,g7_4]; omega
  refine au [12,4] ?_
  refine TK.draw [0,1,2,3,4,5] [0,1,2,3,4,5] (by kernel_rfl) (by kernel_rfl) ?_
  refine TD.z [4] rfl (zc rfl rfl FldOf.h dQ) ?_
  refine TD.y [37] rfl (hq:=ze rfl rfl TySz.h (List.Mem.head _) rfl) (h:=?_)
  refine TD.y [1] rfl (hq:=zx rfl rfl TySz.h (List.Mem.head _) rfl) (h:=?_)
  refine TD.z [3] rfl (zd rfl rfl) ?_
  refine TD.cl (pend':=[⟨1,[37],[(_,_)]⟩,⟨0,[4],[]⟩]) [39,40] rfl rfl rfl rfl rfl (za5 hT (i:=i) hr hs oQ) (fun r4 K5 h6=>⟨?_,?_⟩)
  ·rcases h6 with ⟨rfl,rfl⟩
   all_goals simp
  obtain ⟨rfl,rfl⟩:=h6
  try simp only [List.cons_append,List.nil_append]
  refine TD.norm (by simp only [List.set]; rfl) ?_
  refine TD.z [38,41] rfl (q_cmp rfl rfl rfl rfl) ?_
  refine TD.fin ?_
  refine au [20] ?_
  refine ⟨fun hc3=>?_,fun hc3=>?_⟩
  ·refine au [4,5,2,3] ?_
   refine TK.rt hret [(s,_),(h,_),(e,_)] ?_
   exact ⟨by rw [show clothsM b=8 by rw [<- hinv,zl (yA hil),clothsL,if_neg (by rw [hbb]; decide),if_pos (of_decide_eq_true hc3)]]; rfl,rfl⟩
  refine au [12,14,5,1,23,2,3] ?_
  refine TK.maskL [1,2,3] ?_
  refine TK.kp [(jb,_),(s,_),(h,_),(e,_)] ?_
  exact hnext _ _ _ oQ ⟨i+1,rfl,by omega,by rw [<- hinv,zl (yA hil),clothsL,if_neg (by rw [hbb]; decide),if_neg (of_decide_eq_false hc3)],rfl,rfl⟩
 obtain rfl:i=b.shrinks.length:=by simp at hc1; omega
 have hcl:clothsM b=0:=by rw [<- hinv,List.drop_length]; rfl
 refine au [16,4,4,5,7,9,28,6,3,20] ?_
 refine ⟨fun hc4=>?_,fun hc4=>?_⟩
 ·refine au [4,5,2,3] ?_
  refine TK.rt hret [(s,_),(h,_),(e,_)] ?_
  exact ⟨by rw [if_neg (fun h=>h hcl),show measM b=2 by unfold measM; rw [if_pos (by simp at hc4; omega)]],rfl⟩
 refine au [12,4,4,5,2,3,13] ?_
 refine TK.maskL [1,2,5] ?_
 refine TK.loopN (fun n env K=>∃ (i:Nat),n=b.measures.length - i/\i<=b.measures.length/\measL b (b.measures.drop i)=measM b/\env=[.any,.ptr jb 0,intA 0,.any,.any,intA i,.any,.any,.any,.any,.any,.any,.any,.any,.any,.any,.any,.any,.any,.any,.any,.any,.any,.any,.any,.any,.any,.any,.any,.any,.any,.any,.any,.any,.any,.any,.any,.any,.any,.any,.any,.any,.any,.any,.any,.any,.any,.any,.any,.any,.any,.any,.any,.any,.any,.any,.any,.any,.any,.any,.any,.any,.any,.any,.any,.any,.any,.any,.any,.any,.any,.any,.any,.any,.any,.any,.any,.any,.any,.any]/\K=[(jb,.cells (rollC b s h e) 26 true),(s,seamO b),(h,shrO b),(e,measO b)]) b.measures.length ⟨0,rfl,Nat.zero_le _,by unfold measM; rw [if_neg (by simp at hc4; omega)]; rfl,rfl,rfl⟩ fun n env K hI hnext=>?_
 obtain ⟨i,rfl,hi,hinv2,rfl,rfl⟩:=hI
 refine au [4,4,5,1,7,9,28,6,3,20] ?_
 refine ⟨fun hc5=>?_,fun hc5=>?_⟩
 ·have hil:i<b.measures.length:=by simp at hc5; omega
  obtain ⟨x,hg⟩:∃ x,b.measures[i]? =some x:=⟨_,List.getElem?_eq_getElem hil⟩
  refine au [12,4,13,4,5,7,9,1,36] ?_
  refine TK.a rfl (zx rfl rfl TySz.h mQ (xE (i:=i) hg rfl)) ?_
  refine au [22] ?_
  intro jy hjy
  refine au [17,3,4,4,5,7,9,7,9,28,24] ?_
  refine TK.cl rfl rfl rfl rfl (zV hT) ?_
  rintro r7 K8 ⟨rfl,rfl⟩
  refine au [30,3,20] ?_
  refine ⟨fun hc6=>?_,fun hc6=>?_⟩
  ·refine au [4,5,2,3] ?_
   refine TK.rt hret [(s,_),(h,_),(e,_)] ?_
   exact ⟨by rw [if_neg (fun h=>h hcl),<- hinv2,zl hg,measL,if_pos (by simp at hc6; simp [thereM,hc6]),show thereM b x.cloth=6 by simp at hc6; simp [thereM,hc6]],rfl⟩
  refine au [12,4,5,7,9,7,9,28] ?_
  refine TK.cl rfl rfl rfl rfl (zV hT) ?_
  rintro r10 K11 ⟨rfl,rfl⟩
  refine au [30,1] ?_
  refine TK.sp 74 (fun g19_8=>?_) (fun g19_8=>?_)
  ·refine au [11,11,11,11,26,3,18,4,5,2,3] ?_
   refine TK.rt hret [(s,_),(h,_),(e,_)] ?_
   exact ⟨by rw [if_neg (fun h=>h hcl),<- hinv2,zl hg,measL,if_neg (by simp at hc6; simp [thereM,hc6]),if_pos (by simp at g19_8; simp [measB,g19_8])],rfl⟩
  refine au [7,9] ?_
  refine TK.cl rfl rfl rfl rfl (zV hT) ?_
  rintro r13 K14 ⟨rfl,rfl⟩
  refine au [30,25,3,20] ?_
  refine ⟨fun hc7=>?_,fun hc7=>?_⟩
  ·refine au [4,5,2,3] ?_
   refine TK.rt hret [(s,_),(h,_),(e,_)] ?_
   exact ⟨by rw [if_neg (fun h=>h hcl),<- hinv2,zl hg,measL,if_neg (by simp at hc6; simp [thereM,hc6]),if_pos (by simp at g19_8 hc7; simp [measB,g19_8,hc7])],rfl⟩
  refine au [12,14,5,1,23,2,3] ?_
  refine TK.maskL [1,2,5] ?_
  refine TK.kp [(jb,_),(s,_),(h,_),(e,_)] ?_
  exact hnext _ _ _ oQ ⟨i+1,rfl,by omega,by rw [<- hinv2,zl hg,measL,if_neg (by simp at hc6; simp [thereM,hc6]),if_neg (by simp at g19_8 hc7; simp [measB,g19_8,hc7])],rfl,rfl⟩
 obtain rfl:i=b.measures.length:=by simp at hc5; omega
 refine au [16,4,5,2,3] ?_
 refine TK.rt hret [(s,_),(h,_),(e,_)] ?_
 exact ⟨by rw [if_neg (fun h=>h hcl),<- hinv2,List.drop_length]; rfl,rfl⟩
theorem zeh {main:Bool} {T:Goroutine->Hp->Prop} (hT:Shut Tryz.prog main T) {gm:Nat->Option Nat} {b:RBk} {s h e:Nat} (hl:b.seams.length<=100) (hm:b.measures.length<=100) :
  CallK Tryz.prog T gm 25 [.agg (rollC b s h e)] [(s,seamO b),(h,shrO b),(e,measO b)] (fun r K'=>r=intA (checkM b)/\K'=[(s,seamO b),(h,shrO b),(e,measO b)]):=by
 refine zf 35 hT Tryz.func25 fun Y hret=>?_
 refine au [4,5,21] ?_
 intro jb hjb
 refine au [2,3,4,4,5,7,9] ?_
 refine TK.cl rfl rfl rfl rfl (zV hT) ?_
 rintro r1 K2 ⟨rfl,rfl⟩
 refine au [30,1] ?_
 refine TK.sp 8 (fun g1_5=>?_) (fun g1_5=>?_)
 ·refine au [11,11,11,11,11,11,26,1,11,11,11,11,26,1,11,11,11,11,26,3,18,4,5,2,3] ?_
  refine TK.rt hret [(s,_),(h,_),(e,_)] ?_
  simp only [Bool.not_eq_true',Bool.not_eq_false'] at g1_5
  exact ⟨by rw [show checkM b=1 by unfold checkM; rw [if_pos (by rw [show roundsM b=1 by simp [roundsM,g1_5]]; decide)]; simp [roundsM,g1_5]],rfl⟩
 refine au [7,9,7,9] ?_
 refine TK.cl rfl rfl rfl rfl (zV hT) ?_
 rintro r4 K5 ⟨rfl,rfl⟩
 refine au [30,25,1] ?_
 refine TK.sp 16 (fun g1_13=>?_) (fun g1_13=>?_)
 ·refine au [11,11,11,11,26,1,11,11,11,11,26,3,18,4,5,2,3] ?_
  refine TK.rt hret [(s,_),(h,_),(e,_)] ?_
  simp only [Bool.not_eq_true',Bool.not_eq_false'] at g1_5 g1_13
  exact ⟨by rw [show checkM b=1 by unfold checkM; rw [if_pos (by rw [show roundsM b=1 by simp [roundsM,g1_5,g1_13]]; decide)]; simp [roundsM,g1_5,g1_13]],rfl⟩
 refine au [7,9] ?_
 refine TK.cl rfl rfl rfl rfl (zV hT) ?_
 rintro r7 K8 ⟨rfl,rfl⟩
 refine au [30,25,1] ?_
 refine TK.sp 22 (fun g1_19=>?_) (fun g1_19=>?_)
 ·refine au [11,11,11,11,26,3,18,4,5,2,3] ?_
  refine TK.rt hret [(s,_),(h,_),(e,_)] ?_
  simp only [Bool.not_eq_true',Bool.not_eq_false'] at g1_5 g1_13 g1_19
  exact ⟨by rw [show checkM b=1 by unfold checkM; rw [if_pos (by rw [show roundsM b=1 by simp [roundsM,g1_5,g1_13,g1_19]]; decide)]; simp [roundsM,g1_5,g1_13,g1_19]],rfl⟩
 refine au [7,9] ?_
 refine TK.cl rfl rfl rfl rfl (zV hT) ?_
 rintro r10 K11 ⟨rfl,rfl⟩
 refine au [30,25,3,20] ?_
 refine ⟨fun hc0=>?_,fun hc0=>?_⟩
 ·refine au [4,5,2,3] ?_
  refine TK.rt hret [(s,_),(h,_),(e,_)] ?_
  simp only [Bool.not_eq_true',Bool.not_eq_false'] at g1_5 g1_13 g1_19 hc0
  exact ⟨by rw [show checkM b=1 by unfold checkM; rw [if_pos (by rw [show roundsM b=1 by simp [roundsM,g1_5,g1_13,g1_19,hc0]]; decide)]; simp [roundsM,g1_5,g1_13,g1_19,hc0]],rfl⟩
 simp only [Bool.not_eq_true',Bool.not_eq_false'] at g1_5 g1_13 g1_19 hc0
 have hr0:roundsM b=0:=by simp [roundsM,g1_5,g1_13,g1_19,hc0]
 have hr:=vV hr0
 refine au [12,4,4,5,8] ?_
 refine TK.cl rfl rfl rfl rfl (ze4 hT hr hl) ?_
 rintro r13 K14 ⟨rfl,rfl⟩
 refine au [2,3,4,5,1,6,3,20] ?_
 refine ⟨fun hc1=>?_,fun hc1=>?_⟩
 ·refine au [4,5,1,2,3] ?_
  refine TK.rt hret [(s,_),(h,_),(e,_)] ?_
  exact ⟨by unfold checkM; rw [if_neg (by simpa using hr0),if_pos (by simpa using hc1)],rfl⟩
 have hs0:seamsM b=0:=by simpa using hc1
 have hs:=uJ hs0
 refine au [12,4,5,8] ?_
 refine TK.cl rfl rfl rfl rfl (zdF hT hr hs hm) ?_
 rintro r16 K17 ⟨rfl,rfl⟩
 refine au [2,3] ?_
 refine TK.rt hret [(s,_),(h,_),(e,_)] ?_
 exact ⟨by rw [show checkM b=(if clothsM b≠0 then clothsM b else measM b) by unfold checkM; rw [if_neg (by simpa using hr0),if_neg (by simpa using hs0)]],rfl⟩
theorem zhQ {main:Bool} {T:Goroutine->Hp->Prop} (hT:Shut Tryz.prog main T) {gm:Nat->Option Nat} {b:RBk} {s h e:Nat} :
  CallK Tryz.prog T gm 49 [.agg (rollC b s h e)] [(s,seamO b),(h,shrO b),(e,measO b)] (fun r K'=>r=boolA (!greatM b&&decide (checkM b=0))/\K'=[(s,seamO b),(h,shrO b),(e,measO b)]):=by
 refine zf 11 hT Tryz.func49 fun Y hret=>?_
 refine au [4,5,21] ?_
 intro jb hjb
 refine au [2,3,4,5,8] ?_
 refine TK.cl rfl rfl rfl rfl (zfL hT) ?_ (hs:=(.none _))
 rintro r1 K2 ⟨rfl,rfl⟩
 refine au [30,1] ?_
 refine TK.sp 6 (fun g1_4=>?_) (fun g1_4=>?_)
 ·refine au [8] ?_
  refine TK.cl rfl rfl rfl rfl (zeh hT (by simp [greatM] at g1_4; omega) (by simp [greatM] at g1_4; omega)) ?_
  rintro r4 K5 ⟨rfl,rfl⟩
  refine au [6,26,2,3] ?_
  refine TK.rt hret [(s,_),(h,_),(e,_)] ?_
  exact ⟨by simp at g1_4; rw [g1_4]; simp; rfl,rfl⟩
 refine au [11,11,11,25,2,3] ?_
 refine TK.rt hret [(s,_),(h,_),(e,_)] ?_
 exact ⟨by simp at g1_4; rw [g1_4]; rfl,rfl⟩
end Go.Vel
end
