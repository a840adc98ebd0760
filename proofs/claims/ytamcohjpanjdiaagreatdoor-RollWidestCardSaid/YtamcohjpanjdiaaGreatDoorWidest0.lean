/- The law RollWidest: in the round of Widest the canvas surely can be hung by some cuts, in each wider one by none; there is one just if it can be in the old round's width. It holds of every program, tape and world that the statements name, as each theorem says. -/
import Derived.Test.YtamcohjpanjdiaaGreatDoorK7
import Derived.Test.YtamcohjpanjdiaaGreatDoorK8
import Derived.Test.YtamcohjpanjdiaaGreatDoorK10
section
set_option linter.all false
set_option maxRecDepth 20000
set_option maxHeartbeats 60000000
open Go.Proofs.Tryz renaming prog -> tp
open List renaming getElem?_eq_getElem -> lA, length_cons -> lZ
open List.Mem renaming head -> mC
open Nat renaming zero_le -> mN
open Bool renaming and_eq_true -> mX
namespace Go.Vel
open Go Go.Conc Go.Proofs
instance:EqG tp 49:={}
instance:EqG tp 94:={}
instance:FlatF tp 49 [(3,0),(3,1),(3,2)]:={}
instance:FlatF tp 94 [(3,0),(3,1),(3,2),(3,3),(4,4)]:={}
instance:Und tp 4 .bool:={}
theorem jD {main T} (hT:zo tp main T) {gm} {b:RBk} {s h e s2 h2 e2:Nat} (hl:b.seams.length<=100) (hl2:b.shrinks.length<=100) (hl3:b.measures.length<=100) :
  zA tp T gm 44 [.agg (zE b s h e),.agg (zE b s2 h2 e2)] [(s,zk b),(h,zB b),(e,zq b),(s2,zk b),(h2,zB b),(e2,zq b)] (fun r K'=>r=zP true/\K'=[(s,zk b),(h,zB b),(e,zq b),(s2,zk b),(h2,zB b),(e2,zq b)]):=by
 refine zp 115 hT Tryz.func44 fun Y hret=>?_
 refine au [4,5,21] ?_
 intro jb hjb
 refine au [21] ?_
 intro jc hjc
 refine au [2,3,4,4,5,7,9,7,9,6,1] ?_
 refine TK.sp 13 (fun g1_6=>?_) (fun g1_6=>?_)
 ·simp at g1_6
 refine au [7,9,7,9,6,25,1] ?_
 refine TK.sp 20 (fun g1_13=>?_) (fun g1_13=>?_)
 ·simp at g1_13
 refine au [7,9,7,9,6,25,1] ?_
 refine TK.sp 27 (fun g1_20=>?_) (fun g1_20=>?_)
 ·simp at g1_20
 refine au [7,9,7,9,6,25,1] ?_
 refine TK.sp 34 (fun g1_27=>?_) (fun g1_27=>?_)
 ·simp at g1_27
 refine au [7,9,28,7,9,28,6,25,1] ?_
 refine TK.sp 43 (fun g1_36=>?_) (fun g1_36=>?_)
 ·simp at g1_36
 refine au [7,9,28,7,9,28,6,25,1] ?_
 refine TK.sp 52 (fun g1_45=>?_) (fun g1_45=>?_)
 ·simp at g1_45
 refine au [7,9,28,7,9,28,6,25,3,20] ?_
 refine ⟨fun hc0=>?_,fun hc0=>?_⟩
 ·simp at hc0
 refine au [12,4,4,5,2,3,13] ?_
 refine TK.maskL [2,3,4,5] ?_
 refine TK.kp [(jb,_),(jc,_),(s,_),(h,_),(e,_),(s2,_),(h2,_),(e2,_)] ?_
 refine TK.loopN (fun n env K=>∃ (i:Nat),n=b.seams.length - i/\i<=b.seams.length/\env=naL 2 (.ptr jb 0::.ptr jc 0::zP false::intA i::naL 109 [])/\K=[(jb,.cells (zE b s h e) 26 true),(jc,.cells (zE b s2 h2 e2) 26 true),(s,zk b),(h,zB b),(e,zq b),(s2,zk b),(h2,zB b),(e2,zq b)]) b.seams.length ⟨0,rfl,mN _,rfl,rfl⟩ fun n env K hI hnext=>?_
 obtain ⟨i,rfl,hi,rfl,rfl⟩:=hI
 refine TK.na nQ ?_
 refine au [4,4,5,1,7,9,28,6,3,20] ?_
 refine ⟨fun hc1=>?_,fun hc1=>?_⟩
 ·have hil:i<b.seams.length:=by simp at hc1; omega
  obtain ⟨x,hx⟩:∃ x,b.seams[i]? =some x:=⟨_,lA hil⟩
  refine au [12,4,13,4] ?_
  refine TK.draw [0,1,2,3,4,5,6,7,8,9,10] [0,1,2,3,4,5,6,7,8,9,10] (by kernel_rfl) (by kernel_rfl) ?_
  refine TD.z [2] Z (zg Z Z zl.h dQ) ?_
  refine TD.y [68] Z (hq:=zm Z Z zi.h (mC _) Z) (h:=?_)
  refine TD.z [5] Z (zh Z Z) ?_
  refine TD.z [69,70] Z (zQ Z Z Z zF.h oQ oQ) ?_
  refine TD.y [71] Z (hq:=z8 Z Z zi.h (mC _) (w9 (c:=5) (f:=seamC) (fun _=>rfl) hx rfl dQ)) (h:=?_)
  refine TD.z [3] Z (zg Z Z zl.h dQ) ?_
  refine TD.y [73] Z (hq:=zm Z Z zi.h (mC _) Z) (h:=?_)
  refine TD.z [5] Z (zh Z Z) ?_
  refine TD.z [74,75] Z (zQ Z Z Z zF.h oQ oQ) ?_
  refine TD.y [76] Z (hq:=z8 Z Z zi.h (mC _) (w9 (c:=5) (f:=seamC) (fun _=>rfl) hx rfl dQ)) (h:=?_)
  refine TD.z [72,77] Z (uO Z Z Z Z Z FlatF.h EqG.h) ?_
  refine TD.fin ?_
  refine au [20] ?_
  refine ⟨fun hc2=>?_,fun hc2=>?_⟩
  ·simp at hc2
  refine au [12,14,5,1,23,2,3] ?_
  refine TK.maskL [2,3,4,5] ?_
  refine TK.kp [(jb,_),(jc,_),(s,_),(h,_),(e,_),(s2,_),(h2,_),(e2,_)] ?_
  exact hnext _ _ _ oQ ⟨i+1,rfl,by omega,rfl,rfl⟩
 obtain rfl:i=b.seams.length:=by simp at hc1; omega
 refine au [16,4,4,5,2,3,13] ?_
 refine TK.maskL [2,3,4,6] ?_
 refine TK.kp [(jb,_),(jc,_),(s,_),(h,_),(e,_),(s2,_),(h2,_),(e2,_)] ?_
 refine TK.loopN (fun n env K=>∃ (i:Nat),n=b.shrinks.length - i/\i<=b.shrinks.length/\env=naL 2 (.ptr jb 0::.ptr jc 0::zP false::.any::intA i::naL 108 [])/\K=[(jb,.cells (zE b s h e) 26 true),(jc,.cells (zE b s2 h2 e2) 26 true),(s,zk b),(h,zB b),(e,zq b),(s2,zk b),(h2,zB b),(e2,zq b)]) b.shrinks.length ⟨0,rfl,mN _,rfl,rfl⟩ fun n env K hI hnext=>?_
 obtain ⟨i,rfl,hi,rfl,rfl⟩:=hI
 refine TK.na nQ ?_
 refine au [4,4,5,1,7,9,28,6,3,20] ?_
 refine ⟨fun hc3=>?_,fun hc3=>?_⟩
 ·have hil:i<b.shrinks.length:=by simp at hc3; omega
  obtain ⟨x,hx⟩:∃ x,b.shrinks[i]? =some x:=⟨_,lA hil⟩
  refine au [12,4,13,4] ?_
  refine TK.draw [0,1,2,3,4,5,6,7,8,9,10] [0,1,2,3,4,5,6,7,8,9,10] (by kernel_rfl) (by kernel_rfl) ?_
  refine TD.z [2] Z (zg Z Z zl.h dQ) ?_
  refine TD.y [86] Z (hq:=zm Z Z zi.h (mC _) Z) (h:=?_)
  refine TD.z [6] Z (zh Z Z) ?_
  refine TD.z [87,88] Z (zQ Z Z Z zF.h oQ oQ) ?_
  refine TD.y [89] Z (hq:=z8 Z Z zi.h (mC _) (w9 (c:=2) (f:=bandC) (fun _=>rfl) hx rfl dQ)) (h:=?_)
  refine TD.z [3] Z (zg Z Z zl.h dQ) ?_
  refine TD.y [91] Z (hq:=zm Z Z zi.h (mC _) Z) (h:=?_)
  refine TD.z [6] Z (zh Z Z) ?_
  refine TD.z [92,93] Z (zQ Z Z Z zF.h oQ oQ) ?_
  refine TD.y [94] Z (hq:=z8 Z Z zi.h (mC _) (w9 (c:=2) (f:=bandC) (fun _=>rfl) hx rfl dQ)) (h:=?_)
  refine TD.z [90,95] Z (uO Z Z Z Z Z FlatF.h EqG.h) ?_
  refine TD.fin ?_
  refine au [20] ?_
  refine ⟨fun hc4=>?_,fun hc4=>?_⟩
  ·simp at hc4
  refine au [12,14,5,1,23,2,3] ?_
  refine TK.maskL [2,3,4,6] ?_
  refine TK.kp [(jb,_),(jc,_),(s,_),(h,_),(e,_),(s2,_),(h2,_),(e2,_)] ?_
  exact hnext _ _ _ oQ ⟨i+1,rfl,by omega,rfl,rfl⟩
 obtain rfl:i=b.shrinks.length:=by simp at hc3; omega
 refine au [16,4,4,5,2,3,13] ?_
 refine TK.maskL [2,3,4,7] ?_
 refine TK.kp [(jb,_),(jc,_),(s,_),(h,_),(e,_),(s2,_),(h2,_),(e2,_)] ?_
 refine TK.loopN (fun n env K=>∃ (i:Nat),n=b.measures.length - i/\i<=b.measures.length/\env=naL 2 (.ptr jb 0::.ptr jc 0::zP false::naL 2 (intA i::naL 107 []))/\K=[(jb,.cells (zE b s h e) 26 true),(jc,.cells (zE b s2 h2 e2) 26 true),(s,zk b),(h,zB b),(e,zq b),(s2,zk b),(h2,zB b),(e2,zq b)]) b.measures.length ⟨0,rfl,mN _,rfl,rfl⟩ fun n env K hI hnext=>?_
 obtain ⟨i,rfl,hi,rfl,rfl⟩:=hI
 refine TK.na nQ ?_
 refine au [4,4,5,1,7,9,28,6,3,20] ?_
 refine ⟨fun hc5=>?_,fun hc5=>?_⟩
 ·have hil:i<b.measures.length:=by simp at hc5; omega
  obtain ⟨x,hx⟩:∃ x,b.measures[i]? =some x:=⟨_,lA hil⟩
  refine au [12,4,13,4] ?_
  refine TK.draw [0,1,2,3,4,5,6,7,8,9,10] [0,1,2,3,4,5,6,7,8,9,10] (by kernel_rfl) (by kernel_rfl) ?_
  refine TD.z [2] Z (zg Z Z zl.h dQ) ?_
  refine TD.y [104] Z (hq:=zm Z Z zi.h (mC _) Z) (h:=?_)
  refine TD.z [7] Z (zh Z Z) ?_
  refine TD.z [105,106] Z (zQ Z Z Z zF.h oQ oQ) ?_
  refine TD.y [107] Z (hq:=z8 Z Z zi.h (mC _) (w9 (c:=3) (f:=measC) (fun _=>rfl) hx rfl dQ)) (h:=?_)
  refine TD.z [3] Z (zg Z Z zl.h dQ) ?_
  refine TD.y [109] Z (hq:=zm Z Z zi.h (mC _) Z) (h:=?_)
  refine TD.z [7] Z (zh Z Z) ?_
  refine TD.z [110,111] Z (zQ Z Z Z zF.h oQ oQ) ?_
  refine TD.y [112] Z (hq:=z8 Z Z zi.h (mC _) (w9 (c:=3) (f:=measC) (fun _=>rfl) hx rfl dQ)) (h:=?_)
  refine TD.z [108,113] Z (uO Z Z Z Z Z FlatF.h EqG.h) ?_
  refine TD.fin ?_
  refine au [20] ?_
  refine ⟨fun hc6=>?_,fun hc6=>?_⟩
  ·simp at hc6
  refine au [12,14,5,1,23,2,3] ?_
  refine TK.maskL [2,3,4,7] ?_
  refine TK.kp [(jb,_),(jc,_),(s,_),(h,_),(e,_),(s2,_),(h2,_),(e2,_)] ?_
  exact hnext _ _ _ oQ ⟨i+1,rfl,by omega,rfl,rfl⟩
 obtain rfl:i=b.measures.length:=by simp at hc5; omega
 refine au [16,4,5,2,3] ?_
 refine TK.rt hret [(s,_),(h,_),(e,_),(s2,_),(h2,_),(e2,_)] ?_
 exact ⟨rfl,rfl⟩
end Go.Vel
namespace Go.Vel
open Go Go.Conc
theorem jJ (b:RBk) (l:List Int):∀ (o:List Int) (z z':Alloc),z.left<=z'.left->(o.foldl (allocM b l) z).left<=(o.foldl (allocM b l) z').left
 | [],z,z',h=>h
 | k::o,z,z',h=>by
  rw [List.foldl_cons,List.foldl_cons]
  refine jJ b l o _ _ ?_
  show z.left - min z.left (cutS b l k.toNat).most<=z'.left - min z'.left (cutS b l k.toNat).most
  omega
theorem jT {b:RBk} {r r':Int} (h:r<=r') {l s:List Int} (hs:(hangM (atRound b r') l s).isSome=true):(hangM (atRound b r) l s).isSome=true:=by
 unfold hangM at hs ⊢
 by_cases hf:fitsM (atRound b r') l=false
 ·rw [if_pos hf] at hs; cases hs
 ·have hf':¬ fitsM (atRound b r) l=false:=hf
  rw [if_neg hf] at hs
  rw [if_neg hf']
  dsimp only at hs ⊢
  by_cases h0:0<(allocA (atRound b r') l (freshM (atRound b r') s)).left
  ·rw [if_pos h0] at hs; cases hs
  ·have hm:(allocA (atRound b r) l (freshM (atRound b r) s)).left<=(allocA (atRound b r') l (freshM (atRound b r') s)).left:=by
    refine jJ b l (ordM b l) _ _ ?_
    show r - b.steps+_<=r' - b.steps+_
    omega
   rw [if_neg oQ]
   rfl
theorem jV (b:RBk) (all:List (List Int)) (l:List Int):sqOk b all l=true↔∀ s∈all,(hangM b l s).isSome=true:=by
 unfold sqOk squaresM waysM
 have key:(all.filterMap (hangM b l)).length<all.length↔¬ ∀ s∈all,(hangM b l s).isSome=true:=by
  induction all with
  | nil=>simp
  | cons s r ih =>
   have hle:(r.filterMap (hangM b l)).length<=r.length:=List.length_filterMap_le _ _
   cases hs:hangM b l s with
   | none =>
    rw [List.filterMap_cons_none hs]
    simp [hs]
    omega
   | some z =>
    rw [List.filterMap_cons_some hs,lZ,lZ,Nat.succ_lt_succ_iff,ih]
    simp [hs]
 by_cases h:(all.filterMap (hangM b l)).length<all.length
 ·rw [if_pos h]
  simp only [Option.isSome_none,Bool.false_eq_true,false_iff]
  exact key.1 h
 ·rw [if_neg h]
  simp only [Option.isSome_some,true_iff]
  exact Classical.not_not.1 fun hh=>h (key.2 hh)
theorem jS {b:RBk} {all:List (List Int)} {r r':Int} (h:r<=r') (hc:canAt b all r'=true):canAt b all r=true:=by
 unfold canAt at hc ⊢
 rw [List.any_eq_true] at hc ⊢
 obtain ⟨c,h1,h2⟩:=hc
 refine ⟨c,h1,?_⟩
 rw [mX] at h2 ⊢
 refine ⟨h2.1,?_⟩
 rw [jV] at *
 exact fun s hs=>jT h (h2.2 s hs)
theorem jA (b:RBk) (all:List (List Int)):∀ k,(∀ n,widestL b all k=some n->b.steps<=n/\n<b.steps+k/\canAt b all n=true/\∀ r,n<r->r<b.steps+k->canAt b all r=false)/\(widestL b all k=none->∀ r,b.steps<=r->r<b.steps+k->canAt b all r=false)
 | 0=>⟨(fun n h=>by cases h),(fun _ r h1 h2=>by omega)⟩
 | k+1=>by
  obtain ⟨i1,i2⟩:=jA b all k
  unfold widestL
  by_cases hc:canAt b all (b.steps+k)=true
  ·rw [if_pos hc]
   refine ⟨fun n h=>?_,fun h=>by cases h⟩
   cases h
   exact ⟨by omega,by omega,hc,fun r h1 h2=>by omega⟩
  ·rw [if_neg hc]
   have hc:canAt b all (b.steps+k)=false:=by simpa using hc
   refine ⟨fun n h=>?_,fun h r h1 h2=>?_⟩
   ·obtain ⟨q1,q2,q3,q4⟩:=i1 n h
    refine ⟨q1,by omega,q3,fun r h1 h2=>?_⟩
    by_cases e:r=b.steps+k
    ·rw [e]; exact hc
    ·exact q4 r h1 oQ
   ·by_cases e:r=b.steps+k
    ·rw [e]; exact hc
    ·exact i2 h r h1 oQ
theorem jM {b:RBk} {all:List (List Int)} (h2:b.steps<=40) {r:Int} (h0:b.steps<=r) (h1:r<=40):canAt b all r=((widestM b all).isSome&&decide (r<=(widestM b all).getD 0)):=by
 obtain ⟨i1,i2⟩:=jA b all (41 - b.steps).toNat
 unfold widestM
 cases h:widestL b all (41 - b.steps).toNat with
 | none =>
  rw [i2 h r h0 oQ]; rfl
 | some n =>
  obtain ⟨q1,q2,q3,q4⟩:=i1 n h
  show canAt b all r=(true&&decide (r<=n))
  rw [Bool.true_and]
  by_cases hr:r<=n
  ·rw [decide_eq_true hr]
   exact jS hr q3
  ·rw [decide_eq_false hr]
   exact q4 r oQ oQ
theorem jU {b:RBk} {all:List (List Int)} (h2:b.steps<=40) {n:Int} (h:widestM b all=some n):b.steps<=n/\n<=40:=by
 obtain ⟨i1,_⟩:=jA b all (41 - b.steps).toNat
 obtain ⟨q1,q2,_⟩:=i1 n h
 omega
theorem jO (b:RBk) (r:Int) (s:List Int) (c:Nat):∀ k,togM (atRound b r) s c k=togM b s c k
 | 0=>rfl
 | k+1=>by
  unfold togM
  rw [jO b r s c k]
  rfl
theorem jR (b:RBk) (r:Int) (s:List Int):rightM (atRound b r) s=rightM b s:=by
 unfold rightM
 congr 1
 funext m
 rw [jO]
theorem jC (b:RBk) (r:Int):∀ (l:List RSeam) (x:Int),seamsL (atRound b r) x l=seamsL b x l
 | [],_=>rfl
 | s::l,x=>by
  unfold seamsL
  rw [jC b r l]
  rfl
theorem jB (b:RBk) (r:Int):∀ (l:List RBand) (i:Nat),clothsL (atRound b r) i l=clothsL b i l
 | [],_=>rfl
 | s::l,i=>by
  unfold clothsL
  rw [jB b r l]
  rfl
theorem jH (b:RBk) (r:Int):∀ (l:List RMeas),measL (atRound b r) l=measL b l
 | []=>rfl
 | s::l=>by
  unfold measL
  rw [jH b r l]
  rfl
theorem jK (b:RBk) (r:Int):∀ (l:List RBand) (p:List Int),fromM (atRound b r) p l=fromM b p l
 | [],p=>by unfold fromM; rw [jR]
 | x::l,p=>by
  unfold fromM
  congr 1
  funext n
  exact jK b r l _
theorem ji (b:RBk) (r:Int):zf (atRound b r)=zf b:=jK b r _ _
theorem jG {b:RBk} (h:zr b=0) {r:Int} (h1:b.steps<=r) (h2:r<=40):zr (atRound b r)=0:=by
 have hb:=zZ h
 have hr:roundsM (atRound b r)=0:=by
  have:=hb.rnd
  unfold roundsM
  rw [if_pos]
  simp only [betw,mX,decide_eq_true_eq]
  exact ⟨⟨⟨this.steps,⟨h1,h2⟩⟩,this.roll⟩,this.rolls⟩
 unfold zr at h ⊢
 rw [if_neg (by rw [hr]; decide)]
 split at h
 ·rename_i h3; exact absurd h h3
 ·have e1:seamsM (atRound b r)=seamsM b:=by unfold seamsM; rw [jC]; rfl
  have e2:clothsM (atRound b r)=clothsM b:=by unfold clothsM; rw [jB]; rfl
  have e3:measM (atRound b r)=measM b:=by unfold measM; rw [jH]; rfl
  rw [e1,e2,e3]
  exact h
theorem jQ {b:RBk} {all:List (List Int)} {r:Int} {c:Nat} {bt:List Int×Int->List Int×Int->Bool} (h:PlanA (atRound b r) all bt c):canAt b all r=true:=zgS h.1 h.2.1 h.2.2.1
theorem jL {b:RBk} {all:List (List Int)} {r:Int} (h:NoPlan (atRound b r) all):canAt b all r=false:=zgR h
end Go.Vel
namespace Go.Vel
open Go Go.Conc Go.Proofs
instance:Cal tp 19:={}
instance:Cal tp 44:={}
instance:Cal tp 49:={}
theorem jP {b:RBk} {s h e:Nat} {k:Int} (hk:0<=k/\k<256):Top tp gmR 14 [.agg (zE b s h e),.v (.int .u8 k)] [(0,zy),(s,zk b),(h,zB b),(e,zq b)] (fun r _=>r=zP true):=by
 refine topI 104 Tryz.func14 fun R Y hret=>?_
 have hT:=kH (P:=tp) (AtRet tp 14 R)
 refine au [4,5,21] ?_
 intro jb hjb
 refine au [2,3,4,4,5,8] ?_
 refine TK.cl Z Z Z Z (zja hT) ?_
 rintro r1 K2 ⟨rfl,rfl⟩
 refine au [30,3,20] ?_
 refine ⟨fun hc0=>?_,fun hc0=>?_⟩
 ·refine au [4,5] ?_
  refine TK.cl Z Z Z Z (zi5) ?_
  rintro r4 K5 ⟨rfl,rfl⟩
  refine au [2,3] ?_
  refine TK.rt hret [] ?_
  rfl
 have hgr:greatM b=false/\zr b=0:=by cases hq:greatM b <;> simp [hq] at hc0; exact ⟨rfl,hc0⟩
 obtain ⟨hgr,hck⟩:=hgr
 have hbb:=zZ hck
 have hl:b.seams.length<=100:=by have:=hbb.sms.len; omega
 have hm:b.measures.length<=100:=by have:=hbb.mes.len; omega
 have hl2:b.shrinks.length<=100:=by have:=hbb.cls.len; omega
 have hst:=hbb.rnd.steps
 refine au [12,4,5,8] ?_
 refine TK.cl Z Z Z Z (zfy hl hm) ?_
 rintro r7 K8 h9
 rcases h9 with ⟨hbar,rfl,rfl⟩ | ⟨hbar,hnil,rfl,rfl⟩ | ⟨hbar,hne,rfl,rfl⟩
 ·refine au [] ?_
  exact absurd hck hbar
 ·refine au [1,10,10,10,2,2,2,3,4,4,5,1,6,3,20] ?_
  refine ⟨fun hc1=>?_,fun hc1=>?_⟩
  ·
   refine au [4,5,1,6,1,1,6,26,1,1,30,26,1] ?_
   refine TK.cl Z Z Z Z (zi5) ?_
   rintro r10 K11 ⟨rfl,rfl⟩
   refine au [26,2,3] ?_
   refine TK.rt hret [] ?_
   rfl
  exact absurd hc1 dQ
 ·refine au [1,10,10,10,2,2,2,3,4,4,5,1,6,3,20] ?_
  refine ⟨fun hc1=>?_,fun hc1=>?_⟩
  ·exact absurd hc1 dQ
  refine au [12,4,4,5] ?_
  rcases hw:widestM b (zf b) with _ | n
  ·have hwc:∀ r,b.steps<=r->r<=40->canAt b (zf b) r=false:=fun r h1 h2=>by rw [jM oQ h1 h2,hw]; rfl
   refine TK.a Z (zh Z Z) ?_
   refine au [30,1,1,6,26,1,1,1,11,11,11,11,11,25,25,3,19,12,4] ?_
   have hrem0:=Int.emod_nonneg (k:Int) (show (40 - b.steps+1)≠0 by omega)
   have hrem1:=Int.emod_lt_of_pos (k:Int) (show 0<40 - b.steps+1 by omega)
   refine TK.draw [0,1,2,3,4,5,6,7,8,9,10] [0,1,2,3,4,5,6,7,8,9,10] (by kernel_rfl) (by kernel_rfl) ?_
   refine TD.z [2] Z (zg Z Z zl.h dQ) ?_
   refine TD.y [56] Z (hq:=zm Z Z zi.h (mC _) Z) (h:=?_)
   refine TD.z [1] Z (zh Z Z) ?_
   refine TD.z [58] Z (yU Z Z Und.h Und.h (wK oQ)) ?_
   refine TD.z [2] Z (zg Z Z zl.h dQ) ?_
   refine TD.y [60] Z (hq:=zm Z Z zi.h (mC _) Z) (h:=?_)
   refine TD.z [61] Z (q_sub Z Z Z oQ) ?_
   refine TD.z [62] Z (q_add Z Z Z oQ) ?_
   refine TD.z [59,63] Z (q_rem Z Z Z oQ oQ) ?_
   refine TD.z [57,64] Z (q_add Z Z Z oQ) ?_
   refine TD.as (pend':=[]) [65] Z Z (zD Z Z) ?_
   refine TD.fin ?_
   refine au [4] ?_
   obtain ⟨r0,hr0⟩:∃ r0,r0=b.steps+(k:Int) % (40 - b.steps+1):=⟨_,rfl⟩
   rw [<- hr0]
   have hb1:b.steps<=r0/\r0<=40:=by omega
   have hckr:=jG hck hb1.1 hb1.2
   have hner:zf (atRound b r0)≠[]:=by rw [ji]; exact hne
   have key:=hwc r0 hb1.1 hb1.2
   refine au [5,8,1] ?_
   refine TK.cl Z Z Z Z ((zg6 hT (b:=b) (s:=s) (h:=h) (e:=e) (r0:=r0) hl hm).mono (fun _ _ h=>or3c h hck (by simp [betw]; exact hb1))) ?_
   rintro r13 K14 ⟨s2,h2,e2,rfl,rfl⟩
   refine au [1,10,10,22] ?_
   intro j16 hj16
   refine au [17,2,3,4,5,8] ?_
   refine TK.cl Z Z Z Z ((zeO (b:=atRound b r0) (s:=s2) (h:=h2) (e:=e2) hl hm).mono (fun _ _ h=>or3 h hckr hner)) ?_
   rintro r17 K18 h19
   rcases h19 with ⟨hno,rfl,rfl⟩ | ⟨c,jc,ec,hpl,rfl,rfl⟩
   ·refine au [] ?_
    rw [ji] at hno
    have hcan:=jL hno
    refine au [1,10,10,10,2,2,2,3,4,5,8,22] ?_
    intro j20 hj20
    refine au [17,3,4,5,1,7,17,3,4,4,5,1,6,1,1,6,25,1,8,8] ?_
    refine TK.cl Z Z Z Z (jD hT (b:=atRound b r0) (s:=s2) (h:=h2) (e:=e2) (s2:=s) (h2:=h) (e2:=e) hl hl2 hm) ?_
    rintro r21 K22 ⟨rfl,rfl⟩
    refine au [30,25,1,1,1,1,11,11,11,25,34,25,3,20] ?_
    refine ⟨fun hc3=>?_,fun hc3=>?_⟩
    ·simp at hc3
    refine au [12,4,5] ?_
    refine TK.cl Z Z Z Z (zi5) ?_
    rintro r24 K25 ⟨rfl,rfl⟩
    refine au [2,3] ?_
    refine TK.rt hret [] ?_
    rfl
   ·refine au [] ?_
    rw [ji] at hpl
    have hcan:=jQ hpl
    refine au [1,10,10,10,2,2,2,3,4,5,8,22] ?_
    intro j27 hj27
    refine au [17,3,4,5,1,7,17,3,4,4,5,1,6,1,1,6,25,1,8,8] ?_
    refine TK.cl Z Z Z Z (jD hT (b:=atRound b r0) (s:=s2) (h:=h2) (e:=e2) (s2:=s) (h2:=h) (e2:=e) hl hl2 hm) ?_
    rintro r28 K29 ⟨rfl,rfl⟩
    refine au [30,25,1,1,1,1,11,11,11,25,34,25,3,20] ?_
    refine ⟨fun hc3=>?_,fun hc3=>?_⟩
    ·rw [hcan] at key; cases key
    simp at hc3
  ·have hwb:=jU oQ hw
   have hwc:∀ r,b.steps<=r->r<=40->canAt b (zf b) r=decide (r<=n):=fun r h1 h2=>by rw [jM oQ h1 h2,hw]; rfl
   refine TK.a Z (zh Z Z) ?_
   refine au [30,1,11,11,25,1,1,1,1,7,9] ?_
   refine TK.cl Z Z Z Z (yz hT) ?_
   rintro r31 K32 ⟨rfl,rfl⟩
   refine au [30,26,25,3,20] ?_
   refine ⟨fun hc2=>?_,fun hc2=>?_⟩
   ·simp [betw] at hc2; omega
   refine au [12,4] ?_
   have hrem0:=Int.emod_nonneg (k:Int) (show (40 - b.steps+1)≠0 by omega)
   have hrem1:=Int.emod_lt_of_pos (k:Int) (show 0<40 - b.steps+1 by omega)
   refine TK.draw [0,1,2,3,4,5,6,7,8,9,10] [0,1,2,3,4,5,6,7,8,9,10] (by kernel_rfl) (by kernel_rfl) ?_
   refine TD.z [2] Z (zg Z Z zl.h dQ) ?_
   refine TD.y [56] Z (hq:=zm Z Z zi.h (mC _) Z) (h:=?_)
   refine TD.z [1] Z (zh Z Z) ?_
   refine TD.z [58] Z (yU Z Z Und.h Und.h (wK oQ)) ?_
   refine TD.z [2] Z (zg Z Z zl.h dQ) ?_
   refine TD.y [60] Z (hq:=zm Z Z zi.h (mC _) Z) (h:=?_)
   refine TD.z [61] Z (q_sub Z Z Z oQ) ?_
   refine TD.z [62] Z (q_add Z Z Z oQ) ?_
   refine TD.z [59,63] Z (q_rem Z Z Z oQ oQ) ?_
   refine TD.z [57,64] Z (q_add Z Z Z oQ) ?_
   refine TD.as (pend':=[]) [65] Z Z (zD Z Z) ?_
   refine TD.fin ?_
   refine au [4] ?_
   obtain ⟨r0,hr0⟩:∃ r0,r0=b.steps+(k:Int) % (40 - b.steps+1):=⟨_,rfl⟩
   rw [<- hr0]
   have hb1:b.steps<=r0/\r0<=40:=by omega
   have hckr:=jG hck hb1.1 hb1.2
   have hner:zf (atRound b r0)≠[]:=by rw [ji]; exact hne
   have key:=hwc r0 hb1.1 hb1.2
   refine au [5,8,1] ?_
   refine TK.cl Z Z Z Z ((zg6 hT (b:=b) (s:=s) (h:=h) (e:=e) (r0:=r0) hl hm).mono (fun _ _ h=>or3c h hck (by simp [betw]; exact hb1))) ?_
   rintro r34 K35 ⟨s2,h2,e2,rfl,rfl⟩
   refine au [1,10,10,22] ?_
   intro j37 hj37
   refine au [17,2,3,4,5,8] ?_
   refine TK.cl Z Z Z Z ((zeO (b:=atRound b r0) (s:=s2) (h:=h2) (e:=e2) hl hm).mono (fun _ _ h=>or3 h hckr hner)) ?_
   rintro r38 K39 h40
   rcases h40 with ⟨hno,rfl,rfl⟩ | ⟨c,jc,ec,hpl,rfl,rfl⟩
   ·refine au [] ?_
    rw [ji] at hno
    have hcan:=jL hno
    refine au [1,10,10,10,2,2,2,3,4,5,8,22] ?_
    intro j41 hj41
    refine au [17,3,4,5,1,7,17,3,4,4,5,1,6,1,1,6,25,1,8,8] ?_
    refine TK.cl Z Z Z Z (jD hT (b:=atRound b r0) (s:=s2) (h:=h2) (e:=e2) (s2:=s) (h2:=h) (e2:=e) hl hl2 hm) ?_
    rintro r42 K43 ⟨rfl,rfl⟩
    refine au [30,25,1,1,1,1,1,1,6,26,34,25,3,20] ?_
    refine ⟨fun hc3=>?_,fun hc3=>?_⟩
    ·simp [key.symm.trans hcan] at hc3
    refine au [12,4,5] ?_
    refine TK.cl Z Z Z Z (zi5) ?_
    rintro r45 K46 ⟨rfl,rfl⟩
    refine au [2,3] ?_
    refine TK.rt hret [] ?_
    rfl
   ·refine au [] ?_
    rw [ji] at hpl
    have hcan:=jQ hpl
    refine au [1,10,10,10,2,2,2,3,4,5,8,22] ?_
    intro j48 hj48
    refine au [17,3,4,5,1,7,17,3,4,4,5,1,6,1,1,6,25,1,8,8] ?_
    refine TK.cl Z Z Z Z (jD hT (b:=atRound b r0) (s:=s2) (h:=h2) (e:=e2) (s2:=s) (h2:=h) (e2:=e) hl hl2 hm) ?_
    rintro r49 K50 ⟨rfl,rfl⟩
    refine au [30,25,1,1,1,1,1,1,6,26,34,25,3,20] ?_
    refine ⟨fun hc3=>?_,fun hc3=>?_⟩
    ·simp [key.symm.trans hcan] at hc3
    refine au [12,4,5] ?_
    refine TK.cl Z Z Z Z (zi5) ?_
    rintro r52 K53 ⟨rfl,rfl⟩
    refine au [2,3] ?_
    refine TK.rt hret [] ?_
    rfl
end Go.Vel
end
