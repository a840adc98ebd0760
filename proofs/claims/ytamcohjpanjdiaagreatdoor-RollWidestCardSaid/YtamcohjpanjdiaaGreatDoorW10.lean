/- The law RollWidest: in the round of Widest the canvas can be hung by some cuts, in each wider one by none. It holds of every program, tape and world that the statements name, as each theorem says. -/
import Derived.Test.YtamcohjpanjdiaaGreatDoorW8
import Derived.Test.YtamcohjpanjdiaaGreatDoorW9
section
set_option linter.all false
set_option maxRecDepth 20000
set_option maxHeartbeats 60000000
namespace Go.Vel
open Go Go.Conc Go.Proofs
instance:EqG Tryz.prog 49:=⟨by kernel_rfl⟩
instance:EqG Tryz.prog 94:=⟨by kernel_rfl⟩
instance:FlatF Tryz.prog 49 [(3,0),(3,1),(3,2)]:=⟨by kernel_rfl⟩
instance:FlatF Tryz.prog 94 [(3,0),(3,1),(3,2),(3,3),(4,4)]:=⟨by kernel_rfl⟩
instance {a0 a1 a2 a3 a4 a5 a6 a7 a8 a9 a10 a11 a12 a13 a14 a15 a16 a17 a18 a19 a20 a21 a22 a23 a24 a25 a26 a27 a28 a29 a30 a31 a32 a33 a34 a35 a36 a37 a38 a39 a40 a41 a42 a43 a44 a45 a46 a47 a48 a49 a50 a51 a52:Oper}:RgL #[a0,a1,a2,a3,a4,a5,a6,a7,a8,a9,a10,a11,a12,a13,a14,a15,a16,a17,a18,a19,a20,a21,a22,a23,a24,a25,a26,a27,a28,a29,a30,a31,a32,a33,a34,a35,a36,a37,a38,a39,a40,a41,a42,a43,a44,a45,a46,a47,a48,a49,a50,a51,a52] [0,1,2,3,4,5,6,7,8,9,10,11,12,13,14,15,16,17,18,19,20,21,22,23,24,25,26,27,28,29,30,31,32,33,34,35,36,37,38,39,40,41,42,43,44,45,46,47,48,49,50,51,52]:=⟨rfl⟩
instance:Und Tryz.prog 4 .bool:=⟨by kernel_rfl⟩
theorem same_ok {main:Bool} {T:Goroutine→Hp→Prop} (hT:Shut Tryz.prog main T) {gm:Nat→Option Nat} {b:RBk} {s h e s2 h2 e2:Nat} (hl:b.seams.length≤100) (hl2:b.shrinks.length≤100) (hl3:b.measures.length≤100) :
  CallK Tryz.prog T gm 44 [.agg (rollC b s h e),.agg (rollC b s2 h2 e2)] [(s,seamO b),(h,shrO b),(e,measO b),(s2,seamO b),(h2,shrO b),(e2,measO b)] (fun r K'=>r=boolA true∧K'=[(s,seamO b),(h,shrO b),(e,measO b),(s2,seamO b),(h2,shrO b),(e2,measO b)]):=by
 refine callK_in 115 hT Tryz.func44 fun Y hret=>?_
 refine au [4,5,21] ?_
 intro jb hjb
 refine au [21] ?_
 intro jc hjc
 refine au [2,3,4,4,5,7,9,7,9,6,1] ?_
 refine TK.sp 13 (fun g1_6=>?_) (fun g1_6=>?_)
 ·simp at g1_6
 refine au [7,9,7,9,6,25,1] ?_
 refine TK.sp 20 (fun g1_13=>?_) (fun g1_13=>?_)
 ·simp at g1_13
 refine au [7,9,7,9,6,25,1] ?_
 refine TK.sp 27 (fun g1_20=>?_) (fun g1_20=>?_)
 ·simp at g1_20
 refine au [7,9,7,9,6,25,1] ?_
 refine TK.sp 34 (fun g1_27=>?_) (fun g1_27=>?_)
 ·simp at g1_27
 refine au [7,9,28,7,9,28,6,25,1] ?_
 refine TK.sp 43 (fun g1_36=>?_) (fun g1_36=>?_)
 ·simp at g1_36
 refine au [7,9,28,7,9,28,6,25,1] ?_
 refine TK.sp 52 (fun g1_45=>?_) (fun g1_45=>?_)
 ·simp at g1_45
 refine au [7,9,28,7,9,28,6,25,3,20] ?_
 refine ⟨fun hc0=>?_,fun hc0=>?_⟩
 ·simp at hc0
 refine au [12,4,4,5,2,3,13] ?_
 refine TK.maskL [2,3,4,5] ?_
 refine TK.kp [(jb,_),(jc,_),(s,_),(h,_),(e,_),(s2,_),(h2,_),(e2,_)] ?_
 refine TK.loopN (fun n env K=>∃ (i:Nat),n=b.seams.length - i∧i≤b.seams.length∧env=[.any,.any,.ptr jb 0,.ptr jc 0,boolA false,intA i,.any,.any,.any,.any,.any,.any,.any,.any,.any,.any,.any,.any,.any,.any,.any,.any,.any,.any,.any,.any,.any,.any,.any,.any,.any,.any,.any,.any,.any,.any,.any,.any,.any,.any,.any,.any,.any,.any,.any,.any,.any,.any,.any,.any,.any,.any,.any,.any,.any,.any,.any,.any,.any,.any,.any,.any,.any,.any,.any,.any,.any,.any,.any,.any,.any,.any,.any,.any,.any,.any,.any,.any,.any,.any,.any,.any,.any,.any,.any,.any,.any,.any,.any,.any,.any,.any,.any,.any,.any,.any,.any,.any,.any,.any,.any,.any,.any,.any,.any,.any,.any,.any,.any,.any,.any,.any,.any,.any,.any]∧K=[(jb,.cells (rollC b s h e) 26 true),(jc,.cells (rollC b s2 h2 e2) 26 true),(s,seamO b),(h,shrO b),(e,measO b),(s2,seamO b),(h2,shrO b),(e2,measO b)]) b.seams.length ⟨0,rfl,Nat.zero_le _,rfl,rfl⟩ fun n env K hI hnext=>?_
 obtain ⟨i,rfl,hi,rfl,rfl⟩:=hI
 refine au [4,4,5,1,7,9,28,6,3,20] ?_
 refine ⟨fun hc1=>?_,fun hc1=>?_⟩
 ·have hil:i<b.seams.length:=by simp at hc1; omega
  obtain ⟨x,hx⟩:∃ x,b.seams[i]? =some x:=⟨_,List.getElem?_eq_getElem hil⟩
  refine au [12,4,13,4] ?_
  refine TK.draw [0,1,2,3,4,5,6,7,8,9,10] [0,1,2,3,4,5,6,7,8,9,10] (by kernel_rfl) (by kernel_rfl) ?_
  refine TD.z [2] rfl (q_fieldAddr rfl rfl FldOf.h (by decide)) ?_
  refine TD.y [68] rfl (hq:=q_load1 rfl rfl TySz.h (List.Mem.head _) rfl) (h:=?_)
  refine TD.z [5] rfl (q_move rfl rfl) ?_
  refine TD.z [69,70] rfl (q_indexSl rfl rfl rfl SlEl.h (by omega) (by omega)) ?_
  refine TD.y [71] rfl (hq:=q_load rfl rfl TySz.h (List.Mem.head _) (flat_at (c:=5) (f:=seamC) (fun _=>rfl) hx rfl (by decide))) (h:=?_)
  refine TD.z [3] rfl (q_fieldAddr rfl rfl FldOf.h (by decide)) ?_
  refine TD.y [73] rfl (hq:=q_load1 rfl rfl TySz.h (List.Mem.head _) rfl) (h:=?_)
  refine TD.z [5] rfl (q_move rfl rfl) ?_
  refine TD.z [74,75] rfl (q_indexSl rfl rfl rfl SlEl.h (by omega) (by omega)) ?_
  refine TD.y [76] rfl (hq:=q_load rfl rfl TySz.h (List.Mem.head _) (flat_at (c:=5) (f:=seamC) (fun _=>rfl) hx rfl (by decide))) (h:=?_)
  refine TD.z [72,77] rfl (q_neqFlat rfl rfl rfl rfl rfl FlatF.h EqG.h) ?_
  refine TD.fin ?_
  refine au [20] ?_
  refine ⟨fun hc2=>?_,fun hc2=>?_⟩
  ·simp at hc2
  refine au [12,14,5,1,23,2,3] ?_
  refine TK.maskL [2,3,4,5] ?_
  refine TK.kp [(jb,_),(jc,_),(s,_),(h,_),(e,_),(s2,_),(h2,_),(e2,_)] ?_
  exact hnext _ _ _ (by omega) ⟨i+1,rfl,by omega,rfl,rfl⟩
 obtain rfl:i=b.seams.length:=by simp at hc1; omega
 refine au [16,4,4,5,2,3,13] ?_
 refine TK.maskL [2,3,4,6] ?_
 refine TK.kp [(jb,_),(jc,_),(s,_),(h,_),(e,_),(s2,_),(h2,_),(e2,_)] ?_
 refine TK.loopN (fun n env K=>∃ (i:Nat),n=b.shrinks.length - i∧i≤b.shrinks.length∧env=[.any,.any,.ptr jb 0,.ptr jc 0,boolA false,.any,intA i,.any,.any,.any,.any,.any,.any,.any,.any,.any,.any,.any,.any,.any,.any,.any,.any,.any,.any,.any,.any,.any,.any,.any,.any,.any,.any,.any,.any,.any,.any,.any,.any,.any,.any,.any,.any,.any,.any,.any,.any,.any,.any,.any,.any,.any,.any,.any,.any,.any,.any,.any,.any,.any,.any,.any,.any,.any,.any,.any,.any,.any,.any,.any,.any,.any,.any,.any,.any,.any,.any,.any,.any,.any,.any,.any,.any,.any,.any,.any,.any,.any,.any,.any,.any,.any,.any,.any,.any,.any,.any,.any,.any,.any,.any,.any,.any,.any,.any,.any,.any,.any,.any,.any,.any,.any,.any,.any,.any]∧K=[(jb,.cells (rollC b s h e) 26 true),(jc,.cells (rollC b s2 h2 e2) 26 true),(s,seamO b),(h,shrO b),(e,measO b),(s2,seamO b),(h2,shrO b),(e2,measO b)]) b.shrinks.length ⟨0,rfl,Nat.zero_le _,rfl,rfl⟩ fun n env K hI hnext=>?_
 obtain ⟨i,rfl,hi,rfl,rfl⟩:=hI
 refine au [4,4,5,1,7,9,28,6,3,20] ?_
 refine ⟨fun hc3=>?_,fun hc3=>?_⟩
 ·have hil:i<b.shrinks.length:=by simp at hc3; omega
  obtain ⟨x,hx⟩:∃ x,b.shrinks[i]? =some x:=⟨_,List.getElem?_eq_getElem hil⟩
  refine au [12,4,13,4] ?_
  refine TK.draw [0,1,2,3,4,5,6,7,8,9,10] [0,1,2,3,4,5,6,7,8,9,10] (by kernel_rfl) (by kernel_rfl) ?_
  refine TD.z [2] rfl (q_fieldAddr rfl rfl FldOf.h (by decide)) ?_
  refine TD.y [86] rfl (hq:=q_load1 rfl rfl TySz.h (List.Mem.head _) rfl) (h:=?_)
  refine TD.z [6] rfl (q_move rfl rfl) ?_
  refine TD.z [87,88] rfl (q_indexSl rfl rfl rfl SlEl.h (by omega) (by omega)) ?_
  refine TD.y [89] rfl (hq:=q_load rfl rfl TySz.h (List.Mem.head _) (flat_at (c:=2) (f:=bandC) (fun _=>rfl) hx rfl (by decide))) (h:=?_)
  refine TD.z [3] rfl (q_fieldAddr rfl rfl FldOf.h (by decide)) ?_
  refine TD.y [91] rfl (hq:=q_load1 rfl rfl TySz.h (List.Mem.head _) rfl) (h:=?_)
  refine TD.z [6] rfl (q_move rfl rfl) ?_
  refine TD.z [92,93] rfl (q_indexSl rfl rfl rfl SlEl.h (by omega) (by omega)) ?_
  refine TD.y [94] rfl (hq:=q_load rfl rfl TySz.h (List.Mem.head _) (flat_at (c:=2) (f:=bandC) (fun _=>rfl) hx rfl (by decide))) (h:=?_)
  refine TD.z [90,95] rfl (q_neqFlat rfl rfl rfl rfl rfl FlatF.h EqG.h) ?_
  refine TD.fin ?_
  refine au [20] ?_
  refine ⟨fun hc4=>?_,fun hc4=>?_⟩
  ·simp at hc4
  refine au [12,14,5,1,23,2,3] ?_
  refine TK.maskL [2,3,4,6] ?_
  refine TK.kp [(jb,_),(jc,_),(s,_),(h,_),(e,_),(s2,_),(h2,_),(e2,_)] ?_
  exact hnext _ _ _ (by omega) ⟨i+1,rfl,by omega,rfl,rfl⟩
 obtain rfl:i=b.shrinks.length:=by simp at hc3; omega
 refine au [16,4,4,5,2,3,13] ?_
 refine TK.maskL [2,3,4,7] ?_
 refine TK.kp [(jb,_),(jc,_),(s,_),(h,_),(e,_),(s2,_),(h2,_),(e2,_)] ?_
 refine TK.loopN (fun n env K=>∃ (i:Nat),n=b.measures.length - i∧i≤b.measures.length∧env=[.any,.any,.ptr jb 0,.ptr jc 0,boolA false,.any,.any,intA i,.any,.any,.any,.any,.any,.any,.any,.any,.any,.any,.any,.any,.any,.any,.any,.any,.any,.any,.any,.any,.any,.any,.any,.any,.any,.any,.any,.any,.any,.any,.any,.any,.any,.any,.any,.any,.any,.any,.any,.any,.any,.any,.any,.any,.any,.any,.any,.any,.any,.any,.any,.any,.any,.any,.any,.any,.any,.any,.any,.any,.any,.any,.any,.any,.any,.any,.any,.any,.any,.any,.any,.any,.any,.any,.any,.any,.any,.any,.any,.any,.any,.any,.any,.any,.any,.any,.any,.any,.any,.any,.any,.any,.any,.any,.any,.any,.any,.any,.any,.any,.any,.any,.any,.any,.any,.any,.any]∧K=[(jb,.cells (rollC b s h e) 26 true),(jc,.cells (rollC b s2 h2 e2) 26 true),(s,seamO b),(h,shrO b),(e,measO b),(s2,seamO b),(h2,shrO b),(e2,measO b)]) b.measures.length ⟨0,rfl,Nat.zero_le _,rfl,rfl⟩ fun n env K hI hnext=>?_
 obtain ⟨i,rfl,hi,rfl,rfl⟩:=hI
 refine au [4,4,5,1,7,9,28,6,3,20] ?_
 refine ⟨fun hc5=>?_,fun hc5=>?_⟩
 ·have hil:i<b.measures.length:=by simp at hc5; omega
  obtain ⟨x,hx⟩:∃ x,b.measures[i]? =some x:=⟨_,List.getElem?_eq_getElem hil⟩
  refine au [12,4,13,4] ?_
  refine TK.draw [0,1,2,3,4,5,6,7,8,9,10] [0,1,2,3,4,5,6,7,8,9,10] (by kernel_rfl) (by kernel_rfl) ?_
  refine TD.z [2] rfl (q_fieldAddr rfl rfl FldOf.h (by decide)) ?_
  refine TD.y [104] rfl (hq:=q_load1 rfl rfl TySz.h (List.Mem.head _) rfl) (h:=?_)
  refine TD.z [7] rfl (q_move rfl rfl) ?_
  refine TD.z [105,106] rfl (q_indexSl rfl rfl rfl SlEl.h (by omega) (by omega)) ?_
  refine TD.y [107] rfl (hq:=q_load rfl rfl TySz.h (List.Mem.head _) (flat_at (c:=3) (f:=measC) (fun _=>rfl) hx rfl (by decide))) (h:=?_)
  refine TD.z [3] rfl (q_fieldAddr rfl rfl FldOf.h (by decide)) ?_
  refine TD.y [109] rfl (hq:=q_load1 rfl rfl TySz.h (List.Mem.head _) rfl) (h:=?_)
  refine TD.z [7] rfl (q_move rfl rfl) ?_
  refine TD.z [110,111] rfl (q_indexSl rfl rfl rfl SlEl.h (by omega) (by omega)) ?_
  refine TD.y [112] rfl (hq:=q_load rfl rfl TySz.h (List.Mem.head _) (flat_at (c:=3) (f:=measC) (fun _=>rfl) hx rfl (by decide))) (h:=?_)
  refine TD.z [108,113] rfl (q_neqFlat rfl rfl rfl rfl rfl FlatF.h EqG.h) ?_
  refine TD.fin ?_
  refine au [20] ?_
  refine ⟨fun hc6=>?_,fun hc6=>?_⟩
  ·simp at hc6
  refine au [12,14,5,1,23,2,3] ?_
  refine TK.maskL [2,3,4,7] ?_
  refine TK.kp [(jb,_),(jc,_),(s,_),(h,_),(e,_),(s2,_),(h2,_),(e2,_)] ?_
  exact hnext _ _ _ (by omega) ⟨i+1,rfl,by omega,rfl,rfl⟩
 obtain rfl:i=b.measures.length:=by simp at hc5; omega
 refine au [16,4,5,2,3] ?_
 refine TK.rt hret [(s,_),(h,_),(e,_),(s2,_),(h2,_),(e2,_)] ?_
 exact ⟨rfl,rfl⟩
end Go.Vel
end
section
set_option linter.all false
set_option maxRecDepth 20000
set_option maxHeartbeats 60000000
namespace Go.Vel
open Go Go.Conc
theorem alloc_mono (b:RBk) (l:List Int):∀ (o:List Int) (z z':Alloc),z.left≤z'.left→(o.foldl (allocM b l) z).left≤(o.foldl (allocM b l) z').left
 | [],z,z',h=>h
 | k::o,z,z',h=>by
  rw [List.foldl_cons,List.foldl_cons]
  refine alloc_mono b l o _ _ ?_
  show z.left - min z.left (cutS b l k.toNat).most≤z'.left - min z'.left (cutS b l k.toNat).most
  omega
theorem hang_round {b:RBk} {r r':Int} (h:r≤r') {l s:List Int} (hs:(hangM (atRound b r') l s).isSome=true):(hangM (atRound b r) l s).isSome=true:=by
 unfold hangM at hs ⊢
 by_cases hf:fitsM (atRound b r') l=false
 ·rw [if_pos hf] at hs; cases hs
 ·have hf':¬ fitsM (atRound b r) l=false:=hf
  rw [if_neg hf] at hs
  rw [if_neg hf']
  dsimp only at hs ⊢
  by_cases h0:0<(allocA (atRound b r') l (freshM (atRound b r') s)).left
  ·rw [if_pos h0] at hs; cases hs
  ·have hm:(allocA (atRound b r) l (freshM (atRound b r) s)).left≤(allocA (atRound b r') l (freshM (atRound b r') s)).left:=by
    refine alloc_mono b l (ordM b l) _ _ ?_
    show r - b.steps+_≤r' - b.steps+_
    omega
   rw [if_neg (by omega)]
   rfl
theorem sqOk_iff (b:RBk) (all:List (List Int)) (l:List Int):sqOk b all l=true↔∀ s∈all,(hangM b l s).isSome=true:=by
 unfold sqOk squaresM waysM
 have key:(all.filterMap (hangM b l)).length<all.length↔¬ ∀ s∈all,(hangM b l s).isSome=true:=by
  induction all with
  | nil=>simp
  | cons s r ih =>
   have hle:(r.filterMap (hangM b l)).length≤r.length:=List.length_filterMap_le _ _
   cases hs:hangM b l s with
   | none =>
    rw [List.filterMap_cons_none hs]
    simp [hs]
    omega
   | some z =>
    rw [List.filterMap_cons_some hs,List.length_cons,List.length_cons,Nat.succ_lt_succ_iff,ih]
    simp [hs]
 by_cases h:(all.filterMap (hangM b l)).length<all.length
 ·rw [if_pos h]
  simp only [Option.isSome_none,Bool.false_eq_true,false_iff]
  exact key.1 h
 ·rw [if_neg h]
  simp only [Option.isSome_some,true_iff]
  exact Classical.not_not.1 fun hh=>h (key.2 hh)
theorem canAt_mono {b:RBk} {all:List (List Int)} {r r':Int} (h:r≤r') (hc:canAt b all r'=true):canAt b all r=true:=by
 unfold canAt at hc ⊢
 rw [List.any_eq_true] at hc ⊢
 obtain ⟨c,h1,h2⟩:=hc
 refine ⟨c,h1,?_⟩
 rw [Bool.and_eq_true] at h2 ⊢
 refine ⟨h2.1,?_⟩
 rw [sqOk_iff] at *
 exact fun s hs=>hang_round h (h2.2 s hs)
theorem widest_spec (b:RBk) (all:List (List Int)):∀ k,(∀ n,widestL b all k=some n→b.steps≤n∧n<b.steps+k∧canAt b all n=true∧∀ r,n<r→r<b.steps+k→canAt b all r=false)∧(widestL b all k=none→∀ r,b.steps≤r→r<b.steps+k→canAt b all r=false)
 | 0=>⟨(fun n h=>by cases h),(fun _ r h1 h2=>by omega)⟩
 | k+1=>by
  obtain ⟨i1,i2⟩:=widest_spec b all k
  unfold widestL
  by_cases hc:canAt b all (b.steps+k)=true
  ·rw [if_pos hc]
   refine ⟨fun n h=>?_,fun h=>by cases h⟩
   cases h
   exact ⟨by omega,by omega,hc,fun r h1 h2=>by omega⟩
  ·rw [if_neg hc]
   have hc:canAt b all (b.steps+k)=false:=by simpa using hc
   refine ⟨fun n h=>?_,fun h r h1 h2=>?_⟩
   ·obtain ⟨q1,q2,q3,q4⟩:=i1 n h
    refine ⟨q1,by omega,q3,fun r h1 h2=>?_⟩
    by_cases e:r=b.steps+k
    ·rw [e]; exact hc
    ·exact q4 r h1 (by omega)
   ·by_cases e:r=b.steps+k
    ·rw [e]; exact hc
    ·exact i2 h r h1 (by omega)
theorem widest_can {b:RBk} {all:List (List Int)} (h2:b.steps≤40) {r:Int} (h0:b.steps≤r) (h1:r≤40):canAt b all r=((widestM b all).isSome&&decide (r≤(widestM b all).getD 0)):=by
 obtain ⟨i1,i2⟩:=widest_spec b all (41 - b.steps).toNat
 unfold widestM
 cases h:widestL b all (41 - b.steps).toNat with
 | none =>
  rw [i2 h r h0 (by omega)]; rfl
 | some n =>
  obtain ⟨q1,q2,q3,q4⟩:=i1 n h
  show canAt b all r=(true&&decide (r≤n))
  rw [Bool.true_and]
  by_cases hr:r≤n
  ·rw [decide_eq_true hr]
   exact canAt_mono hr q3
  ·rw [decide_eq_false hr]
   exact q4 r (by omega) (by omega)
theorem widest_bd {b:RBk} {all:List (List Int)} (h2:b.steps≤40) {n:Int} (h:widestM b all=some n):b.steps≤n∧n≤40:=by
 obtain ⟨i1,_⟩:=widest_spec b all (41 - b.steps).toNat
 obtain ⟨q1,q2,_⟩:=i1 n h
 omega
theorem tog_round (b:RBk) (r:Int) (s:List Int) (c:Nat):∀ k,togM (atRound b r) s c k=togM b s c k
 | 0=>rfl
 | k+1=>by
  unfold togM
  rw [tog_round b r s c k]
  rfl
theorem right_round (b:RBk) (r:Int) (s:List Int):rightM (atRound b r) s=rightM b s:=by
 unfold rightM
 congr 1
 funext m
 rw [tog_round]
theorem seamsL_round (b:RBk) (r:Int):∀ (l:List RSeam) (x:Int),seamsL (atRound b r) x l=seamsL b x l
 | [],_=>rfl
 | s::l,x=>by
  unfold seamsL
  rw [seamsL_round b r l]
  rfl
theorem clothsL_round (b:RBk) (r:Int):∀ (l:List RBand) (i:Nat),clothsL (atRound b r) i l=clothsL b i l
 | [],_=>rfl
 | s::l,i=>by
  unfold clothsL
  rw [clothsL_round b r l]
  rfl
theorem measL_round (b:RBk) (r:Int):∀ (l:List RMeas),measL (atRound b r) l=measL b l
 | []=>rfl
 | s::l=>by
  unfold measL
  rw [measL_round b r l]
  rfl
theorem from_round (b:RBk) (r:Int):∀ (l:List RBand) (p:List Int),fromM (atRound b r) p l=fromM b p l
 | [],p=>by unfold fromM; rw [right_round]
 | x::l,p=>by
  unfold fromM
  congr 1
  funext n
  exact from_round b r l _
theorem states_round (b:RBk) (r:Int):statesM (atRound b r)=statesM b:=from_round b r _ _
theorem check_round {b:RBk} (h:checkM b=0) {r:Int} (h1:b.steps≤r) (h2:r≤40):checkM (atRound b r)=0:=by
 have hb:=check_ok0 h
 have hr:roundsM (atRound b r)=0:=by
  have:=hb.rnd
  unfold roundsM
  rw [if_pos]
  simp only [betw,Bool.and_eq_true,decide_eq_true_eq]
  exact ⟨⟨⟨this.steps,⟨h1,h2⟩⟩,this.roll⟩,this.rolls⟩
 unfold checkM at h ⊢
 rw [if_neg (by rw [hr]; decide)]
 split at h
 ·rename_i h3; exact absurd h h3
 ·have e1:seamsM (atRound b r)=seamsM b:=by unfold seamsM; rw [seamsL_round]; rfl
  have e2:clothsM (atRound b r)=clothsM b:=by unfold clothsM; rw [clothsL_round]; rfl
  have e3:measM (atRound b r)=measM b:=by unfold measM; rw [measL_round]; rfl
  rw [e1,e2,e3]
  exact h
theorem plan_can {b:RBk} {all:List (List Int)} {r:Int} {c:Nat} {bt:List Int×Int→List Int×Int→Bool} (h:PlanA (atRound b r) all bt c):canAt b all r=true:=canAt_t h.1 h.2.1 h.2.2.1
theorem noplan_can {b:RBk} {all:List (List Int)} {r:Int} (h:NoPlan (atRound b r) all):canAt b all r=false:=canAt_f h
end Go.Vel
end
section
set_option linter.all false
set_option maxRecDepth 20000
set_option maxHeartbeats 60000000
namespace Go.Vel
open Go Go.Conc Go.Proofs
instance:Cal Tryz.prog 19:=⟨by kernel_rfl⟩
instance:Cal Tryz.prog 44:=⟨by kernel_rfl⟩
instance:Cal Tryz.prog 49:=⟨by kernel_rfl⟩
instance {a0 a1 a2 a3 a4 a5 a6 a7 a8 a9 a10 a11 a12 a13 a14 a15 a16 a17 a18 a19 a20 a21:Oper}:RgL #[a0,a1,a2,a3,a4,a5,a6,a7,a8,a9,a10,a11,a12,a13,a14,a15,a16,a17,a18,a19,a20,a21] [0,1,2,3,4,5,6,7,8,9,10,11,12,13,14,15,16,17,18,19,20,21]:=⟨rfl⟩
theorem lawWidest_top {b:RBk} {s h e:Nat} {k:Int} (hk:0≤k∧k<256):Top Tryz.prog gmR 14 [.agg (rollC b s h e),.v (.int .u8 k)] [(0,checksG),(s,seamO b),(h,shrO b),(e,measO b)] (fun r _=>r=boolA true):=by
 refine topI 104 Tryz.func14 fun R Y hret=>?_
 have hT:=shut_BT (P:=Tryz.prog) (AtRet Tryz.prog 14 R)
 refine au [4,5,21] ?_
 intro jb hjb
 refine au [2,3,4,4,5,8] ?_
 refine TK.cl rfl rfl rfl rfl (fit_ok hT) ?_
 rintro r1 K2 ⟨rfl,rfl⟩
 refine au [30,3,20] ?_
 refine ⟨fun hc0=>?_,fun hc0=>?_⟩
 ·refine au [4,5] ?_
  refine TK.cl rfl rfl rfl rfl (hung_ok) ?_
  rintro r4 K5 ⟨rfl,rfl⟩
  refine au [2,3] ?_
  refine TK.rt hret [] ?_
  rfl
 have hgr:greatM b=false∧checkM b=0:=by cases hq:greatM b <;> simp [hq] at hc0; exact ⟨rfl,hc0⟩
 obtain ⟨hgr,hck⟩:=hgr
 have hbb:=check_ok0 hck
 have hl:b.seams.length≤100:=by have:=hbb.sms.len; omega
 have hm:b.measures.length≤100:=by have:=hbb.mes.len; omega
 have hl2:b.shrinks.length≤100:=by have:=hbb.cls.len; omega
 have hst:=hbb.rnd.steps
 refine au [12,4,5,8] ?_
 refine TK.cl rfl rfl rfl rfl (widest_ok hl hm) ?_
 rintro r7 K8 h9
 rcases h9 with ⟨hbar,rfl,rfl⟩ | ⟨hbar,hnil,rfl,rfl⟩ | ⟨hbar,hne,rfl,rfl⟩
 ·refine au [] ?_
  exact absurd hck hbar
 ·refine au [1,10,10,10,2,2,2,3,4,4,5,1,6,3,20] ?_
  refine ⟨fun hc1=>?_,fun hc1=>?_⟩
  ·
   refine au [4,5,1,6,1,1,6,26,1,1,30,26,1] ?_
   refine TK.cl rfl rfl rfl rfl (hung_ok) ?_
   rintro r10 K11 ⟨rfl,rfl⟩
   refine au [26,2,3] ?_
   refine TK.rt hret [] ?_
   rfl
  exact absurd hc1 (by decide)
 ·refine au [1,10,10,10,2,2,2,3,4,4,5,1,6,3,20] ?_
  refine ⟨fun hc1=>?_,fun hc1=>?_⟩
  ·exact absurd hc1 (by decide)
  refine au [12,4,4,5] ?_
  rcases hw:widestM b (statesM b) with _ | n
  ·have hwc:∀ r,b.steps≤r→r≤40→canAt b (statesM b) r=false:=fun r h1 h2=>by rw [widest_can (by omega) h1 h2,hw]; rfl
   refine TK.a rfl (q_move rfl rfl) ?_
   refine au [30,1,1,6,26,1,1,1,11,11,11,11,11,25,25,3,19,12,4] ?_
   have hrem0:=Int.emod_nonneg (k:Int) (show (40 - b.steps+1)≠0 by omega)
   have hrem1:=Int.emod_lt_of_pos (k:Int) (show 0<40 - b.steps+1 by omega)
   refine TK.draw [0,1,2,3,4,5,6,7,8,9,10] [0,1,2,3,4,5,6,7,8,9,10] (by kernel_rfl) (by kernel_rfl) ?_
   refine TD.z [2] rfl (q_fieldAddr rfl rfl FldOf.h (by decide)) ?_
   refine TD.y [56] rfl (hq:=q_load1 rfl rfl TySz.h (List.Mem.head _) rfl) (h:=?_)
   refine TD.z [1] rfl (q_move rfl rfl) ?_
   refine TD.z [58] rfl (q_convInt rfl rfl Und.h Und.h (wrap_i64 (by omega))) ?_
   refine TD.z [2] rfl (q_fieldAddr rfl rfl FldOf.h (by decide)) ?_
   refine TD.y [60] rfl (hq:=q_load1 rfl rfl TySz.h (List.Mem.head _) rfl) (h:=?_)
   refine TD.z [61] rfl (q_sub rfl rfl rfl (by omega)) ?_
   refine TD.z [62] rfl (q_add rfl rfl rfl (by omega)) ?_
   refine TD.z [59,63] rfl (q_rem rfl rfl rfl (by omega) (by omega)) ?_
   refine TD.z [57,64] rfl (q_add rfl rfl rfl (by omega)) ?_
   refine TD.as (pend':=[]) [65] rfl rfl (q_assign rfl rfl) ?_
   refine TD.fin ?_
   refine au [4] ?_
   obtain ⟨r0,hr0⟩:∃ r0,r0=b.steps+(k:Int) % (40 - b.steps+1):=⟨_,rfl⟩
   rw [← hr0]
   have hb1:b.steps≤r0∧r0≤40:=by omega
   have hckr:=check_round hck hb1.1 hb1.2
   have hner:statesM (atRound b r0)≠[]:=by rw [states_round]; exact hne
   have key:=hwc r0 hb1.1 hb1.2
   refine au [5,8,1] ?_
   refine TK.cl rfl rfl rfl rfl ((hall_ok hT (b:=b) (s:=s) (h:=h) (e:=e) (r0:=r0) hl hm).mono (fun _ _ h=>or3c h hck (by simp [betw]; exact hb1))) ?_
   rintro r13 K14 ⟨s2,h2,e2,rfl,rfl⟩
   refine au [1,10,10,22] ?_
   intro j16 hj16
   refine au [17,2,3,4,5,8] ?_
   refine TK.cl rfl rfl rfl rfl ((fewest_ok (b:=atRound b r0) (s:=s2) (h:=h2) (e:=e2) hl hm).mono (fun _ _ h=>or3 h hckr hner)) ?_
   rintro r17 K18 h19
   rcases h19 with ⟨hno,rfl,rfl⟩ | ⟨c,jc,ec,hpl,rfl,rfl⟩
   ·refine au [] ?_
    rw [states_round] at hno
    have hcan:=noplan_can hno
    refine au [1,10,10,10,2,2,2,3,4,5,8,22] ?_
    intro j20 hj20
    refine au [17,3,4,5,1,7,17,3,4,4,5,1,6,1,1,6,25,1,8,8] ?_
    refine TK.cl rfl rfl rfl rfl (same_ok hT (b:=atRound b r0) (s:=s2) (h:=h2) (e:=e2) (s2:=s) (h2:=h) (e2:=e) hl hl2 hm) ?_
    rintro r21 K22 ⟨rfl,rfl⟩
    refine au [30,25,1,1,1,1,11,11,11,25,34,25,3,20] ?_
    refine ⟨fun hc3=>?_,fun hc3=>?_⟩
    ·simp at hc3
    refine au [12,4,5] ?_
    refine TK.cl rfl rfl rfl rfl (hung_ok) ?_
    rintro r24 K25 ⟨rfl,rfl⟩
    refine au [2,3] ?_
    refine TK.rt hret [] ?_
    rfl
   ·refine au [] ?_
    rw [states_round] at hpl
    have hcan:=plan_can hpl
    refine au [1,10,10,10,2,2,2,3,4,5,8,22] ?_
    intro j27 hj27
    refine au [17,3,4,5,1,7,17,3,4,4,5,1,6,1,1,6,25,1,8,8] ?_
    refine TK.cl rfl rfl rfl rfl (same_ok hT (b:=atRound b r0) (s:=s2) (h:=h2) (e:=e2) (s2:=s) (h2:=h) (e2:=e) hl hl2 hm) ?_
    rintro r28 K29 ⟨rfl,rfl⟩
    refine au [30,25,1,1,1,1,11,11,11,25,34,25,3,20] ?_
    refine ⟨fun hc3=>?_,fun hc3=>?_⟩
    ·rw [hcan] at key; cases key
    simp at hc3
  ·have hwb:=widest_bd (by omega) hw
   have hwc:∀ r,b.steps≤r→r≤40→canAt b (statesM b) r=decide (r≤n):=fun r h1 h2=>by rw [widest_can (by omega) h1 h2,hw]; rfl
   refine TK.a rfl (q_move rfl rfl) ?_
   refine au [30,1,11,11,25,1,1,1,1,7,9] ?_
   refine TK.cl rfl rfl rfl rfl (betweenR_ok hT) ?_
   rintro r31 K32 ⟨rfl,rfl⟩
   refine au [30,26,25,3,20] ?_
   refine ⟨fun hc2=>?_,fun hc2=>?_⟩
   ·simp [betw] at hc2; omega
   refine au [12,4] ?_
   have hrem0:=Int.emod_nonneg (k:Int) (show (40 - b.steps+1)≠0 by omega)
   have hrem1:=Int.emod_lt_of_pos (k:Int) (show 0<40 - b.steps+1 by omega)
   refine TK.draw [0,1,2,3,4,5,6,7,8,9,10] [0,1,2,3,4,5,6,7,8,9,10] (by kernel_rfl) (by kernel_rfl) ?_
   refine TD.z [2] rfl (q_fieldAddr rfl rfl FldOf.h (by decide)) ?_
   refine TD.y [56] rfl (hq:=q_load1 rfl rfl TySz.h (List.Mem.head _) rfl) (h:=?_)
   refine TD.z [1] rfl (q_move rfl rfl) ?_
   refine TD.z [58] rfl (q_convInt rfl rfl Und.h Und.h (wrap_i64 (by omega))) ?_
   refine TD.z [2] rfl (q_fieldAddr rfl rfl FldOf.h (by decide)) ?_
   refine TD.y [60] rfl (hq:=q_load1 rfl rfl TySz.h (List.Mem.head _) rfl) (h:=?_)
   refine TD.z [61] rfl (q_sub rfl rfl rfl (by omega)) ?_
   refine TD.z [62] rfl (q_add rfl rfl rfl (by omega)) ?_
   refine TD.z [59,63] rfl (q_rem rfl rfl rfl (by omega) (by omega)) ?_
   refine TD.z [57,64] rfl (q_add rfl rfl rfl (by omega)) ?_
   refine TD.as (pend':=[]) [65] rfl rfl (q_assign rfl rfl) ?_
   refine TD.fin ?_
   refine au [4] ?_
   obtain ⟨r0,hr0⟩:∃ r0,r0=b.steps+(k:Int) % (40 - b.steps+1):=⟨_,rfl⟩
   rw [← hr0]
   have hb1:b.steps≤r0∧r0≤40:=by omega
   have hckr:=check_round hck hb1.1 hb1.2
   have hner:statesM (atRound b r0)≠[]:=by rw [states_round]; exact hne
   have key:=hwc r0 hb1.1 hb1.2
   refine au [5,8,1] ?_
   refine TK.cl rfl rfl rfl rfl ((hall_ok hT (b:=b) (s:=s) (h:=h) (e:=e) (r0:=r0) hl hm).mono (fun _ _ h=>or3c h hck (by simp [betw]; exact hb1))) ?_
   rintro r34 K35 ⟨s2,h2,e2,rfl,rfl⟩
   refine au [1,10,10,22] ?_
   intro j37 hj37
   refine au [17,2,3,4,5,8] ?_
   refine TK.cl rfl rfl rfl rfl ((fewest_ok (b:=atRound b r0) (s:=s2) (h:=h2) (e:=e2) hl hm).mono (fun _ _ h=>or3 h hckr hner)) ?_
   rintro r38 K39 h40
   rcases h40 with ⟨hno,rfl,rfl⟩ | ⟨c,jc,ec,hpl,rfl,rfl⟩
   ·refine au [] ?_
    rw [states_round] at hno
    have hcan:=noplan_can hno
    refine au [1,10,10,10,2,2,2,3,4,5,8,22] ?_
    intro j41 hj41
    refine au [17,3,4,5,1,7,17,3,4,4,5,1,6,1,1,6,25,1,8,8] ?_
    refine TK.cl rfl rfl rfl rfl (same_ok hT (b:=atRound b r0) (s:=s2) (h:=h2) (e:=e2) (s2:=s) (h2:=h) (e2:=e) hl hl2 hm) ?_
    rintro r42 K43 ⟨rfl,rfl⟩
    refine au [30,25,1,1,1,1,1,1,6,26,34,25,3,20] ?_
    refine ⟨fun hc3=>?_,fun hc3=>?_⟩
    ·simp [key.symm.trans hcan] at hc3
    refine au [12,4,5] ?_
    refine TK.cl rfl rfl rfl rfl (hung_ok) ?_
    rintro r45 K46 ⟨rfl,rfl⟩
    refine au [2,3] ?_
    refine TK.rt hret [] ?_
    rfl
   ·refine au [] ?_
    rw [states_round] at hpl
    have hcan:=plan_can hpl
    refine au [1,10,10,10,2,2,2,3,4,5,8,22] ?_
    intro j48 hj48
    refine au [17,3,4,5,1,7,17,3,4,4,5,1,6,1,1,6,25,1,8,8] ?_
    refine TK.cl rfl rfl rfl rfl (same_ok hT (b:=atRound b r0) (s:=s2) (h:=h2) (e:=e2) (s2:=s) (h2:=h) (e2:=e) hl hl2 hm) ?_
    rintro r49 K50 ⟨rfl,rfl⟩
    refine au [30,25,1,1,1,1,1,1,6,26,34,25,3,20] ?_
    refine ⟨fun hc3=>?_,fun hc3=>?_⟩
    ·simp [key.symm.trans hcan] at hc3
    refine au [12,4,5] ?_
    refine TK.cl rfl rfl rfl rfl (hung_ok) ?_
    rintro r52 K53 ⟨rfl,rfl⟩
    refine au [2,3] ?_
    refine TK.rt hret [] ?_
    rfl
end Go.Vel
end
section
set_option linter.all false
set_option maxRecDepth 20000
set_option maxHeartbeats 60000000
namespace Go.Vel
open Go Go.Conc Go.Proofs Go.ChangeShapes Go.WideShapes Go.ChangeAt Go.RowKit
open Go.ConcM (OsLater)
open Go.Proofs.YtamcohjpanjdiaaGreatDoor (Tryz.pinned)
def rollWidestPhi (x0a x0b x0c:Value):Nat→Loc3
 | 0=>⟨0,0,0⟩
 | 1=>locV x0a
 | 2=>locV x0b
 | 3=>locV x0c
 | _=>⟨0,0,0⟩
theorem rollWidest_run {W:World} (hl:laidMetH Tryz.prog tblLaid W) {b0:RBk} {x0a x0b x0c:Value} {k1:Int} (h0a:SlIn W seamV 5 b0.seams x0a) (h0b:SlIn W bandV 2 b0.shrinks x0b) (h0c:SlIn W measV 3 b0.measures x0c) (h1:0≤k1∧k1<256) :
  ∃ M last o w' t',runNT Tryz.prog (M+1) (solo (G (Frame.enter Tryz.prog 14 #[.agg #[.int .i64 b0.steps,.int .i64 b0.round,.int .i64 b0.roll,.int .i64 b0.rolls,x0a,x0b,x0c],.int .u8 k1] .normal) []) W) #[]=(.ended o w',t') ∧
   runN Tryz.prog M (solo (G (Frame.enter Tryz.prog 14 #[.agg #[.int .i64 b0.steps,.int .i64 b0.round,.int .i64 b0.roll,.int .i64 b0.rolls,x0a,x0b,x0c],.int .u8 k1] .normal) []) W)=.next last ∧
   step Tryz.prog last=.ended o w'∧Conc.Good Tryz.prog (fun v w=>v=.bool true∧OsLater W.os w.os∧w.output=W.output∧KeptAll W w) last o w' t':=by
 have ht0:=of_laid hl
 refine roll_run (objs:=[checksG,seamO b0,shrO b0,measO b0]) (f:=rollWidestPhi x0a x0b x0c) Tryz.func14 rfl (by kernel_rfl) (lawWidest_top (b:=b0) (s:=1) (h:=2) (e:=3) (k:=k1) h1) ?_ ?_ rfl (by simp) ?_ ?_ ?_
 ·intro x hx
  simp only [List.mem_cons,List.not_mem_nil,or_false] at hx
  rcases hx with rfl | rfl | rfl | rfl <;> rfl
 ·simp [keys]
 ·intro o hx
  simp only [List.mem_cons,List.not_mem_nil,or_false] at hx
  rcases hx with rfl | rfl | rfl | rfl <;> rfl
 ·intro φ n i o ho
  match i,ho with
  | 0,ho=>cases ho; exact tbl_rel ht0
  | 1,ho=>cases ho; exact relO_in h0a (fun _=>rfl) seam_rel
  | 2,ho=>cases ho; exact relO_in h0b (fun _=>rfl) band_rel
  | 3,ho=>cases ho; exact relO_in h0c (fun _=>rfl) meas_rel
  | i+4,ho=>simp at ho
 ·intro φ n hφ
  refine ⟨rfl,fun j a y ha hy=>?_⟩
  match j,ha,hy with
  | 0,ha,hy=>cases ha; cases hy; exact book_rel h0a h0b h0c ⟨(hφ 1 (by simp)).1,(hφ 1 (by simp)).2⟩ ⟨(hφ 2 (by simp)).1,(hφ 2 (by simp)).2⟩ ⟨(hφ 3 (by simp)).1,(hφ 3 (by simp)).2⟩
  | 1,ha,hy=>cases ha; cases hy; exact .v _
  | j+2,ha,hy=>simp at ha
set_option maxRecDepth 100000 in
theorem rollWidest_lifted (os:Os) (started:os.Started) (H:Type) (enc:TypeId×Value→H) (F:Stop.Interp) :
  ReturnsInLeavingWide Go.Proofs.YtamcohjpanjdiaaGreatDoor.Rows.rollWidestRow.assume Tryz.checked os 14 .any (Go.Proofs.YtamcohjpanjdiaaGreatDoor.Rows.rollWidestRow.pre enc Tryz.prog Tryz.f14 (OpenSpec.ofChange Go.Proofs.YtamcohjpanjdiaaGreatDoor.Rows.rollWidestSpec))
   ((OpenSpec.ofChange Go.Proofs.YtamcohjpanjdiaaGreatDoor.Rows.rollWidestSpec).postWith enc Tryz.prog Tryz.f14 F (outsideKept [.timePasses]) false true false):=by
 refine returnsInLeavingWide_of_good (C:=Tryz.checked) own started
  (witness_calm (enc:=enc) (C:=Tryz.checked) (os:=os) (X:=fun w _=>laidMetH Tryz.prog tblLaid w) (World.doorLaid Tryz.prog 400 os) #[.agg #[.int .i64 0,.int .i64 0,.int .i64 0,.int .i64 0,.slice none 0 0,.slice none 0 0,.slice none 0 0],.int .u8 0] 8 rfl (World.shaped_of_RefB (by kernel_rfl) (by kernel_rfl)) (by kernel_rfl) (by kernel_rfl) (by kernel_rfl) (door_met os _)) ?_
 intro w tape i _ _ _ hok hpre _
 obtain ⟨_,_,_,fn',hfn',_,_,_,_,hval0⟩:=hok
 obtain rfl:fn'=Tryz.f14:=Option.some.inj (hfn'.symm.trans Tryz.func14)
 obtain ⟨⟨⟨ds,gs,before,hw,hc⟩,hL0⟩,_⟩:=hpre
 have hW:=DataW.Whole.of_heap (w':=w.forCall tape i) (by rfl) hw
 have hL:laidMetH Tryz.prog tblLaid (w.forCall tape i):=laidMetH.of_heap (by rfl) hL0
 obtain ⟨bl,args,vars⟩:=i
 generalize w.forCall tape ⟨bl,args,vars⟩=W at hW hL hval0 ⊢
 have hW':=hW
 obtain ⟨p,q,hA0,hV0,rfl,_,_⟩:=hW
 have hA:DataW.TrodAll enc Tryz.prog W 0 (fun _=>true) true [26,5] args.toList ds p:=hA0
 obtain ⟨v0,u0,d0,ds0,p0,q0,hargs,rfl,rfl,t0,hr0⟩:=trodAll_cons hA
 obtain ⟨v1,u1,d1,ds1,p1,q1,rfl,rfl,rfl,t1,hr1⟩:=trodAll_cons hr0
 obtain ⟨rfl,rfl,rfl⟩:=trodAll_nil hr1
 obtain rfl:args=#[v0,v1]:=by cases args; simp_all
 obtain ⟨rfl,rfl⟩:=trodVars_none hV0
 obtain ⟨b0,x0a,x0b,x0c,rfl,s0a,s0b,s0c⟩:=open_book (okAgg Tryz.underlying26 (hval0 0 26 v0 rfl rfl)) t0
 obtain ⟨k1,rfl,rfl,rfl,s1⟩:=open_int Tryz.underlying5 (hval0 1 5 v1 rfl rfl) t1
 obtain ⟨M,last,o,w',t',g1,g2,g3,g4⟩:=rollWidest_run hL s0a s0b s0c (u8_wf s1)
 obtain ⟨v,e1,hF,r1,r2,r3,r4⟩:=g4
 refine ⟨M,last,o,w',t',g1,g2,g3,v,e1,?_,r1,r2,r3,r4⟩
 obtain ⟨rfl,ho,hu,hkp⟩:=hF
 have hkp:KeptAll W { w' with os:=W.os }:=hkp
 refine postWith_blind (postWith_of_post ?_ ho)
 exact ⟨_,_,_,[],_,[],hW',trodAll_mk1 (shut_bool Tryz.underlying4 true),⟨_,_,trod_mono laid_out t0 hkp,⟨_,_,trod_mono laid_out t1 hkp,trodAll_mk0,rfl⟩,rfl⟩,rfl,kept_but (show ({ w' with os:=W.os }:World).os=W.os from rfl) hu hkp _,fun h=>by cases h⟩
theorem rollWidest_named:Tryz.prog.funcNamed "velarium/velariumlaw08.RollWidest" = some 14:=by kernel_rfl
set_option maxRecDepth 100000 in
open Go.Proofs.YtamcohjpanjdiaaGreatDoor in
theorem rollWidest_joined:joinedFacts Tryz.prog 14 Tryz.f14 Rows.rollWidestSpec Rows.rollWidestRow=true:=by
 unfold joinedFacts
 exact and32 (by as_aux_lemma=>kernel_rfl) laid_out kf3 (by as_aux_lemma=>kernel_rfl) (by as_aux_lemma=>kernel_rfl) (by as_aux_lemma=>kernel_rfl) kf7 (by as_aux_lemma=>kernel_rfl) kf9 (by as_aux_lemma=>kernel_rfl) (by as_aux_lemma=>kernel_rfl) (by as_aux_lemma=>kernel_rfl) (by as_aux_lemma=>kernel_rfl) (by as_aux_lemma=>kernel_rfl) (by as_aux_lemma=>kernel_rfl) (by as_aux_lemma=>kernel_rfl) (by as_aux_lemma=>kernel_rfl) (by as_aux_lemma=>kernel_rfl) (by as_aux_lemma=>kernel_rfl) (by as_aux_lemma=>kernel_rfl) (by as_aux_lemma=>kernel_rfl) (by as_aux_lemma=>kernel_rfl) kf23 (by as_aux_lemma=>kernel_rfl) kf25 kf26 kf27 kf28 (by as_aux_lemma=>kernel_rfl) (by as_aux_lemma=>kernel_rfl) (by as_aux_lemma=>kernel_rfl) (by as_aux_lemma=>kernel_rfl)
open Go.Proofs.YtamcohjpanjdiaaGreatDoor in
theorem rollWidest_said:Rows.RollWidestSaid :=
 OpenClaim.holds_of_wide_leaving_time 14 Tryz.f14 rfl rfl rfl rfl rfl rfl rfl ⟨rfl,rfl,rfl,rfl,rfl⟩ rfl rfl rfl rfl rfl rollWidest_named Tryz.func14 rollWidest_joined
  (of_decide_eq_true (by kernel_rfl)) (by unfold Func.isWrapper; first | (rw [if_pos (by decide +kernel)]; kernel_rfl) | (rw [if_neg (by decide +kernel)]; exact ⟨rfl,rfl⟩))
  (fun os started H enc _ F=>rollWidest_lifted os started H enc F)
end Go.Vel
namespace Go.Proofs.YtamcohjpanjdiaaGreatDoor
open Go
theorem rollWidest_holds:Rows.RollWidestCardSaid :=
 Go.Vel.holds_tied_goes .later [.funcs] true (true,"a8dbade53a295b34d71f2e42ef9c81e21a1da82da629ae191411721f06478221") false
  Go.Vel.rollWidest_said (by kernel_rfl) rollWidest_row_tie rfl ⟨rfl,rfl⟩ (by kernel_rfl) rfl
  (fun f fn hf hfn=>by
   obtain rfl:f=14:=(Option.some.inj (Go.Vel.rollWidest_named.symm.trans hf)).symm
   obtain rfl:fn=Tryz.f14:=(Option.some.inj (Tryz.func14.symm.trans hfn)).symm
   exact ⟨by kernel_rfl,fun j t ht=>by
    rw [Tryz.params14] at ht
    have hm:t∈[26,5]:=by simpa using Array.mem_of_getElem? ht
    have hall:([26,5].all fun u => !Tryz.prog.wantsStandIn u)=true:=by kernel_rfl
    exact (show Tryz.prog.wantsStandIn t=false by simpa using List.all_eq_true.1 hall t hm)⟩)
  (by kernel_rfl)
#print axioms rollWidest_holds
end Go.Proofs.YtamcohjpanjdiaaGreatDoor
end
