/- The law RollNews: Clash, Ask, Measure, Dry and Hall agree with the specification for every book, measure, cloth, band and number. It holds of every program, tape and world that the statements name, as each theorem says. -/
import Derived.Test.YtamcohjpanjdiaaGreatDoorK5
import Derived.Test.YtamcohjpanjdiaaGreatDoorK7
import Derived.Test.YtamcohjpanjdiaaGreatDoorK8
import Derived.Test.YtamcohjpanjdiaaGreatDoorK10
section
set_option linter.all false
set_option maxRecDepth 20000
set_option maxHeartbeats 60000000
open Go.Proofs.Tryz renaming prog -> tp
open List renaming getElem?_eq_getElem -> lA, nil_append -> lC, getD_eq_getElem?_getD -> lE, length_append -> lF, getElem?_append_left -> lG, perm_append_comm -> lH, mem_cons -> lI, length_map -> lJ, eq_nil_of_length_eq_zero -> lK, map_append -> lM, mem_of_getElem? -> lN, append_nil -> lR, mem_singleton -> lS, mem_append -> lT, getElem?_eq_none -> lU, mem_append_left -> lV, take_length -> lW, mem_map -> lY, length_cons -> lZ, replicate -> mB
open List.Mem renaming head -> mC
open Nat renaming le_refl -> mL, zero_le -> mN, zero_add -> mO, lt_or_ge -> mR, le_trans -> mT
open Bool renaming and_eq_true -> mX
open Int renaming toNat_natCast -> mZ
namespace Go.Vel
open Go Go.Conc
theorem xr (b:RBk) (all:List (List Int)) (l:List Int):sqOk b all l=true↔∀ s∈all,(hangM b l s).isSome=true:=by
 unfold sqOk squaresM waysM
 have key:(all.filterMap (hangM b l)).length<all.length↔¬ ∀ s∈all,(hangM b l s).isSome=true:=by
  induction all with
  | nil=>simp
  | cons s r ih =>
   have hle:(r.filterMap (hangM b l)).length<=r.length:=List.length_filterMap_le _ _
   cases hs:hangM b l s with
   | none =>
    rw [List.filterMap_cons_none hs]
    simp [hs]
    omega
   | some z =>
    rw [List.filterMap_cons_some hs,lZ,lZ,Nat.succ_lt_succ_iff,ih]
    simp [hs]
 by_cases h:(all.filterMap (hangM b l)).length<all.length
 ·rw [if_pos h]
  simp only [Option.isSome_none,Bool.false_eq_true,false_iff]
  exact key.1 h
 ·rw [if_neg h]
  simp only [Option.isSome_some,true_iff]
  exact Classical.not_not.1 fun hh=>h (key.2 hh)
theorem xj (c m:Nat):∀ i,i<=m->zw (c % 2 ^ m) i=zw c i
 | 0,_=>rfl
 | i+1,h=>by
  unfold zw
  rw [xj c m i oQ]
  have h1:=Nat.testBit_mod_two_pow c m i
  rw [Nat.testBit_eq_decide_div_mod_eq,Nat.testBit_eq_decide_div_mod_eq,decide_eq_true (show i<m by omega),Bool.true_and] at h1
  have h2:(c % 2 ^ m / 2 ^ i % 2=1)=(c / 2 ^ i % 2=1):=propext (by simpa using h1)
  simp only [h2]
def otherM (c n:Nat):List Int:=if zw c n=[] then [((c % n:Nat):Int)] else zw c n
theorem xi (x:List Int):smallerM x x=false:=by
 cases h:smallerM x x with
 | false=>rfl
 | true=>rw [kJ,zf4] at h; omega
theorem qa {b:RBk}:∀ (l:List RSeam) (last:Int),(∀ s∈l,seamB b s=true/\last<s.step)->(l.Pairwise fun s t=>s.step<t.step)->seamsL b last l=0
 | [],_,_,_=>rfl
 | s::r,last,h,hp=>by
  obtain ⟨p1,p2⟩:=List.pairwise_cons.1 hp
  have h1:=h s sQ
  unfold seamsL
  rw [if_neg (by rw [h1.1]; decide),if_neg oQ]
  exact qa r _ (fun t ht=>⟨(h t (by simp [ht])).1,p1 t ht⟩) p2
theorem xH {b:RBk}:∀ (l:List RBand) (i:Nat),(∀ k x,l[k]? =some x->bandB x=true/\x.high<wideM b (i+k))->clothsL b i l=0
 | [],_,_=>rfl
 | x::r,i,h=>by
  have h1:=h 0 x rfl
  unfold clothsL
  rw [if_neg (by rw [h1.1]; decide),if_neg (by have:=h1.2; rw [Nat.add_zero] at this; omega)]
  exact xH r _ fun k y hy=>by
   have:=h (k+1) y (by simpa using hy)
   rwa [show i+(k+1)=i+1+k by omega] at this
theorem qv {b:RBk}:∀ (l:List RMeas),(∀ m∈l,0<=m.cloth/\m.cloth<b.seams.length/\1<=m.many/\m.many<=b.seams.length/\0<=m.wide/\m.wide<=24)->measL b l=0
 | [],_=>rfl
 | m::r,h=>by
  have h1:=h m sQ
  have h2:thereM b m.cloth=0:=by unfold thereM; rw [if_pos (by simp [betw]; omega)]
  have h3:measB b m=true:=by simp only [measB,betw,mX,decide_eq_true_eq]; omega
  unfold measL
  rw [if_neg (by rw [h2]; decide),if_neg (by rw [h3]; decide)]
  exact qv r fun y hy=>h y (by simp [hy])
theorem qT {b:RBk} (h:ROk b):zr b=0:=by
 have hr:=h.rnd
 have h1:roundsM b=0:=by
  unfold roundsM
  rw [if_pos]
  simp only [betw,mX,decide_eq_true_eq]
  exact ⟨⟨⟨hr.steps,hr.round⟩,hr.roll⟩,hr.rolls⟩
 have hs:=h.sms
 have sat:∀ i,(hi:i<b.seams.length)->b.seams[i]=sm b i:=fun i hi=>by
  have:=yV hi
  rw [lA hi] at this
  exact Option.some.inj this
 have h2:seamsM b=0:=by
  have hbl:betw b.seams.length 1 5=true:=by
   have:=hs.len
   simp only [betw,mX,decide_eq_true_eq]
   omega
  unfold seamsM
  rw [if_neg (by rw [hbl]; decide)]
  refine qa _ _ (fun s hm=>?_) (List.pairwise_iff_getElem.2 fun i j hi hj hij=>by rw [sat i hi,sat j hj]; exact hs.asc i j hij hj)
  obtain ⟨i,hi,rfl⟩:=List.getElem_of_mem hm
  rw [sat i hi]
  have:=hs.fld i hi
  exact ⟨by simp only [seamB,betw,mX,decide_eq_true_eq]; omega,by omega⟩
 have h3:clothsM b=0:=by
  unfold clothsM
  rw [if_neg (by rw [h.cls.len]; simp)]
  refine xH _ _ fun k x hx=>?_
  have hk:k<b.shrinks.length:=by
   rcases mR k b.shrinks.length with h | h
   ·exact h
   ·rw [lU h] at hx; cases hx
  rw [ko hk] at hx
  cases hx
  have:=h.cls.bnd k (by have:=h.cls.len; omega)
  exact ⟨by simp only [bandB,isBd,mX,decide_eq_true_eq]; omega,by rw [mO]; exact this.2.2.2.2⟩
 have h4:measM b=0:=by
  unfold measM
  have:=h.mes.len
  rw [if_neg oQ]
  exact qv _ h.mes.bnd
 unfold zr
 rw [if_neg (by rw [h1]; decide),if_neg (by rw [h2]; decide),if_neg (by rw [h3]; decide)]
 exact h4
def leavesL (all:List (List Int)) (i:Nat) (low:Int):Nat->Int
 | 0=>0
 | k+1=>max (leavesL all i low k) (cntM all i (low+k))
def leavesM (b:RBk) (i:Nat):Int:=leavesL (zf b) i (bd b i).low ((bd b i).high+1 - (bd b i).low).toNat
theorem qw (all:List (List Int)) (n:Nat):∀ k,k<=all.length->0<=mostL all n k/\∀ v,(cntM (all.take k) n v:Int)<=mostL all n k
 | 0,_=>⟨Int.le_refl _,fun v=>by simp [cntM,mostL]⟩
 | k+1,h=>by
  obtain ⟨h1,h2⟩:=qw all n k oQ
  have hg:all[k]? =some all[k]:=lA oQ
  rw [zhd hg]
  refine ⟨by omega,fun v=>?_⟩
  rw [zfK hg n v]
  by_cases e:v=zN all[k] n
  ·have:=zfK hg n v
   rw [if_pos e] at this
   rw [if_pos e,<- this,e]
   omega
  ·rw [if_neg e]
   have:=h2 v
   omega
theorem qc (all:List (List Int)) (n k:Nat) (v:Int):cntM (all.take k) n v<=cntM all n v:=by
 unfold cntM
 exact ((List.take_sublist k all).filter _).length_le
theorem qx (all:List (List Int)) (n:Nat) (M:Int) (h0:0<=M) (hv:∀ s∈all,(cntM all n (zN s n):Int)<=M):∀ k,k<=all.length->mostL all n k<=M
 | 0,_=>h0
 | k+1,h=>by
  have h1:=qx all n M h0 hv k oQ
  have hg:all[k]? =some all[k]:=lA oQ
  rw [zhd hg]
  have h2:=hv all[k] (List.getElem_mem _)
  have h3:=qc all n (k+1) (zN all[k] n)
  omega
theorem jP (b:RBk) (all:List (List Int)):∀ k,-1<=(askL b all k).1/\(askL b all k).1<k/\(askL b all k).2<=all.length/\((askL b all k).1<0->(askL b all k).2=all.length)/\(0<=(askL b all k).1->(askL b all k).2<all.length/\mostL all (askL b all k).1.toNat all.length=(askL b all k).2)/\∀ j,j<k->(askL b all k).2<=mostL all j all.length/\(0<=(askL b all k).1->(j:Int)<(askL b all k).1->(askL b all k).2<mostL all j all.length)
 | 0=>⟨by show (-1:Int) <= -1; omega,by show (-1:Int)<((0:Nat):Int); omega,Int.le_refl _,fun _=>rfl,fun h=>absurd (show (0:Int) <= -1 from h) dQ,fun j h=>by omega⟩
 | k+1=>by
  obtain ⟨h1,h2,h3,h4,h5,h6⟩:=jP b all k
  unfold askL
  by_cases h:mostL all k all.length<(askL b all k).2
  ·rw [if_pos h]
   dsimp only
   refine ⟨by omega,by omega,by omega,fun h=>by omega,fun _=>⟨by omega,by rw [mZ]⟩,fun j hj=>?_⟩
   by_cases e:j=k
   ·subst e; exact ⟨Int.le_refl _,fun _ h=>by omega⟩
   ·have:=h6 j oQ; exact ⟨by omega,fun _ _=>by omega⟩
  ·rw [if_neg h]
   refine ⟨h1,by omega,h3,h4,h5,fun j hj=>?_⟩
   by_cases e:j=k
   ·subst e; exact ⟨by omega,fun _ h=>by omega⟩
   ·exact h6 j oQ
end Go.Vel
namespace Go.Vel
open Go Go.Conc Go.Proofs
instance:EqG tp 49:={}
instance:EqG tp 94:={}
instance:FlatF tp 49 [(3,0),(3,1),(3,2)]:={}
instance:FlatF tp 94 [(3,0),(3,1),(3,2),(3,3),(4,4)]:={}
instance:Und tp 4 .bool:={}
theorem xE {main T} (hT:zo tp main T) {gm} {b:RBk} {s h e s2 h2 e2:Nat} (hl:b.seams.length<=100) (hl2:b.shrinks.length<=100) (hl3:b.measures.length<=100) :
  zA tp T gm 44 [.agg (zE b s h e),.agg (zE b s2 h2 e2)] [(s,zk b),(h,zB b),(e,zq b),(s2,zk b),(h2,zB b),(e2,zq b)] (fun r K'=>r=zP true/\K'=[(s,zk b),(h,zB b),(e,zq b),(s2,zk b),(h2,zB b),(e2,zq b)]):=by
 refine zp 115 hT Tryz.func44 fun Y hret=>?_
 refine au [4,5,21] ?_
 intro jb hjb
 refine au [21] ?_
 intro jc hjc
 refine au [2,3,4,4,5,7,9,7,9,6,1] ?_
 refine TK.sp 13 (fun g1_6=>?_) (fun g1_6=>?_)
 ·simp at g1_6
 refine au [7,9,7,9,6,25,1] ?_
 refine TK.sp 20 (fun g1_13=>?_) (fun g1_13=>?_)
 ·simp at g1_13
 refine au [7,9,7,9,6,25,1] ?_
 refine TK.sp 27 (fun g1_20=>?_) (fun g1_20=>?_)
 ·simp at g1_20
 refine au [7,9,7,9,6,25,1] ?_
 refine TK.sp 34 (fun g1_27=>?_) (fun g1_27=>?_)
 ·simp at g1_27
 refine au [7,9,28,7,9,28,6,25,1] ?_
 refine TK.sp 43 (fun g1_36=>?_) (fun g1_36=>?_)
 ·simp at g1_36
 refine au [7,9,28,7,9,28,6,25,1] ?_
 refine TK.sp 52 (fun g1_45=>?_) (fun g1_45=>?_)
 ·simp at g1_45
 refine au [7,9,28,7,9,28,6,25,3,20] ?_
 refine ⟨fun hc0=>?_,fun hc0=>?_⟩
 ·simp at hc0
 refine au [12,4,4,5,2,3,13] ?_
 refine TK.maskL [2,3,4,5] ?_
 refine TK.kp [(jb,_),(jc,_),(s,_),(h,_),(e,_),(s2,_),(h2,_),(e2,_)] ?_
 refine TK.loopN (fun n env K=>∃ (i:Nat),n=b.seams.length - i/\i<=b.seams.length/\env=naL 2 (.ptr jb 0::.ptr jc 0::zP false::intA i::naL 109 [])/\K=[(jb,.cells (zE b s h e) 26 true),(jc,.cells (zE b s2 h2 e2) 26 true),(s,zk b),(h,zB b),(e,zq b),(s2,zk b),(h2,zB b),(e2,zq b)]) b.seams.length ⟨0,rfl,mN _,rfl,rfl⟩ fun n env K hI hnext=>?_
 obtain ⟨i,rfl,hi,rfl,rfl⟩:=hI
 refine TK.na nQ ?_
 refine au [4,4,5,1,7,9,28,6,3,20] ?_
 refine ⟨fun hc1=>?_,fun hc1=>?_⟩
 ·have hil:i<b.seams.length:=by simp at hc1; omega
  obtain ⟨x,hx⟩:∃ x,b.seams[i]? =some x:=⟨_,lA hil⟩
  refine au [12,4,13,4] ?_
  refine TK.draw [0,1,2,3,4,5,6,7,8,9,10] [0,1,2,3,4,5,6,7,8,9,10] (by kernel_rfl) (by kernel_rfl) ?_
  refine TD.z [2] Z (zg Z Z zl.h dQ) ?_
  refine TD.y [68] Z (hq:=zm Z Z zi.h (mC _) Z) (h:=?_)
  refine TD.z [5] Z (zh Z Z) ?_
  refine TD.z [69,70] Z (zQ Z Z Z zF.h oQ oQ) ?_
  refine TD.y [71] Z (hq:=z8 Z Z zi.h (mC _) (w9 (c:=5) (f:=seamC) (fun _=>rfl) hx rfl dQ)) (h:=?_)
  refine TD.z [3] Z (zg Z Z zl.h dQ) ?_
  refine TD.y [73] Z (hq:=zm Z Z zi.h (mC _) Z) (h:=?_)
  refine TD.z [5] Z (zh Z Z) ?_
  refine TD.z [74,75] Z (zQ Z Z Z zF.h oQ oQ) ?_
  refine TD.y [76] Z (hq:=z8 Z Z zi.h (mC _) (w9 (c:=5) (f:=seamC) (fun _=>rfl) hx rfl dQ)) (h:=?_)
  refine TD.z [72,77] Z (uO Z Z Z Z Z FlatF.h EqG.h) ?_
  refine TD.fin ?_
  refine au [20] ?_
  refine ⟨fun hc2=>?_,fun hc2=>?_⟩
  ·simp at hc2
  refine au [12,14,5,1,23,2,3] ?_
  refine TK.maskL [2,3,4,5] ?_
  refine TK.kp [(jb,_),(jc,_),(s,_),(h,_),(e,_),(s2,_),(h2,_),(e2,_)] ?_
  exact hnext _ _ _ oQ ⟨i+1,rfl,by omega,rfl,rfl⟩
 obtain rfl:i=b.seams.length:=by simp at hc1; omega
 refine au [16,4,4,5,2,3,13] ?_
 refine TK.maskL [2,3,4,6] ?_
 refine TK.kp [(jb,_),(jc,_),(s,_),(h,_),(e,_),(s2,_),(h2,_),(e2,_)] ?_
 refine TK.loopN (fun n env K=>∃ (i:Nat),n=b.shrinks.length - i/\i<=b.shrinks.length/\env=naL 2 (.ptr jb 0::.ptr jc 0::zP false::.any::intA i::naL 108 [])/\K=[(jb,.cells (zE b s h e) 26 true),(jc,.cells (zE b s2 h2 e2) 26 true),(s,zk b),(h,zB b),(e,zq b),(s2,zk b),(h2,zB b),(e2,zq b)]) b.shrinks.length ⟨0,rfl,mN _,rfl,rfl⟩ fun n env K hI hnext=>?_
 obtain ⟨i,rfl,hi,rfl,rfl⟩:=hI
 refine TK.na nQ ?_
 refine au [4,4,5,1,7,9,28,6,3,20] ?_
 refine ⟨fun hc3=>?_,fun hc3=>?_⟩
 ·have hil:i<b.shrinks.length:=by simp at hc3; omega
  obtain ⟨x,hx⟩:∃ x,b.shrinks[i]? =some x:=⟨_,lA hil⟩
  refine au [12,4,13,4] ?_
  refine TK.draw [0,1,2,3,4,5,6,7,8,9,10] [0,1,2,3,4,5,6,7,8,9,10] (by kernel_rfl) (by kernel_rfl) ?_
  refine TD.z [2] Z (zg Z Z zl.h dQ) ?_
  refine TD.y [86] Z (hq:=zm Z Z zi.h (mC _) Z) (h:=?_)
  refine TD.z [6] Z (zh Z Z) ?_
  refine TD.z [87,88] Z (zQ Z Z Z zF.h oQ oQ) ?_
  refine TD.y [89] Z (hq:=z8 Z Z zi.h (mC _) (w9 (c:=2) (f:=bandC) (fun _=>rfl) hx rfl dQ)) (h:=?_)
  refine TD.z [3] Z (zg Z Z zl.h dQ) ?_
  refine TD.y [91] Z (hq:=zm Z Z zi.h (mC _) Z) (h:=?_)
  refine TD.z [6] Z (zh Z Z) ?_
  refine TD.z [92,93] Z (zQ Z Z Z zF.h oQ oQ) ?_
  refine TD.y [94] Z (hq:=z8 Z Z zi.h (mC _) (w9 (c:=2) (f:=bandC) (fun _=>rfl) hx rfl dQ)) (h:=?_)
  refine TD.z [90,95] Z (uO Z Z Z Z Z FlatF.h EqG.h) ?_
  refine TD.fin ?_
  refine au [20] ?_
  refine ⟨fun hc4=>?_,fun hc4=>?_⟩
  ·simp at hc4
  refine au [12,14,5,1,23,2,3] ?_
  refine TK.maskL [2,3,4,6] ?_
  refine TK.kp [(jb,_),(jc,_),(s,_),(h,_),(e,_),(s2,_),(h2,_),(e2,_)] ?_
  exact hnext _ _ _ oQ ⟨i+1,rfl,by omega,rfl,rfl⟩
 obtain rfl:i=b.shrinks.length:=by simp at hc3; omega
 refine au [16,4,4,5,2,3,13] ?_
 refine TK.maskL [2,3,4,7] ?_
 refine TK.kp [(jb,_),(jc,_),(s,_),(h,_),(e,_),(s2,_),(h2,_),(e2,_)] ?_
 refine TK.loopN (fun n env K=>∃ (i:Nat),n=b.measures.length - i/\i<=b.measures.length/\env=naL 2 (.ptr jb 0::.ptr jc 0::zP false::naL 2 (intA i::naL 107 []))/\K=[(jb,.cells (zE b s h e) 26 true),(jc,.cells (zE b s2 h2 e2) 26 true),(s,zk b),(h,zB b),(e,zq b),(s2,zk b),(h2,zB b),(e2,zq b)]) b.measures.length ⟨0,rfl,mN _,rfl,rfl⟩ fun n env K hI hnext=>?_
 obtain ⟨i,rfl,hi,rfl,rfl⟩:=hI
 refine TK.na nQ ?_
 refine au [4,4,5,1,7,9,28,6,3,20] ?_
 refine ⟨fun hc5=>?_,fun hc5=>?_⟩
 ·have hil:i<b.measures.length:=by simp at hc5; omega
  obtain ⟨x,hx⟩:∃ x,b.measures[i]? =some x:=⟨_,lA hil⟩
  refine au [12,4,13,4] ?_
  refine TK.draw [0,1,2,3,4,5,6,7,8,9,10] [0,1,2,3,4,5,6,7,8,9,10] (by kernel_rfl) (by kernel_rfl) ?_
  refine TD.z [2] Z (zg Z Z zl.h dQ) ?_
  refine TD.y [104] Z (hq:=zm Z Z zi.h (mC _) Z) (h:=?_)
  refine TD.z [7] Z (zh Z Z) ?_
  refine TD.z [105,106] Z (zQ Z Z Z zF.h oQ oQ) ?_
  refine TD.y [107] Z (hq:=z8 Z Z zi.h (mC _) (w9 (c:=3) (f:=measC) (fun _=>rfl) hx rfl dQ)) (h:=?_)
  refine TD.z [3] Z (zg Z Z zl.h dQ) ?_
  refine TD.y [109] Z (hq:=zm Z Z zi.h (mC _) Z) (h:=?_)
  refine TD.z [7] Z (zh Z Z) ?_
  refine TD.z [110,111] Z (zQ Z Z Z zF.h oQ oQ) ?_
  refine TD.y [112] Z (hq:=z8 Z Z zi.h (mC _) (w9 (c:=3) (f:=measC) (fun _=>rfl) hx rfl dQ)) (h:=?_)
  refine TD.z [108,113] Z (uO Z Z Z Z Z FlatF.h EqG.h) ?_
  refine TD.fin ?_
  refine au [20] ?_
  refine ⟨fun hc6=>?_,fun hc6=>?_⟩
  ·simp at hc6
  refine au [12,14,5,1,23,2,3] ?_
  refine TK.maskL [2,3,4,7] ?_
  refine TK.kp [(jb,_),(jc,_),(s,_),(h,_),(e,_),(s2,_),(h2,_),(e2,_)] ?_
  exact hnext _ _ _ oQ ⟨i+1,rfl,by omega,rfl,rfl⟩
 obtain rfl:i=b.measures.length:=by simp at hc5; omega
 refine au [16,4,5,2,3] ?_
 refine TK.rt hret [(s,_),(h,_),(e,_),(s2,_),(h2,_),(e2,_)] ?_
 exact ⟨rfl,rfl⟩
instance:Cal tp 19:={}
instance:Cal tp 44:={}
instance:Cal tp 49:={}
section
variable {P:Program} {gm:Nat->Option Nat} {V:KV} {env:List AV} {o:Oper}
end
theorem jat {x y:Int} {r t:List Int} (h:¬ x=y):decide (lexM (x::r) (y::t)<0)=decide (x<y):=by
 refine decide_eq_decide.2 ?_
 simp only [lexM]
 by_cases h1:x<y
 ·rw [if_pos h1]; simp [h1]
 ·rw [if_neg h1,if_pos oQ]; simp [h1]
theorem qr {xs ys:List Int} {i:Nat} (hi:i<=xs.length) (hi2:i<=ys.length) (h:xs.length<=i\/ys.length<=i):decide (lexM (xs.drop i) (ys.drop i)<0)=decide ((xs.length:Int)<ys.length):=by
 refine decide_eq_decide.2 ?_
 rcases mR i xs.length with h1 | h1
 ·have h2:ys.length<=i:=by omega
  rw [zH (z5 h1),List.drop_eq_nil_of_le h2]
  simp only [lexM]
  omega
 ·rw [List.drop_eq_nil_of_le h1]
  rcases mR i ys.length with h2 | h2
  ·rw [zH (z5 h2)]
   simp only [lexM]
   omega
  ·rw [List.drop_eq_nil_of_le h2]
   simp only [lexM]
   omega
instance:Cal tp 62:={}
instance:Cal tp 75:={}
theorem qd {main T} (hT:zo tp main T) {gm} {j j2:Nat} {xs ys:List Int} {e1 e2:TypeId} (hl:xs.length<=1000) (hl2:ys.length<=1000) :
  zA tp T gm 75 [.sl j 0 xs.length,.sl j2 0 ys.length] [(j,.cells (xs.map intA) e1 false),(j2,.cells (ys.map intA) e2 false)] (fun r K'=>r=zP (decide (lexM xs ys<0))/\K'=[(j,.cells (xs.map intA) e1 false),(j2,.cells (ys.map intA) e2 false)]):=by
 refine zp 41 hT Tryz.func75 fun Y hret=>?_
 refine au [4,5,2,3,4,4,5,2,3,13] ?_
 refine TK.maskL [0,1,5] ?_
 refine TK.loopN (fun n env K=>∃ (i:Nat),n=xs.length - i/\i<=xs.length/\i<=ys.length/\lexM (xs.drop i) (ys.drop i)=lexM xs ys/\env=.sl j 0 xs.length::.sl j2 0 ys.length::naL 3 (intA i::naL 35 [])/\K=[(j,.cells (xs.map intA) e1 false),(j2,.cells (ys.map intA) e2 false)]) xs.length ⟨0,rfl,mN _,mN _,rfl,rfl,rfl⟩ fun n env K hI hnext=>?_
 obtain ⟨i,rfl,hi,hi2,hinv,rfl,rfl⟩:=hI
 refine TK.na nQ ?_
 refine au [4,4,5,1,1,28,6,1] ?_
 refine TK.sp 10 (fun g2_5=>?_) (fun g2_5=>?_)
 ·have hil:i<xs.length:=by have:=of_decide_eq_true g2_5; omega
  refine au [1,1,28,6,26,3,20] ?_
  refine ⟨fun hc0=>?_,fun hc0=>?_⟩
  ·have hjl:i<ys.length:=by have:=of_decide_eq_true hc0; omega
   refine au [12,4,13,4] ?_
   refine TK.draw [0,1,2,3,4,5,6,7,8] [0,1,2,3,4,5,6,7,8] (by kernel_rfl) (by kernel_rfl) ?_
   refine TD.z [0] Z (zh Z Z) ?_
   refine TD.z [5] Z (zh Z Z) ?_
   refine TD.z [18,19] Z (zQ Z Z Z zF.h oQ oQ) ?_
   refine TD.y [20] Z (hq:=zm Z Z zi.h (mC _) (yh (i:=i) (z5 hil) Z)) (h:=?_)
   refine TD.z [1] Z (zh Z Z) ?_
   refine TD.z [5] Z (zh Z Z) ?_
   refine TD.z [22,23] Z (zQ Z Z Z zF.h oQ oQ) ?_
   refine TD.y [24] Z (hq:=zm Z Z zi.h (mC _) (yh (i:=i) (z5 hjl) Z)) (h:=?_)
   refine TD.z [21,25] Z (q_cmp Z Z Z Z) ?_
   refine TD.fin ?_
   refine au [20] ?_
   refine ⟨fun hc1=>?_,fun hc1=>?_⟩
   ·refine au [4] ?_
    refine TK.draw [0,1,2,3,4,5,6,7,8,9] [0,1,2,3,4,5,6,7,8,9] (by kernel_rfl) (by kernel_rfl) ?_
    refine TD.z [0] Z (zh Z Z) ?_
    refine TD.z [5] Z (zh Z Z) ?_
    refine TD.z [27,28] Z (zQ Z Z Z zF.h oQ oQ) ?_
    refine TD.y [29] Z (hq:=zm Z Z zi.h (mC _) (yh (i:=i) (z5 hil) Z)) (h:=?_)
    refine TD.z [1] Z (zh Z Z) ?_
    refine TD.z [5] Z (zh Z Z) ?_
    refine TD.z [31,32] Z (zQ Z Z Z zF.h oQ oQ) ?_
    refine TD.y [33] Z (hq:=zm Z Z zi.h (mC _) (yh (i:=i) (z5 hjl) Z)) (h:=?_)
    refine TD.z [30,34] Z (q_cmp Z Z Z Z) ?_
    refine TD.as (pend':=[]) [35] Z Z (zD Z Z) ?_
    refine TD.fin ?_
    refine au [] ?_
    refine TK.rt hret [(j,_),(j2,_)] ?_
    exact ⟨by rw [<- hinv,zH (z5 hil),zH (z5 hjl),jat (by simpa using hc1)] <;> rfl,rfl⟩
   refine au [12,14,5,1,23,2,3] ?_
   refine TK.maskL [0,1,5] ?_
   exact hnext _ _ _ oQ ⟨i+1,rfl,by omega,by omega,by rw [<- hinv,zH (z5 hil),zH (z5 hjl)]; simp only [lexM]; simp at hc1; rw [if_neg oQ,if_neg oQ],rfl,rfl⟩
  have hjl:=of_decide_eq_false hc0
  refine au [16,4,5,1,28,1,28,6,2,3] ?_
  refine TK.rt hret [(j,_),(j2,_)] ?_
  exact ⟨by rw [<- hinv,qr hi hi2 (.inr oQ)] <;> rfl,rfl⟩
 have hil:=of_decide_eq_false g2_5
 refine au [11,11,11,11,25,3,19,16,4,5,1,28,1,28,6,2,3] ?_
 refine TK.rt hret [(j,_),(j2,_)] ?_
 exact ⟨by rw [<- hinv,qr hi hi2 (.inl oQ)] <;> rfl,rfl⟩
theorem xh {main T} (hT:zo tp main T) {gm} {j j2:Nat} {xs ys:List Int} {e1 e2:TypeId} (hl:xs.length<=1000) (hl2:ys.length<=1000) :
  zA tp T gm 65 [.sl j 0 xs.length,.sl j2 0 ys.length] [(j,.cells (xs.map intA) e1 false),(j2,.cells (ys.map intA) e2 false)] (fun r K'=>r=zP (smallerM xs ys)/\K'=[(j,.cells (xs.map intA) e1 false),(j2,.cells (ys.map intA) e2 false)]):=by
 refine zp 22 hT Tryz.func65 fun Y hret=>?_
 refine au [4,5,2,3,4,5,1,28,1,28,6,1] ?_
 refine TK.sp 10 (fun g1_6=>?_) (fun g1_6=>?_)
 ·refine au [11,11,11,11,11,11,11,11,11,11,26,2,3] ?_
  refine TK.rt hret [(j,_),(j2,_)] ?_
  exact ⟨by simp at g1_6; simp [smallerM,g1_6],rfl⟩
 refine au [1,28,1,28,6,1] ?_
 refine TK.sp 16 (fun g1_12=>?_) (fun g1_12=>?_)
 ·refine au [1,1] ?_
  refine TK.cl Z Z Z Z (qd hT hl hl2) ?_
  rintro r1 K2 ⟨rfl,rfl⟩
  refine au [26,25,2,3] ?_
  refine TK.rt hret [(j,_),(j2,_)] ?_
  exact ⟨by simp at g1_6 g1_12; unfold smallerM; rw [decide_eq_false (show ¬ xs.length<ys.length by omega),decide_eq_true (show xs.length=ys.length by omega)]; rfl,rfl⟩
 refine au [11,11,11,25,25,2,3] ?_
 refine TK.rt hret [(j,_),(j2,_)] ?_
 exact ⟨by simp at g1_6 g1_12; unfold smallerM; rw [decide_eq_false (show ¬ xs.length<ys.length by omega),decide_eq_false (show ¬ xs.length=ys.length by omega)]; rfl,rfl⟩
section
variable {main:Bool} {T:Goroutine->Hp->Prop} {b:RBk} {s h e j:Nat} {l:List Int} {et:TypeId}
end
instance:Cal tp 50:={}
instance:Cal tp 65:={}
instance:Cal tp 76:={}
end Go.Vel
namespace Go.Vel
open Go Go.Conc
def sumF (f:Nat->Int):Nat->Int
 | 0=>0
 | k+1=>sumF f k+f k
theorem jC {f g:Nat->Int}:∀ n,(∀ i,i<n->f i=g i)->sumF f n=sumF g n
 | 0,_=>rfl
 | n+1,h=>by
  unfold sumF
  rw [jC n (fun i hi=>h i oQ),h n oQ]
theorem jV {f g:Nat->Int} {k:Nat}:∀ n,k<n->(∀ i,i≠k->g i=f i)->sumF g n=sumF f n - f k+g k
 | 0,h,_=>by omega
 | n+1,h,he=>by
  unfold sumF
  by_cases e:k=n
  ·subst e
   rw [jC k (fun i hi=>he i oQ)]
   omega
  ·rw [jV n oQ he,he n (fun h=>e h.symm)]
   omega
theorem jM {f:Nat->Int} {n:Nat} (h:∀ i,n<=i->f i=0):∀ k,sumF f (n+k)=sumF f n
 | 0=>rfl
 | k+1=>by
  show sumF f (n+k)+f (n+k)=_
  rw [jM h k,h _ oQ,Int.add_zero]
theorem jU (f g:Nat->Int):∀ n,sumF (fun i=>f i+g i) n=sumF f n+sumF g n
 | 0=>rfl
 | n+1=>by
  show sumF (fun i=>f i+g i) n+(f n+g n)=sumF f n+f n+(sumF g n+g n)
  rw [jU f g n]
  omega
theorem xK {lt:Int->Int->Bool} {x:Int} {S:List Int}:∀ j,j<=S.length->(insJ lt x S j).Perm (x::S)
 | 0,_=>List.Perm.refl _
 | j+1,h=>by
  unfold insJ
  rw [lA oQ]
  dsimp only
  split
  ·exact xK j oQ
  ·have h1:=List.perm_middle (a:=x) (l₁:=S.take (j+1)) (l₂:=S.drop (j+1))
   rwa [List.take_append_drop] at h1
theorem jS {lt:Int->Int->Bool} {l:List Int}:∀ i,i<=l.length->(sortN lt l i).Perm (l.take i)
 | 0,_=>by rw [List.take_zero]; exact List.Perm.refl _
 | i+1,h=>by
  have hg:l[i]? =some l[i]:=lA oQ
  rw [wA hg,yP hg]
  exact (xK _ (mL _)).trans ((List.Perm.cons _ (jS i oQ)).trans (List.perm_append_singleton _ _).symm)
theorem xP (b:RBk) (l:List Int):(ordM b l).Nodup:=by
 unfold ordM sortR
 refine (jS _ (mL _)).nodup_iff.2 ?_
 rw [lW]
 unfold idxM
 exact List.Pairwise.map _ (fun a b hab=>by intro h; exact hab oQ) List.nodup_range
theorem xV {L:List Int} {k i:Nat} {v:Int} (h:k<L.length):(L.set k v).getD i 0=if i=k then v else L.getD i 0:=by
 rw [lE,List.getElem?_set,lE]
 by_cases e:k=i
 ·rw [if_pos e,if_pos h,if_pos e.symm]; rfl
 ·rw [if_neg e,if_neg (fun hh=>e hh.symm)]
theorem xF {b:RBk} {l:List Int}:∀ (o:List Int) (z:Alloc),o.Nodup->(∀ k∈o,0<=k/\k<l.length)->(∀ k∈o,z.steps.getD k.toNat 0=0)->z.steps.length=l.length->0<=z.left->(∀ k∈o,0<=(cutS b l k.toNat).most)->(∀ i,0<=z.steps.getD i 0/\(i<l.length->z.steps.getD i 0<=(cutS b l i).most\/(i:Int)∈o)) ->
  sumF (fun i=>(o.foldl (allocM b l) z).steps.getD i 0) l.length+(o.foldl (allocM b l) z).left=sumF (fun i=>z.steps.getD i 0) l.length+z.left /\
  (o.foldl (allocM b l) z).squares - sumF (fun i=>(o.foldl (allocM b l) z).steps.getD i 0*(cutS b l i).busy) l.length=z.squares - sumF (fun i=>z.steps.getD i 0*(cutS b l i).busy) l.length /\
  0<=(o.foldl (allocM b l) z).left/\∀ i,0<=(o.foldl (allocM b l) z).steps.getD i 0/\(i<l.length->(o.foldl (allocM b l) z).steps.getD i 0<=(cutS b l i).most)
 | [],z,_,_,_,_,hz,_,hm=>⟨rfl,rfl,hz,fun i=>⟨(hm i).1,fun hi=>by
  rcases (hm i).2 hi with h | h
  ·exact h
  ·cases h⟩⟩
 | k::o,z,hn,ho,h0,hlen,hz,hmo,hm=>by
  obtain ⟨n1,n2⟩:=List.nodup_cons.1 hn
  have hk:=ho k sQ
  have hkl:k.toNat<z.steps.length:=by omega
  have hk0:=h0 k sQ
  have hmk:=hmo k sQ
  rw [List.foldl_cons]
  obtain ⟨v,hv⟩:∃ v,v=min z.left (cutS b l k.toNat).most:=⟨_,rfl⟩
  have hz':allocM b l z k=⟨z.steps.set k.toNat v,z.squares+v*(cutS b l k.toNat).busy,z.left - v⟩:=by rw [hv]; rfl
  have hs:∀ i,(z.steps.set k.toNat v).getD i 0=if i=k.toNat then v else z.steps.getD i 0:=fun i=>xV hkl
  obtain ⟨r1,r2,r3,r4⟩:=xF o (allocM b l z k) n2 (fun x hx=>ho x (by simp [hx])) (fun x hx=>by
   rw [hz']
   show (z.steps.set k.toNat v).getD x.toNat 0=0
   have hx0:=ho x (by simp [hx])
   have hne:x≠k:=fun e=>n1 (e ▸ hx)
   rw [hs,if_neg oQ]
   exact h0 x (by simp [hx])) (by rw [hz']; show (z.steps.set k.toNat v).length=_; rw [List.length_set]; exact hlen) (by rw [hz']; show 0<=z.left - v; omega) (fun x hx=>hmo x (by simp [hx])) (fun i=>by
   rw [hz']
   show 0<=(z.steps.set k.toNat v).getD i 0/\(i<l.length->(z.steps.set k.toNat v).getD i 0<=_\/_)
   rw [hs]
   by_cases e:i=k.toNat
   ·rw [if_pos e]
    exact ⟨by omega,fun _=>.inl (by rw [e]; omega)⟩
   ·rw [if_neg e]
    refine ⟨(hm i).1,fun hi=>?_⟩
    rcases (hm i).2 hi with h | h
    ·exact .inl h
    ·rcases lI.1 h with h | h
     ·omega
     ·exact .inr h)
  have e1:sumF (fun i=>(allocM b l z k).steps.getD i 0) l.length=sumF (fun i=>z.steps.getD i 0) l.length+v:=by
   rw [hz']
   rw [jV (f:=fun i=>z.steps.getD i 0) (k:=k.toNat) l.length oQ (fun i hi=>by show (z.steps.set k.toNat v).getD i 0=_; rw [hs,if_neg hi])]
   show _ - z.steps.getD k.toNat 0+(z.steps.set k.toNat v).getD k.toNat 0=_
   rw [hs,if_pos rfl,hk0]
   omega
  have e2:sumF (fun i=>(allocM b l z k).steps.getD i 0*(cutS b l i).busy) l.length=sumF (fun i=>z.steps.getD i 0*(cutS b l i).busy) l.length+v*(cutS b l k.toNat).busy:=by
   rw [hz']
   rw [jV (f:=fun i=>z.steps.getD i 0*(cutS b l i).busy) (k:=k.toNat) l.length oQ (fun i hi=>by show (z.steps.set k.toNat v).getD i 0*_=_; rw [hs,if_neg hi])]
   show _ - z.steps.getD k.toNat 0*_+(z.steps.set k.toNat v).getD k.toNat 0*_=_
   rw [hs,if_pos rfl,hk0,Int.zero_mul]
   omega
  rw [e1] at r1
  rw [e2] at r2
  rw [hz'] at r1 r2 r3 r4 ⊢
  dsimp only at r1 r2
  refine ⟨by omega,by omega,r3,r4⟩
theorem xQ (b:RBk) (l:List Int):∀ k,spoilM b l k=sumF (fun i=>(cutS b l i).spoil) k
 | 0=>rfl
 | k+1=>by
  show spoilM b l k+_=sumF _ k+_
  rw [xQ b l k]
def needM (b:RBk) (l w:List Int) (k:Nat):Int:=sumF (fun i=>(cutS b l i).spoil+w.getD i 0*(cutS b l i).busy) k
theorem xn {b:RBk} (hb:ROk b) {l s w:List Int} {q:Int} (hl:CutsOk b l) (hs:StOk b s) (h:hangM b l s=some (w,q)):fitsM b l=true/\w.length=l.length/\sumF (fun i=>w.getD i 0) l.length=freshM b s/\q=needM b l w l.length/\∀ i,0<=w.getD i 0/\(i<l.length->w.getD i 0<=(cutS b l i).most):=by
 obtain ⟨hwl,_⟩:=zhT hb hl hs h
 unfold hangM at h
 split at h
 ·cases h
 ·rename_i hf
  dsimp only at h
  split at h
  ·cases h
  ·rename_i hle
   have hr:∀ i,(alloc0 b l (freshM b s)).steps.getD i 0=0:=fun i=>by
    show (mB l.length (0:Int)).getD i 0=0
    rw [lE,List.getElem?_replicate]
    split <;> rfl
   obtain ⟨r1,r2,r3,r4⟩:=xF (b:=b) (l:=l) (ordM b l) (alloc0 b l (freshM b s)) (xP b l) (fun k hk=>zdO hk) (fun k _=>hr _) (by show (mB l.length (0:Int)).length=_; rw [List.length_replicate]) (zcl hb hs).1 (fun k hk=>by
    have:=zdO hk
    exact (hb.sms.fld _ (hl.lt (k:=k.toNat) oQ).2.2).2.2.1) (fun i=>by
    rw [hr]
    refine ⟨Int.le_refl _,fun hi=>.inl ?_⟩
    exact (hb.sms.fld _ (hl.lt hi).2.2).2.2.1)
   have z1:sumF (fun i=>(alloc0 b l (freshM b s)).steps.getD i 0) l.length=0:=by
    rw [jC (g:=fun _=>0) l.length (fun i _=>hr i)]
    have:=jM (f:=fun _=>0) (n:=0) (fun _ _=>rfl) l.length
    rwa [mO] at this
   have z2:sumF (fun i=>(alloc0 b l (freshM b s)).steps.getD i 0*(cutS b l i).busy) l.length=0:=by
    rw [jC (g:=fun _=>0) l.length (fun i _=>by rw [hr i,Int.zero_mul])]
    have:=jM (f:=fun _=>0) (n:=0) (fun _ _=>rfl) l.length
    rwa [mO] at this
   rw [z1] at r1
   rw [z2] at r2
   have q1:(alloc0 b l (freshM b s)).left=freshM b s:=rfl
   have q2:(alloc0 b l (freshM b s)).squares=spoilM b l l.length:=rfl
   cases h
   refine ⟨by simpa using hf,hwl,?_,?_,r4⟩
   ·unfold allocA at hle ⊢
    omega
   ·unfold needM
    rw [jU,<- xQ]
    unfold allocA
    omega
def manyM (b:RBk) (l:List Int) (i:Nat):Int:=if i+1<l.length then zN l (i+1) - zN l i else zN l 0 - zN l i+b.seams.length
def nowS (b:RBk) (s:List Int) (x:Nat):Int:=sumF (nowM b s) x
end Go.Vel
namespace Go.Vel
open Go Go.Conc Go.Proofs
def u16A (x:Fin 65536):AV:=.v (.int .u16 (x.1:Int))
def u16O (l:List (Fin 65536)):AObj:=.cells (l.flatMap fun x=>[u16A x]) 212 false
def choM (l:List (Fin 65536)) (i:Nat):Int:=match l[i]? with | some x=>x.1 | none=>0
def chosenM (x:RBand) (n:Int):Int:=x.low+n % (x.high - x.low+1)
def realM (b:RBk) (ps:List (Fin 65536)):Nat->List Int
 | 0=>[]
 | i+1=>realM b ps i++[chosenM (bd b i) (choM ps i)]
instance:Cal tp 139:={}
instance:Cal tp 140:={}
instance:zF tp 91 212 1:={}
instance:zi tp 212 false 1:={}
instance:Und tp 212 (.int .u16):={}
instance:Und tp 91 (.slice 212):={}
theorem qD {main T} (hT:zo tp main T) {gm} {b:RBk} {s h e j c m:Nat} {st:List Int} {et:TypeId} (hb:ROk b) (hs:StOk b st) (hc:c<b.seams.length) (hm:m<=b.seams.length) :
  zA tp T gm 73 [.agg (zE b s h e),intA c,intA m,.sl j 0 st.length] [(s,zk b),(j,.cells (st.map intA) et false)] (fun r K'=>r=intA (togM b st c m)/\K'=[(s,zk b),(j,.cells (st.map intA) et false)]):=by
 refine zp 35 hT Tryz.func73 fun Y hret=>?_
 refine au [] ?_
 have hsl:=hb.sms.len
 have hst:=hs.len
 refine au [4,5,21] ?_
 intro jb hjb
 refine au [2,3,4,5,2,3,4,4,5,2,3,13] ?_
 refine TK.maskL [1,2,3,4,9,10] ?_
 refine TK.kp [(s,_),(j,_),(jb,_)] ?_
 refine TK.loopN (fun n env K=>∃ (i:Nat),n=m - i/\i<=m/\env=.any::intA c::intA m::.sl j 0 st.length::.ptr jb 0::naL 4 (intA (togM b st c i)::intA i::naL 24 [])/\K=[(s,zk b),(j,.cells (st.map intA) et false),(jb,.cells (zE b s h e) 26 true)]) m ⟨0,rfl,mN _,rfl,rfl⟩ fun n env K hI hnext=>?_
 obtain ⟨i,rfl,hi,rfl,rfl⟩:=hI
 refine TK.na nQ ?_
 refine au [4,4,5,1,1,6,3,20] ?_
 refine ⟨fun hc0=>?_,fun hc0=>?_⟩
 ·have hil:i<m:=by simp at hc0; omega
  have hkl:(c+i) % b.seams.length<b.seams.length:=Nat.mod_lt _ oQ
  have htb:=za8 hb hs (c:=c) i
  have hwd:=hb.wide hkl
  have hsb:=hs.bnd _ hkl
  refine au [12,4,13,4,5,1,1,23,7,9,28] ?_
  refine TK.a Z (q_rem Z Z Z oQ oQ) ?_
  refine au [2,3] ?_
  rw [show ((c:Int)+(i:Int)) % (b.seams.length:Int)=(((c+i) % b.seams.length:Nat):Int) by rw [<- Int.natCast_add,<- Int.natCast_emod]]
  have htn:togM b st c i+wideM b ((c+i) % b.seams.length) - zN st ((c+i) % b.seams.length)=togM b st c (i+1):=by show _=togM b st c i+(wideM b _ - st.getD _ 0); unfold zN; omega
  have hsb2:0<=zN st ((c+i) % b.seams.length)/\zN st ((c+i) % b.seams.length)<=5:=⟨hsb.1,hsb.2.1⟩
  refine TK.draw [0,1,2,5,6,7,8,3,4,9,10] [0,1,2,3,4,5,6,7,8,9,10] (by kernel_rfl) (by kernel_rfl) ?_
  refine TD.z [9] Z (zh Z Z) ?_
  refine TD.y [4] Z (hq:=z8 Z Z zi.h (mC _) Z) (h:=?_)
  refine TD.z [11] Z (zh Z Z) ?_
  refine TD.z [3] Z (zh Z Z) ?_
  refine TD.z [11] Z (zh Z Z) ?_
  refine TD.z [29,30] Z (zQ Z Z Z zF.h oQ oQ) ?_
  refine TD.y [31] Z (hq:=zm Z Z zi.h (mC _) (yh (i:=(c+i) % b.seams.length) (z5 oQ) Z)) (h:=?_)
  refine TD.cl (pend':=[⟨8,[31],[(_,_)]⟩,⟨7,[29,30],[]⟩,⟨6,[11],[]⟩,⟨5,[3],[]⟩,⟨0,[9],[]⟩]) [25,26] Z Z Z Z Z (zfx hT (i:=(c+i) % b.seams.length) hb.rnd hb.sms hkl) (fun r1 K2 h3=>⟨?_,?_⟩)
  ·rcases h3 with ⟨rfl,rfl⟩
   all_goals simp
  obtain ⟨rfl,rfl⟩:=h3
  try simp only [cA]
  refine TD.norm tQ ?_
  refine TD.z [24,27] Z (q_add Z Z Z oQ) ?_
  refine TD.z [28,32] Z (q_sub Z Z Z oQ) ?_
  refine TD.as (pend':=[]) [33] Z Z (zD Z Z) ?_
  refine TD.fin ?_
  refine au [14,5,1,23,2,3] ?_
  refine TK.maskL [1,2,3,4,9,10] ?_
  refine TK.kp [(s,_),(j,_),(jb,_)] ?_
  exact hnext _ _ _ oQ ⟨i+1,rfl,by omega,by rw [htn]; rfl,rfl⟩
 obtain rfl:i=m:=by simp at hc0; omega
 refine au [16,4,5,1,2,3] ?_
 refine TK.rt hret [(s,_),(j,_)] ?_
 exact ⟨rfl,rfl⟩
end Go.Vel
namespace Go.Vel
open Go Go.Conc
def fS (f:Int->Int):List Int->Int
 | []=>0
 | k::o=>f k+fS f o
theorem xJ (f:Int->Int):∀ a c,fS f (a++c)=fS f a+fS f c
 | [],c=>by show fS f c=0+fS f c; omega
 | k::a,c=>by show f k+fS f (a++c)=f k+fS f a+fS f c; rw [xJ f a c]; omega
theorem jab (f:Int->Int) {a c:List Int} (h:a.Perm c):fS f a=fS f c:=by
 induction h with
 | nil=>rfl
 | cons x _ ih=>show f x+_=f x+_; rw [ih]
 | swap x y l=>show f y+(f x+fS f l)=f x+(f y+fS f l); omega
 | trans _ _ h1 h2=>exact h1.trans h2
theorem qG (f:Int->Int):∀ n,fS f (idxM n)=sumF (fun i=>f i) n
 | 0=>rfl
 | n+1=>by
  have e:idxM (n+1)=idxM n++[(n:Int)]:=by unfold idxM; rw [List.range_succ,lM]; rfl
  rw [e,xJ,qG f n]
  show _+(f n+0)=_+f n
  omega
theorem xS (f:Int->Int) (b:RBk) (l:List Int):fS f (ordM b l)=sumF (fun i=>f i) l.length:=by
 rw [<- qG]
 unfold ordM sortR
 refine jab f ?_
 have h:=jS (lt:=busyLt b l) (l:=idxM l.length) (idxM l.length).length (mL _)
 rwa [lW] at h
theorem fS_le {f g:Int->Int}:∀ o:List Int,(∀ k∈o,f k<=g k)->fS f o<=fS g o
 | [],_=>Int.le_refl _
 | k::o,h=>by
  have h1:=h k sQ
  have h2:=fS_le o (fun x hx=>h x (by simp [hx]))
  show f k+_<=g k+_
  omega
theorem fS_nn {f:Int->Int}:∀ o:List Int,(∀ k∈o,0<=f k)->0<=fS f o
 | [],_=>Int.le_refl _
 | k::o,h=>by
  have h1:=h k sQ
  have h2:=fS_nn o (fun x hx=>h x (by simp [hx]))
  show 0<=f k+_
  omega
def gC (m c:Int->Int):List Int->Int->Int
 | [],_=>0
 | k::o,n=>min n (m k)*c k+gC m c o (n - min n (m k))
theorem qm {m c:Int->Int}:∀ o:List Int,(∀ k∈o,0<=m k)->gC m c o 0=0
 | [],_=>rfl
 | k::o,h=>by
  have h1:=h k sQ
  show min 0 (m k)*c k+gC m c o (0 - min 0 (m k))=0
  rw [Int.min_eq_left h1,Int.zero_mul,Int.sub_zero,qm o (fun x hx=>h x (by simp [hx]))]
  rfl
theorem xk {m c:Int->Int} {c0:Int}:∀ (o:List Int) (n d:Int),(∀ k∈o,c0<=c k/\0<=m k)->0<=d->d<=n->n<=fS m o->gC m c o (n - d)+d*c0<=gC m c o n
 | [],n,d,_,h1,h2,h3=>by
  have h3:n<=0:=h3
  have:d=0:=by omega
  subst this
  show (0:Int)+0*c0<=0
  rw [Int.zero_mul]; decide
 | k::o,n,d,h,h1,h2,h3=>by
  have hk:=h k sQ
  have ho:∀ x∈o,c0<=c x/\0<=m x:=fun x hx=>h x (by simp [hx])
  have h3:n<=m k+fS m o:=h3
  have hz:gC m c o 0=0:=qm o (fun x hx=>(ho x hx).2)
  show min (n - d) (m k)*c k+gC m c o (n - d - min (n - d) (m k))+d*c0<=min n (m k)*c k+gC m c o (n - min n (m k))
  by_cases hA:m k<=n - d
  ·rw [Int.min_eq_right hA,Int.min_eq_right oQ]
   have:=xk o (n - m k) d ho h1 oQ oQ
   rw [show n - d - m k=n - m k - d by omega]
   omega
  ·rw [Int.min_eq_left (show n - d<=m k by omega),Int.sub_self,hz]
   by_cases hB:n<=m k
   ·rw [Int.min_eq_left hB,Int.sub_self,hz]
    have e:n*c k=(n - d)*c k+d*c k:=by rw [<- Int.add_mul]; congr 1; omega
    have q:=Int.mul_le_mul_of_nonneg_left hk.1 h1
    omega
   ·rw [Int.min_eq_right oQ]
    have ih:=xk o (n - m k) (n - m k) ho oQ oQ oQ
    rw [Int.sub_self,hz] at ih
    obtain ⟨e,he⟩:∃ e,e=m k - (n - d):=⟨_,rfl⟩
    have e1:m k*c k=(n - d)*c k+e*c k:=by rw [<- Int.add_mul]; congr 1; omega
    have e2:d*c0=e*c0+(n - m k)*c0:=by rw [<- Int.add_mul]; congr 1; omega
    have q:=Int.mul_le_mul_of_nonneg_left hk.1 (show 0<=e by omega)
    omega
theorem qH {m c x:Int->Int}:∀ (o:List Int) (n:Int),o.Pairwise (fun a d=>c a<=c d)->(∀ k∈o,0<=x k/\x k<=m k)->n=fS x o->gC m c o n<=fS (fun k=>x k*c k) o
 | [],n,_,_,_=>Int.le_refl _
 | k::o,n,hp,h,hn=>by
  obtain ⟨p1,p2⟩:=List.pairwise_cons.1 hp
  have hk:=h k sQ
  have ho:∀ y∈o,0<=x y/\x y<=m y:=fun y hy=>h y (by simp [hy])
  have hn:n=x k+fS x o:=hn
  have h0:=fS_nn o (fun y hy=>(ho y hy).1)
  have hcap:=fS_le o (fun y hy=>(ho y hy).2)
  have ih:=qH o (fS x o) p2 ho rfl
  obtain ⟨a,ha⟩:∃ a,a=min n (m k):=⟨_,rfl⟩
  have sh:=xk (m:=m) (c:=c) (c0:=c k) o (fS x o) (a - x k) (fun y hy=>⟨p1 y hy,by have:=ho y hy; omega⟩) oQ oQ hcap
  show min n (m k)*c k+gC m c o (n - min n (m k))<=x k*c k+_
  rw [<- ha,show n - a=fS x o - (a - x k) by omega]
  have e:a*c k=x k*c k+(a - x k)*c k:=by rw [<- Int.add_mul]; congr 1; omega
  omega
theorem xf {lt:Int->Int->Bool} {K:Int->Int} {x:Int} {S:List Int} (hlt:∀ y∈S,lt x y=decide (K x<K y)) (hS:S.Pairwise fun a c=>K a<=K c):∀ j,j<=S.length->(∀ i y,j<=i->S[i]? =some y->K x<K y)->(insJ lt x S j).Pairwise fun a c=>K a<=K c
 | 0,_,h=>by
  refine List.pairwise_cons.2 ⟨fun y hy=>?_,hS⟩
  obtain ⟨i,hi,rfl⟩:=List.getElem_of_mem hy
  have:=h i _ (mN _) (lA hi)
  omega
 | j+1,hj,h=>by
  have hg:S[j]? =some S[j]:=lA oQ
  have hm:S[j]∈S:=List.getElem_mem _
  unfold insJ
  rw [hg]
  dsimp only
  by_cases hl:lt x S[j]=true
  ·rw [if_pos hl]
   rw [hlt _ hm] at hl
   refine xf hlt hS j oQ fun i y hi hy=>?_
   by_cases e:i=j
   ·subst e
    rw [hg] at hy
    cases hy
    exact of_decide_eq_true hl
   ·exact h i y oQ hy
  ·rw [if_neg hl]
   rw [hlt _ hm] at hl
   have hl:¬ K x<K S[j]:=by simpa using hl
   have hS':=hS
   rw [<- List.take_append_drop (j+1) S] at hS'
   obtain ⟨p1,p2,p3⟩:=List.pairwise_append.1 hS'
   have hd:∀ y∈S.drop (j+1),K x<=K y:=fun y hy=>by
    obtain ⟨i,hi,rfl⟩:=List.getElem_of_mem hy
    rw [List.getElem_drop]
    have:=h (j+1+i) _ oQ (lA (by rw [List.length_drop] at hi; omega))
    omega
   have ht:∀ a∈S.take (j+1),K a<=K x:=fun a ha=>by
    have p1':=p1
    rw [yP hg] at ha p1'
    rcases lT.1 ha with ha | ha
    ·have:=(List.pairwise_append.1 p1').2.2 a ha S[j] sQ
     omega
    ·rw [lS.1 ha]; omega
   refine List.pairwise_append.2 ⟨p1,List.pairwise_cons.2 ⟨hd,p2⟩,fun a ha c hc=>?_⟩
   rcases lI.1 hc with rfl | hc
   ·exact ht a ha
   ·exact p3 a ha c hc
theorem xe {lt:Int->Int->Bool} {K:Int->Int} {l:List Int} (hlt:∀ x∈l,∀ y∈l,lt x y=decide (K x<K y)):∀ i,i<=l.length->(sortN lt l i).Pairwise fun a c=>K a<=K c
 | 0,_=>.nil
 | i+1,h=>by
  have hg:l[i]? =some l[i]:=lA oQ
  rw [wA hg]
  refine xf (fun y hy=>hlt _ (List.getElem_mem _) y (uR i oQ y hy)) (xe hlt i oQ) _ (mL _) fun k y hk hy=>?_
  rw [lU hk] at hy
  cases hy
def pw:Nat->Int
 | 0=>10000
 | 1=>1000
 | 2=>100
 | 3=>10
 | _=>1
def wgt (b:RBk) (l:List Int) (k:Int):Int:=(cutS b l k.toNat).busy*1000000+pw k.toNat
theorem jaj {b:RBk} {l:List Int} (hl:l.length<=5):(ordM b l).Pairwise fun a c=>wgt b l a<=wgt b l c:=by
 have hs:(ordM b l).Pairwise fun a c=>(cutS b l a.toNat).busy*10 - a<=(cutS b l c.toNat).busy*10 - c:=by
  unfold ordM sortR
  refine xe (K:=fun a=>(cutS b l a.toNat).busy*10 - a) (fun x hx y hy=>?_) _ (mL _)
  have h1:=zbi hx
  have h2:=zbi hy
  unfold busyLt
  rw [Bool.eq_iff_iff]
  simp only [Bool.or_eq_true,mX,decide_eq_true_eq]
  omega
 refine hs.imp_of_mem ?_
 intro a c ha hc h
 have h1:=zdO ha
 have h2:=zdO hc
 unfold wgt
 obtain ⟨i,rfl⟩:=Int.eq_ofNat_of_zero_le h1.1
 obtain ⟨j,rfl⟩:=Int.eq_ofNat_of_zero_le h2.1
 simp only [mZ] at h ⊢
 have hi:i=0\/i=1\/i=2\/i=3\/i=4:=by omega
 have hj:j=0\/j=1\/j=2\/j=3\/j=4:=by omega
 rcases hi with rfl | rfl | rfl | rfl | rfl <;> rcases hj with rfl | rfl | rfl | rfl | rfl <;> simp only [pw] <;> omega
theorem xu {b:RBk} {l:List Int} (C:Nat->Int):∀ (o:List Int) (z:Alloc),o.Nodup->(∀ k∈o,0<=k/\k<l.length)->(∀ k∈o,z.steps.getD k.toNat 0=0)->z.steps.length=l.length ->
  sumF (fun i=>(o.foldl (allocM b l) z).steps.getD i 0*C i) l.length=sumF (fun i=>z.steps.getD i 0*C i) l.length+gC (fun k=>(cutS b l k.toNat).most) (fun k=>C k.toNat) o z.left
 | [],z,_,_,_,_=>by show _=_+(0:Int); rw [Int.add_zero]; rfl
 | k::o,z,hn,ho,h0,hlen=>by
  obtain ⟨n1,n2⟩:=List.nodup_cons.1 hn
  have hk:=ho k sQ
  have hkl:k.toNat<z.steps.length:=by omega
  have hk0:=h0 k sQ
  rw [List.foldl_cons]
  obtain ⟨v,hv⟩:∃ v,v=min z.left (cutS b l k.toNat).most:=⟨_,rfl⟩
  have hz':allocM b l z k=⟨z.steps.set k.toNat v,z.squares+v*(cutS b l k.toNat).busy,z.left - v⟩:=by rw [hv]; rfl
  have hs:∀ i,(z.steps.set k.toNat v).getD i 0=if i=k.toNat then v else z.steps.getD i 0:=fun i=>xV hkl
  have r:=xu (b:=b) (l:=l) C o (allocM b l z k) n2 (fun x hx=>ho x (by simp [hx])) (fun x hx=>by
   rw [hz']
   show (z.steps.set k.toNat v).getD x.toNat 0=0
   have hx0:=ho x (by simp [hx])
   have hne:x≠k:=fun e=>n1 (e ▸ hx)
   rw [hs,if_neg oQ]
   exact h0 x (by simp [hx])) (by rw [hz']; show (z.steps.set k.toNat v).length=_; rw [List.length_set]; exact hlen)
  have e2:sumF (fun i=>(allocM b l z k).steps.getD i 0*C i) l.length=sumF (fun i=>z.steps.getD i 0*C i) l.length+v*C k.toNat:=by
   rw [hz']
   rw [jV (f:=fun i=>z.steps.getD i 0*C i) (k:=k.toNat) l.length oQ (fun i hi=>by show (z.steps.set k.toNat v).getD i 0*_=_; rw [hs,if_neg hi])]
   show _ - z.steps.getD k.toNat 0*_+(z.steps.set k.toNat v).getD k.toNat 0*_=_
   rw [hs,if_pos rfl,hk0,Int.zero_mul]
   omega
  rw [r,e2,hz']
  show _+gC _ _ o (z.left - v)=_+(min z.left (cutS b l k.toNat).most*C k.toNat+gC _ _ o (z.left - min z.left (cutS b l k.toNat).most))
  rw [<- hv]
  omega
theorem xv {b:RBk} {l:List Int}:∀ (o:List Int) (z:Alloc),(∀ k∈o,0<=(cutS b l k.toNat).most)->0<=z.left->(o.foldl (allocM b l) z).left=max 0 (z.left - fS (fun k=>(cutS b l k.toNat).most) o)
 | [],z,_,h=>by show z.left=max 0 (z.left - 0); omega
 | k::o,z,hm,h=>by
  have hk:=hm k sQ
  rw [List.foldl_cons,xv o _ (fun x hx=>hm x (by simp [hx])) (by show 0<=z.left - min z.left (cutS b l k.toNat).most; omega)]
  show max 0 (z.left - min z.left (cutS b l k.toNat).most - _)=max 0 (z.left - ((cutS b l k.toNat).most+_))
  have h0:=fS_nn (f:=fun k=>(cutS b l k.toNat).most) o (fun x hx=>hm x (by simp [hx]))
  omega
def mostS (b:RBk) (l:List Int) (k:Nat):Int:=sumF (fun i=>(cutS b l i).most) k
theorem jag {b:RBk} (hb:ROk b) {l:List Int} (hl:CutsOk b l):∀ k∈ordM b l,0<=(cutS b l k.toNat).most:=fun k hk=>by
 have:=zdO hk
 exact (hb.sms.fld _ (hl.lt (k:=k.toNat) oQ).2.2).2.2.1
theorem xx {b:RBk} (hb:ROk b) {l s:List Int} (hl:CutsOk b l) (hs:StOk b s):(hangM b l s).isSome=(fitsM b l&&decide (freshM b s<=mostS b l l.length)):=by
 have hleft:=xv (b:=b) (l:=l) (ordM b l) (alloc0 b l (freshM b s)) (jag hb hl) (zcl hb hs).1
 rw [xS] at hleft
 simp only [mZ] at hleft
 have e:(alloc0 b l (freshM b s)).left=freshM b s:=rfl
 unfold hangM
 by_cases hf:fitsM b l=false
 ·rw [if_pos hf,hf]; rfl
 ·rw [if_neg hf,show fitsM b l=true by simpa using hf,Bool.true_and]
  dsimp only
  unfold allocA mostS
  by_cases h:0<((ordM b l).foldl (allocM b l) (alloc0 b l (freshM b s))).left
  ·rw [if_pos h,decide_eq_false oQ]; rfl
  ·rw [if_neg h,decide_eq_true oQ]; rfl
theorem qb (f g:Nat->Int) (c:Int):∀ n,sumF (fun i=>f i*c+g i) n=sumF f n*c+sumF g n
 | 0=>by show (0:Int)=0*c+0; rw [Int.zero_mul]; rfl
 | n+1=>by
  show sumF (fun i=>f i*c+g i) n+(f n*c+g n)=(sumF f n+f n)*c+(sumF g n+g n)
  rw [qb f g c n,Int.add_mul]
  omega
def numW (x:List Int) (n:Nat):Int:=sumF (fun i=>x.getD i 0*pw i) n
theorem jac:∀ (n:Nat) (x y:List Int),n<=5->x.length=n->y.length=n->(∀ i,0<=x.getD i 0/\x.getD i 0<=9)->(∀ i,0<=y.getD i 0/\y.getD i 0<=9)->lexM x y<0->numW x n<numW y n
 | 0,[],[],_,_,_,_,_,h=>by simp [lexM] at h
 | 1,[a],[p],_,_,_,hx,hy,h=>by
  simp only [lexM] at h
  show 0+a*10000<0+p*10000
  split at h
  ·omega
  ·split at h <;> omega
 | 2,[a,c],[p,q],_,_,_,hx,hy,h=>by
  have a0:=hx 0; have a1:=hx 1; have b0:=hy 0; have b1:=hy 1
  simp only [List.getD_cons_zero,List.getD_cons_succ] at a0 a1 b0 b1
  simp only [lexM] at h
  show 0+a*10000+c*1000<0+p*10000+q*1000
  repeat' (split at h)
  all_goals omega
 | 3,[a,c,d],[p,q,r],_,_,_,hx,hy,h=>by
  have a0:=hx 0; have a1:=hx 1; have a2:=hx 2; have b0:=hy 0; have b1:=hy 1; have b2:=hy 2
  simp only [List.getD_cons_zero,List.getD_cons_succ] at a0 a1 a2 b0 b1 b2
  simp only [lexM] at h
  show 0+a*10000+c*1000+d*100<0+p*10000+q*1000+r*100
  repeat' (split at h)
  all_goals omega
 | 4,[a,c,d,e],[p,q,r,s],_,_,_,hx,hy,h=>by
  have a0:=hx 0; have a1:=hx 1; have a2:=hx 2; have a3:=hx 3; have b0:=hy 0; have b1:=hy 1; have b2:=hy 2; have b3:=hy 3
  simp only [List.getD_cons_zero,List.getD_cons_succ] at a0 a1 a2 a3 b0 b1 b2 b3
  simp only [lexM] at h
  show 0+a*10000+c*1000+d*100+e*10<0+p*10000+q*1000+r*100+s*10
  repeat' (split at h)
  all_goals omega
 | 5,[a,c,d,e,f],[p,q,r,s,t],_,_,_,hx,hy,h=>by
  have a0:=hx 0; have a1:=hx 1; have a2:=hx 2; have a3:=hx 3; have a4:=hx 4; have b0:=hy 0; have b1:=hy 1; have b2:=hy 2; have b3:=hy 3; have b4:=hy 4
  simp only [List.getD_cons_zero,List.getD_cons_succ] at a0 a1 a2 a3 a4 b0 b1 b2 b3 b4
  simp only [lexM] at h
  show 0+a*10000+c*1000+d*100+e*10+f*1<0+p*10000+q*1000+r*100+s*10+t*1
  repeat' (split at h)
  all_goals omega
 | n+6,_,_,h5,_,_,_,_,_=>by omega
theorem qI {x:List Int} {n:Nat} (h5:n<=5) (hx:∀ i,0<=x.getD i 0/\x.getD i 0<=9):0<=numW x n/\numW x n<100000:=by
 have a0:=hx 0; have a1:=hx 1; have a2:=hx 2; have a3:=hx 3; have a4:=hx 4
 have h:n=0\/n=1\/n=2\/n=3\/n=4\/n=5:=by omega
 rcases h with rfl | rfl | rfl | rfl | rfl | rfl <;> simp only [numW,sumF,pw] <;> omega
theorem xw (b:RBk) (l x:List Int):sumF (fun i=>x.getD i 0*wgt b l i) l.length=sumF (fun i=>x.getD i 0*(cutS b l i).busy) l.length*1000000+numW x l.length:=by
 unfold numW
 rw [<- qb]
 refine jC _ fun i _=>?_
 unfold wgt
 rw [mZ,Int.mul_add,Int.mul_assoc]
theorem cheapest {b:RBk} (hb:ROk b) {l s w:List Int} {q:Int} (hl:CutsOk b l) (hs:StOk b s) (h:hangM b l s=some (w,q)) {x:List Int} (hxl:x.length=l.length) (hx:∀ i,0<=x.getD i 0/\(i<l.length->x.getD i 0<=(cutS b l i).most)) (hsum:sumF (fun i=>x.getD i 0) l.length=freshM b s):needM b l w l.length<=needM b l x l.length/\(needM b l w l.length<needM b l x l.length\/decide (lexM x w<0)=false):=by
 have hn5:l.length<=5:=by have:=hl.len; have:=hb.sms.len; omega
 obtain ⟨hfit,hwl,hws,hq,hwb⟩:=xn hb hl hs h
 have nine:∀ {y:List Int},y.length=l.length->(∀ i,0<=y.getD i 0/\(i<l.length->y.getD i 0<=(cutS b l i).most))->∀ i,0<=y.getD i 0/\y.getD i 0<=9:=fun {y} hyl hy i=>by
  refine ⟨(hy i).1,?_⟩
  by_cases hi:i<l.length
  ·have h1:=(hy i).2 hi
   have h2:=(hb.sms.fld _ (hl.lt hi).2.2).2.2.2.1
   unfold cutS at h1
   omega
  ·rw [lE,lU oQ]
   decide
 have key:sumF (fun i=>w.getD i 0*wgt b l i) l.length<=sumF (fun i=>x.getD i 0*wgt b l i) l.length:=by
  have hr:∀ i,(alloc0 b l (freshM b s)).steps.getD i 0=0:=fun i=>by
   show (mB l.length (0:Int)).getD i 0=0
   rw [lE,List.getElem?_replicate]
   split <;> rfl
  have hc:=xu (b:=b) (l:=l) (fun i=>wgt b l i) (ordM b l) (alloc0 b l (freshM b s)) (xP b l) (fun k hk=>zdO hk) (fun k _=>hr _) (by show (mB l.length (0:Int)).length=_; rw [List.length_replicate])
  have hw:w=((ordM b l).foldl (allocM b l) (alloc0 b l (freshM b s))).steps:=by
   unfold hangM at h
   split at h
   ·cases h
   ·dsimp only at h
    split at h
    ·cases h
    ·cases h; rfl
  have z2:sumF (fun i=>(alloc0 b l (freshM b s)).steps.getD i 0*wgt b l i) l.length=0:=by
   rw [jC (g:=fun _=>0) l.length (fun i _=>by rw [hr i,Int.zero_mul])]
   have:=jM (f:=fun _=>0) (n:=0) (fun _ _=>rfl) l.length
   rwa [mO] at this
  rw [<- hw,z2,Int.zero_add] at hc
  rw [hc]
  have ho:=qH (m:=fun k=>(cutS b l k.toNat).most) (c:=wgt b l) (x:=fun k=>x.getD k.toNat 0) (ordM b l) (freshM b s) (jaj hn5) (fun k hk=>by
   have:=zdO hk
   exact ⟨(hx _).1,(hx _).2 oQ⟩) (by rw [xS]; simp only [mZ]; exact hsum.symm)
  rw [xS] at ho
  simp only [mZ] at ho
  refine Int.le_trans (Int.le_of_eq ?_) ho
  show gC _ _ _ (freshM b s)=_
  congr 1
 rw [xw,xw] at key
 have n1:=qI hn5 (nine hwl hwb)
 have n2:=qI hn5 (nine hxl hx)
 unfold needM
 rw [jU,jU]
 refine ⟨by omega,?_⟩
 by_cases hlt:sumF (fun i=>w.getD i 0*(cutS b l i).busy) l.length<sumF (fun i=>x.getD i 0*(cutS b l i).busy) l.length
 ·exact .inl oQ
 ·right
  refine decide_eq_false fun hlex=>?_
  have:=jac l.length x w hn5 hxl hwl (nine hxl hx) (nine hwl hwb) hlex
  omega
theorem qk:∀ (r:List Int) (x:Int),r.foldl min x<=x/\(∀ y∈r,r.foldl min x<=y)/\(r.foldl min x=x\/r.foldl min x∈r)
 | [],x=>⟨Int.le_refl _,fun y hy=>(by cases hy),.inl rfl⟩
 | z::r,x=>by
  obtain ⟨h1,h2,h3⟩:=qk r (min x z)
  rw [List.foldl_cons]
  refine ⟨by omega,fun y hy=>?_,?_⟩
  ·rcases lI.1 hy with rfl | hy
   ·omega
   ·exact h2 y hy
  ·rcases h3 with h3 | h3
   ·rw [h3]
    by_cases e:x<=z
    ·left; omega
    ·right; rw [Int.min_eq_right oQ]; simp
   ·right; simp [h3]
theorem qj:∀ (r:List Int) (x:Int),x<=r.foldl max x/\(∀ y∈r,y<=r.foldl max x)/\(r.foldl max x=x\/r.foldl max x∈r)
 | [],x=>⟨Int.le_refl _,fun y hy=>(by cases hy),.inl rfl⟩
 | z::r,x=>by
  obtain ⟨h1,h2,h3⟩:=qj r (max x z)
  rw [List.foldl_cons]
  refine ⟨by omega,fun y hy=>?_,?_⟩
  ·rcases lI.1 hy with rfl | hy
   ·omega
   ·exact h2 y hy
  ·rcases h3 with h3 | h3
   ·rw [h3]
    by_cases e:z<=x
    ·left; omega
    ·right; rw [Int.max_eq_right oQ]; simp
   ·right; simp [h3]
theorem qM {xs:List Int} (hne:xs≠[]):(∀ y∈xs,(spreadM xs).1<=y/\y<=(spreadM xs).2)/\(spreadM xs).1∈xs/\(spreadM xs).2∈xs:=by
 cases xs with
 | nil=>exact absurd rfl hne
 | cons x r =>
  obtain ⟨a1,a2,a3⟩:=qk r x
  obtain ⟨c1,c2,c3⟩:=qj r x
  show (∀ y∈x::r,r.foldl min x<=y/\y<=r.foldl max x)/\r.foldl min x∈x::r/\r.foldl max x∈x::r
  refine ⟨fun y hy=>?_,?_,?_⟩
  ·rcases lI.1 hy with rfl | hy
   ·exact ⟨a1,c1⟩
   ·exact ⟨a2 y hy,c2 y hy⟩
  ·rcases a3 with h | h
   ·rw [h]; simp
   ·simp [h]
  ·rcases c3 with h | h
   ·rw [h]; simp
   ·simp [h]
theorem sq_in {b:RBk} {all:List (List Int)} {l:List Int} (hne:all≠[]) (h:sqOk b all l=true):(∀ s∈all,∀ w q,hangM b l s=some (w,q)->sqLo b all l<=q/\q<=sqHi b all l)/\(∃ s∈all,∃ w,hangM b l s=some (w,sqLo b all l))/\∃ s∈all,∃ w,hangM b l s=some (w,sqHi b all l):=by
 have hall:=(xr b all l).1 h
 have hlt:¬ (waysM b all l).length<all.length:=fun hh=>by
  unfold sqOk squaresM at h
  rw [if_pos hh] at h
  cases h
 have e:squaresM b all l=some (spreadM ((waysM b all l).map (·.2))):=by unfold squaresM; rw [if_neg hlt]
 have hnn:(waysM b all l).map (·.2)≠[]:=fun hh=>by
  have h1:=congrArg List.length hh
  rw [lJ] at h1
  have h2:0<all.length:=List.length_pos_iff.2 hne
  simp only [List.length_nil] at h1
  omega
 obtain ⟨g1,g2,g3⟩:=qM hnn
 unfold sqLo sqHi
 rw [e]
 show (∀ s∈all,∀ w q,hangM b l s=some (w,q)->(spreadM _).1<=q/\q<=(spreadM _).2)/\(∃ s∈all,∃ w,hangM b l s=some (w,(spreadM _).1))/\∃ s∈all,∃ w,hangM b l s=some (w,(spreadM _).2)
 have back:∀ q,q∈(waysM b all l).map (·.2)->∃ s∈all,∃ w,hangM b l s=some (w,q):=fun q hq=>by
  obtain ⟨⟨w,q'⟩,hz,rfl⟩:=lY.1 hq
  obtain ⟨s,hs,hz⟩:=List.mem_filterMap.1 hz
  exact ⟨s,hs,w,hz⟩
 exact ⟨fun s hs w q hq=>g1 q (lY.2 ⟨(w,q),List.mem_filterMap.2 ⟨s,hs,hq⟩,rfl⟩),back _ g2,back _ g3⟩
theorem jal {b o:RBk} {all:List (List Int)} {l:List Int} (hne:all≠[]) (hb:sqOk b all l=true) (h:∀ s∈all,∀ w q,hangM b l s=some (w,q)->∃ w' q',hangM o l s=some (w',q')/\q'<=q):sqOk o all l=true/\sqLo o all l<=sqLo b all l/\sqHi o all l<=sqHi b all l:=by
 have hall:=(xr b all l).1 hb
 have ho:sqOk o all l=true:=(xr o all l).2 fun s hs=>by
  obtain ⟨⟨w,q⟩,hz⟩:=Option.isSome_iff_exists.1 (hall s hs)
  obtain ⟨w',q',h1,_⟩:=h s hs w q hz
  rw [h1]; rfl
 obtain ⟨b1,⟨s1,hs1,w1,e1⟩,_⟩:=sq_in hne hb
 obtain ⟨o1,_,s2,hs2,w2,e2⟩:=sq_in hne ho
 refine ⟨ho,?_,?_⟩
 ·obtain ⟨w',q',g1,g2⟩:=h s1 hs1 w1 _ e1
  have:=(o1 s1 hs1 w' q' g1).1
  omega
 ·obtain ⟨⟨w,q⟩,hz⟩:=Option.isSome_iff_exists.1 (hall s2 hs2)
  obtain ⟨w',q',g1,g2⟩:=h s2 hs2 w q hz
  rw [e2] at g1
  cases g1
  have:=(b1 s2 hs2 w q hz).2
  omega
structure Wider (b o:RBk):Prop where
 steps:o.steps=b.steps
 round:o.round=b.round
 roll:b.roll<=o.roll
 rolls:b.rolls<=o.rolls
 len:o.seams.length=b.seams.length
 shr:o.shrinks=b.shrinks
 mes:o.measures=b.measures
 sm:∀ i,i<b.seams.length->(sm o i).step=(sm b i).step/\(sm o i).busy=(sm b i).busy/\(sm o i).spoil=(sm b i).spoil/\(sm o i).whole=(sm b i).whole/\(sm b i).most<=(sm o i).most
theorem Wider.at {b o:RBk} (h:Wider b o) (r:Int):Wider (atRound b r) (atRound o r):=⟨h.steps,rfl,h.roll,h.rolls,h.len,h.shr,h.mes,h.sm⟩
theorem Wider.wide {b o:RBk} (h:Wider b o) {i:Nat} (hi:i<b.seams.length):wideM o i=wideM b i:=by
 unfold wideM
 rw [h.len,h.steps,(h.sm i hi).1,(h.sm 0 oQ).1]
 by_cases e:i+1<b.seams.length
 ·rw [if_pos e,if_pos e,(h.sm _ e).1]
 ·rw [if_neg e,if_neg e]
theorem Wider.tog {b o:RBk} (h:Wider b o) (h0:0<b.seams.length) (s:List Int) (c:Nat):∀ k,togM o s c k=togM b s c k
 | 0=>rfl
 | k+1=>by
  unfold togM nowM
  rw [h.tog h0 s c k,h.len,h.wide (Nat.mod_lt _ h0)]
theorem Wider.from {b o:RBk} (h:Wider b o) (h0:0<b.seams.length):∀ (r:List RBand) (p:List Int),fromM o p r=fromM b p r
 | [],p=>by
  unfold fromM rightM
  rw [h.mes]
  simp only [h.tog h0]
 | x::r,p=>by
  unfold fromM
  congr 1
  funext n
  exact h.from h0 r _
theorem Wider.cuts {b o:RBk} (h:Wider b o) {l:List Int} (hl:CutsOk b l):CutsOk o l:=⟨hl.pos,fun n hn=>by rw [h.len]; exact hl.bnd n hn,hl.asc⟩
theorem Wider.cut {b o:RBk} (h:Wider b o) {l:List Int} (hl:CutsOk b l) {k:Nat} (hk:k<l.length):(cutS o l k).step=(cutS b l k).step/\(cutS o l k).busy=(cutS b l k).busy/\(cutS o l k).spoil=(cutS b l k).spoil/\(cutS o l k).whole=(cutS b l k).whole/\(cutS b l k).most<=(cutS o l k).most:=h.sm _ (hl.lt hk).2.2
theorem Wider.st {b o:RBk} (h:Wider b o) {s:List Int} (hs:StOk b s):StOk o s:=⟨by rw [h.len]; exact hs.len,fun i hi=>by
 rw [h.len] at hi
 rw [h.wide hi]
 exact hs.bnd i hi⟩
theorem Wider.fits {b o:RBk} (h:Wider b o) {l:List Int} (hl:CutsOk b l) (hf:fitsM b l=true):fitsM o l=true:=by
 unfold fitsM at hf ⊢
 rw [mX,decide_eq_true_eq,List.all_eq_true] at hf ⊢
 refine ⟨by have:=h.rolls; omega,fun k hk=>?_⟩
 have h1:=hf.2 k hk
 have hkl:=List.mem_range.1 hk
 rw [mX,decide_eq_true_eq] at h1 ⊢
 rw [(h.cut hl hkl).2.2.2.1]
 refine ⟨h1.1,?_⟩
 have e:(stripM o l k).2=(stripM b l k).2:=by
  unfold stripM endM
  dsimp only
  rw [h.steps,(h.cut hl hkl).1,(h.cut hl hl.pos).1]
  by_cases e:k+1<l.length
  ·rw [if_pos e,if_pos e,(h.cut hl e).1]
  ·rw [if_neg e,if_neg e]
 rw [e]
 have:=h.roll
 omega
theorem Wider.hang {b o:RBk} (h:Wider b o) (hb:ROk b) (ho:ROk o) {l s w:List Int} {q:Int} (hl:CutsOk b l) (hs:StOk b s) (hz:hangM b l s=some (w,q)):∃ w' q',hangM o l s=some (w',q')/\q'<=q:=by
 obtain ⟨hfit,hwl,hsum,hq,hws⟩:=xn hb hl hs hz
 have hfo:=xx hb hl hs
 rw [hz,hfit,Bool.true_and] at hfo
 have hle:freshM b s<=mostS b l l.length:=of_decide_eq_true hfo.symm
 have hfr:freshM o s=freshM b s:=by unfold freshM; rw [h.round,h.steps]
 have hms:∀ n,n<=l.length->mostS b l n<=mostS o l n:=by
  intro n
  induction n with
  | zero=>intro _; exact Int.le_refl _
  | succ n ih =>
   intro hn
   have h1:=ih oQ
   have h2:=(h.cut hl (k:=n) oQ).2.2.2.2
   show mostS b l n+(cutS b l n).most<=mostS o l n+(cutS o l n).most
   omega
 have hfo2:=xx ho (h.cuts hl) (h.st hs)
 have hms:=hms l.length (mL _)
 rw [h.fits hl hfit,Bool.true_and,decide_eq_true (show freshM o s<=mostS o l l.length by omega)] at hfo2
 obtain ⟨⟨w',q'⟩,hz2⟩:=Option.isSome_iff_exists.1 hfo2
 refine ⟨w',q',hz2,?_⟩
 obtain ⟨_,_,_,hq2,_⟩:=xn ho (h.cuts hl) (h.st hs) hz2
 have:=(cheapest ho (h.cuts hl) (h.st hs) hz2 (x:=w) hwl (fun i=>⟨(hws i).1,fun hi=>by have h1:=(hws i).2 hi; have h2:=(h.cut hl hi).2.2.2.2; omega⟩) (by rw [hsum,hfr])).1
 have e:needM o l w l.length=needM b l w l.length:=by
  unfold needM
  refine jC _ fun i hi=>?_
  rw [(h.cut hl hi).2.1,(h.cut hl hi).2.2.1]
 omega
theorem Wider.sq {b o:RBk} (h:Wider b o) (hb:ROk b) (ho:ROk o) {all:List (List Int)} (hne:all≠[]) (hall:okAll b all) {l:List Int} (hl:CutsOk b l) (hs:sqOk b all l=true):sqOk o all l=true/\sqHi o all l<=sqHi b all l:=by
 obtain ⟨h1,_,h3⟩:=jal (o:=o) hne hs fun s hs w q hz=>h.hang hb ho hl (hall s hs) hz
 exact ⟨h1,h3⟩
def preS (b:RBk):Nat->List (List Int)
 | 0=>[[]]
 | i+1=>(preS b i).flatMap fun p=>(numsM (bd b i)).map fun n=>p++[n]
def extL:List (List Int)->List RBand->List (List Int)
 | L,[]=>L
 | L,x::r=>extL (L.flatMap fun p=>(numsM x).map fun n=>p++[n]) r
theorem xI:∀ (r:List RBand) (L:List (List Int)) (x:RBand),extL L (r++[x])=(extL L r).flatMap fun p=>(numsM x).map fun n=>p++[n]
 | [],L,x=>rfl
 | y::r,L,x=>xI r _ x
theorem xT (b:RBk):∀ (r:List RBand) (L:List (List Int)),(L.flatMap fun p=>fromM b p r)=(extL L r).filter (rightM b)
 | [],L=>by
  unfold extL
  induction L with
  | nil=>rfl
  | cons p L ih =>
   rw [List.flatMap_cons,ih]
   unfold fromM
   by_cases h:rightM b p=true
   ·rw [if_pos h,List.filter_cons_of_pos h]; rfl
   ·rw [if_neg h,List.filter_cons_of_neg h]; rfl
 | x::r,L=>by
  have key:∀ p,fromM b p (x::r)=(numsM x).flatMap fun n=>fromM b (p++[n]) r:=fun p=>by
   conv=>lhs; unfold fromM
  unfold extL
  rw [<- xT b r]
  induction L with
  | nil=>rfl
  | cons p L ih=>rw [List.flatMap_cons,ih,List.flatMap_cons,List.flatMap_append,List.flatMap_map,key]
theorem xZ (b:RBk):∀ i,i<=b.shrinks.length->preS b i=extL [[]] (b.shrinks.take i)
 | 0,_=>by rw [List.take_zero]; rfl
 | i+1,h=>by
  rw [yP (ko (b:=b) (i:=i) oQ),xI,<- xZ b i oQ]
  rfl
theorem qA (b:RBk):(preS b b.shrinks.length).filter (rightM b)=zf b:=by
 rw [xZ b _ (mL _),lW,<- xT]
 rw [List.flatMap_cons,List.flatMap_nil,lR]
 rfl
theorem xq {b:RBk} (hb:ROk b):∀ i,i<=b.shrinks.length->∀ p∈preS b i,p.length=i/\PreB b p
 | 0,_,p,hp=>by rw [lS.1 hp]; exact ⟨rfl,zdR b⟩
 | i+1,h,p,hp=>by
  obtain ⟨q,hq,hp⟩:=List.mem_flatMap.1 hp
  obtain ⟨n,hn,rfl⟩:=lY.1 hp
  obtain ⟨h1,h2⟩:=xq hb i oQ q hq
  have hbd:=hb.cls.bnd i (by have:=hb.cls.len; omega)
  rw [zgb hbd.2.1] at hn
  exact ⟨by rw [lF,h1]; rfl,zcS h2 oQ (by rw [h1]; exact hn.1) (by rw [h1]; exact hn.2)⟩
theorem jY:∀ (k:Nat) (n:Int),(numsF n k).length=k
 | 0,_=>rfl
 | k+1,n=>by unfold numsF; rw [lZ,jY k]
theorem jJ {f:List Int->List (List Int)} (hf:∀ p,(f p).length<=3):∀ L:List (List Int),(L.flatMap f).length<=L.length*3
 | []=>mN _
 | p::L=>by
  rw [List.flatMap_cons,lF,lZ]
  have h1:=hf p
  have h2:=jJ hf L
  omega
theorem x6 {b:RBk} (hb:ROk b):∀ i,i<=b.shrinks.length->(preS b i).length<=3 ^ i
 | 0,_=>mL _
 | i+1,h=>by
  have h1:=x6 hb i oQ
  have hbd:=hb.cls.bnd i (by have:=hb.cls.len; omega)
  have h2:=jJ (f:=fun p=>(numsM (bd b i)).map fun n=>p++[n]) (fun p=>by
   rw [lJ]
   unfold numsM
   rw [jY]
   omega) (preS b i)
  rw [Nat.pow_succ]
  show ((preS b i).flatMap _).length<=_
  omega
end Go.Vel
namespace Go.Vel
open Go Go.Conc Go.Proofs
section
variable {P:Program} {gm:Nat->Option Nat} {T:Goroutine->Hp->Prop} {Y:KX P gm T} {ds:List Nat} {k:List Item} {env env':List AV} {K:KV}
theorem TK.nilRow {t e:TypeId} {x:Option Addr} {s j:Nat} {K':Nat->KV} (hu:∀ j',Upd K j (.row [.v (.slice x 0 0)] t s) j (.row [.sl j' 0 0] t s) (K' j')) (h:∀ j',j'∉keys K->TK Y ds k env ((j',.cells [] e false)::K' j')):TK Y ds k env K:=fun A hA φ H ts h1 h2 h3 h4 h5 h6=>by
 have hk:A.length∉keys K:=fun hm=>absurd (hA.view.lt hm) (Nat.lt_irrefl _)
 have hH:=h5.virtO (o:=.cells [] e false) (fun φ n hl=>absurd rfl hl) (fun hl=>hl rfl)
 have hag:=yk φ A.length ⟨0,0,0⟩
 have hlen:(A++[AObj.cells [] e false]).length=A.length+1:=by simp
 have hds:dsC (upd3 φ A.length ⟨0,0,0⟩) ds=dsC φ ds:=by
  unfold dsC
  exact List.map_congr_left fun d hd'=>by rw [hag d (h4 d hd')]
 have hj:=hA.view.get (hu A.length).mem
 have hjl:j<A.length:=(List.getElem?_eq_some_iff.1 hj).1
 have hj2:(A++[AObj.cells [] e false])[j]? =some (.row [.v (.slice x 0 0)] t s):=by rw [lG hjl]; exact hj
 have hstep:=hA.step (.push hA.view hA.nd (.cells [] e false))
 have hstep2:=hstep.step (.set hstep.view hstep.nd (Upd.tail (hu A.length)))
 rw [<- hds]
 refine h _ hk _ hstep2 _ H ts (h1.trans hag h2) (by simp; omega) (by simpa using h3.mono hag oQ) (fun d hd=>by have:=h4 d hd; simp; omega) (hH.turn hj2 (fun ho=>?_) (fun h=>h) (fun _=>rfl) (fun hs=>hs)) (by simpa using h6.mono hag oQ)
 obtain ⟨q0,q1,q2⟩:=ho
 refine ⟨fun hc=>absurd (q0 hc) sQ,q1,fun hc=>?_⟩
 obtain ⟨cur,p1,p2,p3,p4,p5⟩:=q2 hc
 refine ⟨cur,p1,p2,p3,by simpa using p4,fun t' a ha=>?_⟩
 cases t' with
 | zero =>
  simp only [List.getElem?_cons_zero,Option.some.injEq] at ha
  subst ha
  obtain ⟨y,hy,hr⟩:=p5 0 _ rfl
  refine ⟨y,hy,?_⟩
  rw [inv_v hr]
  exact .sl sQ (mN _) fun hp=>absurd hp (Nat.lt_irrefl _)
 | succ t'=>simp at ha
theorem jK:∀ R L:KV,Split (R++L) R L
 | [],L=>.none L
 | x::R,L=>.left (jK R L)
theorem TK.dropP {R L:KV} (hp:K.Perm (R++L)) (h:TK Y ds k env R):TK Y ds k env K:=TK.perm hp (TK.keep (jK R L) h)
end
def ji (P:List (Nat×List Int)):KV:=P.map fun x=>(x.1,.cells (x.2.map intA) 3 false)
def refsL (P:List (Nat×List Int)):List AV:=P.map fun x=>.sl x.1 0 x.2.length
theorem jA {P:List (Nat×List Int)} {x:Nat×List Int} (h:x∈P):(x.1,AObj.cells (x.2.map intA) 3 false)∈ji P:=lY.2 ⟨x,h,rfl⟩
theorem jI {P:List (Nat×List Int)} {k:Nat} {n:Int} (hk:k<P.length) (h:n=(k:Int)) {e:TypeId} {sz:Nat}:takeO (.row (refsL P) e sz) (n.toNat*1) 1=some [.sl P[k].1 0 P[k].2.length]:=by
 subst h
 rw [mZ,Nat.mul_one]
 simp only [takeO,AObj.look]
 rw [if_pos (by simp [refsL]; omega)]
 simp [List.take_one,refsL,hk]
theorem ints1 (xs:List Int):(xs.map intA).all oneA=true:=by
 rw [List.all_map]; exact List.all_eq_true.2 fun _ _=>rfl
theorem qu {P:List (Nat×List Int)} {A:List (List Int)} (h:P.map (·.2)=A) {k:Nat} (hk:k<P.length):A[k]? =some P[k].2:=by
 rw [<- h]
 simp [hk]
theorem jD {K:KV} {x:Nat×AObj}:x∈K->∃ R,Rem K x R:=by
 induction K with
 | nil=>intro h; cases h
 | cons y K ih =>
  intro h
  rcases lI.1 h with rfl | h
  ·exact ⟨_,.head⟩
  ·obtain ⟨R,hR⟩:=ih h
   exact ⟨_,.tail hR⟩
def stepS (b:RBk) (i:Nat) (p:List Int):List (List Int):=(numsM (bd b i)).map fun n=>p++[n]
theorem qS (x:RBand):∀ t,t<(x.high+1 - x.low).toNat->(numsM x)[t]? =some (x.low+t):=by
 have key:∀ (k:Nat) (n:Int) (t:Nat),t<k->(numsF n k)[t]? =some (n+t):=by
  intro k
  induction k with
  | zero=>intro n t h; omega
  | succ k ih =>
   intro n t h
   unfold numsF
   cases t with
   | zero=>simp
   | succ t =>
    rw [List.getElem?_cons_succ,ih (n+1) t oQ]
    congr 1
    omega
 exact fun t h=>key _ _ t h
theorem jZ (x:RBand):(numsM x).length=(x.high+1 - x.low).toNat:=by
 unfold numsM
 rw [jY]
theorem qK {α:Type} {A:List α} {x:α} {L M:List α}:(x::(A++(L++M))).Perm (A++M++(x::L)):=by
 have h1:(A++(L++M)).Perm ((A++M)++L):=by
  rw [List.append_assoc]
  exact List.Perm.append_left A lH
 exact (List.Perm.cons x h1).trans (List.perm_middle (a:=x) (l₁:=A++M) (l₂:=L)).symm
instance:Cal tp 162:={}
instance:Cal tp 73:={}
theorem qh {main T} (hT:zo tp main T) {gm} {b:RBk} {s h e j:Nat} {st:List Int} {et:TypeId} {m:RMeas} (hb:ROk b) (hs:StOk b st) (hm:0<=m.cloth/\m.cloth<b.seams.length/\1<=m.many/\m.many<=b.seams.length) :
  zA tp T gm 162 [.agg (zE b s h e),.agg (measC m),.sl j 0 st.length] [(s,zk b),(j,.cells (st.map intA) et false)] (fun r K'=>r=zP (decide (togM b st m.cloth.toNat m.many.toNat=m.wide))/\K'=[(s,zk b),(j,.cells (st.map intA) et false)]):=by
 refine zp 17 hT Tryz.func162 fun Y hret=>?_
 refine au [] ?_
 obtain ⟨mc,mm,mw⟩:=m
 dsimp only at hm
 obtain ⟨c,rfl⟩:=Int.eq_ofNat_of_zero_le hm.1
 obtain ⟨k,rfl⟩:=Int.eq_ofNat_of_zero_le (show 0<=mm by omega)
 refine au [4,5,21] ?_
 intro jb hjb
 refine au [21] ?_
 intro jm hjm
 refine au [2,3,4] ?_
 refine TK.draw [0,1,2,3,4,5,7,8,6,9,10] [0,1,2,3,4,5,6,7,8,9,10] (by kernel_rfl) (by kernel_rfl) ?_
 refine TD.y [3] Z (hq:=z8 Z Z zi.h (mC _) Z) (h:=?_)
 refine TD.z [4] Z (zg Z Z zl.h dQ) ?_
 refine TD.y [8] Z (hq:=zm Z Z zi.h (mC _) Z) (h:=?_)
 refine TD.z [4] Z (zg Z Z zl.h dQ) ?_
 refine TD.y [10] Z (hq:=zm Z Z zi.h (mC _) Z) (h:=?_)
 refine TD.z [2] Z (zh Z Z) ?_
 refine TD.z [4] Z (zg Z Z zl.h dQ) ?_
 refine TD.y [14] Z (hq:=zm Z Z zi.h (mC _) Z) (h:=?_)
 refine TD.cl (pend':=[⟨8,[14],[(_,_)]⟩,⟨7,[4],[]⟩,⟨3,[4],[]⟩,⟨1,[4],[]⟩]) [7,9,11,12] Z Z Z Z Z (qD hT (c:=c) (m:=k) hb hs oQ oQ) (fun r1 K2 h3=>⟨?_,?_⟩)
 ·rcases h3 with ⟨rfl,rfl⟩
  all_goals simp
 obtain ⟨rfl,rfl⟩:=h3
 try simp only [cA]
 refine TD.norm tQ ?_
 refine TD.z [13,15] Z (q_cmp Z Z Z Z) ?_
 refine TD.as (pend':=[]) [16] Z Z (zD Z Z) ?_
 refine TD.fin ?_
 refine au [] ?_
 refine TK.rt hret [(s,_),(j,_)] ?_
 exact ⟨rfl,rfl⟩
theorem qL {main T} (hT:zo tp main T) {gm} {b:RBk} {s h e j:Nat} {st:List Int} {et:TypeId} (hb:ROk b) (hs:StOk b st) :
  zA tp T gm 141 [.agg (zE b s h e),.sl j 0 st.length] [(s,zk b),(e,zq b),(j,.cells (st.map intA) et false)] (fun r K'=>r=zP (rightM b st)/\K'=[(s,zk b),(e,zq b),(j,.cells (st.map intA) et false)]):=by
 refine zp 22 hT Tryz.func141 fun Y hret=>?_
 refine au [] ?_
 have hml:=hb.mes.len
 refine au [4,5,21] ?_
 intro jb hjb
 refine au [2,3,4,4,5,2,3,13] ?_
 refine TK.maskL [1,2,5] ?_
 refine TK.kp [(s,_),(e,_),(j,_),(jb,_)] ?_
 refine TK.loopN (fun n env K=>∃ (i:Nat),n=b.measures.length - i/\i<=b.measures.length/\(∀ m∈b.measures.take i,decide (togM b st m.cloth.toNat m.many.toNat=m.wide)=true)/\env=.any::.sl j 0 st.length::.ptr jb 0::naL 2 (intA i::naL 16 [])/\K=[(s,zk b),(e,zq b),(j,.cells (st.map intA) et false),(jb,.cells (zE b s h e) 26 true)]) b.measures.length ⟨0,rfl,mN _,fun m hm=>by simp at hm,rfl,rfl⟩ fun n env K hI hnext=>?_
 obtain ⟨i,rfl,hi,hri,rfl,rfl⟩:=hI
 refine TK.na nQ ?_
 refine au [4,4,5,1,7,9,28,6,3,20] ?_
 refine ⟨fun hc0=>?_,fun hc0=>?_⟩
 ·have hil:i<b.measures.length:=by simp at hc0; omega
  obtain ⟨x,hx⟩:∃ x,b.measures[i]? =some x:=⟨_,lA hil⟩
  have hxb:=hb.mes.bnd x (lN hx)
  refine au [12,4,13,4] ?_
  refine TK.draw [0,1,2,3,4,5,6,7,8] [0,1,2,3,4,5,6,7,8] (by kernel_rfl) (by kernel_rfl) ?_
  refine TD.y [2] Z (hq:=z8 Z Z zi.h (mC _) Z) (h:=?_)
  refine TD.z [2] Z (zg Z Z zl.h dQ) ?_
  refine TD.y [14] Z (hq:=zm Z Z zi.h (mC _) Z) (h:=?_)
  refine TD.z [5] Z (zh Z Z) ?_
  refine TD.z [15,16] Z (zQ Z Z Z zF.h oQ oQ) ?_
  refine TD.y [17] Z (hq:=z8 Z Z zi.h (mC _) (zcE (i:=i) hx Z)) (h:=?_)
  refine TD.z [1] Z (zh Z Z) ?_
  refine TD.cl (pend':=[⟨4,[15,16],[]⟩,⟨3,[5],[]⟩,⟨2,[14],[(_,_)]⟩,⟨1,[2],[]⟩]) [13,18,19] Z Z Z Z Z (qh hT (m:=x) hb hs ⟨hxb.1,hxb.2.1,hxb.2.2.1,hxb.2.2.2.1⟩) (fun r1 K2 h3=>⟨?_,?_⟩)
  ·rcases h3 with ⟨rfl,rfl⟩
   all_goals simp
  obtain ⟨rfl,rfl⟩:=h3
  try simp only [cA]
  refine TD.norm tQ ?_
  refine TD.z [20] Z (q_not Z Z) ?_
  refine TD.fin ?_
  refine au [20] ?_
  refine ⟨fun hc1=>?_,fun hc1=>?_⟩
  ·refine au [4,5,2,3] ?_
   refine TK.rt hret [(s,_),(e,_),(j,_)] ?_
   exact ⟨by rw [show rightM b st=false from List.all_eq_false.2 ⟨x,lN hx,by simpa using hc1⟩],rfl⟩
  refine au [12,14,5,1,23,2,3] ?_
  refine TK.maskL [1,2,5] ?_
  refine TK.kp [(s,_),(e,_),(j,_),(jb,_)] ?_
  exact hnext _ _ _ oQ ⟨i+1,rfl,by omega,fun m hm=>by
   rw [yP hx] at hm
   rcases lT.1 hm with hm | hm
   ·exact hri m hm
   ·rw [lS.1 hm]; simpa using hc1,rfl,rfl⟩
 obtain rfl:i=b.measures.length:=by simp at hc0; omega
 refine au [16,4,5,2,3] ?_
 refine TK.rt hret [(s,_),(e,_),(j,_)] ?_
 exact ⟨by rw [show rightM b st=true from List.all_eq_true.2 fun m hm=>hri m (by rw [lW]; exact hm)],rfl⟩
theorem qV {main T} (hT:zo tp main T) {gm} {b:RBk} {s h e:Nat} {P:List (Nat×List Int)} {x:Nat×List Int} (hb:ROk b) (hs:StOk b x.2) (hx:x∈P):zA tp T gm 141 [.agg (zE b s h e),.sl x.1 0 x.2.length] ((s,zk b)::(e,zq b)::ji P) (fun r K'=>r=zP (rightM b x.2)/\K'=(s,zk b)::(e,zq b)::ji P):=by
 obtain ⟨R,hR⟩:=jD (jA hx)
 exact (qL hT hb hs).frameP (R:=R) (List.Perm.cons _ (List.Perm.cons _ hR.perm))
instance:ApOf tp 104 27 1 24:={}
instance:Cal tp 141:={}
instance:zF tp 104 27 1:={}
instance:TyZ tp 27 [.slice none 0 0]:={}
instance:Und tp 104 (.slice 27):={}
theorem jT {main T} (hT:zo tp main T) {gm} {b:RBk} {s h e:Nat} (hb:ROk b) :
  zA tp T gm 77 [.agg (zE b s h e)] [(s,zk b),(h,zB b),(e,zq b)] (fun r K'=>∃ (jr:Nat) (Q P:List (Nat×List Int)),(∀ x∈Q,x∈P)/\Q.map (·.2)=zf b/\r=.row jr Q.length/\K'=(jr,.row (refsL Q) 27 1)::(s,zk b)::(h,zB b)::(e,zq b)::ji P):=by
 refine zp 73 hT Tryz.func77 fun Y hret=>?_
 refine au [] ?_
 have hsl:=hb.sms.len
 have hcl:=hb.cls.len
 have h243:∀ i,i<=5->3 ^ i<=243:=fun i hi=>mT (Nat.pow_le_pow_right dQ hi) dQ
 refine au [4,5,21] ?_
 intro jb hjb
 refine au [2,3,4,5] ?_
 refine TK.newR Z Z Z (zt (l:=[_]) Z zF.h TyZ.h dQ dQ Z) (fun _=>zu rfl tQ) fun j0 hj0=>?_
 refine au [2] ?_
 refine TK.nilRow (e:=3) (fun _=>uQ) fun je hje=>?_
 refine au [3,4,4,5,2,3,13] ?_
 refine TK.maskL [1,3,4] ?_
 refine TK.kp [(j0,_),(h,_),(jb,_),(s,_),(e,_),(je,_)] ?_
 refine TK.loopN (fun n env K=>∃ (i ja:Nat) (P:List (Nat×List Int)),n=b.shrinks.length - i/\i<=b.shrinks.length/\P.map (·.2)=preS b i/\env=.any::.ptr jb 0::.any::.row ja P.length::intA i::naL 68 []/\K=(ja,.row (refsL P) 27 1)::(h,zB b)::(jb,.cells (zE b s h e) 26 true)::(s,zk b)::(e,zq b)::ji P) b.shrinks.length ⟨0,j0,[(je,[])],rfl,mN _,rfl,rfl,rfl⟩ fun n env K hI hnext=>?_
 obtain ⟨i,ja,P,rfl,hi,hP,rfl,rfl⟩:=hI
 have hPl:P.length=(preS b i).length:=by rw [<- hP,lJ]
 have hPb:P.length<=243:=by have:=x6 hb i hi; have:=h243 i oQ; omega
 refine TK.na nQ ?_
 refine au [4,4,5,1,7,9,28,6,3,20] ?_
 refine ⟨fun hc0=>?_,fun hc0=>?_⟩
 ·have hil:i<b.shrinks.length:=by simp at hc0; omega
  have hbd:=hb.cls.bnd i oQ
  refine au [12,4,13,4,5,2] ?_
  refine TK.virt 5 27 1 Z fun jn0 hjn0=>?_
  refine au [3,4,4,5,2,3,13] ?_
  refine TK.maskL [1,3,4,5,6] ?_
  refine TK.perm (K':=(jn0,.row [] 27 1)::(ja,.row (refsL P) 27 1)::(h,zB b)::(jb,.cells (zE b s h e) 26 true)::(s,zk b)::(e,zq b)::(ji P++ji [])) (by simp [ji]) ?_
  refine TK.loopN (fun n env K=>∃ (q jn:Nat) (Q:List (Nat×List Int)),n=P.length - q/\q<=P.length/\Q.map (·.2)=((preS b i).take q).flatMap (stepS b i)/\env=.any::.ptr jb 0::.any::.row ja P.length::intA i::.row jn Q.length::intA q::naL 66 []/\K=(jn,.row (refsL Q) 27 1)::(ja,.row (refsL P) 27 1)::(h,zB b)::(jb,.cells (zE b s h e) 26 true)::(s,zk b)::(e,zq b)::(ji P++ji Q)) P.length ⟨0,jn0,[],rfl,mN _,rfl,rfl,rfl⟩ fun n env K hI2 hnext2=>?_
  obtain ⟨q,jn,Q,rfl,hq,hQ,rfl,rfl⟩:=hI2
  refine TK.na nQ ?_
  refine au [4,4,5,1,1,28,6,3,20] ?_
  refine ⟨fun hc1=>?_,fun hc1=>?_⟩
  ·have hql:q<P.length:=by simp at hc1; omega
   have hg:(preS b i)[q]? =some P[q].2:=qu hP hql
   obtain ⟨pq,hpq⟩:∃ pq,pq=P[q]:=⟨_,rfl⟩
   rw [<- hpq] at hg
   have hpl:=(xq hb i hi pq.2 (lN hg)).1
   have hmp:pq∈P:=hpq ▸ List.getElem_mem hql
   refine au [12,4,13,4,5,7,9,1,36,7] ?_
   refine TK.a Z (zm Z Z zi.h mQ (ym (c:=0) (bd_at b (i:=i) hil Z) dQ Z)) ?_
   refine au [2,3,13] ?_
   refine TK.maskL [1,3,4,5,6,7] ?_
   refine TK.loopN (fun n env K=>∃ (t jn:Nat) (Q:List (Nat×List Int)),n=((bd b i).high+1 - (bd b i).low).toNat - t/\t<=((bd b i).high+1 - (bd b i).low).toNat/\Q.map (·.2)=((preS b i).take q).flatMap (stepS b i)++((numsM (bd b i)).take t).map (fun n=>P[q].2++[n])/\env=.any::.ptr jb 0::.any::.row ja P.length::intA i::.row jn Q.length::intA q::intA ((bd b i).low+(t:Int))::naL 65 []/\K=(jn,.row (refsL Q) 27 1)::(ja,.row (refsL P) 27 1)::(h,zB b)::(jb,.cells (zE b s h e) 26 true)::(s,zk b)::(e,zq b)::(ji P++ji Q)) ((bd b i).high+1 - (bd b i).low).toNat ⟨0,jn,Q,rfl,mN _,by rw [hQ,List.take_zero,List.map_nil,lR],by rw [show (bd b i).low+((0:Nat):Int)=(bd b i).low by omega]; rfl,rfl⟩ fun n env K hI3 hnext3=>?_
   obtain ⟨t,jn,Q,rfl,ht,hQ,rfl,rfl⟩:=hI3
   rw [<- hpq] at hQ
   have hQl:Q.length<=1000:=by
    have h1:=congrArg List.length hQ
    rw [lJ,lF,lJ,List.length_take,jZ] at h1
    have h2:=jJ (f:=stepS b i) (fun p=>by unfold stepS; rw [lJ,jZ]; omega) ((preS b i).take q)
    rw [List.length_take] at h2
    omega
   refine TK.na nQ ?_
   refine au [4,4,5,1,7,9,1,36,7] ?_
   refine TK.a Z (zm Z Z zi.h mQ (ym (c:=1) (bd_at b (i:=i) hil Z) dQ Z)) ?_
   refine au [6,3,20] ?_
   refine ⟨fun hc2=>?_,fun hc2=>?_⟩
   ·have htl:t<((bd b i).high+1 - (bd b i).low).toNat:=by simp at hc2; omega
    have hmx:(pq.1,AObj.cells (pq.2.map intA) 3 false)∈ji P++ji Q:=lV _ (jA hmp)
    refine au [12,4,13,5,1] ?_
    refine TK.newR Z Z Z (zt (l:=[]) Z zF.h TyZ.h dQ dQ Z) (fun _=>zu rfl tQ) fun j9 hj9=>?_
    refine au [1,1,37] ?_
    refine TK.a Z (zm Z Z zi.h mQ (jI hql Z)) ?_
    rw [<- hpq]
    refine TK.appG (ln:=pq.2.map intA) Z Z Z ApOf.h Z mQ Z Z Z (fun hp=>vu mQ oQ (wl (n:=pq.2.length) (size:=1) sQ oQ)) (fun h=>by simp [lK h]) (ints1 _) (by unfold maxLen; omega) oQ (fun _=>uQ) (fun _=>zu rfl tQ) fun j6=>?_
    simp only [lC,mO]
    refine au [1] ?_
    refine TK.newR Z Z Z (zt (l:=[_]) Z zF.h TyZ.h dQ dQ Z) (fun _=>zu rfl tQ) fun j1 hj1=>?_
    refine TK.appR Z Z Z (a_app Z ApOf.h Z mQ sQ Z (yu (ln:=[_]) mQ dQ sQ Z) oQ Z (by unfold maxLen; omega) oQ) (fun _=>uQ) (fun _=>zu rfl tQ) fun j3=>?_
    refine TK.asSl 49 Z mQ ?_
    refine TK.frzRow (j:=j3) ?_
    refine au [] ?_
    refine TK.newR Z Z Z (zt (l:=[_]) Z zF.h TyZ.h dQ dQ Z) (fun _=>zu rfl tQ) fun j2 hj2=>?_
    refine TK.appR Z Z Z (a_app Z ApOf.h Z mQ (by simp [refsL]) Z (yu (ln:=[_]) mQ dQ sQ Z) oQ Z (by unfold maxLen; omega) oQ) (fun _=>uQ) (fun _=>zu rfl tQ) fun j4=>?_
    refine au [2,3,14,5,1,23,2,3] ?_
    refine TK.maskL [1,3,4,5,6,7] ?_
    refine TK.kp (((j4,_)::(j3,_)::(ja,_)::(h,_)::(jb,_)::(s,_)::(e,_)::(ji P++ji Q))) ?_
    refine TK.perm (K':=(j4,.row (refsL Q++[.sl j3 0 (pq.2.length+1)]) 27 1)::(ja,.row (refsL P) 27 1)::(h,zB b)::(jb,.cells (zE b s h e) 26 true)::(s,zk b)::(e,zq b)::(ji P++(ji Q++[(j3,.cells (pq.2.map intA++[intA ((bd b i).low+(t:Int))]) 3 false)]))) ?_ ?_
    ·rw [<- List.append_assoc]
     exact List.Perm.cons _ (List.perm_append_singleton (j3,_) ((ja,.row (refsL P) 27 1)::(h,zB b)::(jb,.cells (zE b s h e) 26 true)::(s,zk b)::(e,zq b)::(ji P++ji Q))).symm
    exact hnext3 _ _ _ oQ ⟨t+1,j4,Q++[(j3,pq.2++[(bd b i).low+(t:Int)])],rfl,by omega,by rw [lM,hQ,<- hpq,yP (qS _ t htl),lM,List.append_assoc]; rfl,by rw [lF,show (bd b i).low+(t:Int)+1=(bd b i).low+((t+1:Nat):Int) by omega]; rfl,by simp [refsL,ji]⟩
   obtain rfl:t=((bd b i).high+1 - (bd b i).low).toNat:=by simp at hc2; omega
   refine au [16,14,5,1,23,2,3] ?_
   refine TK.maskL [1,3,4,5,6] ?_
   refine TK.kp (((jn,_)::(ja,_)::(h,_)::(jb,_)::(s,_)::(e,_)::(ji P++ji Q))) ?_
   exact hnext2 _ _ _ oQ ⟨q+1,jn,Q,rfl,by omega,by rw [hQ,show (numsM (bd b i)).take ((bd b i).high+1 - (bd b i).low).toNat=numsM (bd b i) from List.take_of_length_le (by rw [jZ]; exact mL _),yP hg,List.flatMap_append]; simp [stepS],rfl,rfl⟩
  obtain rfl:q=P.length:=by simp at hc1; omega
  have hQ:Q.map (·.2)=preS b (i+1):=by rw [hQ,hPl,lW]; rfl
  refine au [16,5,1,2,3,14,5,1,23,2,3] ?_
  refine TK.maskL [1,3,4] ?_
  refine TK.kp (((jn,_)::(ja,_)::(h,_)::(jb,_)::(s,_)::(e,_)::(ji P++ji Q))) ?_
  refine TK.dropP (R:=(jn,.row (refsL Q) 27 1)::(h,zB b)::(jb,.cells (zE b s h e) 26 true)::(s,zk b)::(e,zq b)::ji Q) (L:=(ja,.row (refsL P) 27 1)::ji P) ?_ ?_
  ·exact List.Perm.cons _ (qK (A:=(h,zB b)::(jb,.cells (zE b s h e) 26 true)::(s,zk b)::(e,zq b)::[]) (x:=(ja,.row (refsL P) 27 1)) (L:=ji P) (M:=ji Q))
  exact hnext _ _ _ oQ ⟨i+1,jn,Q,rfl,by omega,hQ,rfl,rfl⟩
 obtain rfl:i=b.shrinks.length:=by simp at hc0; omega
 refine au [16,4,5,2] ?_
 refine TK.virt 8 27 1 Z fun jo0 hjo0=>?_
 refine au [3,4,4,5,2,3,13] ?_
 refine TK.maskL [1,3,8,9] ?_
 refine TK.loopN (fun n env K=>∃ (q jo:Nat) (Q:List (Nat×List Int)),n=P.length - q/\q<=P.length/\(∀ x∈Q,x∈P)/\Q.map (·.2)=((preS b b.shrinks.length).take q).filter (rightM b)/\env=.any::.ptr jb 0::.any::.row ja P.length::naL 4 (.row jo Q.length::intA q::naL 63 [])/\K=(jo,.row (refsL Q) 27 1)::(ja,.row (refsL P) 27 1)::(h,zB b)::(jb,.cells (zE b s h e) 26 true)::(s,zk b)::(e,zq b)::ji P) P.length ⟨0,jo0,[],rfl,mN _,(fun x hx=>by cases hx),rfl,rfl,rfl⟩ fun n env K hI4 hnext4=>?_
 obtain ⟨q,jo,Q,rfl,hq,hQP,hQ,rfl,rfl⟩:=hI4
 have hQl:(Q.map (·.2)).length=Q.length:=lJ ..
 have hQb:Q.length<=243:=by
  rw [<- hQl,hQ]
  have h1:=List.length_filter_le (rightM b) ((preS b b.shrinks.length).take q)
  rw [List.length_take] at h1
  omega
 refine TK.na nQ ?_
 refine au [4,4,5,1,1,28,6,3,20] ?_
 refine ⟨fun hc3=>?_,fun hc3=>?_⟩
 ·have hql:q<P.length:=by simp at hc3; omega
  have hg:(preS b b.shrinks.length)[q]? =some P[q].2:=qu hP hql
  have hmp:P[q]∈P:=List.getElem_mem hql
  obtain ⟨hpl,hpb⟩:=xq hb _ (mL _) P[q].2 (lN hg)
  have hst:StOk b P[q].2:=zeV hb ⟨hpl,fun i hi=>hpb.2 i oQ⟩
  refine au [12,4,13,4] ?_
  refine TK.draw [0,1,2,3,4,5] [0,1,2,3,4,5] (by kernel_rfl) (by kernel_rfl) ?_
  refine TD.y [1] Z (hq:=z8 Z Z zi.h (mC _) Z) (h:=?_)
  refine TD.z [3] Z (zh Z Z) ?_
  refine TD.z [9] Z (zh Z Z) ?_
  refine TD.y [60,61] Z (hq:=kA Z Z Z zF.h (mC _) oQ oQ) (h:=?_)
  refine TD.y [62] Z (hq:=zm Z Z zi.h (mC _) (jI hql Z)) (h:=?_)
  refine TD.cl (pend':=[⟨3,[60,61],[(_,_)]⟩,⟨2,[9],[]⟩,⟨1,[3],[]⟩]) [59,63] Z Z Z Z Z (qV hT hb hst hmp) (fun r3 K4 h5=>⟨?_,?_⟩)
  ·rcases h5 with ⟨rfl,rfl⟩
   all_goals simp
  obtain ⟨rfl,rfl⟩:=h5
  try simp only [cA]
  refine TD.norm tQ ?_
  refine TD.perm (lH (l₁:=(s,_)::(e,_)::ji P)) ?_
  simp only [cA]
  refine TD.fin ?_
  refine au [20] ?_
  refine ⟨fun hc4=>?_,fun hc4=>?_⟩
  ·refine au [5,1,1,1,37] ?_
   refine TK.a Z (zm Z Z zi.h mQ (jI hql Z)) ?_
   refine TK.newR Z Z Z (zt (l:=[_]) Z zF.h TyZ.h dQ dQ Z) (fun _=>zu rfl tQ) fun j6 hj6=>?_
   refine TK.appR Z Z Z (a_app Z ApOf.h Z mQ (by simp [refsL]) Z (yu (ln:=[_]) mQ dQ sQ Z) oQ Z (by unfold maxLen; omega) oQ) (fun _=>uQ) (fun _=>zu rfl tQ) fun jo2=>?_
   refine au [2,3,14,5,1,23,2,3] ?_
   refine TK.maskL [1,3,8,9] ?_
   refine TK.kp (((jo2,_)::(ja,_)::(h,_)::(jb,_)::(s,_)::(e,_)::ji P)) ?_
   exact hnext4 _ _ _ oQ ⟨q+1,jo2,Q++[P[q]],rfl,by omega,(fun x hx=>(lT.1 hx).elim (hQP x) fun h=>lS.1 h ▸ hmp),by rw [lM,hQ,yP hg,List.filter_append,List.filter_cons_of_pos hc4]; rfl,by rw [lF]; rfl,by simp [refsL] <;> rfl⟩
  refine au [12,14,5,1,23,2,3] ?_
  refine TK.maskL [1,3,8,9] ?_
  refine TK.kp (((jo,_)::(ja,_)::(h,_)::(jb,_)::(s,_)::(e,_)::ji P)) ?_
  exact hnext4 _ _ _ oQ ⟨q+1,jo,Q,rfl,by omega,hQP,by rw [hQ,yP hg,List.filter_append,List.filter_cons_of_neg (by rw [hc4]; decide),List.filter_nil,lR],rfl,rfl⟩
 obtain rfl:q=P.length:=by simp at hc3; omega
 rw [hPl] at hQ
 refine au [16,4,5,1,2,3] ?_
 refine TK.rt hret (((jo,_)::(s,_)::(h,_)::(e,_)::ji P)) ?_
 exact ⟨jo,Q,P,hQP,by rw [<- qA,hQ,lW],rfl,rfl⟩
end Go.Vel
namespace Go.Vel
open Go Go.Conc
def lastM (l:List Int):Nat->Option Int
 | 0=>none
 | i+1=>some (zN l i)
theorem jan {b:RBk} {n:Int} (h:betw n 0 (b.seams.length - 1)=true):thereM b n=0:=if_pos h
theorem jam {b:RBk} {n:Int} (h:betw n 0 (b.seams.length - 1)=false):thereM b n=6:=by unfold thereM; rw [if_neg (by rw [h]; decide)]
def clM (b:RBk) (c:Nat) (m:Nat):List Int:=(List.range m).map fun i=>(((c+i) % b.seams.length:Nat):Int)
end Go.Vel
namespace Go.Vel
open Go Go.Conc Go.Proofs
instance:Cal tp 142:={}
instance:Cal tp 58:={}
instance:Cal tp 93:={}
theorem or2r {x:Int} {A B:Prop} (h:(x≠0/\A)\/(x=0/\B)) (hx:x=0):B:=by
 rcases h with ⟨h,_⟩ | ⟨_,h⟩
 ·exact absurd hx h
 ·exact h
instance:Cal tp 71:={}
instance:Cal tp 72:={}
instance:Cal tp 73:={}
instance:Cal tp 105:={}
instance:Cal tp 94:={}
def u8A (x:Fin 256):AV:=.v (.int .u8 (x.1:Int))
def u8O (l:List (Fin 256)):AObj:=.cells (l.flatMap fun x=>[u8A x]) 5 false
def Feas (b:RBk) (l x:List Int):Prop:=x.length=l.length/\∀ i,0<=x.getD i 0/\(i<l.length->x.getD i 0<=(cutS b l i).most)
instance:Cal tp 74:={}
instance:zF tp 100 5 1:={}
instance:zi tp 5 false 1:={}
instance:Und tp 100 (.slice 5):={}
end Go.Vel
namespace Go.Vel
open Go Go.Conc
def keyK (b:RBk) (l:List Int) (k:Int):Int:=(cutS b l k.toNat).busy*10 - k
def mostK (b:RBk) (l:List Int) (k:Int):Int:=(cutS b l k.toNat).most
def gO (b:RBk) (l:List Int) (o:List Int) (st:List Int) (sq u:Int):Alloc:=o.foldl (allocM b l) ⟨st,sq,u⟩
def gA (b:RBk) (l:List Int) (u:Int):Alloc:=gO b l (ordM b l) (mB l.length 0) (spoilM b l l.length) u
def bestI (b:RBk) (l x:List Int):Nat->Int
 | 0 => -1
 | i+1=>if x.getD i 0<(cutS b l i).most/\(bestI b l x i<0\/(cutS b l i).busy<=(cutS b l (bestI b l x i).toNat).busy) then i else bestI b l x i
end Go.Vel
namespace Go.Vel
open Go Go.Conc Go.Proofs
instance:Cal tp 96:={}
def posM (b:RBk) (l s w:List Int):Nat->Int
 | 0=>0
 | i+1=>atM b l s w i+togM b s (zN l i).toNat (manyM b l i).toNat
instance:Cal tp 102:={}
instance:Cal tp 103:={}
theorem or2l {x:Int} {A B:Prop} (h:(x≠0/\A)\/(x=0/\B)) (hx:x≠0):A:=by
 rcases h with ⟨_,h⟩ | ⟨h,_⟩
 ·exact h
 ·exact absurd h hx
theorem or3l {x:Int} {A B C P:Prop} (h:(x≠0/\A)\/(x=0/\P/\B)\/(x=0/\C)) (hx:x≠0):A:=by
 rcases h with ⟨_,h⟩ | ⟨h,_⟩ | ⟨h,_⟩
 ·exact h
 ·exact absurd h hx
 ·exact absurd h hx
theorem TK.share {P:Program} {gm:Nat->Option Nat} {T:Goroutine->Hp->Prop} {Y:KX P gm T} {ds:List Nat} {k k':List Item} {env:List AV} {K:KV} {X:Type} {D:X->Prop} {E:X->List AV} {KK:X->KV} (main:(∀ x,D x->TK Y ds k' (E x) (KK x))->TK Y ds k env K) (tail:∀ x,D x->TK Y ds k' (E x) (KK x)):TK Y ds k env K:=main tail
theorem x9 {main T} (hT:zo tp main T) {gm} {j j2:Nat} {xs ys:List Int} {e1 e2:TypeId} (hl:xs.length<=1000) :
  zA tp T gm 29 [.sl j 0 xs.length,.sl j2 0 ys.length] [(j,.cells (xs.map intA) e1 false),(j2,.cells (ys.map intA) e2 false)] (fun r K'=>r=zP (decide (xs=ys))/\K'=[(j,.cells (xs.map intA) e1 false),(j2,.cells (ys.map intA) e2 false)]):=by
 refine zp 26 hT Tryz.func29 fun Y hret=>?_
 refine au [4,5,2,3,4,4,5,1,28,1,28,6,3,20] ?_
 refine ⟨fun hc0=>?_,fun hc0=>?_⟩
 ·refine au [4,5,2,3] ?_
  refine TK.rt hret [(j,_),(j2,_)] ?_
  exact ⟨by rw [decide_eq_false (fun h=>by rw [h] at hc0; simp at hc0)],rfl⟩
 have hll:xs.length=ys.length:=by simp at hc0; omega
 refine au [12,4,4,5,2,3,13] ?_
 refine TK.maskL [0,1,4,5] ?_
 refine TK.loopN (fun n env K=>∃ (i:Nat),n=xs.length - i/\i<=xs.length/\xs.take i=ys.take i/\env=.sl j 0 xs.length::.sl j2 0 ys.length::naL 2 (zP false::intA i::naL 20 [])/\K=[(j,.cells (xs.map intA) e1 false),(j2,.cells (ys.map intA) e2 false)]) xs.length ⟨0,rfl,mN _,by simp,rfl,rfl⟩ fun n env K hI2 hnext=>?_
 obtain ⟨i,rfl,hi,hta,rfl,rfl⟩:=hI2
 refine TK.na nQ ?_
 refine au [4,4,5,1,1,28,6,3,20] ?_
 refine ⟨fun hc1=>?_,fun hc1=>?_⟩
 ·have hil:i<xs.length:=by simp at hc1; omega
  obtain ⟨x,hx⟩:∃ x,xs[i]? =some x:=⟨_,lA hil⟩
  obtain ⟨y,hy⟩:∃ y,ys[i]? =some y:=⟨_,lA oQ⟩
  refine au [12,4,13,4] ?_
  refine TK.draw [0,1,2,3,4,5,6,7,8] [0,1,2,3,4,5,6,7,8] (by kernel_rfl) (by kernel_rfl) ?_
  refine TD.z [0] Z (zh Z Z) ?_
  refine TD.z [5] Z (zh Z Z) ?_
  refine TD.z [17,18] Z (zQ Z Z Z zF.h oQ oQ) ?_
  refine TD.y [19] Z (hq:=zm Z Z zi.h (mC _) (yh hx Z)) (h:=?_)
  refine TD.z [1] Z (zh Z Z) ?_
  refine TD.z [5] Z (zh Z Z) ?_
  refine TD.z [21,22] Z (zQ Z Z Z zF.h oQ oQ) ?_
  refine TD.y [23] Z (hq:=zm Z Z zi.h (mC _) (yh hy Z)) (h:=?_)
  refine TD.z [20,24] Z (q_cmp Z Z Z Z) ?_
  refine TD.fin ?_
  refine au [20] ?_
  refine ⟨fun hc2=>?_,fun hc2=>?_⟩
  ·refine au [4,5,2,3] ?_
   refine TK.rt hret [(j,_),(j2,_)] ?_
   exact ⟨by rw [decide_eq_false (ne_at hx hy (fun h=>by rw [h] at hc2; simp at hc2))],rfl⟩
  refine au [12,14,5,1,23,2,3] ?_
  refine TK.maskL [0,1,4,5] ?_
  refine TK.kp [(j,_),(j2,_)] ?_
  exact hnext _ _ _ oQ ⟨i+1,rfl,by omega,uU hx hy hta (by simp at hc2; exact hc2),rfl,rfl⟩
 obtain rfl:i=xs.length:=by simp at hc1; omega
 refine au [16,4,5,2,3] ?_
 refine TK.rt hret [(j,_),(j2,_)] ?_
 exact ⟨by rw [decide_eq_true (zak hll hta)],rfl⟩
theorem xb {main T} (hT:zo tp main T) {gm}  :
  zA tp T gm 29 [.v (.slice none 0 0),.v (.slice none 0 0)] [] (fun r K'=>r=zP true/\K'=[]):=by
 refine zp 26 hT Tryz.func29 fun Y hret=>?_
 refine au [4,5,2,3,4,4,5,1,28,1,28,6,3,20] ?_
 refine ⟨fun hc0=>?_,fun hc0=>?_⟩
 ·exact absurd hc0 dQ
 refine au [12,4,4,5,2,3,13] ?_
 refine TK.maskL [0,1,4,5] ?_
 refine TK.loopN (fun n env K=>n=0/\env=.v (.slice none 0 0)::.v (.slice none 0 0)::naL 2 (zP false::intA 0::naL 20 [])/\K=[]) 0 ⟨rfl,rfl,rfl⟩ fun n env K hI hnext=>?_
 obtain ⟨rfl,rfl,rfl⟩:=hI
 refine TK.na nQ ?_
 refine au [4,4,5,1,1,28,6,3,20] ?_
 refine ⟨fun hc1=>?_,fun hc1=>?_⟩
 ·exact absurd hc1 dQ
 refine au [16,4,5,2,3] ?_
 refine TK.rt hret [] ?_
 exact ⟨rfl,rfl⟩
instance:Cal tp 21:={}
instance:Cal tp 23:={}
instance:Cal tp 28:={}
instance:Cal tp 31:={}
instance:ApOf tp 104 27 1 24:={}
instance:Cal tp 141:={}
instance:zF tp 104 27 1:={}
instance:TyZ tp 27 [.slice none 0 0]:={}
instance:Und tp 104 (.slice 27):={}
end Go.Vel
namespace Go.Vel
open Go Go.Conc
theorem jO:∀ (m:Nat) (l:List Int),l.Pairwise (· < ·)->(∀ x∈l,0<=x/\x<m)->∃ d,d<2 ^ m/\l=zw d m
 | 0,l,_,h=>⟨0,by decide,by
  cases l with
  | nil=>rfl
  | cons x r=>have:=h x sQ; omega⟩
 | m+1,l,hp,h=>by
  by_cases hm:(m:Int)∈l
  ·obtain ⟨l1,l2,rfl⟩:=List.append_of_mem hm
   obtain ⟨p1,p2,p3⟩:=List.pairwise_append.1 hp
   have e2:l2=[]:=by
    cases l2 with
    | nil=>rfl
    | cons y r =>
     have h1:=(List.pairwise_cons.1 p2).1 y sQ
     have h2:=h y sQ
     omega
   subst e2
   obtain ⟨d,hd,rfl⟩:=jO m l1 p1 (fun x hx=>⟨(h x (by simp [hx])).1,p3 x hx m sQ⟩)
   refine ⟨d+2 ^ m,by rw [Nat.pow_succ]; omega,?_⟩
   show _=zw (d+2 ^ m) m++_
   rw [<- xj (d+2 ^ m) m m (mL _),Nat.add_mod_right,Nat.mod_eq_of_lt hd,Nat.add_div_right _ (Nat.two_pow_pos _),Nat.div_eq_of_lt hd]
   rfl
  ·obtain ⟨d,hd,rfl⟩:=jO m l hp (fun x hx=>⟨(h x hx).1,by
    have h1:=h x hx
    have h2:x≠m:=fun e=>hm (e ▸ hx)
    omega⟩)
   refine ⟨d,by rw [Nat.pow_succ]; omega,?_⟩
   show _=zw d m++_
   rw [Nat.div_eq_of_lt hd]
   simp
theorem jQ (b:RBk):∀ k,(clashL b k=none->∀ d,d<k->badM b d=false)/\(∀ l,clashL b k=some l->∃ c,c<k/\badM b c=true/\l=zw c b.measures.length/\∀ d,d<k->badM b d=true->zw d b.measures.length=l\/smallerM l (zw d b.measures.length)=true)
 | 0=>⟨fun _ d h=>by omega,fun l h=>by cases h⟩
 | k+1=>by
  obtain ⟨i1,i2⟩:=jQ b k
  unfold clashL
  by_cases hb:badM b k=true
  ·rw [if_pos hb]
   cases hc:clashL b k with
   | none =>
    refine ⟨fun h=>(by cases h),fun l h=>?_⟩
    cases h
    refine ⟨k,by omega,hb,rfl,fun d hd hbd=>?_⟩
    by_cases e:d=k
    ·left; rw [e]
    ·have:=i1 hc d oQ
     rw [hbd] at this
     cases this
   | some l0 =>
    obtain ⟨c,q1,q2,q3,q4⟩:=i2 l0 hc
    dsimp only
    by_cases hs:smallerM (zw k b.measures.length) l0=true
    ·rw [if_pos hs]
     refine ⟨fun h=>(by cases h),fun l h=>?_⟩
     cases h
     refine ⟨k,by omega,hb,rfl,fun d hd hbd=>?_⟩
     by_cases e:d=k
     ·left; rw [e]
     ·rcases q4 d oQ hbd with h | h
      ·right; rw [h]; exact hs
      ·right; exact uu hs h
    ·rw [if_neg hs]
     refine ⟨fun h=>(by cases h),fun l h=>?_⟩
     cases h
     refine ⟨c,by omega,q2,q3,fun d hd hbd=>?_⟩
     by_cases e:d=k
     ·rw [e]
      rcases zar (zw k b.measures.length) l0 with h | h | h
      ·exact .inl h
      ·exact absurd h hs
      ·exact .inr h
     ·exact q4 d oQ hbd
  ·rw [if_neg hb]
   refine ⟨fun h d hd=>?_,fun l h=>?_⟩
   ·by_cases e:d=k
    ·rw [e]; simpa using hb
    ·exact i1 h d oQ
   ·obtain ⟨c,q1,q2,q3,q4⟩:=i2 l h
    refine ⟨c,by omega,q2,q3,fun d hd hbd=>?_⟩
    by_cases e:d=k
    ·rw [e] at hbd; exact absurd hbd hb
    ·exact q4 d oQ hbd
theorem xO (xs:List RMeas):∀ i,i<=xs.length->onlyL xs (2 ^ xs.length - 1) i=xs.take i
 | 0,_=>by rw [List.take_zero]; rfl
 | i+1,h=>by
  unfold onlyL
  rw [xO xs i oQ]
  have h1:=Nat.testBit_two_pow_sub_one xs.length i
  rw [Nat.testBit_eq_decide_div_mod_eq,decide_eq_true (show i<xs.length by omega)] at h1
  rw [if_pos (of_decide_eq_true h1),lA oQ,yP (x:=xs[i]) (lA oQ)]
  rfl
theorem xU (b:RBk):badM b (2 ^ b.measures.length - 1)=(zf b).isEmpty:=by
 unfold badM onlyB
 rw [xO _ _ (mL _),lW]
theorem ql {b:RBk} (hr:∀ s,rightM b s=true):∀ (r:List RBand) (p:List Int),(∀ x∈r,x.low<=x.high)->fromM b p r≠[]
 | [],p,_=>by unfold fromM; rw [if_pos (hr p)]; simp
 | x::r,p,h=>by
  unfold fromM
  intro he
  rw [List.flatMap_eq_nil_iff] at he
  have hx:=h x sQ
  exact ql hr r (p++[x.low]) (fun y hy=>h y (by simp [hy])) (he x.low ((zgb hx).2 ⟨Int.le_refl _,hx⟩))
theorem jah {b:RBk} (hb:ROk b) {c:Nat} (h:zw c b.measures.length=[]):badM b c=false:=by
 have hl:=uL b.measures c _ (mL _)
 rw [h] at hl
 have hm:(onlyB b c).measures=[]:=lK hl
 have hne:zf (onlyB b c)≠[]:=ql (fun s=>by unfold rightM; rw [hm]; rfl) _ _ (fun x hx=>by
  obtain ⟨i,hi,rfl⟩:=List.getElem_of_mem hx
  have hi':i<b.shrinks.length:=hi
  have:=hb.cls.bnd i (by have:=hb.cls.len; omega)
  have e:=ko hi'
  rw [lA hi'] at e
  have e:b.shrinks[i]=bd b i:=Option.some.inj e
  show b.shrinks[i].low<=b.shrinks[i].high
  rw [e]
  omega)
 unfold badM
 simpa using hne
theorem jX {b:RBk} (hb:ROk b) (h0:zf b=[]):∃ l c,clashM b=some l/\c<2 ^ b.measures.length/\l=zw c b.measures.length/\badM b c=true/\l≠[]/\(∀ i,i<l.length->∃ d,l.eraseIdx i=zw d b.measures.length/\badM b d=false)/\∀ x,badM b (x % 2 ^ b.measures.length)=true->smallerM (zw x b.measures.length) l=false:=by
 obtain ⟨i1,i2⟩:=jQ b (2 ^ b.measures.length)
 have hp:=Nat.two_pow_pos b.measures.length
 cases hc:clashM b with
 | none =>
  have:=i1 hc (2 ^ b.measures.length - 1) oQ
  rw [xU,h0] at this
  cases this
 | some l =>
  obtain ⟨c,q1,q2,q3,q4⟩:=i2 l hc
  refine ⟨l,c,rfl,q1,q3,q2,fun he=>?_,fun i hi=>?_,fun x hx=>?_⟩
  ·rw [jah hb (q3.symm.trans he)] at q2; cases q2
  ·have hsub:(l.eraseIdx i).Sublist l:=List.eraseIdx_sublist l i
   obtain ⟨d,hd,hd2⟩:=jO b.measures.length (l.eraseIdx i) (List.Pairwise.sublist hsub (by rw [q3]; exact zca _)) (fun x hx=>by
    have:=hsub.subset hx
    rw [q3] at this
    exact zau _ _ this)
   refine ⟨d,hd2,?_⟩
   cases hbd:badM b d with
   | false=>rfl
   | true =>
    have hlen:(l.eraseIdx i).length<l.length:=by rw [List.length_eraseIdx_of_lt hi]; omega
    rcases q4 d hd hbd with h | h
    ·rw [<- hd2] at h; rw [h] at hlen; omega
    ·rw [<- hd2,kJ] at h; omega
  ·rw [<- xj x _ _ (mL _)]
   rcases q4 _ (Nat.mod_lt x hp) hx with h | h
   ·rw [h]; exact xi l
   ·exact ziE h
end Go.Vel
namespace Go.Vel
open Go Go.Conc Go.Proofs
def shortB (most:Int) (l:List Int):Bool:=decide ((l.length:Int)<most)
def moreM (most n:Int) (A:List (List Int)):List (List Int):=(A.filter (shortB most)).map (· ++ [n])
def setsM (most:Int):Nat->List (List Int)
 | 0=>[[]]
 | n+1=>setsM most n++moreM most n (setsM most n).reverse
theorem xL (most n:Int) (A B:List (List Int)):moreM most n (A++B)=moreM most n A++moreM most n B:=by simp [moreM]
theorem jae {most n:Int} {l:List Int} (h:shortB most l=true):moreM most n [l]=[l++[n]]:=by simp [moreM,h]
theorem jad {most n:Int} {l:List Int} (h:shortB most l=false):moreM most n [l]=[]:=by simp [moreM,h]
theorem xM (most n:Int) (A:List (List Int)):(moreM most n A).length<=A.length:=by
 unfold moreM; rw [lJ]; exact List.length_filter_le _ _
theorem xc (most:Int):∀ n,(setsM most n).length<=2 ^ n
 | 0=>mL _
 | n+1=>by
  have h1:=xc most n
  have h2:=xM most n (setsM most n).reverse
  rw [List.length_reverse] at h2
  show (setsM most n++_).length<=_
  rw [lF,Nat.pow_succ]
  omega
theorem jG {most:Int} (hm:0<=most):∀ n,∀ l∈setsM most n,(l.length:Int)<=most
 | 0,l,hl=>by rw [lS.1 hl]; simpa using hm
 | n+1,l,hl=>by
  rcases lT.1 hl with hl | hl
  ·exact jG hm n l hl
  ·obtain ⟨x,hx,rfl⟩:=lY.1 hl
   have:=of_decide_eq_true (List.mem_filter.1 hx).2
   simp; omega
theorem jL {most:Int}:∀ n,∀ l∈setsM most n,∀ x∈l,0<=x/\x<n
 | 0,l,hl,x,hx=>by rw [lS.1 hl] at hx; cases hx
 | n+1,l,hl,x,hx=>by
  rcases lT.1 hl with hl | hl
  ·have:=jL n l hl x hx; omega
  ·obtain ⟨y,hy,rfl⟩:=lY.1 hl
   rcases lT.1 hx with hx | hx
   ·have:=jL n y (List.mem_reverse.1 (List.mem_filter.1 hy).1) x hx; omega
   ·rw [lS.1 hx]; omega
theorem xd {most:Int}:∀ n,∀ l∈setsM most n,l.Pairwise (· < ·)
 | 0,l,hl=>by rw [lS.1 hl]; exact .nil
 | n+1,l,hl=>by
  rcases lT.1 hl with hl | hl
  ·exact xd n l hl
  ·obtain ⟨y,hy,rfl⟩:=lY.1 hl
   have hy':=List.mem_reverse.1 (List.mem_filter.1 hy).1
   refine List.pairwise_append.2 ⟨xd n y hy',by simp,fun a ha c hc=>?_⟩
   rw [lS.1 hc]
   exact (jL n y hy' a ha).2
theorem jR {most:Int}:∀ (n:Nat) (l:List Int),l.Pairwise (· < ·)->(∀ x∈l,0<=x/\x<n)->(l.length:Int)<=most->l∈setsM most n
 | 0,l,_,hr,_=>by
  cases l with
  | nil=>exact lS.2 rfl
  | cons x l=>have:=hr x sQ; omega
 | n+1,l,hp,hr,hl=>by
  rcases List.eq_nil_or_concat l with rfl | ⟨y,a,rfl⟩
  ·exact lT.2 (.inl (jR n [] .nil (fun x hx=>by cases hx) hl))
  ·rw [List.concat_eq_append] at hp hr hl ⊢
   have hp2:=List.pairwise_append.1 hp
   have ha:=hr a sQ
   have hlt:∀ x∈y,x<a:=fun x hx=>hp2.2.2 x hx a sQ
   by_cases e:a=n
   ·subst e
    refine lT.2 (.inr (lY.2 ⟨y,List.mem_filter.2 ⟨List.mem_reverse.2 (jR n y hp2.1 (fun x hx=>?_) ?_),?_⟩,rfl⟩))
    ·have:=hlt x hx; have:=hr x (by simp [hx]); omega
    ·simp at hl; omega
    ·unfold shortB; simp at hl ⊢; omega
   ·refine lT.2 (.inl (jR n _ hp (fun x hx=>?_) hl))
    have h1:=hr x hx
    rcases lT.1 hx with hx | hx
    ·have:=hlt x hx; omega
    ·rw [lS.1 hx] at h1 ⊢; omega
theorem xA {α:Type} (A:List α) {q:Nat} (h:q<A.length):A.reverse.take (q+1)=A.reverse.take q++[A[A.length - 1 - q]]:=by
 rw [List.take_add_one,lA (by simpa using h),List.getElem_reverse]; rfl
theorem qf {P:List (Nat×List Int)} {A B:List (List Int)} (h:P.map (·.2)=A++B) {k:Nat} (hk:k<A.length) (hk2:k<P.length):P[k].2=A[k]:=by
 have h1:(P.map (·.2))[k]? =some P[k].2:=by simp [hk2]
 rw [h,lG hk,lA hk] at h1
 exact (Option.some.inj h1).symm
theorem xY {n:Nat} (h:n<=5):2 ^ n<=32:=mT (Nat.pow_le_pow_right dQ h) dQ
theorem qO (c n:Nat):zw c n∈setsM (n:Int) n:=jR n _ (zca _) (zau _) (by have:=wC c n; omega)
theorem qW {n:Nat} {l:List Int} (h:l∈setsM (n:Int) n):∃ d,d<2 ^ n/\l=zw d n:=jO n l (xd n l h) (jL n l h)
theorem jak {main T} (hT:zo tp main T) {gm} {below most:Int} (hb:0<=below/\below<=5) (hm:0<=most/\most<=5) :
  zA tp T gm 111 [intA below,intA most] [] (fun r K'=>∃ (j:Nat) (P:List (Nat×List Int)),r=.row j P.length/\P.map (·.2)=setsM most below.toNat/\K'=(j,.row (refsL P) 27 1)::ji P):=by
 refine zp 41 hT Tryz.func111 fun Y hret=>?_
 refine au [4,5,2,3,4,5] ?_
 refine TK.newR Z Z Z (zt (l:=[_]) Z zF.h TyZ.h dQ dQ Z) (fun _=>zu rfl tQ) fun j0 hj0=>?_
 refine au [2] ?_
 refine TK.nilRow (e:=3) (fun _=>uQ) fun je hje=>?_
 refine au [3,4,4,5,2,3,13] ?_
 refine TK.maskL [0,1,5,6] ?_
 refine TK.kp [(j0,_),(je,_)] ?_
 refine TK.loopN (fun n env K=>∃ (i j:Nat) (P:List (Nat×List Int)),n=below.toNat - i/\(i:Int)<=below/\P.map (·.2)=setsM most i/\env=intA below::intA most::naL 3 (.row j P.length::intA i::naL 34 [])/\K=(j,.row (refsL P) 27 1)::ji P) below.toNat ⟨0,j0,[(je,[])],rfl,hb.1,rfl,rfl,rfl⟩ fun n env K hI hnext=>?_
 obtain ⟨i,j,P,rfl,hi,hP,rfl,rfl⟩:=hI
 have hPl:P.length<=32:=by have:=xc most i; rw [<- hP,lJ] at this; exact mT this (xY oQ)
 refine TK.na nQ ?_
 refine au [4,4,5,1,1,6,3,20] ?_
 refine ⟨fun hc0=>?_,fun hc0=>?_⟩
 ·simp only [decide_eq_true_eq] at hc0
  refine au [12,4,13,4,5,1,28,24,2,3,13] ?_
  refine TK.maskL [0,1,5,6,7] ?_
  refine TK.loopN (fun n env K=>∃ (q j2:Nat) (P2:List (Nat×List Int)),n=P.length - q/\q<=P.length/\P2.map (·.2)=setsM most i++moreM most i ((setsM most i).reverse.take q)/\env=intA below::intA most::naL 3 (.row j2 P2.length::intA i::intA ((P.length:Int) - 1 - q)::naL 33 [])/\K=(j2,.row (refsL P2) 27 1)::ji P2) P.length ⟨0,j,P,rfl,mN _,by rw [hP,List.take_zero]; exact (lR _).symm,by rw [Int.natCast_zero,Int.sub_zero]; rfl,rfl⟩ fun n env K hI2 hnext2=>?_
  obtain ⟨q,j2,P2,rfl,hq,hP2,rfl,rfl⟩:=hI2
  have hsl:(setsM most i).length=P.length:=by rw [<- hP,lJ]
  have hPP:P.length<=P2.length:=by have:=congrArg List.length hP2; rw [lJ,lF,hsl] at this; omega
  have hPl2:P2.length<=64:=by
   have h1:=congrArg List.length hP2
   have h2:=xM most i ((setsM most i).reverse.take q)
   rw [List.length_take] at h2
   rw [lJ,lF,hsl] at h1
   omega
  refine TK.na nQ ?_
  refine au [4,4,5,1,6,3,20] ?_
  refine ⟨fun hc1=>?_,fun hc1=>?_⟩
  ·simp only [decide_eq_true_eq] at hc1
   have hql:q<P.length:=by omega
   obtain ⟨k0,hk0⟩:∃ k0,k0=(setsM most i).length - 1 - q:=⟨_,rfl⟩
   have hkl:k0<P2.length:=by omega
   have hkn:(P.length:Int) - 1 - q=(k0:Int):=by omega
   have hx2:P2[k0].2=(setsM most i)[(setsM most i).length - 1 - q]:=by rw [qf hP2 oQ hkl]; congr 1
   have hx5:P2[k0].2.length<=5:=by have:=jG hm.1 i P2[k0].2 (by rw [hx2]; exact List.getElem_mem _); omega
   have hmx:=jA (List.getElem_mem hkl)
   refine au [12,4,13,4,5,1,1,37] ?_
   refine TK.a Z (zm Z Z zi.h mQ (jI hkl hkn)) ?_
   refine au [28,1,6,3,20] ?_
   refine ⟨fun hc2=>?_,fun hc2=>?_⟩
   ·simp only [decide_eq_true_eq] at hc2
    refine au [5,1] ?_
    refine TK.newR Z Z Z (zt (l:=[]) Z zF.h TyZ.h dQ dQ Z) (fun _=>zu rfl tQ) fun j9 hj9=>?_
    refine au [1,1,37] ?_
    refine TK.a Z (zm Z Z zi.h mQ (jI hkl hkn)) ?_
    refine TK.appG (ln:=P2[k0].2.map intA) Z Z Z ApOf.h Z mQ Z Z Z (fun hp=>vu mQ oQ (wl (n:=P2[k0].2.length) (size:=1) sQ oQ)) (fun h=>by simp [lK h]) (ints1 _) (by unfold maxLen; omega) oQ (fun _=>uQ) (fun _=>zu rfl tQ) fun j6=>?_
    simp only [lC,mO]
    refine au [1] ?_
    refine TK.newR Z Z Z (zt (l:=[_]) Z zF.h TyZ.h dQ dQ Z) (fun _=>zu rfl tQ) fun j1 hj1=>?_
    refine TK.appR Z Z Z (a_app Z ApOf.h Z mQ sQ Z (yu (ln:=[_]) mQ dQ sQ Z) oQ Z (by unfold maxLen; omega) oQ) (fun _=>uQ) (fun _=>zu rfl tQ) fun j3=>?_
    refine TK.asSl 37 Z mQ ?_
    refine TK.frzRow (j:=j3) ?_
    refine au [] ?_
    refine TK.newR Z Z Z (zt (l:=[_]) Z zF.h TyZ.h dQ dQ Z) (fun _=>zu rfl tQ) fun j2 hj2=>?_
    refine TK.appR Z Z Z (a_app Z ApOf.h Z mQ (by simp [refsL]) Z (yu (ln:=[_]) mQ dQ sQ Z) oQ Z (by unfold maxLen; omega) oQ) (fun _=>uQ) (fun _=>zu rfl tQ) fun j4=>?_
    refine au [2,3,14,5,1,24,2,3] ?_
    refine TK.maskL [0,1,5,6,7] ?_
    refine TK.kp (((j4,_)::(j3,_)::ji P2)) ?_
    refine TK.perm (K':=(j4,.row (refsL P2++[.sl j3 0 (P2[k0].2.length+1)]) 27 1)::(ji P2++[(j3,.cells (P2[k0].2.map intA++[intA (i:Int)]) 3 false)])) (List.Perm.cons _ (List.perm_append_singleton (j3,_) (ji P2)).symm) ?_
    exact hnext2 _ _ _ oQ ⟨q+1,j4,P2++[(j3,P2[k0].2++[(i:Int)])],rfl,by omega,by rw [xA _ oQ,xL,lM,hP2,List.append_assoc,jae (by rw [<- hx2]; exact decide_eq_true hc2),hx2]; rfl,by rw [lF,show ((P.length:Int) - 1 - (q+1:Nat))=(P.length:Int) - 1 - q - 1 by omega]; rfl,by simp [refsL,ji]⟩
   simp only [decide_eq_false_iff_not] at hc2
   refine au [12,14,5,1,24,2,3] ?_
   refine TK.maskL [0,1,5,6,7] ?_
   refine TK.kp (((j2,_)::ji P2)) ?_
   exact hnext2 _ _ _ oQ ⟨q+1,j2,P2,rfl,by omega,by rw [xA _ oQ,xL,hP2,jad (by rw [<- hx2]; exact decide_eq_false hc2),lR],by rw [show ((P.length:Int) - 1 - (q+1:Nat))=(P.length:Int) - 1 - q - 1 by omega]; rfl,rfl⟩
  simp only [decide_eq_false_iff_not] at hc1
  obtain rfl:q=P.length:=by omega
  have hP2:P2.map (·.2)=setsM most (i+1):=by rw [hP2,<- hsl,<- List.length_reverse,lW]; rfl
  refine au [16,14,5,1,23,2,3] ?_
  refine TK.maskL [0,1,5,6] ?_
  refine TK.kp (((j2,_)::ji P2)) ?_
  exact hnext _ _ _ oQ ⟨i+1,j2,P2,rfl,by omega,hP2,rfl,rfl⟩
 simp only [decide_eq_false_iff_not] at hc0
 obtain rfl:(i:Int)=below:=by omega
 rw [mZ] at *
 refine au [16,4,5,1,2,3] ?_
 refine TK.rt hret (((j,_)::ji P)) ?_
 exact ⟨_,_,rfl,hP,rfl⟩
section
variable {P:Program} {T:Goroutine->Hp->Prop} {gm:Nat->Option Nat} {K:KV}
theorem zA.fr {g:FuncId} {args:List AV} {Kb R:KV} {Post Post':AV->KV->Prop} (h:zA P T gm g args K Post) (hp:Kb.Perm (K++R)) (hq:∀ r K',Post r K'->∃ K2,(K'++R).Perm K2/\Post' r K2):zA P T gm g args Kb Post':=by
 intro A hv hn
 have hv2:zM (K++R) A:=hv.sub fun x hx=>hp.symm.subset hx
 have hn2:=(zT hp).nodup_iff.1 hn
 have hn3:=hn2
 rw [ya] at hn3
 refine (h A (hv2.sub fun x hx=>lV _ hx) (List.nodup_append.1 hn3).1).mono ?_
 rintro r A' ⟨K',hk,hp'⟩
 obtain ⟨K2,h1,h2⟩:=hq r K' hp'
 exact ⟨K2,((hk.frame (jK K R) hv2 hn2).permR h1).permL hp.symm,h2⟩
end
def sN (S:List (Nat×List Int)) (k:Nat):Nat×List Int:=S.getD k (0,[])
theorem jN {S:List (Nat×List Int)} {k:Nat} (h:k<S.length):S[k]? =some (sN S k):=by
 unfold sN
 rw [lE,lA h]; rfl
theorem jE {S:List (Nat×List Int)} {k:Nat} (h:k<S.length):sN S k∈S:=lN (jN h)
theorem xa {S:List (Nat×List Int)} {k:Nat} {n:Int} (hk:k<S.length) (h:n=(k:Int)) {e:TypeId} {sz:Nat}:takeO (.row (refsL S) e sz) (n.toNat*1) 1=some [.sl (sN S k).1 0 (sN S k).2.length]:=by
 have h1:=jI (P:=S) hk h (e:=e) (sz:=sz)
 have h2:=jN hk
 rw [lA hk] at h2
 rwa [Option.some.inj h2] at h1
def sqW (b:RBk) (all:List (List Int)) (l:List Int) (i:Nat):Int×Int:=spreadM ((waysM b (all.take i) l).map (·.2))
instance:Cal tp 77:={}
theorem xW {main T} (hT:zo tp main T) {gm} {b:RBk} {s h e:Nat} (hl:b.seams.length<=100) (hm:b.measures.length<=100) :
  zA tp T gm 110 [.agg (zE b s h e),intA 0] [(s,zk b),(h,zB b),(e,zq b)] (fun r K'=>(zr b≠0/\r=.tup [.v (.slice none 0 0),intA (zr b)]/\K'=[(s,zk b),(h,zB b),(e,zq b)])\/(zr b=0/\zf b=[]/\r=.tup [.v (.slice none 0 0),intA 9]/\K'=[(s,zk b),(h,zB b),(e,zq b)])\/(zr b=0/\zf b≠[]/\∃ (jr:Nat) (Q P:List (Nat×List Int)),(∀ x∈Q,x∈P)/\Q.map (·.2)=zf b/\r=.tup [.row jr Q.length,intA 0]/\K'=(jr,.row (refsL Q) 27 1)::(s,zk b)::(h,zB b)::(e,zq b)::ji P)):=by
 refine zp 22 hT Tryz.func110 fun Y hret=>?_
 refine au [4,5,21] ?_
 intro jb hjb
 refine au [2,2,3,4,4,5,8] ?_
 refine TK.cl Z Z Z Z (zeH hT hl hm) ?_
 rintro r1 K2 ⟨rfl,rfl⟩
 refine au [2,3,4,5,1,6,3,20] ?_
 refine ⟨fun hc0=>?_,fun hc0=>?_⟩
 ·refine au [4,5,1,2,2,3] ?_
  refine TK.rt hret [(s,_),(h,_),(e,_)] ?_
  exact .inl ⟨by simpa using hc0,rfl,rfl⟩
 have hck:zr b=0:=by simpa using hc0
 have hbb:=zZ hck
 rw [hck]
 refine au [12,4,4,5,1,6,3,20] ?_
 refine ⟨fun hc1=>?_,fun hc1=>?_⟩
 ·exact absurd hc1 dQ
 refine au [12,4,5,8] ?_
 refine TK.cl Z Z Z Z (jT hT hbb) ?_
 rintro r4 K5 ⟨jr,Q,P,hQP,hQ,rfl,rfl⟩
 refine au [] ?_
 refine TK.perm (lH (l₁:=(jr,_)::(s,_)::(h,_)::(e,_)::ji P)) ?_
 simp only [cA]
 refine au [2,3,4,4,5,1,28,6,3,20] ?_
 refine ⟨fun hc2=>?_,fun hc2=>?_⟩
 ·refine au [4,5,2,2,3] ?_
  refine TK.rt hret [(s,_),(h,_),(e,_)] ?_
  exact .inr (.inl ⟨hck,by rw [<- hQ,show Q=[] from lK (by have:=eq_of_beq hc2; omega)]; rfl,rfl,rfl⟩)
 refine au [12,4,5,1,2,2,3] ?_
 refine TK.rt hret (((jr,_)::(s,_)::(h,_)::(e,_)::ji P)) ?_
 exact .inr (.inr ⟨hck,(fun hh=>by rw [hh,List.map_eq_nil_iff] at hQ; rw [hQ] at hc2; simp at hc2),jr,Q,P,hQP,hQ,rfl,rfl⟩)
def BestAt (ok:List Int->Bool) (bt:List Int->List Int->Bool) (f:Nat->List Int) (i:Nat):Option Nat->Prop
 | none=>∀ k,k<i->f k=[]\/ok (f k)=false
 | some k=>k<i/\f k≠[]/\ok (f k)=true/\∀ t,t<i->f t≠[]->ok (f t)=true->f t=f k\/bt (f k) (f t)=true
section
variable {ok:List Int->Bool} {bt:List Int->List Int->Bool} {f:Nat->List Int} {i k:Nat}
end
theorem xC {α:Type} {l m:List α} (h:∀ (_:DecidableEq α) (a:α),l.count a=m.count a):l.Perm m:=by
 haveI:DecidableEq α:=fun _ _=>Classical.propDecidable _
 exact List.perm_iff_count.2 (h _)
def bvO (S:List (Nat×List Int)):Option Nat->AV
 | none=>.v (.slice none 0 0)
 | some k=>.sl (sN S k).1 0 (sN S k).2.length
def bqO (b:RBk) (all:List (List Int)) (S:List (Nat×List Int)):Option Nat->Int
 | none=>0
 | some k=>sqHi b all (sN S k).2
def chM (b:RBk) (all:List (List Int)) (x y:List Int):Bool:=cheaperM (x,sqHi b all x) (y,sqHi b all y)
theorem x8 {S:List (Nat×List Int)} {n:Nat} (hS:S.map (·.2)=setsM (n:Int) n):(∀ k,k<S.length->∃ d,d<2 ^ n/\(sN S k).2=zw d n)/\∀ d,∃ k,k<S.length/\(sN S k).2=zw d n:=by
 refine ⟨fun k hk=>?_,fun d=>?_⟩
 ·have h1:(sN S k).2∈S.map (·.2):=lY.2 ⟨_,jE hk,rfl⟩
  rw [hS] at h1
  exact qW h1
 ·have h1:=qO d n
  rw [<- hS] at h1
  obtain ⟨x,hx,he⟩:=lY.1 h1
  obtain ⟨k,hk,rfl⟩:=List.getElem_of_mem hx
  refine ⟨k,hk,?_⟩
  rw [<- he]
  have:=jN hk
  rw [lA hk] at this
  rw [Option.some.inj this]
theorem qC {main T} (hT:zo tp main T) {gm} {P S:List (Nat×List Int)} {i k:Nat} (hki:k<i) (hi:i<S.length) (hl:∀ t,t<S.length->(sN S t).2.length<=1000):zA tp T gm 65 [.sl (sN S i).1 0 (sN S i).2.length,.sl (sN S k).1 0 (sN S k).2.length] (ji P++ji S) (fun r K'=>r=zP (smallerM (sN S i).2 (sN S k).2)/\K'=ji P++ji S):=by
 have e1:S=S.take i++sN S i::S.drop (i+1):=by
  have h1:=lA hi
  rw [jN hi] at h1
  have h2:=List.take_append_drop i S
  rw [List.drop_eq_getElem_cons hi,<- Option.some.inj h1] at h2
  exact h2.symm
 have hm:sN S k∈S.take i:=by
  refine lN (i:=k) ?_
  rw [List.getElem?_take,if_pos hki]
  exact jN oQ
 obtain ⟨R,hR⟩:=jD (jA hm)
 have hp:(ji S).Perm ((((sN S i).1,AObj.cells ((sN S i).2.map intA) 3 false)::((sN S k).1,AObj.cells ((sN S k).2.map intA) 3 false)::(R++ji (S.drop (i+1))))):=by
  have h1:ji S=ji (S.take i)++((sN S i).1,AObj.cells ((sN S i).2.map intA) 3 false)::ji (S.drop (i+1)):=by
   rw [show ji S=ji (S.take i++sN S i::S.drop (i+1)) by rw [<- e1]]
   unfold ji
   rw [lM]
   rfl
  rw [h1]
  refine List.perm_middle.trans (List.Perm.cons _ ?_)
  exact (List.Perm.append_right _ hR.perm)
 refine (xh hT (e1:=3) (e2:=3) (hl i hi) (hl k oQ)).frameP (R:=R++ji (S.drop (i+1))++ji P) ?_
 refine lH.trans ?_
 exact List.Perm.append_right _ hp
instance:Cal tp 111:={}
instance:Cal tp 112:={}
def msX (b:RBk) (n:Int):RMeas:=b.measures.getD n.toNat ⟨0,0,0⟩
def onlyT (b:RBk) (l:List Int) (i:Nat):List RMeas:=(l.take i).map (msX b)
def onlyX (b:RBk) (l:List Int):RBk:={ b with measures:=onlyT b l l.length }
theorem qz {b:RBk} {l:List Int} {i:Nat} (h:i<l.length):onlyT b l (i+1)=onlyT b l i++[msX b (zN l i)]:=by
 unfold onlyT
 rw [yP (z5 h),lM]
 rfl
theorem qy {b:RBk} {n:Int} (h:0<=n/\n<b.measures.length):b.measures[n.toNat]? =some (msX b n):=by
 unfold msX
 rw [lE,lA oQ]
 rfl
theorem xN (b:RBk) (c:Nat):onlyX b (zw c b.measures.length)=onlyB b c:=by
 have key:∀ i,i<=b.measures.length->(zw c i).map (msX b)=onlyL b.measures c i:=by
  intro i
  induction i with
  | zero=>intro _; rfl
  | succ i ih =>
   intro hi
   unfold zw onlyL
   rw [lM,ih oQ]
   congr 1
   split
   ·have h1:=qy (b:=b) (n:=(i:Int)) oQ
    rw [mZ] at h1
    rw [h1]
    rfl
   ·rfl
 unfold onlyX onlyB onlyT
 rw [lW,key _ (mL _)]
theorem qg {b:RBk} (hb:ROk b) (d:Nat):zr (onlyX b (zw d b.measures.length))=0:=by
 rw [xN]
 exact qT (zgk hb d)
theorem qZ (b:RBk) (d:Nat):∀ x∈zw d b.measures.length,0<=x/\x<(b.measures.length:Int):=fun x hx=>zau _ x hx
instance:Cal tp 63:={}
instance:Cal tp 64:={}
instance:Cal tp 65:={}
theorem qU {main T} (hT:zo tp main T) {gm} {b:RBk} {s h e j:Nat} {et:TypeId} {l:List Int} (hb:∀ x∈l,0<=x/\x<b.measures.length) (hm:b.measures.length<=100) (hl:l.length<=100) :
  zA tp T gm 63 [.agg (zE b s h e),.sl j 0 l.length] [(e,zq b),(j,.cells (l.map intA) et false)] (fun r K'=>∃ je,r=.agg (zE (onlyX b l) s h je)/\K'=(je,zq (onlyX b l))::[(e,zq b),(j,.cells (l.map intA) et false)]):=by
 refine zp 29 hT Tryz.func63 fun Y hret=>?_
 refine au [4,5,21] ?_
 intro jb hjb
 refine au [22] ?_
 intro jr hjr
 refine au [3,4,5,8,22] ?_
 intro jo hjo
 refine au [17,3,4,5,7,17] ?_
 refine TK.normK (K':=[(jo,.cells [intA b.steps,intA b.round,intA b.roll,intA b.rolls,.sl s 0 b.seams.length,.sl h 0 b.shrinks.length,.v (.slice none 0 0)] 26 true),_,_,_,_]) (by simp only [setL,zE,List.drop_zero,List.take,List.set]; rfl) ?_
 refine TK.virtAt (j:=jo) (i:=6) (e:=49) (size:=3) (l:=[intA b.steps,intA b.round,intA b.roll,intA b.rolls,.sl s 0 b.seams.length,.sl h 0 b.shrinks.length,.v (.slice none 0 0)]) Z (fun _=>uQ) fun je0 hje0=>?_
 refine au [3,4,4,5,2,3,13] ?_
 refine TK.maskL [1,2,4,5,6] ?_
 refine TK.kp [(e,_),(j,_),(je0,_),(jo,_),(jr,_),(jb,_)] ?_
 refine TK.loopN (fun n env K=>∃ (i je:Nat),n=l.length - i/\i<=l.length/\env=.any::.sl j 0 l.length::.ptr jb 0::.any::.ptr jr 0::.ptr jo 0::intA i::naL 22 []/\K=[(e,zq b),(j,.cells (l.map intA) et false),(je,.row ((onlyT b l i).flatMap measC) 49 3),(jo,.cells [intA b.steps,intA b.round,intA b.roll,intA b.rolls,.sl s 0 b.seams.length,.sl h 0 b.shrinks.length,.row je (onlyT b l i).length] 26 true),(jr,.cells z7R 26 true),(jb,.cells (zE b s h e) 26 true)]) l.length ⟨0,je0,rfl,mN _,rfl,rfl⟩ fun n env K hI hnext=>?_
 obtain ⟨i,je,rfl,hi,rfl,rfl⟩:=hI
 have hfl:=yy measC 3 (fun _=>rfl) (onlyT b l i)
 have hol:(onlyT b l i).length=i:=by unfold onlyT; rw [lJ,List.length_take,Nat.min_eq_left hi]
 refine TK.na nQ ?_
 refine au [4,4,5,1,1,28,6,3,20] ?_
 refine ⟨fun hc0=>?_,fun hc0=>?_⟩
 ·have hil:i<l.length:=by simp at hc0; omega
  have hq:=hb _ (zgU hil)
  have hx:=qy hq
  refine au [12,4,13] ?_
  refine TK.draw [0,1,2,3,4,5,6,7,8,9,10,11,12,13] [0,1,2,3,4,5,6,7,8,9,10,11,12,13] (by kernel_rfl) (by kernel_rfl) ?_
  refine TD.z [5] Z (zg Z Z zl.h dQ) ?_
  refine TD.y [15] Z (hq:=zm Z Z zi.h (mC _) Z) (h:=?_)
  refine TD.z [2] Z (zg Z Z zl.h dQ) ?_
  refine TD.y [17] Z (hq:=zm Z Z zi.h (mC _) Z) (h:=?_)
  refine TD.z [1] Z (zh Z Z) ?_
  refine TD.z [6] Z (zh Z Z) ?_
  refine TD.z [19,20] Z (zQ Z Z Z zF.h oQ oQ) ?_
  refine TD.y [21] Z (hq:=zm Z Z zi.h (mC _) (yh (i:=i) (z5 hil) Z)) (h:=?_)
  refine TD.z [18,22] Z (zQ Z Z Z zF.h oQ oQ) ?_
  refine TD.y [23] Z (hq:=z8 Z Z zi.h (mC _) (zcE (i:=(zN l i).toNat) hx oQ)) (h:=?_)
  refine TD.cnewR (pend':=[⟨8,[18,22],[]⟩,⟨7,[21],[(_,_)]⟩,⟨6,[19,20],[]⟩,⟨5,[6],[]⟩,⟨4,[1],[]⟩,⟨3,[17],[(_,_)]⟩,⟨2,[2],[]⟩,⟨1,[15],[(_,_)]⟩,⟨0,[5],[]⟩]) [24] Z Z Z Z Z (zt (l:=[_,_,_]) Z zF.h TyZ.h dQ dQ Z) (fun _=>zu rfl tQ) sQ fun j1 hj1=>?_
  refine TD.capp (pend':=[⟨8,[18,22],[]⟩,⟨7,[21],[(_,_)]⟩,⟨6,[19,20],[]⟩,⟨5,[6],[]⟩,⟨4,[1],[]⟩,⟨3,[17],[(_,_)]⟩,⟨2,[2],[]⟩,⟨0,[5],[]⟩]) [16,25] Z Z Z Z Z (a_app Z ApOf.h Z mQ oQ Z (yu (ln:=[_,_,_]) mQ dQ sQ Z) oQ Z (by unfold maxLen; omega) oQ) (fun _=>uQ) (fun _=>zu rfl tQ) (fun _=>sQ) fun je2=>?_
  refine TD.z [5] Z (zg Z Z zl.h dQ) ?_
  refine TD.s (pend':=[]) [26,27] Z Z (zX Z Z zi.h Z Z mQ Z) ?_
  refine TD.fin ?_
  refine au [14,5,1,23,2,3] ?_
  refine TK.maskL [1,2,4,5,6] ?_
  refine TK.kp [(e,_),(j,_),(je2,_),(jo,_),(jr,_),(jb,_)] ?_
  exact hnext _ _ _ oQ ⟨i+1,je2,rfl,by omega,rfl,by rw [qz hil,yS,lF]; rfl⟩
 obtain rfl:i=l.length:=by simp at hc0; omega
 refine au [16,4] ?_
 refine TK.unrowAt (c:=jo) (i:=6) (j:=je) Z mQ uQ ?_
 refine TK.frzRow (j:=je) ?_
 refine au [5,8,17,3] ?_
 refine TK.rt hret [(je,_),(e,_),(j,_)] ?_
 exact ⟨je,rfl,rfl⟩
def mostR (all:List (List Int)) (n:Nat):Nat->Int
 | 0=>0
 | k+1=>max (mostR all n k) (cntM all n (zN (all.getD k []) n))
theorem xp (all:List (List Int)) (n:Nat):∀ k,0<=mostR all n k/\∀ j,j<k->(cntM all n (zN (all.getD j []) n):Int)<=mostR all n k
 | 0=>⟨Int.le_refl _,fun j h=>by omega⟩
 | k+1=>by
  obtain ⟨h1,h2⟩:=xp all n k
  unfold mostR
  refine ⟨by omega,fun j hj=>?_⟩
  by_cases e:j=k
  ·subst e; omega
  ·have:=h2 j oQ; omega
theorem xX (all:List (List Int)) (n:Nat) (M:Int) (h0:0<=M) (h:∀ v,(cntM all n v:Int)<=M):∀ k,mostR all n k<=M
 | 0=>h0
 | k+1=>by
  have h1:=xX all n M h0 h k
  have h2:=h (zN (all.getD k []) n)
  unfold mostR
  omega
theorem jaf (all:List (List Int)) (n:Nat):mostR all n all.length=mostL all n all.length:=by
 have hg:=qw all n all.length (mL _)
 refine Int.le_antisymm (xX all n _ hg.1 (fun v=>?_) _) (qx all n _ (xp all n _).1 (fun s hs=>?_) _ (mL _))
 ·have:=hg.2 v
  rwa [lW] at this
 ·obtain ⟨j,hj,rfl⟩:=List.getElem_of_mem hs
  have:=(xp all n all.length).2 j hj
  rwa [lE,lA hj] at this
theorem qY (b:RBk) (all:List (List Int)) (k:Nat) : -1<=(askL b all k).1/\(askL b all k).1<k/\(askL b all k).2<=all.length:=⟨(jP b all k).1,(jP b all k).2.1,(jP b all k).2.2.1⟩
def badX (b:RBk) (l:List Int):Bool:=(zf (onlyX b l)).isEmpty
theorem xG (b:RBk) (c:Nat):badX b (zw c b.measures.length)=badM b c:=by unfold badX badM; rw [xN]
def ClsAt (b:RBk) (full:List Int) (f:Nat->List Int) (i:Nat) (o:Option Nat):Prop :=
 (∀ k,o=some k->k<i/\badX b (f k)=true)/\∀ t,t<i->badX b (f t)=true->f t=(o.elim full f)\/smallerM (o.elim full f) (f t)=true
theorem cls_0 (b:RBk) (full:List Int) (f:Nat->List Int):ClsAt b full f 0 none:=⟨fun k h=>(by cases h),fun t h=>by omega⟩
theorem xR {b:RBk} {full:List Int} {f:Nat->List Int} {i:Nat} {o:Option Nat} (h:ClsAt b full f i o) (hs:smallerM (f i) (o.elim full f)=false\/badX b (f i)=false):ClsAt b full f (i+1) o:=by
 refine ⟨fun k hk=>⟨by have:=(h.1 k hk).1; omega,(h.1 k hk).2⟩,fun t ht hb=>?_⟩
 by_cases e:t=i
 ·subst e
  rcases hs with hs | hs
  ·rcases zar (f t) (o.elim full f) with h1 | h1 | h1
   ·exact .inl h1
   ·rw [hs] at h1; cases h1
   ·exact .inr h1
  ·rw [hs] at hb; cases hb
 ·exact h.2 t oQ hb
theorem qQ {b:RBk} {full:List Int} {f:Nat->List Int} {i:Nat} {o:Option Nat} (h:ClsAt b full f i o) (hs:smallerM (f i) (o.elim full f)=true) (hb:badX b (f i)=true):ClsAt b full f (i+1) (some i):=by
 refine ⟨fun k hk=>by cases hk; exact ⟨by omega,hb⟩,fun t ht hbt=>?_⟩
 by_cases e:t=i
 ·subst e; exact .inl rfl
 ·rcases h.2 t oQ hbt with h1 | h1
  ·right; rw [h1]; exact hs
  ·right; exact uu hs h1
theorem qE (m:Nat):zw (2 ^ m - 1) m=idxM m:=by
 have h:∀ i,i<=m->zw (2 ^ m - 1) i=idxM i:=fun i=>by
  induction i with
  | zero=>intro _; rfl
  | succ i ih =>
   intro hi
   have h1:=Nat.testBit_two_pow_sub_one m i
   rw [Nat.testBit_eq_decide_div_mod_eq,decide_eq_true (show i<m by omega)] at h1
   show zw (2 ^ m - 1) i++_=_
   rw [ih oQ]
   unfold idxM
   rw [List.range_succ,lM,if_pos (of_decide_eq_true h1)]
   rfl
 exact h m (mL _)
theorem jaa {b:RBk} {S:List (Nat×List Int)} {o:Option Nat} {l:List Int} (h0:zf b=[]) (hS:S.map (·.2)=setsM (b.measures.length:Int) b.measures.length) (h:ClsAt b (idxM b.measures.length) (fun k=>(sN S k).2) S.length o) (hc:clashM b=some l):o.elim (idxM b.measures.length) (fun k=>(sN S k).2)=l:=by
 obtain ⟨c,q1,q2,q3,q4⟩:=(jQ b (2 ^ b.measures.length)).2 l hc
 obtain ⟨t,ht,hte⟩:=(x8 hS).2 c
 have hp:=Nat.two_pow_pos b.measures.length
 have h1:∃ d,d<2 ^ b.measures.length/\badM b d=true/\o.elim (idxM b.measures.length) (fun k=>(sN S k).2)=zw d b.measures.length:=by
  cases o with
  | none=>exact ⟨2 ^ b.measures.length - 1,by omega,by rw [xU,h0]; rfl,(qE _).symm⟩
  | some k =>
   obtain ⟨h2,h3⟩:=h.1 k rfl
   obtain ⟨d,hd,he⟩:=(x8 hS).1 k h2
   dsimp only at h3
   rw [he,xG] at h3
   exact ⟨d,hd,h3,he⟩
 obtain ⟨d,hd,hbd,he⟩:=h1
 have h2:=h.2 t ht (by dsimp only; rw [hte,xG]; exact q2)
 dsimp only at h2
 rw [hte,<- q3] at h2
 rcases h2 with h2 | h2
 ·exact h2.symm
 ·rw [he] at h2
  rcases q4 d hd hbd with h3 | h3
  ·rw [h3,xi] at h2; cases h2
  ·rw [ziE h3] at h2; cases h2
instance:Cal tp 110:={}
instance:Cal tp 114:={}
instance:Cal tp 57:={}
instance:Cal tp 66:={}
theorem qF {main T} (hT:zo tp main T) {gm} {b:RBk} {s h e i:Nat} {x:RBand} (hi:i<b.shrinks.length) (hl:b.shrinks.length<=100) :
  zA tp T gm 57 [.agg (zE b s h e),intA i,.agg (bandC x)] [(h,zB b)] (fun r K'=>∃ h2,r=.agg (zE (driedB b i x) s h2 e)/\K'=[(h2,zB (driedB b i x)),(h,zB b)]):=by
 refine zp 18 hT Tryz.func57 fun Y hret=>?_
 refine au [] ?_
 have hfl:=yy bandC 2 (fun _=>rfl) b.shrinks
 refine au [4,5,21] ?_
 intro jb hjb
 refine au [21] ?_
 intro jx hjx
 refine au [22] ?_
 intro jr hjr
 refine au [3,4,5] ?_
 refine TK.newR Z Z Z (zt (l:=[]) Z zF.h TyZ.h dQ dQ Z) (fun _=>zu rfl tQ) fun j1 hj1=>?_
 refine au [7,9] ?_
 refine TK.appG (ln:=b.shrinks.flatMap bandC) Z Z Z ApOf.h Z mQ Z Z Z (fun hp=>vu mQ oQ (wl hfl oQ)) (fun h=>lK oQ) (kz bandC (fun _=>rfl) _) (by unfold maxLen; omega) oQ (fun _=>uQ) (fun _=>zu rfl tQ) fun h2=>?_
 simp only [lC,mO]
 refine au [7,17,3,4,5,7,9,1,8,37] ?_
 refine TK.st Z Z Z (zX Z Z zi.h Z Z mQ (zgn (x:=x) hi Z)) uQ (putN Z) ?_
 refine au [3,4] ?_
 refine TK.unrowAt (c:=jb) (i:=5) (j:=h2) Z mQ uQ ?_
 refine TK.frzRow (j:=h2) ?_
 rw [show b.shrinks.length=(driedB b i x).shrinks.length by simp [driedB]]
 refine au [5,8,17,3] ?_
 refine TK.rt hret [(h2,_),(h,_)] ?_
 exact ⟨h2,rfl,rfl⟩
def AgrE (b:RBk) (s h e:Nat) (K:KV) (r:AV) (K':KV):Prop:=(zr b≠0/\r=.tup [.agg z7R,intA (zr b)]/\K'=K)\/(zr b=0/\zf b=[]/\r=.tup [.agg z7R,intA 9]/\K'=K)\/(zr b=0/\zf b≠[]/\r=.tup [.agg (zE b s h e),intA 0]/\K'=K)
theorem zA.fr0 {P:Program} {T:Goroutine->Hp->Prop} {gm:Nat->Option Nat} {g:FuncId} {args:List AV} {K R:KV} {Post:AV->KV->Prop} (h:zA P T gm g args K Post):zA P T gm g args (K++R) (fun r K'=>∃ K2,Post r K2/\K'=K2++R):=h.fr (List.Perm.refl _) fun r K' hp=>⟨K'++R,List.Perm.refl _,K',hp,rfl⟩
instance:Cal tp 122:={}
instance:Cal tp 126:={}
instance:Cal tp 61:={}
theorem qN {main T} (hT:zo tp main T) {gm} {b:RBk} {s h e:Nat} {n:Int} (hl:b.seams.length<=100) :
  zA tp T gm 126 [.agg (zE b s h e),intA n] [] (fun r K'=>r=intA (thereM b n)/\K'=[]):=by
 refine zp 12 hT Tryz.func126 fun Y hret=>?_
 refine au [4,5,21] ?_
 intro jb hjb
 refine au [2,3,4,4,5,1,7,9,28,24] ?_
 refine TK.cl Z Z Z Z (yz hT) ?_
 rintro r1 K2 ⟨rfl,rfl⟩
 refine au [30,3,20] ?_
 refine ⟨fun hc0=>?_,fun hc0=>?_⟩
 ·refine au [4,5,2,3] ?_
  refine TK.rt hret [] ?_
  exact ⟨by rw [jam (by simpa using hc0)],rfl⟩
 refine au [12,4,5,2,3] ?_
 refine TK.rt hret [] ?_
 exact ⟨by rw [jan (by simpa using hc0)],rfl⟩
theorem xg {main T} (hT:zo tp main T) {gm} {x y:RBand} :
  zA tp T gm 61 [.agg (bandC x),.agg (bandC y)] [] (fun r K'=>r=.agg (bandC ⟨max x.low y.low,min x.high y.high⟩)/\K'=[]):=by
 refine zp 16 hT Tryz.func61 fun Y hret=>?_
 refine au [4,5,21] ?_
 intro jx hjx
 refine au [21] ?_
 intro jy hjy
 refine au [22] ?_
 intro jr hjr
 refine au [3,4,5,7,9,7,9] ?_
 refine TK.a Z (zcY Z Z Z) ?_
 refine au [7,9,7,9] ?_
 refine TK.a Z (zcZ Z Z Z) ?_
 refine au [39,17,3] ?_
 refine TK.rt hret [] ?_
 exact ⟨rfl,rfl⟩
theorem xt {main T} (hT:zo tp main T) {gm} {b:RBk} {s h e:Nat} (hl:b.seams.length<=100) (hm:b.measures.length<=100) :
  zA tp T gm 122 [.agg (zE b s h e)] [(s,zk b),(h,zB b),(e,zq b)] (fun r K'=>AgrE b s h e [(s,zk b),(h,zB b),(e,zq b)] r K'):=by
 refine zp 16 hT Tryz.func122 fun Y hret=>?_
 refine au [4,5,21] ?_
 intro jb hjb
 refine au [22] ?_
 intro jr hjr
 refine au [2,3,4,4,5,8] ?_
 refine TK.cl Z Z Z Z (xW hT hl hm) ?_
 rintro r1 K2 h3
 rcases h3 with ⟨hbar,rfl,rfl⟩ | ⟨hbar,hnil,rfl,rfl⟩ | ⟨hbar,hne,ja,Q,P,hQP,hQ,rfl,rfl⟩
 ·refine au [1,10,10,2,2,3,4,5,1,6,3,20] ?_
  refine ⟨fun hc0=>?_,fun hc0=>?_⟩
  ·
   refine au [4,5,44,1,17,2,3] ?_
   refine TK.rt hret [(s,_),(h,_),(e,_)] ?_
   exact .inl ⟨hbar,rfl,rfl⟩
  exact absurd hbar (by simpa using hc0)
 ·refine au [1,10,10,2,2,3,4,5,1,6,3,20] ?_
  refine ⟨fun hc0=>?_,fun hc0=>?_⟩
  ·
   refine au [4,5,44,1,17,2,3] ?_
   refine TK.rt hret [(s,_),(h,_),(e,_)] ?_
   exact .inr (.inl ⟨hbar,hnil,rfl,rfl⟩)
  exact absurd hc0 dQ
 ·refine au [] ?_
  refine TK.perm (lH (l₁:=(ja,_)::(s,_)::(h,_)::(e,_)::ji P)) ?_
  simp only [cA]
  refine au [1,10,10,2,2,3,4,5,1,6,3,20] ?_
  refine ⟨fun hc0=>?_,fun hc0=>?_⟩
  ·exact absurd hc0 dQ
  refine au [12,4,5,8,17,2,3] ?_
  refine TK.rt hret [(s,_),(h,_),(e,_)] ?_
  exact .inr (.inr ⟨hbar,hne,rfl,rfl⟩)
theorem jF {main T} (hT:zo tp main T) {gm} {b:RBk} {s h e:Nat} (hl:b.seams.length<=100) (hm:b.measures.length<=100) {m:RMeas} :
  zA tp T gm 43 [.agg (zE b s h e),.agg (measC m)] [(s,zk b),(h,zB b),(e,zq b)] (fun r K'=>(zr b≠0/\r=.tup [.agg z7R,intA (zr b)]/\K'=[(s,zk b),(h,zB b),(e,zq b)])\/(zr b=0/\∃ je,AgrE (yd b m) s h je ((je,zq (yd b m))::[(s,zk b),(h,zB b),(e,zq b)]) r K')):=by
 refine zp 19 hT Tryz.func43 fun Y hret=>?_
 refine au [4,5,21] ?_
 intro jb hjb
 refine au [21] ?_
 intro jm hjm
 refine au [22] ?_
 intro jr hjr
 refine au [2,3,4,4,5,8] ?_
 refine TK.cl Z Z Z Z (zeH hT hl hm) ?_
 rintro r1 K2 ⟨rfl,rfl⟩
 refine au [2,3,4,5,1,6,3,20] ?_
 refine ⟨fun hc0=>?_,fun hc0=>?_⟩
 ·have hbar:zr b≠0:=by simpa using hc0
  refine au [4,5,44,1,17,2,3] ?_
  refine TK.rt hret [(s,_),(h,_),(e,_)] ?_
  exact .inl ⟨hbar,rfl,rfl⟩
 have hbar:zr b=0:=by simpa using hc0
 have hm3:=(zZ hbar).mes.len
 refine au [12,4,5,8,8] ?_
 refine TK.cl Z Z Z Z (zap hT (b:=b) (s:=s) (h:=h) (e:=e) (m:=m) hm) ?_
 rintro r4 K5 ⟨je,rfl,rfl⟩
 refine au [] ?_
 refine TK.cl Z Z Z Z ((xt hT (b:=yd b m) (s:=s) (h:=h) (e:=je) hl (by simp [yd]; omega)).fr0 (R:=[(e,zq b)])) ?_
 rintro r7 K8 h9
 rcases h9 with ⟨K0,(⟨hb2,rfl,rfl⟩ | ⟨hb2,hn2,rfl,rfl⟩ | ⟨hb2,hn2,rfl,rfl⟩),rfl⟩
 ·refine au [10,10,17,2,3] ?_
  refine TK.rt hret [(je,_),(s,_),(h,_),(e,_)] ?_
  exact .inr ⟨hbar,je,.inl ⟨hb2,rfl,rfl⟩⟩
 ·refine au [10,10,17,2,3] ?_
  refine TK.rt hret [(je,_),(s,_),(h,_),(e,_)] ?_
  exact .inr ⟨hbar,je,.inr (.inl ⟨hb2,hn2,rfl,rfl⟩)⟩
 ·refine au [10,10,17,2,3] ?_
  refine TK.rt hret [(je,_),(s,_),(h,_),(e,_)] ?_
  exact .inr ⟨hbar,je,.inr (.inr ⟨hb2,hn2,rfl,rfl⟩)⟩
theorem jH {main T} (hT:zo tp main T) {gm} {b:RBk} {s h e:Nat} (hl:b.seams.length<=100) (hm:b.measures.length<=100) {n:Int} {x:RBand} :
  zA tp T gm 46 [.agg (zE b s h e),intA n,.agg (bandC x)] [(s,zk b),(h,zB b),(e,zq b)] (fun r K'=>(bar2 (zr b) (thereM b n)≠0/\r=.tup [.agg z7R,intA (bar2 (zr b) (thereM b n))]/\K'=[(s,zk b),(h,zB b),(e,zq b)])\/(bar2 (zr b) (thereM b n)=0/\isBd x 0 5=false/\r=.tup [.agg z7R,intA 1]/\K'=[(s,zk b),(h,zB b),(e,zq b)])\/(bar2 (zr b) (thereM b n)=0/\isBd x 0 5=true/\(dryX b n x).high<(dryX b n x).low/\r=.tup [.agg z7R,intA 9]/\K'=[(s,zk b),(h,zB b),(e,zq b)])\/(bar2 (zr b) (thereM b n)=0/\isBd x 0 5=true/\(dryX b n x).low<=(dryX b n x).high/\∃ h2,AgrE (driedB b n.toNat (dryX b n x)) s h2 e ((h2,zB (driedB b n.toNat (dryX b n x)))::[(s,zk b),(h,zB b),(e,zq b)]) r K')):=by
 refine zp 48 hT Tryz.func46 fun Y hret=>?_
 refine au [4,5,21] ?_
 intro jb hjb
 refine au [21] ?_
 intro jx hjx
 refine au [22] ?_
 intro jr hjr
 refine au [2,3,4,4,5,8] ?_
 refine TK.cl Z Z Z Z (zeH hT hl hm) ?_
 rintro r1 K2 ⟨rfl,rfl⟩
 refine au [2,3,4,5,1,6,3,20] ?_
 refine ⟨fun hc0=>?_,fun hc0=>?_⟩
 ·have hbar:zr b≠0:=by simpa using hc0
  refine au [4,5,44,1,17,2,3] ?_
  refine TK.rt hret [(s,_),(h,_),(e,_)] ?_
  exact .inl ⟨by rw [vK hbar]; exact hbar,by rw [vK hbar] <;> rfl,rfl⟩
 have hbar:zr b=0:=by simpa using hc0
 have hck:=zZ hbar
 have hsl:=hck.cls.len
 have hs5:=hck.sms.len
 have hml:=hck.mes.len
 refine au [12,4,4,5,8,1] ?_
 refine TK.cl Z Z Z Z (qN hT hl) ?_
 rintro r4 K5 ⟨rfl,rfl⟩
 refine au [2,3,4,5,1,6,3,20] ?_
 refine ⟨fun hc1=>?_,fun hc1=>?_⟩
 ·have hth:thereM b n≠0:=by simpa using hc1
  refine au [4,5,44,1,17,2,3] ?_
  refine TK.rt hret [(s,_),(h,_),(e,_)] ?_
  exact .inl ⟨by rw [kF hbar]; exact hth,by rw [kF hbar] <;> rfl,rfl⟩
 have hth:thereM b n=0:=by simpa using hc1
 have hbb:bar2 (zr b) (thereM b n)=0:=by rw [kF hbar]; exact hth
 have hth2:=zah hth
 obtain ⟨nn,rfl⟩:∃ nn:Nat,n=(nn:Int):=⟨n.toNat,by omega⟩
 have hnb:nn<b.shrinks.length:=by omega
 refine au [12,4,4,5,8] ?_
 refine TK.cl Z Z Z Z (zek hT (x:=x)) ?_
 rintro r7 K8 ⟨rfl,rfl⟩
 refine au [30,3,20] ?_
 refine ⟨fun hc2=>?_,fun hc2=>?_⟩
 ·refine au [4,5,44,17,2,3] ?_
  refine TK.rt hret [(s,_),(h,_),(e,_)] ?_
  exact .inr (.inl ⟨hbb,by simpa using hc2,rfl,rfl⟩)
 refine au [12,4] ?_
 refine' TK.share (X:=Nat) (D:=fun x=>True) (E:=fun y=>.any::intA (nn:Int)::.any::.ptr jb 0::.any::.ptr jx 0::.ptr jr 0::naL 3 (.ptr y 0::naL 37 [])) (KK:=fun y=>[(s,zk b),(h,zB b),(e,zq b),(jb,.cells (zE b s h e) 26 true),(jx,.cells (bandC x) 51 true),(jr,.cells z7R 26 true),(y,.cells (bandC (dryX b (nn:Int) x)) 51 true)]) ?_ ?_
 rotate_left
 ·intro H
  refine TK.draw [0,1,2,3,4,5,6,7,8] [0,1,2,3,4,5,6,7,8] (by kernel_rfl) (by kernel_rfl) ?_
  refine TD.z [3] Z (zg Z Z zl.h dQ) ?_
  refine TD.y [28] Z (hq:=zm Z Z zi.h (mC _) Z) (h:=?_)
  refine TD.z [1] Z (zh Z Z) ?_
  refine TD.z [29,30] Z (zQ Z Z Z zF.h oQ oQ) ?_
  refine TD.y [31] Z (hq:=z8 Z Z zi.h (mC _) (w9 (c:=2) (f:=bandC) (fun _=>rfl) (ko hnb) rfl dQ)) (h:=?_)
  refine TD.y [5] Z (hq:=z8 Z Z zi.h (mC _) Z) (h:=?_)
  refine TD.c2 (i1:=6) (i2:=7) (pend1:=[⟨3,[29,30],[]⟩,⟨2,[1],[]⟩,⟨1,[28],[(_,_)]⟩,⟨0,[3],[]⟩]) (pend2:=[⟨5,[5],[(_,_)]⟩,⟨4,[31],[(_,_)]⟩,⟨3,[29,30],[]⟩,⟨2,[1],[]⟩,⟨1,[28],[(_,_)]⟩,⟨0,[3],[]⟩]) (L1:=[7,8]) (L2:=[6,8]) [32,33] [] Z Z Z Z Z Z Z ?_ ?_
  ·refine we Z Z Cal.h Z (xg hT (x:=bd b nn) (y:=x)) (by repeat (first | exact Split.none _ | exact Split.all _ | (apply Split.rem; repeat (first | exact Rem.head | apply Rem.tail)) | apply Split.right)) fun r10 K11 h12=>⟨?_,?_⟩
   ·rcases h12 with ⟨rfl,rfl⟩
    all_goals simp
   obtain ⟨rfl,rfl⟩:=h12
   try simp only [cA]
   refine TD.norm (env':=[_,_,_,_,_,_,_,_,_,_,_,_,_,_,_,_,_,_,_,_,_,_,_,_,_,_,_,_,_,_,_,_,_,_,_,_,_,_,_,_,_,_,_,_,_,_,_,_]) Z ?_
   refine TD.cnewP (pend':=[⟨3,[29,30],[]⟩,⟨2,[1],[]⟩,⟨1,[28],[(_,_)]⟩,⟨0,[3],[]⟩]) [] Z Z Z Z Z (yK Z TyZA.h) (fun _=>zu rfl tQ) sQ fun jo hjo=>?_
   refine TD.s (pend':=[]) [10,34] Z Z (zX Z Z zi.h Z Z mQ Z) ?_
   refine TD.fin ?_
   refine au [4,4] ?_
   refine TK.maskL [1,3,5,6,10] ?_
   refine TK.kp [(s,_),(h,_),(e,_),(jb,_),(jx,_),(jr,_),(jo,_)] ?_
   exact H jo trivial
  ·refine vl Z (yK Z TyZA.h) (fun _=>zu rfl tQ) sQ fun jo hjo=>?_
   refine TD.cl (pend':=[⟨3,[29,30],[]⟩,⟨2,[1],[]⟩,⟨1,[28],[(_,_)]⟩,⟨0,[3],[]⟩]) [32,33] Z Z Z Z Z (xg hT (x:=bd b nn) (y:=x)) (fun r19 K20 h21=>⟨?_,?_⟩)
   ·rcases h21 with ⟨rfl,rfl⟩
    all_goals simp
   obtain ⟨rfl,rfl⟩:=h21
   try simp only [cA]
   refine TD.norm tQ ?_
   refine TD.s (pend':=[]) [10,34] Z Z (zX Z Z zi.h Z Z mQ Z) ?_
   refine TD.fin ?_
   refine au [4,4] ?_
   refine TK.maskL [1,3,5,6,10] ?_
   refine TK.kp [(s,_),(h,_),(e,_),(jb,_),(jx,_),(jr,_),(jo,_)] ?_
   exact H jo trivial
 ·rintro jo _
  refine TK.na nQ ?_
  refine au [5,7,9,7,9,6,3,20] ?_
  refine ⟨fun hc3=>?_,fun hc3=>?_⟩
  ·refine au [4,5,44,17,2,3] ?_
   refine TK.rt hret [(s,_),(h,_),(e,_)] ?_
   exact .inr (.inr (.inl ⟨hbb,by simpa using hc2,of_decide_eq_true hc3,rfl,rfl⟩))
  refine au [12,4,5,8,1,8] ?_
  refine TK.cl Z Z Z Z (qF hT (b:=b) (s:=s) (h:=h) (e:=e) (i:=nn) (x:=dryX b (nn:Int) x) hnb oQ) ?_
  rintro r22 K23 ⟨h2,rfl,rfl⟩
  refine au [] ?_
  refine TK.cl Z Z Z Z ((xt hT (b:=driedB b nn (dryX b (nn:Int) x)) (s:=s) (h:=h2) (e:=e) hl (show b.measures.length<=100 by omega)).fr0 (R:=[(h,zB b)])) ?_
  rintro r25 K26 h27
  rcases h27 with ⟨K0,(⟨hb2,rfl,rfl⟩ | ⟨hb2,hn2,rfl,rfl⟩ | ⟨hb2,hn2,rfl,rfl⟩),rfl⟩
  ·refine au [10,10,17,2,3] ?_
   refine TK.rt hret [(h2,_),(s,_),(h,_),(e,_)] ?_
   exact .inr (.inr (.inr ⟨hbb,by simpa using hc2,Int.not_lt.1 (of_decide_eq_false hc3),h2,.inl ⟨hb2,rfl,rfl⟩⟩))
  ·refine au [10,10,17,2,3] ?_
   refine TK.rt hret [(h2,_),(s,_),(h,_),(e,_)] ?_
   exact .inr (.inr (.inr ⟨hbb,by simpa using hc2,Int.not_lt.1 (of_decide_eq_false hc3),h2,.inr (.inl ⟨hb2,hn2,rfl,rfl⟩)⟩))
  ·refine au [10,10,17,2,3] ?_
   refine TK.rt hret [(h2,_),(s,_),(h,_),(e,_)] ?_
   exact .inr (.inr (.inr ⟨hbb,by simpa using hc2,Int.not_lt.1 (of_decide_eq_false hc3),h2,.inr (.inr ⟨hb2,hn2,rfl,rfl⟩)⟩))
theorem xl {main T} (hT:zo tp main T) {gm} {b:RBk} {s h e:Nat} (hl:b.seams.length<=100) (hm:b.measures.length<=100) {r0:Int} :
  zA tp T gm 48 [.agg (zE b s h e),intA r0] [(s,zk b),(h,zB b),(e,zq b)] (fun r K'=>(zr b≠0/\r=.tup [.agg z7R,intA (zr b)]/\K'=[(s,zk b),(h,zB b),(e,zq b)])\/(zr b=0/\betw r0 b.steps 40=false/\r=.tup [.agg z7R,intA 1]/\K'=[(s,zk b),(h,zB b),(e,zq b)])\/(zr b=0/\betw r0 b.steps 40=true/\r=.tup [.agg (zE (atRound b r0) s h e),intA 0]/\K'=[(s,zk b),(h,zB b),(e,zq b)])):=by
 refine zp 22 hT Tryz.func48 fun Y hret=>?_
 refine au [4,5,21] ?_
 intro jb hjb
 refine au [22] ?_
 intro jr hjr
 refine au [2,3,4,4,5,8] ?_
 refine TK.cl Z Z Z Z (zeH hT hl hm) ?_
 rintro r1 K2 ⟨rfl,rfl⟩
 refine au [2,3,4,5,1,6,3,20] ?_
 refine ⟨fun hc0=>?_,fun hc0=>?_⟩
 ·refine au [4,5,44,1,17,2,3] ?_
  refine TK.rt hret [(s,_),(h,_),(e,_)] ?_
  exact .inl ⟨by simpa using hc0,rfl,rfl⟩
 have hbar:zr b=0:=by simpa using hc0
 refine au [12,4,4,5,1,7,9] ?_
 refine TK.cl Z Z Z Z (yz hT) ?_
 rintro r4 K5 ⟨rfl,rfl⟩
 refine au [30,3,20] ?_
 refine ⟨fun hc1=>?_,fun hc1=>?_⟩
 ·refine au [4,5,44,17,2,3] ?_
  refine TK.rt hret [(s,_),(h,_),(e,_)] ?_
  exact .inr (.inl ⟨hbar,by simpa using hc1,rfl,rfl⟩)
 refine au [12,4,5,1,7,17,3,4,5,8,17,2,3] ?_
 refine TK.rt hret [(s,_),(h,_),(e,_)] ?_
 exact .inr (.inr ⟨hbar,by simpa using hc1,rfl,rfl⟩)
theorem jaq {b:RBk} {all:List (List Int)} {i:Nat} (h:mostL all i all.length<(askL b all i).2):askL b all (i+1)=((i:Int),mostL all i all.length):=if_pos h
theorem jap {b:RBk} {all:List (List Int)} {i:Nat} (h:¬ mostL all i all.length<(askL b all i).2):askL b all (i+1)=askL b all i:=if_neg h
theorem xo {Q:List (Nat×List Int)} {m:Nat} (h:m<Q.length):(Q.map (·.2))[m]? =some (sN Q m).2:=by rw [List.getElem?_map,jN h]; rfl
theorem cntT {Q:List (Nat×List Int)} {i m:Nat} {v:Int} (h:m<Q.length) (hv:zN (sN Q m).2 i=v):((cntM ((Q.map (·.2)).take (m+1)) i v:Nat):Int)=((cntM ((Q.map (·.2)).take m) i v:Nat):Int)+1:=by
 rw [zfK (xo h) i v,if_pos hv.symm,hv]
theorem cntF {Q:List (Nat×List Int)} {i m:Nat} {v:Int} (h:m<Q.length) (hv:¬ zN (sN Q m).2 i=v):((cntM ((Q.map (·.2)).take (m+1)) i v:Nat):Int)=((cntM ((Q.map (·.2)).take m) i v:Nat):Int):=by
 rw [zfK (xo h) i v,if_neg fun e=>hv e.symm]
theorem qR {Q:List (Nat×List Int)} {i k:Nat} (h:k<Q.length):mostR (Q.map (·.2)) i (k+1)=max (mostR (Q.map (·.2)) i k) (cntM (Q.map (·.2)) i (zN (sN Q k).2 i):Nat):=by
 have:(Q.map (·.2)).getD k []=(sN Q k).2:=by rw [lE,xo h]; rfl
 show max _ _=_
 rw [this]
theorem jas (Q:List (Nat×List Int)) (i m:Nat) (v:Int):cntM ((Q.map (·.2)).take m) i v<=Q.length:=by
 have h1:=zhM ((Q.map (·.2)).take m) i v
 have h3:=List.length_take_le' m (Q.map (·.2))
 rw [lJ] at h3
 omega
theorem xB {main T} (hT:zo tp main T) {gm} {b:RBk} {s h e:Nat} (hl:b.seams.length<=100) (hm:b.measures.length<=100) :
  zA tp T gm 41 [.agg (zE b s h e)] [(s,zk b),(h,zB b),(e,zq b)] (fun r K'=>(zr b≠0/\r=.tup [intA 0,intA 0,intA (zr b)]/\K'=[(s,zk b),(h,zB b),(e,zq b)])\/(zr b=0/\zf b=[]/\r=.tup [intA 0,intA 0,intA 9]/\K'=[(s,zk b),(h,zB b),(e,zq b)])\/(zr b=0/\zf b≠[]/\r=.tup [intA (askM b (zf b)).1,intA (askM b (zf b)).2,intA 0]/\K'=[(s,zk b),(h,zB b),(e,zq b)])):=by
 refine zp 70 hT Tryz.func41 fun Y hret=>?_
 refine au [4,5,21] ?_
 intro jb hjb
 refine au [2,2,2,3,4,5,8] ?_
 refine TK.cl Z Z Z Z (xW hT hl hm) ?_
 rintro r1 K2 h3
 rcases h3 with ⟨hbar,rfl,rfl⟩ | ⟨hbar,hnil,rfl,rfl⟩ | ⟨hbar,hne,jr,Q,P,hQP,hQ,rfl,rfl⟩
 ·refine au [1,10,10,2,2,3,4,4,5,1,6,3,20] ?_
  refine ⟨fun hc0=>?_,fun hc0=>?_⟩
  ·
   refine au [4,5,1,2,2,2,3] ?_
   refine TK.rt hret [(s,_),(h,_),(e,_)] ?_
   exact .inl ⟨hbar,rfl,rfl⟩
  exact absurd hbar (by simpa using hc0)
 ·refine au [1,10,10,2,2,3,4,4,5,1,6,3,20] ?_
  refine ⟨fun hc0=>?_,fun hc0=>?_⟩
  ·
   refine au [4,5,1,2,2,2,3] ?_
   refine TK.rt hret [(s,_),(h,_),(e,_)] ?_
   exact .inr (.inl ⟨hbar,hnil,rfl,rfl⟩)
  exact absurd hc0 dQ
 ·refine au [] ?_
  refine TK.perm (lH (l₁:=(jr,_)::(s,_)::(h,_)::(e,_)::ji P)) ?_
  simp only [cA]
  refine au [1,10,10,2,2,3,4,4,5,1,6,3,20] ?_
  refine ⟨fun hc0=>?_,fun hc0=>?_⟩
  ·exact absurd hc0 dQ
  have hbb:=zZ hbar
  have hsl:=hbb.sms.len
  have hall:okAll b (Q.map (·.2)):=fun st hst=>(y7 hbb (hQ ▸ hst)).1
  have hQl:Q.length<=1000:=by have h1:=kf hbb; rw [<- hQ,lJ] at h1; omega
  have hso:∀ q,q<Q.length->(sN Q q).2.length=b.seams.length:=fun q hq=>(hall _ (lY.2 ⟨_,jE hq,rfl⟩)).len
  refine au [12,4,5,1,28,2,2,3,4,4,5,2,3,13] ?_
  refine TK.maskL [1,5,7,8,9] ?_
  refine TK.loopN (fun n env K=>∃ (i:Nat),n=b.seams.length - i/\i<=b.seams.length/\env=.any::.ptr jb 0::naL 3 (.row jr Q.length::.any::intA (askL b (Q.map (·.2)) i).1::intA (askL b (Q.map (·.2)) i).2::intA i::naL 60 [])/\K=(jb,.cells (zE b s h e) 26 true)::(jr,.row (refsL Q) 27 1)::(s,zk b)::(h,zB b)::(e,zq b)::ji P) b.seams.length ⟨0,rfl,mN _,by rw [show (askL b (Q.map (·.2)) 0).2=(Q.length:Int) by show (((Q.map (·.2)).length:Nat):Int)=_; rw [lJ]] <;> rfl,rfl⟩ fun n env K hI hnext=>?_
  obtain ⟨i,rfl,hi,rfl,rfl⟩:=hI
  have hab:=qY b (Q.map (·.2)) i
  rw [lJ] at hab
  refine TK.na nQ ?_
  refine au [4,4,5,1,7,9,28,6,3,20] ?_
  refine ⟨fun hc1=>?_,fun hc1=>?_⟩
  ·have hil:i<b.seams.length:=by simp at hc1; omega
   refine au [12,4,13,4,5,2,3,4,4,5,2,3,13] ?_
   refine TK.maskL [1,5,7,8,9,10,11] ?_
   refine TK.loopN (fun n env K=>∃ (k:Nat),n=Q.length - k/\k<=Q.length/\env=.any::.ptr jb 0::naL 3 (.row jr Q.length::.any::intA (askL b (Q.map (·.2)) i).1::intA (askL b (Q.map (·.2)) i).2::intA i::intA (mostR (Q.map (·.2)) i k)::intA k::naL 58 [])/\K=(jb,.cells (zE b s h e) 26 true)::(jr,.row (refsL Q) 27 1)::(s,zk b)::(h,zB b)::(e,zq b)::ji P) Q.length ⟨0,rfl,mN _,rfl,rfl⟩ fun n env K hI hnext1=>?_
   obtain ⟨k,rfl,hk,rfl,rfl⟩:=hI
   refine TK.na nQ ?_
   refine au [4,4,5,1,1,28,6,3,20] ?_
   refine ⟨fun hc2=>?_,fun hc2=>?_⟩
   ·have hkl:k<Q.length:=by simp at hc2; omega
    have hsk:=hso k hkl
    have hkm:=jA (hQP _ (jE hkl))
    have hkc:=z5 (l:=(sN Q k).2) (k:=i) (by rw [hso k hkl]; exact hil)
    refine au [12,4,13,4,5,2,3,4,4,5,2,3,13] ?_
    refine TK.maskL [1,5,7,8,9,10,11,12,13] ?_
    refine TK.loopN (fun n env K=>∃ (m:Nat),n=Q.length - m/\m<=Q.length/\env=.any::.ptr jb 0::naL 3 (.row jr Q.length::.any::intA (askL b (Q.map (·.2)) i).1::intA (askL b (Q.map (·.2)) i).2::intA i::intA (mostR (Q.map (·.2)) i k)::intA k::.v (.int .i64 (cntM ((Q.map (·.2)).take m) i (zN (sN Q k).2 i):Nat))::intA m::naL 56 [])/\K=(jb,.cells (zE b s h e) 26 true)::(jr,.row (refsL Q) 27 1)::(s,zk b)::(h,zB b)::(e,zq b)::ji P) Q.length ⟨0,rfl,mN _,rfl,rfl⟩ fun n env K hI hnext2=>?_
    obtain ⟨m,rfl,hm0,rfl,rfl⟩:=hI
    have hcb:=jas Q i m (zN (sN Q k).2 i)
    refine TK.na nQ ?_
    refine au [4,4,5,1,1,28,6,3,20] ?_
    refine ⟨fun hc3=>?_,fun hc3=>?_⟩
    ·have hml:m<Q.length:=by simp at hc3; omega
     have hsm:=hso m hml
     have hmm:=jA (hQP _ (jE hml))
     have hmc:=z5 (l:=(sN Q m).2) (k:=i) (by rw [hso m hml]; exact hil)
     refine au [12,4,13,4] ?_
     refine TK.draw [0,1,2,3,4,5,6,7,8,9,10,11,12,13,14] [0,1,2,3,4,5,6,7,8,9,10,11,12,13,14] (by kernel_rfl) (by kernel_rfl) ?_
     refine TD.z [5] Z (zh Z Z) ?_
     refine TD.z [13] Z (zh Z Z) ?_
     refine TD.y [43,44] Z (hq:=kA Z Z Z zF.h (mC _) oQ oQ) (h:=?_)
     refine TD.y [45] Z (hq:=zm Z Z zi.h (mC _) (xa hml Z)) (h:=?_)
     refine TD.z [9] Z (zh Z Z) ?_
     refine TD.z [46,47] Z (zQ Z Z Z zF.h oQ oQ) ?_
     refine TD.y [48] Z (hq:=zm Z Z zi.h (mC _) (yh hmc Z)) (h:=?_)
     refine TD.z [5] Z (zh Z Z) ?_
     refine TD.z [11] Z (zh Z Z) ?_
     refine TD.y [50,51] Z (hq:=kA Z Z Z zF.h (mC _) oQ oQ) (h:=?_)
     refine TD.y [52] Z (hq:=zm Z Z zi.h (mC _) (xa hkl Z)) (h:=?_)
     refine TD.z [9] Z (zh Z Z) ?_
     refine TD.z [53,54] Z (zQ Z Z Z zF.h oQ oQ) ?_
     refine TD.y [55] Z (hq:=zm Z Z zi.h (mC _) (yh hkc Z)) (h:=?_)
     refine TD.z [49,56] Z (q_cmp Z Z Z Z) ?_
     refine TD.fin ?_
     refine au [20] ?_
     refine ⟨fun hc4=>?_,fun hc4=>?_⟩
     ·have heq:zN (sN Q m).2 i=(zN (sN Q k).2 i):=eq_of_beq hc4
      refine au [5,1,23,2,3,14,5,1,23,2,3] ?_
      refine TK.maskL [1,5,7,8,9,10,11,12,13] ?_
      refine TK.kp (((jb,_)::(jr,_)::(s,_)::(h,_)::(e,_)::ji P)) ?_
      exact hnext2 _ _ _ oQ ⟨m+1,rfl,by omega,by rw [cntT hml heq] <;> rfl,rfl⟩
     have heq:¬ zN (sN Q m).2 i=(zN (sN Q k).2 i):=fun hh=>by rw [hh] at hc4; simp at hc4
     refine au [12,14,5,1,23,2,3] ?_
     refine TK.maskL [1,5,7,8,9,10,11,12,13] ?_
     refine TK.kp (((jb,_)::(jr,_)::(s,_)::(h,_)::(e,_)::ji P)) ?_
     exact hnext2 _ _ _ oQ ⟨m+1,rfl,by omega,by rw [cntF hml heq] <;> rfl,rfl⟩
    obtain rfl:m=Q.length:=by simp at hc3; omega
    rw [show (Q.map (·.2)).take Q.length=(Q.map (·.2)) from List.take_of_length_le (by rw [lJ]; exact mL _)]
    refine au [16,5,1,1] ?_
    refine TK.a Z (zcY Z Z Z) ?_
    refine au [2,3,14,5,1,23,2,3] ?_
    refine TK.maskL [1,5,7,8,9,10,11] ?_
    refine TK.kp (((jb,_)::(jr,_)::(s,_)::(h,_)::(e,_)::ji P)) ?_
    exact hnext1 _ _ _ oQ ⟨k+1,rfl,by omega,by rw [qR hkl] <;> rfl,rfl⟩
   obtain rfl:k=Q.length:=by simp at hc2; omega
   rw [show mostR (Q.map (·.2)) i Q.length=mostL (Q.map (·.2)) i (Q.map (·.2)).length by rw [<- jaf,lJ]]
   refine au [16,4,5,1,1,6,3,20] ?_
   refine ⟨fun hc5=>?_,fun hc5=>?_⟩
   ·have hlt:=of_decide_eq_true hc5
    refine au [5,1,1,2,2,3,14,5,1,23,2,3] ?_
    refine TK.maskL [1,5,7,8,9] ?_
    refine TK.kp (((jb,_)::(jr,_)::(s,_)::(h,_)::(e,_)::ji P)) ?_
    exact hnext _ _ _ oQ ⟨i+1,rfl,by omega,by rw [jaq hlt] <;> rfl,rfl⟩
   have hlt:=of_decide_eq_false hc5
   refine au [12,14,5,1,23,2,3] ?_
   refine TK.maskL [1,5,7,8,9] ?_
   refine TK.kp (((jb,_)::(jr,_)::(s,_)::(h,_)::(e,_)::ji P)) ?_
   exact hnext _ _ _ oQ ⟨i+1,rfl,by omega,by rw [jap hlt] <;> rfl,rfl⟩
  obtain rfl:i=b.seams.length:=by simp at hc1; omega
  refine au [16,4,5,1,1,2,2,2,3] ?_
  refine TK.rt hret [(s,_),(h,_),(e,_)] ?_
  exact .inr (.inr ⟨hbar,hne,by rw [<- hQ] <;> rfl,rfl⟩)
theorem qX {main T} (hT:zo tp main T) {gm} {m:Nat} (hm:m<=100) :
  zA tp T gm 119 [.v (.int .i64 (m:Nat))] [] (fun r K'=>∃ j,r=.row j m/\K'=[(j,.row ((idxM m).map intA) 3 1)]):=by
 refine zp 15 hT Tryz.func119 fun Y hret=>?_
 refine au [4,5,2,3,4,5,2] ?_
 refine TK.virt 3 3 1 Z fun jr0 hjr0=>?_
 refine au [3,4,4,5,2,3,13] ?_
 refine TK.maskL [0,3,4] ?_
 refine TK.loopN (fun n env K=>∃ (i jr:Nat),n=m - i/\i<=m/\env=.v (.int .i64 (m:Nat))::naL 2 (.row jr i::intA i::naL 10 [])/\K=[(jr,.row ((idxM i).map intA) 3 1)]) m ⟨0,jr0,rfl,mN _,rfl,rfl⟩ fun n env K hI hnext=>?_
 obtain ⟨i,jr,rfl,hi,rfl,rfl⟩:=hI
 have hil2:(idxM i).length=i:=by simp [idxM]
 refine TK.na nQ ?_
 refine au [4,4,5,1,1,6,3,20] ?_
 refine ⟨fun hc0=>?_,fun hc0=>?_⟩
 ·have hil:i<m:=by simp at hc0; omega
  refine au [12,4,13,5,1,1] ?_
  refine TK.newR Z Z Z (zt (l:=[_]) Z zF.h TyZ.h dQ dQ Z) (fun _=>zu rfl tQ) fun j1 hj1=>?_
  refine TK.appR Z Z Z (a_app Z ApOf.h Z mQ (by rw [lJ]; omega) Z (yu (ln:=[_]) mQ dQ sQ Z) oQ Z (by unfold maxLen; omega) oQ) (fun _=>uQ) (fun _=>zu rfl tQ) fun jr2=>?_
  refine au [2,3,14,5,1,23,2,3] ?_
  refine TK.maskL [0,3,4] ?_
  refine TK.kp [(jr2,_)] ?_
  exact hnext _ _ _ oQ ⟨i+1,jr2,rfl,by omega,rfl,by rw [show idxM (i+1)=idxM i++[(i:Int)] by unfold idxM; rw [List.range_succ,lM]; rfl,lM]; rfl⟩
 obtain rfl:i=m:=by simp at hc0; omega
 refine au [16,4,5,1,2,3] ?_
 refine TK.rt hret [(jr,_)] ?_
 exact ⟨jr,rfl,rfl⟩
def clJ (ju:Nat) (S:List (Nat×List Int)) (o:Option Nat):Nat:=o.elim ju fun k=>(sN S k).1
def clL (m:Nat) (S:List (Nat×List Int)) (o:Option Nat):List Int:=o.elim (idxM m) fun k=>(sN S k).2
def clP (ju m:Nat):List (Nat×List Int):=[(ju,idxM m)]
theorem qP (m:Nat) (S:List (Nat×List Int)):clL m S none=idxM m:=rfl
theorem qo (m:Nat):(idxM m).length=m:=by simp [idxM]
theorem jar {b:RBk} {ju i:Nat} {S:List (Nat×List Int)} {o:Option Nat} (m:Nat) (hi:i<=S.length) (h:∀ k,o=some k->k<i/\badX b (sN S k).2=true):(clJ ju S o,AObj.cells ((clL m S o).map intA) 3 false)∈ji (clP ju m)++ji S:=by
 cases o with
 | none=>exact lV _ (lS.2 rfl)
 | some k=>exact List.mem_append_right _ (jA (jE (by have:=(h k rfl).1; omega)))
theorem qJ {α:Type} {a1 a2 a3 z1 z2 z3 z4:α} {X P:List α}:(a1::a2::a3::(X++(z1::z2::z3::z4::P))).Perm ((a1::z2::z3::a3::a2::X)++(z1::z4::P)):=xC fun _ a=>by
 simp only [List.count_append,List.count_cons]
 omega
theorem jau {α:Type} {a1 a2 a3 a4 a5 x:α} {S R:List α} (h:S.Perm (x::R)):(a1::a2::a3::a4::a5::S).Perm ((x::a2::a3::a4::[])++(a1::a5::R)):=xC fun _ a=>by
 have:=h.count_eq a
 simp only [List.count_append,List.count_cons,List.count_nil] at this ⊢
 omega
theorem qB {main T} (hT:zo tp main T) {gm} {b:RBk} {ju m i:Nat} {S:List (Nat×List Int)} {o:Option Nat} (hi:i<S.length) (h:∀ k,o=some k->k<i/\badX b (sN S k).2=true) (hl:∀ t,t<S.length->(sN S t).2.length<=1000) (hm:m<=100):zA tp T gm 65 [.sl (sN S i).1 0 (sN S i).2.length,.sl (clJ ju S o) 0 (clL m S o).length] (ji (clP ju m)++ji S) (fun r K'=>r=zP (smallerM (sN S i).2 (clL m S o))/\K'=ji (clP ju m)++ji S):=by
 cases o with
 | some k=>exact qC hT (P:=clP ju m) (S:=S) (h k rfl).1 hi hl
 | none =>
  obtain ⟨R,hR⟩:=jD (jA (jE hi))
  refine (xh hT (j2:=ju) (ys:=idxM m) (e1:=3) (e2:=3) (hl i hi) (by rw [qo]; omega)).frameP (R:=R) ?_
  exact (List.Perm.cons _ hR.perm).trans (List.Perm.swap _ _ _)
theorem jai {main T} (hT:zo tp main T) {gm} {b:RBk} {s h e i:Nat} {P S:List (Nat×List Int)} (hi:i<S.length) (hb:∀ x∈(sN S i).2,0<=x/\x<b.measures.length) (hm:b.measures.length<=100) (hl:(sN S i).2.length<=100):zA tp T gm 63 [.agg (zE b s h e),.sl (sN S i).1 0 (sN S i).2.length] ((e,zq b)::(ji P++ji S)) (fun r K'=>∃ je,r=.agg (zE (onlyX b (sN S i).2) s h je)/\K'=(je,zq (onlyX b (sN S i).2))::(e,zq b)::(ji P++ji S)):=by
 obtain ⟨R,hR⟩:=jD (jA (jE hi))
 have hp:(ji P++ji S).Perm (((sN S i).1,AObj.cells ((sN S i).2.map intA) 3 false)::(ji P++R)):=(List.Perm.append_left _ hR.perm).trans List.perm_middle
 refine (qU hT (j:=(sN S i).1) (et:=3) hb hm hl).fr (R:=ji P++R) (List.Perm.cons _ hp) ?_
 rintro r K' ⟨je,rfl,rfl⟩
 exact ⟨_,(List.Perm.cons _ (List.Perm.cons _ hp)).symm,je,rfl,rfl⟩
theorem jaw {b:RBk} {S:List (Nat×List Int)} (hS:S.map (·.2)=setsM (b.measures.length:Int) b.measures.length) {i:Nat} (hi:i<S.length) (hb:ROk b):(∀ x∈(sN S i).2,0<=x/\x<(b.measures.length:Int))/\ROk (onlyX b (sN S i).2):=by
 obtain ⟨d,hd,he⟩:=(x8 hS).1 i hi
 rw [he]
 exact ⟨qZ b d,zZ (qg hb d)⟩
theorem jav {α:Type} {a1 a2 a3 a4 a5 a6 a7:α} {S:List α}:(a1::a2::a3::a4::a5::a6::a7::S).Perm ((a2::a4::a5::a6::a7::([a1]++S))++[a3]):=xC fun _ a=>by
 simp only [List.count_append,List.count_cons,List.count_nil,List.cons_append,lC]
 omega
instance:Cal tp 119:={}
theorem jW {main T} (hT:zo tp main T) {gm} {b:RBk} {s h e:Nat} (hl:b.seams.length<=100) (hm:b.measures.length<=100) :
  zA tp T gm 39 [.agg (zE b s h e)] [(s,zk b),(h,zB b),(e,zq b)] (fun r K'=>(zr b≠0/\r=.tup [.v (.slice none 0 0),intA (zr b)]/\K'=[(s,zk b),(h,zB b),(e,zq b)])\/(zr b=0/\zf b≠[]/\r=.tup [.v (.slice none 0 0),intA 0]/\K'=[(s,zk b),(h,zB b),(e,zq b)])\/(zr b=0/\zf b=[]/\∃ l jc,clashM b=some l/\r=.tup [.sl jc 0 l.length,intA 0]/\K'=(jc,.cells (l.map intA) 3 false)::[(s,zk b),(h,zB b),(e,zq b)])):=by
 refine zp 54 hT Tryz.func39 fun Y hret=>?_
 refine au [4,5,21] ?_
 intro jb hjb
 refine au [2,2,3,4,4,5,8] ?_
 refine TK.cl Z Z Z Z (zeH hT hl hm) ?_
 rintro r1 K2 ⟨rfl,rfl⟩
 refine au [2,3,4,5,1,6,3,20] ?_
 refine ⟨fun hc0=>?_,fun hc0=>?_⟩
 ·refine au [4,5,1,2,2,3] ?_
  refine TK.rt hret [(s,_),(h,_),(e,_)] ?_
  exact .inl ⟨by simpa using hc0,rfl,rfl⟩
 have hbar:zr b=0:=by simpa using hc0
 have hbb:=zZ hbar
 have hml:=hbb.mes.len
 refine au [12,4,4,5,8] ?_
 refine TK.cl Z Z Z Z (jT hT hbb) ?_
 rintro r4 K5 ⟨jr,Q,P,hQP,hQ,rfl,rfl⟩
 refine au [] ?_
 refine TK.dropP (R:=[(jb,_),(jr,_),(s,_),(h,_),(e,_)]) (L:=ji P) (lH (l₁:=(jr,_)::(s,_)::(h,_)::(e,_)::ji P)) ?_
 refine au [28,6,3,20] ?_
 refine ⟨fun hc1=>?_,fun hc1=>?_⟩
 ·have hne:zf b≠[]:=fun hh=>by rw [<- hQ,List.map_eq_nil_iff] at hh; rw [hh] at hc1; simp at hc1
  refine au [4,5,2,2,3] ?_
  refine TK.rt hret [(s,_),(h,_),(e,_)] ?_
  exact .inr (.inl ⟨hbar,hne,rfl,rfl⟩)
 have hnil:zf b=[]:=by rw [<- hQ,show Q=[] from lK (by have:=of_decide_eq_false hc1; omega)]; rfl
 refine au [12,4,5,7,9,28,2,3,4,5,1] ?_
 refine TK.cl Z Z Z Z (qX hT (m:=b.measures.length) oQ) ?_ (hs:=(.none _))
 rintro r7 K8 ⟨ju,rfl,rfl⟩
 refine au [1,1] ?_
 refine TK.cl Z Z Z Z (jak hT (below:=(b.measures.length:Int)) (most:=(b.measures.length:Int)) oQ oQ) ?_ (hs:=(.none _))
 rintro r10 K11 ⟨ja,S,rfl,hS,rfl⟩
 refine au [] ?_
 refine TK.perm (lH (l₁:=(ja,_)::ji S)) ?_
 simp only [cA]
 refine au [2,2,3,4,4] ?_
 refine TK.asSl 6 Z mQ ?_
 refine TK.frzRow (j:=ju) ?_
 refine au [] ?_
 have hS2:S.map (·.2)=setsM (b.measures.length:Int) b.measures.length:=by rw [hS,mZ]
 have hSl:S.length<=32:=by have h1:=xc (b.measures.length:Int) b.measures.length; rw [<- hS2,lJ] at h1; exact mT h1 (xY oQ)
 have hS5:∀ t,t<S.length->(sN S t).2.length<=1000:=fun t ht=>by
  have h1:(sN S t).2∈S.map (·.2):=lY.2 ⟨_,jE ht,rfl⟩
  rw [hS2] at h1
  have:=jG oQ _ _ h1
  omega
 refine au [5,2,3,13] ?_
 refine TK.maskL [1,6,7,8] ?_
 refine TK.dropP (R:=(jb,.cells (zE b s h e) 26 true)::(s,zk b)::(h,zB b)::(e,zq b)::(ja,.row (refsL S) 27 1)::(ji (clP ju b.measures.length)++ji S)) (L:=[(jr,_)]) jav ?_
 refine TK.loopN (fun n env K=>∃ (i:Nat) (o:Option Nat),n=S.length - i/\i<=S.length/\ClsAt b (idxM b.measures.length) (fun k=>(sN S k).2) i o/\env=.any::.ptr jb 0::naL 4 (.sl (clJ ju S o) 0 (clL b.measures.length S o).length::.row ja S.length::intA i::naL 45 [])/\K=(jb,.cells (zE b s h e) 26 true)::(s,zk b)::(h,zB b)::(e,zq b)::(ja,.row (refsL S) 27 1)::(ji (clP ju b.measures.length)++ji S)) S.length ⟨0,none,rfl,mN _,cls_0 _ _ _,by rw [qP,qo] <;> rfl,rfl⟩ fun n env K hI hnext=>?_
 obtain ⟨i,o,rfl,hi,hB,rfl,rfl⟩:=hI
 refine TK.na nQ ?_
 refine au [4,4,5,1,1,28,6,3,20] ?_
 refine ⟨fun hc2=>?_,fun hc2=>?_⟩
 ·have hil:i<S.length:=by simp at hc2; omega
  have hsi:=jaw hS2 hil hbb
  have hi5:=hS5 i hil
  have hi3:(sN S i).2.length<=100:=by
   have h1:(sN S i).2∈S.map (·.2):=lY.2 ⟨_,jE hil,rfl⟩
   rw [hS2] at h1
   have:=jG oQ _ _ h1
   omega
  refine au [12,4,13,4] ?_
  refine TK.draw [0,1,2,3,4,5,6,7,8,9,10,11,12,13,14,15,16] [0,1,2,3,4,5,6,7,8,9,10,11,12,13,14,15,16] (by kernel_rfl) (by kernel_rfl) ?_
  refine TD.z [7] Z (zh Z Z) ?_
  refine TD.z [8] Z (zh Z Z) ?_
  refine TD.y [32,33] Z (hq:=kA Z Z Z zF.h (mC _) oQ oQ) (h:=?_)
  refine TD.y [34] Z (hq:=zm Z Z zi.h (mC _) (xa hil Z)) (h:=?_)
  refine TD.z [6] Z (zh Z Z) ?_
  refine TD.cl (pend':=[⟨2,[32,33],[(_,_)]⟩,⟨1,[8],[]⟩,⟨0,[7],[]⟩]) [35,36] Z Z Z Z Z (qB hT (b:=b) (m:=b.measures.length) hil hB.1 hS5 oQ) (fun r13 K14 h15=>⟨?_,?_⟩)
  ·rcases h15 with ⟨rfl,rfl⟩
   all_goals simp
  obtain ⟨rfl,rfl⟩:=h15
  try simp only [cA]
  refine TD.norm tQ ?_
  refine TD.perm (lH (l₁:=(ji (clP ju b.measures.length)++ji S))) ?_
  simp only [cA]
  refine TD.z [37] Z (zh Z Z) ?_
  refine TD.sp 38 (fun g11_7=>?_) (fun g11_7=>?_)
  ·have hsm:smallerM (sN S i).2 (clL b.measures.length S o)=true:=g11_7
   refine TD.y [1,38] Z (hq:=z8 Z Z zi.h (mC _) Z) (h:=?_)
   refine TD.z [7,38] Z (zh Z Z) ?_
   refine TD.z [8,38] Z (zh Z Z) ?_
   refine TD.y [38,40,41] Z (hq:=kA Z Z Z zF.h (mC _) oQ oQ) (h:=?_)
   refine TD.y [38,42] Z (hq:=zm Z Z zi.h (mC _) (xa hil Z)) (h:=?_)
   refine TD.cl (pend':=[⟨10,[38,40,41],[(_,_)]⟩,⟨9,[8,38],[]⟩,⟨8,[7,38],[]⟩,⟨2,[32,33],[(_,_)]⟩,⟨1,[8],[]⟩,⟨0,[7],[]⟩]) [38,39,43] Z Z Z Z Z (jai hT (P:=clP ju b.measures.length) (S:=S) hil hsi.1 oQ hi3) (fun r16 K17 h18=>⟨?_,?_⟩)
   ·rcases h18 with ⟨je,rfl,rfl⟩
    all_goals simp
   obtain ⟨je,rfl,rfl⟩:=h18
   try simp only [cA]
   refine TD.norm tQ ?_
   refine TD.perm (lH (l₁:=(je,_)::(e,_)::(ji (clP ju b.measures.length)++ji S))) ?_
   simp only [cA]
   refine TD.cl (pend':=[⟨10,[38,40,41],[(_,_)]⟩,⟨9,[8,38],[]⟩,⟨8,[7,38],[]⟩,⟨2,[32,33],[(_,_)]⟩,⟨1,[8],[]⟩,⟨0,[7],[]⟩]) [38,44] Z Z Z Z Z (jT hT hsi.2) (fun r19 K20 h21=>⟨?_,?_⟩)
   ·rcases h21 with ⟨jq,Q2,P2,hQP2,hQ2,rfl,rfl⟩
    all_goals simp
   obtain ⟨jq,Q2,P2,hQP2,hQ2,rfl,rfl⟩:=h21
   try simp only [cA]
   refine TD.norm tQ ?_
   refine TD.perm (lH (l₁:=(jq,_)::(s,_)::(h,_)::(je,_)::ji P2)) ?_
   simp only [cA]
   refine TD.z [38,45] Z (q_len Z Z Z Und.h) ?_
   refine TD.z [38,46] Z (q_cmp Z Z Z Z) ?_
   refine TD.z [38,47] Z (yE Z Z Z) ?_
   refine TD.fin ?_
   refine au [20] ?_
   refine ⟨fun hc3=>?_,fun hc3=>?_⟩
   ·refine TK.dropP (R:=(jb,.cells (zE b s h e) 26 true)::(s,zk b)::(h,zB b)::(e,zq b)::(ja,.row (refsL S) 27 1)::(ji (clP ju b.measures.length)++ji S)) (L:=(jq,_)::(je,_)::ji P2) qJ ?_
    have hbad:badX b (sN S i).2=true:=by unfold badX; rw [<- hQ2,show Q2=[] from lK (by have:=eq_of_beq hc3; omega)]; rfl
    refine au [5,1,1,37] ?_
    refine TK.a Z (zm Z Z zi.h mQ (xa hil Z)) ?_
    refine au [2,3,14,5,1,23,2,3] ?_
    refine TK.maskL [1,6,7,8] ?_
    refine TK.kp (((jb,_)::(s,_)::(h,_)::(e,_)::(ja,_)::(ji (clP ju b.measures.length)++ji S))) ?_
    exact hnext _ _ _ oQ ⟨i+1,some i,rfl,by omega,qQ hB hsm hbad,rfl,rfl⟩
   refine TK.dropP (R:=(jb,.cells (zE b s h e) 26 true)::(s,zk b)::(h,zB b)::(e,zq b)::(ja,.row (refsL S) 27 1)::(ji (clP ju b.measures.length)++ji S)) (L:=(jq,_)::(je,_)::ji P2) qJ ?_
   have hbad:badX b (sN S i).2=false:=by
    cases hh:badX b (sN S i).2 with
    | false=>rfl
    | true =>
     unfold badX at hh
     rw [List.isEmpty_iff,<- hQ2,List.map_eq_nil_iff] at hh
     rw [hh] at hc3
     simp at hc3
   refine au [12,14,5,1,23,2,3] ?_
   refine TK.maskL [1,6,7,8] ?_
   refine TK.kp (((jb,_)::(s,_)::(h,_)::(e,_)::(ja,_)::(ji (clP ju b.measures.length)++ji S))) ?_
   exact hnext _ _ _ oQ ⟨i+1,o,rfl,by omega,xR hB (.inr hbad),rfl,rfl⟩
  have hsm:smallerM (sN S i).2 (clL b.measures.length S o)=false:=by simpa using g11_7
  refine TD.u [1,38] Z ?_
  refine TD.u [7,38] Z ?_
  refine TD.u [8,38] Z ?_
  refine TD.u [38,40,41] Z ?_
  refine TD.u [38,42] Z ?_
  refine TD.u [38,39,43] Z ?_
  refine TD.u [38,44] Z ?_
  refine TD.u [38,45] Z ?_
  refine TD.u [38,46] Z ?_
  refine TD.z [38,47] Z (yf Z Z Z) ?_
  refine TD.fin ?_
  refine au [19,12,14,5,1,23,2,3] ?_
  refine TK.maskL [1,6,7,8] ?_
  refine TK.kp (((jb,_)::(s,_)::(h,_)::(e,_)::(ja,_)::(ji (clP ju b.measures.length)++ji S))) ?_
  exact hnext _ _ _ oQ ⟨i+1,o,rfl,by omega,xR hB (.inl hsm),rfl,rfl⟩
 obtain rfl:i=S.length:=by simp at hc2; omega
 obtain ⟨l,c,hcl,_⟩:=jX hbb hnil
 have hce:clL b.measures.length S o=l:=jaa hnil hS2 hB hcl
 obtain ⟨R0,hR0⟩:=jD (jar (ju:=ju) b.measures.length (mL _) hB.1)
 obtain ⟨jc,hjc⟩:∃ jc,jc=clJ ju S o:=⟨_,rfl⟩
 rw [hce,<- hjc] at hR0
 rw [hce,<- hjc]
 refine TK.dropP (jau hR0.perm) ?_
 refine au [16,4,5,1,2,2,3] ?_
 refine TK.rt hret [(jc,_),(s,_),(h,_),(e,_)] ?_
 exact .inr (.inr ⟨hbar,hnil,l,jc,hcl,rfl,rfl⟩)
theorem jB {main T} (hT:zo tp main T) {gm}  :
  zA tp T gm 44 [.agg z7R,.agg z7R] [] (fun r K'=>r=zP true/\K'=[]):=by
 refine zp 115 hT Tryz.func44 fun Y hret=>?_
 refine au [4,5,21] ?_
 intro jb hjb
 refine au [21] ?_
 intro jc hjc
 refine au [2,3,4,4,5,7,9,7,9,6,1] ?_
 refine TK.sp 13 (fun g1_6=>?_) (fun g1_6=>?_)
 ·exact absurd g1_6 dQ
 refine au [7,9,7,9,6,25,1] ?_
 refine TK.sp 20 (fun g1_13=>?_) (fun g1_13=>?_)
 ·exact absurd g1_13 dQ
 refine au [7,9,7,9,6,25,1] ?_
 refine TK.sp 27 (fun g1_20=>?_) (fun g1_20=>?_)
 ·exact absurd g1_20 dQ
 refine au [7,9,7,9,6,25,1] ?_
 refine TK.sp 34 (fun g1_27=>?_) (fun g1_27=>?_)
 ·exact absurd g1_27 dQ
 refine au [7,9,28,7,9,28,6,25,1] ?_
 refine TK.sp 43 (fun g1_36=>?_) (fun g1_36=>?_)
 ·exact absurd g1_36 dQ
 refine au [7,9,28,7,9,28,6,25,1] ?_
 refine TK.sp 52 (fun g1_45=>?_) (fun g1_45=>?_)
 ·exact absurd g1_45 dQ
 refine au [7,9,28,7,9,28,6,25,3,20] ?_
 refine ⟨fun hc0=>?_,fun hc0=>?_⟩
 ·exact absurd hc0 dQ
 refine au [12,4,4,5,2,3,13] ?_
 refine TK.maskL [2,3,4,5] ?_
 refine TK.kp [(jb,_),(jc,_)] ?_
 refine TK.loopN (fun n env K=>n=0/\env=naL 2 (.ptr jb 0::.ptr jc 0::zP false::intA 0::naL 109 [])/\K=[(jb,.cells z7R 26 true),(jc,.cells z7R 26 true)]) 0 ⟨rfl,rfl,rfl⟩ fun n env K hI hnext=>?_
 obtain ⟨rfl,rfl,rfl⟩:=hI
 refine TK.na nQ ?_
 refine au [4,4,5,1,7,9,28,6,3,20] ?_
 refine ⟨fun hc1=>?_,fun hc1=>?_⟩
 ·exact absurd hc1 dQ
 refine au [16,4,4,5,2,3,13] ?_
 refine TK.maskL [2,3,4,6] ?_
 refine TK.kp [(jb,_),(jc,_)] ?_
 refine TK.loopN (fun n env K=>n=0/\env=naL 2 (.ptr jb 0::.ptr jc 0::zP false::.any::intA 0::naL 108 [])/\K=[(jb,.cells z7R 26 true),(jc,.cells z7R 26 true)]) 0 ⟨rfl,rfl,rfl⟩ fun n env K hI hnext=>?_
 obtain ⟨rfl,rfl,rfl⟩:=hI
 refine TK.na nQ ?_
 refine au [4,4,5,1,7,9,28,6,3,20] ?_
 refine ⟨fun hc3=>?_,fun hc3=>?_⟩
 ·exact absurd hc3 dQ
 refine au [16,4,4,5,2,3,13] ?_
 refine TK.maskL [2,3,4,7] ?_
 refine TK.kp [(jb,_),(jc,_)] ?_
 refine TK.loopN (fun n env K=>n=0/\env=naL 2 (.ptr jb 0::.ptr jc 0::zP false::naL 2 (intA 0::naL 107 []))/\K=[(jb,.cells z7R 26 true),(jc,.cells z7R 26 true)]) 0 ⟨rfl,rfl,rfl⟩ fun n env K hI hnext=>?_
 obtain ⟨rfl,rfl,rfl⟩:=hI
 refine TK.na nQ ?_
 refine au [4,4,5,1,7,9,28,6,3,20] ?_
 refine ⟨fun hc5=>?_,fun hc5=>?_⟩
 ·exact absurd hc5 dQ
 refine au [16,4,5,2,3] ?_
 refine TK.rt hret [] ?_
 exact ⟨rfl,rfl⟩
theorem or3P {x:Int} {A B C P Q:Prop} (h:(x≠0/\A)\/(x=0/\P/\B)\/(x=0/\Q/\C)) (hx:x=0) (hp:P) (hn:P->Q->False):B:=by
 rcases h with ⟨h,_⟩ | ⟨_,_,h⟩ | ⟨_,h,_⟩
 ·exact absurd hx h
 ·exact h
 ·exact (hn hp h).elim
theorem or3Q {x:Int} {A B C P Q:Prop} (h:(x≠0/\A)\/(x=0/\P/\B)\/(x=0/\Q/\C)) (hx:x=0) (hq:Q) (hn:P->Q->False):C:=by
 rcases h with ⟨h,_⟩ | ⟨_,h,_⟩ | ⟨_,_,h⟩
 ·exact absurd hx h
 ·exact (hn h hq).elim
 ·exact h
theorem clE3 {b:RBk} {P:List Int->Nat->Prop} {A B:Prop} {l:List Int} (h:(zr b≠0/\A)\/(zr b=0/\zf b≠[]/\B)\/(zr b=0/\zf b=[]/\∃ l jc,clashM b=some l/\P l jc)) (hbar:zr b=0) (hnil:zf b=[]) (hcl:clashM b=some l):∃ jc,P l jc:=by
 obtain ⟨l2,jc,h1,h2⟩:=or3Q h hbar hnil (fun a c=>a c)
 rw [hcl] at h1
 cases h1
 exact ⟨jc,h2⟩
theorem tf {x:Bool} (h:x=false) (h2:x=true):False:=by rw [h] at h2; cases h2
theorem or4a {x:Int} {A B:Prop} {i:Bool} {u v:Int} {C D:Prop} (h:(x≠0/\A)\/(x=0/\i=false/\B)\/(x=0/\i=true/\u<v/\C)\/(x=0/\i=true/\v<=u/\D)):(x≠0->A)/\(x=0->i=false->B)/\(x=0->i=true->u<v->C)/\(x=0->i=true->v<=u->D):=by
 rcases h with ⟨h,h1⟩ | ⟨h,h1,h2⟩ | ⟨h,h1,h2,h3⟩ | ⟨h,h1,h2,h3⟩
 ·exact ⟨fun _=>h1,fun e=>absurd e h,fun e=>absurd e h,fun e=>absurd e h⟩
 ·exact ⟨fun e=>absurd h e,fun _ _=>h2,fun _ e=>(tf h1 e).elim,fun _ e=>(tf h1 e).elim⟩
 ·exact ⟨fun e=>absurd h e,fun _ e=>(tf e h1).elim,fun _ _ _=>h3,fun _ _ e=>absurd h2 oQ⟩
 ·exact ⟨fun e=>absurd h e,fun _ e=>(tf e h1).elim,fun _ _ e=>absurd h2 oQ,fun _ _ _=>h3⟩
instance:Cal tp 39:={}
instance:Cal tp 41:={}
instance:Cal tp 43:={}
instance:Cal tp 46:={}
instance:Cal tp 48:={}
theorem qe {b:RBk} {s h e:Nat} {m:RMeas} {n r0:Int} {bx:RBand}:Top tp gmR 5 [.agg (zE b s h e),.agg (measC m),intA n,.agg (bandC bx),intA r0] [(0,zy),(s,zk b),(h,zB b),(e,zq b)] (fun r _=>r=zP true):=by
 refine topI 135 Tryz.func5 fun R Y hret=>?_
 have hT:=kH (P:=tp) (AtRet tp 5 R)
 refine au [4,5,21] ?_
 intro jb hjb
 refine au [21] ?_
 intro jm hjm
 refine au [21] ?_
 intro jx hjx
 refine au [2,3,4,4,5,8] ?_
 refine TK.cl Z Z Z Z (zfZ hT) ?_
 rintro r1 K2 ⟨rfl,rfl⟩
 refine au [3,20] ?_
 refine ⟨fun hc0=>?_,fun hc0=>?_⟩
 ·refine au [4,5] ?_
  refine TK.cl Z Z Z Z (zi5) ?_
  rintro r4 K5 ⟨rfl,rfl⟩
  refine au [2,3] ?_
  refine TK.rt hret [] ?_
  rfl
 have hg:greatM b=false:=by simpa using hc0
 have hlm:b.seams.length<=100/\b.measures.length<=100:=by unfold greatM at hg; simp at hg; omega
 obtain ⟨hl,hm⟩:=hlm
 refine au [12,4,5,8] ?_
 refine' TK.share (X:=Unit) (D:=fun x=>True) (E:=fun x=>naL 2 (intA n::.any::intA r0::.ptr jb 0::.ptr jm 0::.any::.ptr jx 0::naL 126 [])) (KK:=fun x=>[(0,zy),(s,zk b),(h,zB b),(e,zq b),(jb,.cells (zE b s h e) 26 true),(jm,.cells (measC m) 49 true),(jx,.cells (bandC bx) 51 true)]) ?_ ?_
 rotate_left
 ·intro H
  refine TK.cl Z Z Z Z (zfJ hT hl hm) ?_
  rintro r7 K8 h9
  rcases h9 with ⟨hbar,rfl,rfl⟩ | ⟨hbar,hne,rfl,rfl⟩ | ⟨hbar,hnil,hcn,rfl,rfl⟩ | ⟨hbar,hnil,l,j0,e0,hcl,rfl,rfl⟩
  ·refine au [1,10,10,2,2,3,4,5,8] ?_
   refine TK.cl Z Z Z Z ((jW hT hl hm).mono (fun _ _ h=>or3l h hbar)) ?_
   rintro r10 K11 ⟨rfl,rfl⟩
   refine au [1,10,10,2,2,3,4,4,5,1,1] ?_
   refine TK.cl Z Z Z Z (xb hT) ?_
   rintro r13 K14 ⟨rfl,rfl⟩
   refine au [] ?_
   skip
   refine au [30,1,1,1,6,25,3,20] ?_
   refine ⟨fun hc1=>?_,fun hc1=>?_⟩
   ·first | exact absurd hc1 dQ | simp at hc1
   refine au [12,4] ?_
   refine TK.maskL [2,4,5,6,8] ?_
   refine TK.kp [(0,_),(s,_),(h,_),(e,_),(jb,_),(jm,_),(jx,_)] ?_
   exact H () trivial
  ·refine au [1,10,10,2,2,3,4,5,8] ?_
   refine TK.cl Z Z Z Z ((jW hT hl hm).mono (fun _ _ h=>or3P h hbar hne (fun a c=>a c))) ?_
   rintro r2737 K2738 ⟨rfl,rfl⟩
   refine au [1,10,10,2,2,3,4,4,5,1,1] ?_
   refine TK.cl Z Z Z Z (xb hT) ?_
   rintro r2740 K2741 ⟨rfl,rfl⟩
   refine au [] ?_
   skip
   refine au [30,1,1,1,6,25,3,20] ?_
   refine ⟨fun hc1=>?_,fun hc1=>?_⟩
   ·first | exact absurd hc1 dQ | simp at hc1
   refine au [12,4] ?_
   refine TK.maskL [2,4,5,6,8] ?_
   refine TK.kp [(0,_),(s,_),(h,_),(e,_),(jb,_),(jm,_),(jx,_)] ?_
   exact H () trivial
  ·refine au [] ?_
   obtain ⟨l,cc,hcl,_⟩:=jX (zZ hbar) hnil; rw [hcn] at hcl; cases hcl
  ·refine au [] ?_
   have hll:l.length<=1000:=by
    obtain ⟨l2,cc,h1,h2,h3,_⟩:=jX (zZ hbar) hnil
    rw [hcl] at h1
    cases h1
    rw [h3]
    have:=wC cc b.measures.length
    omega
   refine au [1,10,10,2,2,3,4,5,8] ?_
   refine TK.cl Z Z Z Z ((jW hT hl hm).mono (fun _ _ h=>clE3 h hbar hnil hcl)) ?_
   rintro r5464 K5465 ⟨jc,rfl,rfl⟩
   refine au [1,10,10,2,2,3,4,4,5,1,1] ?_
   refine TK.cl Z Z Z Z (x9 hT hll) ?_
   rintro r5467 K5468 ⟨rfl,rfl⟩
   refine au [] ?_
   try rw [decide_eq_true (rfl:l=l)]
   refine au [30,1,1,1,6,25,3,20] ?_
   refine ⟨fun hc1=>?_,fun hc1=>?_⟩
   ·first | exact absurd hc1 dQ | simp at hc1
   refine au [12,4] ?_
   refine TK.maskL [2,4,5,6,8] ?_
   refine TK.kp [(0,_),(s,_),(h,_),(e,_),(jb,_),(jm,_),(jx,_)] ?_
   exact H () trivial
 ·rintro _ _
  refine TK.na nQ ?_
  refine au [5,8] ?_
  refine' TK.share (X:=Unit) (D:=fun x=>True) (E:=fun x=>naL 2 (intA n::.any::intA r0::.ptr jb 0::.ptr jm 0::.any::.ptr jx 0::naL 126 [])) (KK:=fun x=>[(0,zy),(s,zk b),(h,zB b),(e,zq b),(jb,.cells (zE b s h e) 26 true),(jm,.cells (measC m) 49 true),(jx,.cells (bandC bx) 51 true)]) ?_ ?_
  rotate_left
  ·intro H
   refine TK.cl Z Z Z Z (zhJ hT hl hm) ?_
   rintro r5470 K5471 h5472
   rcases h5472 with ⟨hbar,rfl,rfl⟩ | ⟨hbar,hnil,rfl,rfl⟩ | ⟨hbar,hne,rfl,rfl⟩
   ·refine au [1,10,10,10,2,2,2,3,4,5,8] ?_
    refine TK.cl Z Z Z Z ((xB hT hl hm).mono (fun _ _ h=>or3l h hbar)) ?_
    rintro r5473 K5474 ⟨rfl,rfl⟩
    refine au [1,10,10,10,2,2,2,3,4,4,5,1,1,6,1,1,1,6,25,1,1,1,6,25,3,20] ?_
    refine ⟨fun hc2=>?_,fun hc2=>?_⟩
    ·first | exact absurd hc2 dQ | simp at hc2
    refine au [12,4] ?_
    refine TK.maskL [2,4,5,6,8] ?_
    refine TK.kp [(0,_),(s,_),(h,_),(e,_),(jb,_),(jm,_),(jx,_)] ?_
    exact H () trivial
   ·refine au [1,10,10,10,2,2,2,3,4,5,8] ?_
    refine TK.cl Z Z Z Z ((xB hT hl hm).mono (fun _ _ h=>or3P h hbar hnil (fun a c=>c a))) ?_
    rintro r6379 K6380 ⟨rfl,rfl⟩
    refine au [1,10,10,10,2,2,2,3,4,4,5,1,1,6,1,1,1,6,25,1,1,1,6,25,3,20] ?_
    refine ⟨fun hc2=>?_,fun hc2=>?_⟩
    ·first | exact absurd hc2 dQ | simp at hc2
    refine au [12,4] ?_
    refine TK.maskL [2,4,5,6,8] ?_
    refine TK.kp [(0,_),(s,_),(h,_),(e,_),(jb,_),(jm,_),(jx,_)] ?_
    exact H () trivial
   ·refine au [1,10,10,10,2,2,2,3,4,5,8] ?_
    refine TK.cl Z Z Z Z ((xB hT hl hm).mono (fun _ _ h=>or3Q h hbar hne (fun a c=>c a))) ?_
    rintro r7285 K7286 ⟨rfl,rfl⟩
    refine au [1,10,10,10,2,2,2,3,4,4,5,1,1,6,1] ?_
    refine TK.sp 58 (fun g9_4=>?_) (fun g9_4=>?_)
    ·simp at g9_4
    refine au [1,1,6,25,1] ?_
    refine TK.sp 63 (fun g9_9=>?_) (fun g9_9=>?_)
    ·simp at g9_9
    refine au [1,1,6,25,3,20] ?_
    refine ⟨fun hc2=>?_,fun hc2=>?_⟩
    ·first | exact absurd hc2 dQ | simp at hc2
    refine au [12,4] ?_
    refine TK.maskL [2,4,5,6,8] ?_
    refine TK.kp [(0,_),(s,_),(h,_),(e,_),(jb,_),(jm,_),(jx,_)] ?_
    exact H () trivial
  ·rintro _ _
   refine TK.na nQ ?_
   refine au [5,8,8] ?_
   refine' TK.share (X:=Nat×Nat×(Nat->AV)) (D:=fun y=>True) (E:=fun y=>naL 2 (intA n::.any::intA r0::.ptr jb 0::naL 2 (.ptr jx 0::naL 10 (.ptr y.1 0::.ptr y.2.1 0::naL 114 [])))) (KK:=fun y=>[(0,zy),(s,zk b),(h,zB b),(e,zq b),(jb,.cells (zE b s h e) 26 true),(jx,.cells (bandC bx) 51 true),(y.1,.cells [y.2.2 0,y.2.2 1,y.2.2 2,y.2.2 3,y.2.2 4,y.2.2 5,y.2.2 6] 26 true),(y.2.1,.cells [y.2.2 7,y.2.2 8,y.2.2 9,y.2.2 10,y.2.2 11,y.2.2 12,y.2.2 13] 26 true)]) ?_ ?_
   rotate_left
   ·intro H
    refine TK.cl Z Z Z Z (zel hT hl hm (m:=m)) ?_
    rintro r7288 K7289 h7290
    rcases h7290 with ⟨hbar,rfl,rfl⟩ | ⟨hbar,⟨hb2,rfl,rfl⟩ | ⟨hb2,hn2,rfl,rfl⟩ | ⟨hb2,hn2,s2,h2,e2,rfl,rfl⟩⟩
    ·refine au [1,10,10,22] ?_
     intro jo hjo
     refine au [17,2,3,4,5,8,8] ?_
     refine TK.cl Z Z Z Z ((jF hT hl hm).mono (fun _ _ h=>or2l h hbar)) ?_
     rintro r7291 K7292 ⟨rfl,rfl⟩
     refine au [1,10,10,22] ?_
     intro jq hjq
     refine au [17,2,3,4,4,5,8,8] ?_
     refine TK.cl Z Z Z Z (jB hT) ?_
     rintro r7294 K7295 ⟨rfl,rfl⟩
     refine au [30,1,1,1,6,25,3,20] ?_
     refine ⟨fun hc3=>?_,fun hc3=>?_⟩
     ·first | exact absurd hc3 dQ | simp at hc3
     refine au [12,4] ?_
     refine TK.maskL [2,4,5,8,19,20] ?_
     refine TK.kp [(0,_),(s,_),(h,_),(e,_),(jb,_),(jx,_),(jo,_),(jq,_)] ?_
     exact H (jo,jq,fun i=>(z7R++z7R).getD i .any) trivial
    ·refine au [1,10,10,22] ?_
     intro jo hjo
     refine au [17,2,3,4,5,8,8] ?_
     refine TK.cl Z Z Z Z ((jF hT hl hm).mono (fun _ _ h=>(or2r h hbar).imp fun _ h=>or3l h hb2)) ?_
     rintro r7516 K7517 ⟨je,rfl,rfl⟩
     refine au [1,10,10,22] ?_
     intro jq hjq
     refine au [17,2,3,4,4,5,8,8] ?_
     refine TK.cl Z Z Z Z (jB hT) ?_
     rintro r7519 K7520 ⟨rfl,rfl⟩
     refine au [30,1,1,1,6,25,3,20] ?_
     refine ⟨fun hc3=>?_,fun hc3=>?_⟩
     ·first | exact absurd hc3 dQ | simp at hc3
     refine au [12,4] ?_
     refine TK.maskL [2,4,5,8,19,20] ?_
     refine TK.kp [(0,_),(s,_),(h,_),(e,_),(jb,_),(jx,_),(jo,_),(jq,_)] ?_
     exact H (jo,jq,fun i=>(z7R++z7R).getD i .any) trivial
    ·refine au [1,10,10,22] ?_
     intro jo hjo
     refine au [17,2,3,4,5,8,8] ?_
     refine TK.cl Z Z Z Z ((jF hT hl hm).mono (fun _ _ h=>(or2r h hbar).imp fun _ h=>or3P h hb2 hn2 (fun a c=>c a))) ?_
     rintro r7741 K7742 ⟨je,rfl,rfl⟩
     refine au [1,10,10,22] ?_
     intro jq hjq
     refine au [17,2,3,4,4,5,8,8] ?_
     refine TK.cl Z Z Z Z (jB hT) ?_
     rintro r7744 K7745 ⟨rfl,rfl⟩
     refine au [30,1,1,1,6,25,3,20] ?_
     refine ⟨fun hc3=>?_,fun hc3=>?_⟩
     ·first | exact absurd hc3 dQ | simp at hc3
     refine au [12,4] ?_
     refine TK.maskL [2,4,5,8,19,20] ?_
     refine TK.kp [(0,_),(s,_),(h,_),(e,_),(jb,_),(jx,_),(jo,_),(jq,_)] ?_
     exact H (jo,jq,fun i=>(z7R++z7R).getD i .any) trivial
    ·refine au [1,10,10,22] ?_
     intro jo hjo
     refine au [17,2,3,4,5,8,8] ?_
     refine TK.cl Z Z Z Z ((jF hT hl hm).mono (fun _ _ h=>(or2r h hbar).imp fun _ h=>or3Q h hb2 hn2 (fun a c=>c a))) ?_
     rintro r7966 K7967 ⟨je,rfl,rfl⟩
     refine au [1,10,10,22] ?_
     intro jq hjq
     refine au [17,2,3,4,4,5,8,8] ?_
     refine TK.cl Z Z Z Z (xE hT (b:=yd b m) (by have:=(zZ hb2).sms.len; omega) (by have h1:=(zZ hb2).sms.len; have h2:=(zZ hb2).cls.len; omega) (by have:=(zZ hb2).mes.len; omega)) ?_
     rintro r7969 K7970 ⟨rfl,rfl⟩
     refine au [30,1,1,1,6,25,3,20] ?_
     refine ⟨fun hc3=>?_,fun hc3=>?_⟩
     ·first | exact absurd hc3 dQ | simp at hc3
     refine au [12,4] ?_
     refine TK.maskL [2,4,5,8,19,20] ?_
     refine TK.kp [(0,_),(s,_),(h,_),(e,_),(jb,_),(jx,_),(jo,_),(jq,_)] ?_
     exact H (jo,jq,fun i=>(zE (yd b m) s2 h2 e2++zE (yd b m) s h je).getD i .any) trivial
   ·rintro ⟨jo,jq,z⟩ _; dsimp only
    refine TK.na nQ ?_
    refine au [5,8,1,8] ?_
    refine' TK.share (X:=Nat×Nat×(Nat->AV)) (D:=fun y=>True) (E:=fun y=>naL 2 (intA n::.any::intA r0::.ptr jb 0::naL 2 (.ptr jx 0::naL 10 (.ptr y.1 0::.ptr y.2.1 0::naL 114 [])))) (KK:=fun y=>[(0,zy),(s,zk b),(h,zB b),(e,zq b),(jb,.cells (zE b s h e) 26 true),(jx,.cells (bandC bx) 51 true),(y.1,.cells [y.2.2 0,y.2.2 1,y.2.2 2,y.2.2 3,y.2.2 4,y.2.2 5,y.2.2 6] 26 true),(y.2.1,.cells [y.2.2 7,y.2.2 8,y.2.2 9,y.2.2 10,y.2.2 11,y.2.2 12,y.2.2 13] 26 true)]) ?_ ?_
    rotate_left
    ·intro H
     refine TK.cl Z Z Z Z (zeL hT hl hm) ?_
     rintro r7972 K7973 h7974
     rcases h7974 with ⟨hbar,rfl,rfl⟩ | ⟨hbar,hi1,rfl,rfl⟩ | ⟨hbar,hi1,hlt,rfl,rfl⟩ | ⟨hbar,hi1,hge,⟨hb2,rfl,rfl⟩ | ⟨hb2,hn2,rfl,rfl⟩ | ⟨hb2,hn2,s2,h2,e2,rfl,rfl⟩⟩
     ·refine au [1,10,10,17,2,3,4,5,8,1,8] ?_
      refine TK.cl Z Z Z Z ((jH hT hl hm).mono (fun _ _ h=>(or4a h).1 hbar)) ?_
      rintro r7975 K7976 ⟨rfl,rfl⟩
      refine au [1,10,10,17,2,3,4,4,5,8,8] ?_
      refine TK.cl Z Z Z Z (jB hT) ?_
      rintro r7978 K7979 ⟨rfl,rfl⟩
      refine au [30,1,1,1,6,25,3,20] ?_
      refine ⟨fun hc4=>?_,fun hc4=>?_⟩
      ·first | exact absurd hc4 dQ | simp at hc4
      refine au [12,4] ?_
      refine TK.maskL [2,4,5,8,19,20] ?_
      refine TK.kp [(0,_),(s,_),(h,_),(e,_),(jb,_),(jx,_),(jo,_),(jq,_)] ?_
      exact H (jo,jq,fun i=>(z7R++z7R).getD i .any) trivial
     ·refine au [1,10,10,17,2,3,4,5,8,1,8] ?_
      refine TK.cl Z Z Z Z ((jH hT hl hm).mono (fun _ _ h=>(or4a h).2.1 hbar hi1)) ?_
      rintro r8011 K8012 ⟨rfl,rfl⟩
      refine au [1,10,10,17,2,3,4,4,5,8,8] ?_
      refine TK.cl Z Z Z Z (jB hT) ?_
      rintro r8014 K8015 ⟨rfl,rfl⟩
      refine au [30,1,1,1,6,25,3,20] ?_
      refine ⟨fun hc4=>?_,fun hc4=>?_⟩
      ·first | exact absurd hc4 dQ | simp at hc4
      refine au [12,4] ?_
      refine TK.maskL [2,4,5,8,19,20] ?_
      refine TK.kp [(0,_),(s,_),(h,_),(e,_),(jb,_),(jx,_),(jo,_),(jq,_)] ?_
      exact H (jo,jq,fun i=>(z7R++z7R).getD i .any) trivial
     ·refine au [1,10,10,17,2,3,4,5,8,1,8] ?_
      refine TK.cl Z Z Z Z ((jH hT hl hm).mono (fun _ _ h=>(or4a h).2.2.1 hbar hi1 hlt)) ?_
      rintro r8047 K8048 ⟨rfl,rfl⟩
      refine au [1,10,10,17,2,3,4,4,5,8,8] ?_
      refine TK.cl Z Z Z Z (jB hT) ?_
      rintro r8050 K8051 ⟨rfl,rfl⟩
      refine au [30,1,1,1,6,25,3,20] ?_
      refine ⟨fun hc4=>?_,fun hc4=>?_⟩
      ·first | exact absurd hc4 dQ | simp at hc4
      refine au [12,4] ?_
      refine TK.maskL [2,4,5,8,19,20] ?_
      refine TK.kp [(0,_),(s,_),(h,_),(e,_),(jb,_),(jx,_),(jo,_),(jq,_)] ?_
      exact H (jo,jq,fun i=>(z7R++z7R).getD i .any) trivial
     ·refine au [1,10,10,17,2,3,4,5,8,1,8] ?_
      refine TK.cl Z Z Z Z ((jH hT hl hm).mono (fun _ _ h=>((or4a h).2.2.2 hbar hi1 hge).imp fun _ h=>or3l h hb2)) ?_
      rintro r8083 K8084 ⟨h3,rfl,rfl⟩
      refine au [1,10,10,17,2,3,4,4,5,8,8] ?_
      refine TK.cl Z Z Z Z (jB hT) ?_
      rintro r8086 K8087 ⟨rfl,rfl⟩
      refine au [30,1,1,1,6,25,3,20] ?_
      refine ⟨fun hc4=>?_,fun hc4=>?_⟩
      ·first | exact absurd hc4 dQ | simp at hc4
      refine au [12,4] ?_
      refine TK.maskL [2,4,5,8,19,20] ?_
      refine TK.kp [(0,_),(s,_),(h,_),(e,_),(jb,_),(jx,_),(jo,_),(jq,_)] ?_
      exact H (jo,jq,fun i=>(z7R++z7R).getD i .any) trivial
     ·refine au [1,10,10,17,2,3,4,5,8,1,8] ?_
      refine TK.cl Z Z Z Z ((jH hT hl hm).mono (fun _ _ h=>((or4a h).2.2.2 hbar hi1 hge).imp fun _ h=>or3P h hb2 hn2 (fun a c=>c a))) ?_
      rintro r8119 K8120 ⟨h3,rfl,rfl⟩
      refine au [1,10,10,17,2,3,4,4,5,8,8] ?_
      refine TK.cl Z Z Z Z (jB hT) ?_
      rintro r8122 K8123 ⟨rfl,rfl⟩
      refine au [30,1,1,1,6,25,3,20] ?_
      refine ⟨fun hc4=>?_,fun hc4=>?_⟩
      ·first | exact absurd hc4 dQ | simp at hc4
      refine au [12,4] ?_
      refine TK.maskL [2,4,5,8,19,20] ?_
      refine TK.kp [(0,_),(s,_),(h,_),(e,_),(jb,_),(jx,_),(jo,_),(jq,_)] ?_
      exact H (jo,jq,fun i=>(z7R++z7R).getD i .any) trivial
     ·refine au [1,10,10,17,2,3,4,5,8,1,8] ?_
      refine TK.cl Z Z Z Z ((jH hT hl hm).mono (fun _ _ h=>((or4a h).2.2.2 hbar hi1 hge).imp fun _ h=>or3Q h hb2 hn2 (fun a c=>c a))) ?_
      rintro r8155 K8156 ⟨h3,rfl,rfl⟩
      refine au [1,10,10,17,2,3,4,4,5,8,8] ?_
      refine TK.cl Z Z Z Z (xE hT (b:=driedB b n.toNat (dryX b n bx)) (by have:=(zZ hb2).sms.len; omega) (by have h1:=(zZ hb2).sms.len; have h2:=(zZ hb2).cls.len; omega) (by have:=(zZ hb2).mes.len; omega)) ?_
      rintro r8158 K8159 ⟨rfl,rfl⟩
      refine au [30,1,1,1,6,25,3,20] ?_
      refine ⟨fun hc4=>?_,fun hc4=>?_⟩
      ·first | exact absurd hc4 dQ | simp at hc4
      refine au [12,4] ?_
      refine TK.maskL [2,4,5,8,19,20] ?_
      refine TK.kp [(0,_),(s,_),(h,_),(e,_),(jb,_),(jx,_),(jo,_),(jq,_)] ?_
      exact H (jo,jq,fun i=>(zE (driedB b n.toNat (dryX b n bx)) s2 h2 e2++zE (driedB b n.toNat (dryX b n bx)) s h3 e).getD i .any) trivial
    ·rintro ⟨jo,jq,z⟩ _; dsimp only
     refine TK.na nQ ?_
     refine au [5,8,1] ?_
     refine TK.cl Z Z Z Z (zg6 hT hl hm) ?_
     rintro r8161 K8162 h8163
     rcases h8163 with ⟨hbar,rfl,rfl⟩ | ⟨hbar,hi1,rfl,rfl⟩ | ⟨hbar,hi1,s2,h2,e2,rfl,rfl⟩
     ·refine au [1,10,10,17,2,3,4,5,8,1] ?_
      refine TK.cl Z Z Z Z ((xl hT hl hm).mono (fun _ _ h=>or3l h hbar)) ?_
      rintro r8164 K8165 ⟨rfl,rfl⟩
      refine au [1,10,10,17,2,3,4,5,8,8] ?_
      refine TK.cl Z Z Z Z (jB hT) ?_
      rintro r8167 K8168 ⟨rfl,rfl⟩
      refine au [1,1,1,6,26,1] ?_
      refine TK.sp 132 (fun g21_9=>?_) (fun g21_9=>?_)
      ·refine TK.cl Z Z Z Z (zi5) ?_
       rintro r8170 K8171 ⟨rfl,rfl⟩
       refine au [26,2,3] ?_
       refine TK.rt hret [] ?_
       rfl
      simp at g21_9
     ·refine au [1,10,10,17,2,3,4,5,8,1] ?_
      refine TK.cl Z Z Z Z ((xl hT hl hm).mono (fun _ _ h=>or3P h hbar hi1 tf)) ?_
      rintro r8173 K8174 ⟨rfl,rfl⟩
      refine au [1,10,10,17,2,3,4,5,8,8] ?_
      refine TK.cl Z Z Z Z (jB hT) ?_
      rintro r8176 K8177 ⟨rfl,rfl⟩
      refine au [1,1,1,6,26,1] ?_
      refine TK.cl Z Z Z Z (zi5) ?_
      rintro r8179 K8180 ⟨rfl,rfl⟩
      refine au [26,2,3] ?_
      refine TK.rt hret [] ?_
      rfl
     ·refine au [1,10,10,17,2,3,4,5,8,1] ?_
      refine TK.cl Z Z Z Z ((xl hT hl hm).mono (fun _ _ h=>or3Q h hbar hi1 tf)) ?_
      rintro r8182 K8183 ⟨rfl,rfl⟩
      refine au [1,10,10,17,2,3,4,5,8,8] ?_
      refine TK.cl Z Z Z Z (xE hT (b:=atRound b r0) hl (by have h1:=(zZ hbar).sms.len; have h2:=(zZ hbar).cls.len; show b.shrinks.length<=100; omega) hm) ?_
      rintro r8185 K8186 ⟨rfl,rfl⟩
      refine au [1,1,1,6,26,1] ?_
      refine TK.cl Z Z Z Z (zi5) ?_
      rintro r8188 K8189 ⟨rfl,rfl⟩
      refine au [26,2,3] ?_
      refine TK.rt hret [] ?_
      rfl
end Go.Vel
end
