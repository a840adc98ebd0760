/- Texts for the statements of chapter 8: what all of them need, part 10. It holds of every program, tape and world that the statements name, as each theorem says. -/
import Derived.Test.YtamcohjpanjdiaaGreatDoorRows
import Derived.Test.YtamcohjpanjdiaaGreatDoorCards
import Derived.Test.YtamcohjpanjdiaaGreatDoorTie
import Derived.ProofKit
import Derived.LaidMore
import Derived.LaidHandle
import Derived.LaidOnce
import Derived.OpenShut
import Derived.Stop.Joined
import Derived.Conc.LeavingOf
import Derived.Conc.HoldsTime
import Derived.Carry
import Derived.LaidLaws
import Derived.SevenTiedAt
import Derived.Test.YtamcohjpanjdiaaGreatDoorW3
import Derived.Test.YtamcohjpanjdiaaGreatDoorW6
import Derived.Test.YtamcohjpanjdiaaGreatDoorW8
section
set_option linter.all false
set_option maxRecDepth 20000
set_option maxHeartbeats 60000000
namespace Go.Vel
open Go Go.Conc Go.Proofs
def badM (b:RBk) (k:Nat):Bool:=(statesM (onlyB b k)).isEmpty
def clashL (b:RBk):Nat→Option (List Int)
 | 0=>none
 | k+1=>if badM b k=true then (match clashL b k with
  | none=>some (bitsM k b.measures.length)
  | some l=>if smallerM (bitsM k b.measures.length) l=true then some (bitsM k b.measures.length) else some l) else clashL b k
def clashM (b:RBk):Option (List Int):=clashL b (2 ^ b.measures.length)
def BestL (jo:Nat):Option (List Int)→KV→Prop
 | none,K=>K=[(jo,.cells [.v (.slice none 0 0),boolA false] 155 true)]
 | some l,K=>∃ j0 e0,K=[(jo,.cells [.sl j0 0 l.length,boolA true] 155 true),(j0,.cells (l.map intA) e0 false)]
theorem shl_ok {m:Nat} (hm:m≤3):IntKind.i64.wrap (1*2 ^ ((m:Nat):Int).toNat)=((2 ^ m:Nat):Int):=by
 have:m=0∨m=1∨m=2∨m=3:=by omega
 rcases this with rfl | rfl | rfl | rfl <;> decide
instance:Cal Tryz.prog 115:=⟨by kernel_rfl⟩
instance:Cal Tryz.prog 116:=⟨by kernel_rfl⟩
instance:Cal Tryz.prog 117:=⟨by kernel_rfl⟩
instance:FldOf Tryz.prog 155 0 0 false 1:=⟨by kernel_rfl⟩
instance:FldOf Tryz.prog 155 1 1 false 1:=⟨by kernel_rfl⟩
instance:TyZA Tryz.prog 155 [.v (.slice none 0 0),.v (.bool false)]:=⟨by kernel_rfl⟩
theorem offerL0_ok {main:Bool} {T:Goroutine→Hp→Prop} (hT:Shut Tryz.prog main T) {gm:Nat→Option Nat} {jo jl:Nat} {xs:List Int} {e1:TypeId} :
  CallK Tryz.prog T gm 117 [.ptr jo 0,.sl jl 0 xs.length,.fn 118 [] []] [(jo,.cells [.v (.slice none 0 0),boolA false] 155 true),(jl,.cells (xs.map intA) e1 false)] (fun r K'=>K'=[(jo,.cells [.sl jl 0 xs.length,boolA true] 155 true),(jl,.cells (xs.map intA) e1 false)]):=by
 refine callK_in 27 hT Tryz.func117 fun Y hret=>?_
 refine au [4,5,1] ?_
 refine TK.a rfl (q_nilP rfl rfl) ?_
 refine au [7,9,30,1] ?_
 refine TK.sp 11 (fun g0_6=>?_) (fun g0_6=>?_)
 ·refine au [11,11,11,11,11,11,11,26,3,18,5,1,1,1] ?_
  refine TK.a rfl (q_nilP rfl rfl) ?_
  refine au [7,17] ?_
  refine TK.a rfl (q_nilP rfl rfl) ?_
  refine au [7,17,3] ?_
  refine TK.rt0 hret [(jo,_),(jl,_)] ?_
  exact rfl
 simp at g0_6
theorem offerL1_ok {main:Bool} {T:Goroutine→Hp→Prop} (hT:Shut Tryz.prog main T) {gm:Nat→Option Nat} {jo jl j0:Nat} {xs ys:List Int} {e1 e2:TypeId} (hl:xs.length≤1000) :
  CallK Tryz.prog T gm 117 [.ptr jo 0,.sl jl 0 xs.length,.fn 118 [] []] [(jo,.cells [.sl j0 0 ys.length,boolA true] 155 true),(j0,.cells (ys.map intA) e2 false),(jl,.cells (xs.map intA) e1 false)] (fun r K'=>(smallerM xs ys=true∧K'=[(jo,.cells [.sl jl 0 xs.length,boolA true] 155 true),(jl,.cells (xs.map intA) e1 false)])∨(smallerM xs ys=false∧K'=[(jo,.cells [.sl j0 0 ys.length,boolA true] 155 true),(j0,.cells (ys.map intA) e2 false)])):=by
 refine callK_in 27 hT Tryz.func117 fun Y hret=>?_
 refine au [4,5,1] ?_
 refine TK.a rfl (q_nilP rfl rfl) ?_
 refine au [7,9,30,1] ?_
 refine TK.sp 11 (fun g0_6=>?_) (fun g0_6=>?_)
 ·simp at g0_6
 refine au [1,1,1] ?_
 refine TK.a rfl (q_nilP rfl rfl) ?_
 refine au [7,9] ?_
 refine TK.callF' rfl rfl rfl rfl rfl (callFK_fn Cal.h (smaller_ok hT hl)) (by repeat (first | exact Split.none _ | exact Split.all _ | (apply Split.rem; repeat (first | exact Rem.head | apply Rem.tail)) | apply Split.right)) fun r1 K2 h3=>?_
 obtain ⟨rfl,rfl⟩:=h3
 refine au [25,3,20] ?_
 refine ⟨fun hc0=>?_,fun hc0=>?_⟩
 ·refine au [5,1,1,1] ?_
  refine TK.a rfl (q_nilP rfl rfl) ?_
  refine au [7,17] ?_
  refine TK.a rfl (q_nilP rfl rfl) ?_
  refine au [7,17,3] ?_
  refine TK.rt0 hret [(jo,_),(jl,_)] ?_
  exact .inl ⟨hc0,rfl⟩
 refine au [12] ?_
 refine TK.rt0 hret [(jo,_),(j0,_)] ?_
 exact .inr ⟨hc0,rfl⟩
theorem clash_ok {main:Bool} {T:Goroutine→Hp→Prop} (hT:Shut Tryz.prog main T)  {b:RBk} {s h e:Nat} (hl:b.seams.length≤100) (hm:b.measures.length≤100) :
  CallK Tryz.prog T gmR 38 [.agg (rollC b s h e)] [(0,checksG),(s,seamO b),(h,shrO b),(e,measO b)] (fun r K'=>(checkM b≠0∧r=.tup [.v (.slice none 0 0),intA (checkM b)]∧K'=[(0,checksG),(s,seamO b),(h,shrO b),(e,measO b)])∨(checkM b=0∧statesM b≠[]∧r=.tup [.v (.slice none 0 0),intA 0]∧K'=[(0,checksG),(s,seamO b),(h,shrO b),(e,measO b)])∨(checkM b=0∧statesM b=[]∧clashM b=none∧r=.tup [.v (.slice none 0 0),intA 0]∧K'=[(0,checksG),(s,seamO b),(h,shrO b),(e,measO b)])∨(checkM b=0∧statesM b=[]∧∃ l j0 e0,clashM b=some l∧r=.tup [.sl j0 0 l.length,intA 0]∧K'=(j0,.cells (l.map intA) e0 false)::[(0,checksG),(s,seamO b),(h,shrO b),(e,measO b)])):=by
 refine callK_in 41 hT Tryz.func38 fun Y hret=>?_
 refine au [4,5,21] ?_
 intro jb hjb
 refine au [2,2,3,4,5,8] ?_
 refine TK.cl rfl rfl rfl rfl (opened0_ok hT (Kx:=[]) hl hm) ?_
 rintro r1 K2 h3
 rcases h3 with ⟨⟨hbar,rfl⟩ | ⟨hbar,rfl⟩,rfl⟩
 ·refine au [1,10,10,22] ?_
  intro j4 hj4
  refine au [17,2,3,4,4,5,1,6,3,20] ?_
  refine ⟨fun hc0=>?_,fun hc0=>?_⟩
  ·exact absurd hc0 (by simp)
  have hbb:=check_ok0 hbar
  have hml:=hbb.mes.len
  have hsh:=shl_ok hml
  have h2m:2 ^ b.measures.length≤8:=Nat.pow_le_pow_right (n:=2) (by decide) hml
  refine au [12,4,4,5,8] ?_
  refine TK.cl rfl rfl rfl rfl (some_ok hT hbb) ?_
  rintro r4 K5 ⟨rfl,rfl⟩
  refine au [3,20] ?_
  refine ⟨fun hc1=>?_,fun hc1=>?_⟩
  ·refine au [4,5,2,2,3] ?_
   refine TK.rt hret [(0,_),(s,_),(h,_),(e,_)] ?_
   exact .inr (.inl ⟨hbar,fun h=>by rw [h] at hc1; simp at hc1,rfl,rfl⟩)
  have hnil:statesM b=[]:=by cases hh:statesM b with | nil=>rfl | cons x r=>rw [hh] at hc1; simp at hc1
  refine au [12,4,5,22] ?_
  intro jo hjo
  refine au [3,4,4,5,7,9,28] ?_
  refine TK.a rfl (q_shL rfl rfl rfl ⟨by omega,by show ((b.measures.length:Nat):Int)≤64; omega⟩ (r:=((2 ^ b.measures.length:Nat):Int)) hsh) ?_
  refine au [1,3,13] ?_
  refine TK.maskL [1,2,3,4,6,23,24] ?_
  refine TK.kp ((0,_)::(s,_)::(h,_)::(e,_)::(j4,_)::(jb,_)::[(jo,_)]) ?_
  refine TK.loopN (fun n env K=>∃ (i:Nat) (Kb:KV),n=2 ^ b.measures.length - i∧i≤2 ^ b.measures.length∧BestL jo (clashL b i) Kb∧env=[.any,.ptr jb 0,.v (.slice none 0 0),intA 0,.ptr j4 0,.any,.ptr jo 0,.any,.any,.any,.any,.any,.any,.any,.any,.any,.any,.any,.any,.any,.any,.any,.any,.v (.int .i64 ((2 ^ b.measures.length:Nat):Int)),intA i,.any,.any,.any,.any,.any,.any,.any,.any,.any,.any,.any,.any,.any,.any,.any,.any]∧K=(0,checksG)::(s,seamO b)::(h,shrO b)::(e,measO b)::(j4,.cells (rollC b s h e) 113 true)::(jb,.cells (rollC b s h e) 26 true)::Kb) (2 ^ b.measures.length) ⟨0,_,rfl,Nat.zero_le _,rfl,rfl,rfl⟩ fun n env K hI hnext=>?_
  obtain ⟨i,Kb,rfl,hi,hbl,rfl,rfl⟩:=hI
  refine au [4,5,6,3,4,20] ?_
  refine ⟨fun hc2=>?_,fun hc2=>?_⟩
  ·have hil:i<2 ^ b.measures.length:=Int.ofNat_lt.1 (of_decide_eq_true hc2)
   have hbo:=only_ok0 hbb i
   refine au [12,4,13,4,5,1,2,3,4,5,8,1] ?_
   refine TK.cl rfl rfl rfl rfl (only_ok hT (mask:=i) hml (by omega)) ?_ (hs:=(.right (.right (.right (.left (.none _))))))
   rintro r7 K8 ⟨jl,jm,rfl,rfl⟩
   refine au [1,10,10,22] ?_
   intro j8 hj8
   refine au [17,2,3,4] ?_
   refine TK.unrowAt (c:=j8) (i:=6) (j:=jm) rfl (by repeat (first | exact List.Mem.head _ | assumption | apply List.Mem.tail)) (by repeat (first | exact Upd.head | apply Upd.tail)) ?_
   refine TK.frzRow (j:=jm) ?_
   refine au [5,8] ?_
   refine TK.cl rfl rfl rfl rfl (some_ok hT hbo (s:=s) (h:=h) (e:=jm)) ?_ (hs:=(.rem (.tail (.tail (.tail (.tail (.tail .head))))) (.rem (.tail (.tail (.tail (.tail (.tail .head))))) (.rem (.tail (.tail .head)) (.none _)))))
   rintro r10 K11 ⟨rfl,rfl⟩
   refine au [30,3,20] ?_
   refine ⟨fun hc3=>?_,fun hc3=>?_⟩
   ·have hbad:badM b i=true:=by simpa [badM] using hc3
    refine TK.asSl 9 rfl (by repeat (first | exact List.Mem.head _ | assumption | apply List.Mem.tail)) ?_
    refine TK.frzRow (j:=jl) ?_
    refine au [5] ?_
    rcases hcl:clashL b i with _ | l0
    ·rw [hcl] at hbl
     have hbl:Kb=[(jo,.cells [.v (.slice none 0 0),boolA false] 155 true)]:=hbl
     subst hbl
     refine TK.a rfl (q_move rfl rfl) ?_
     refine TK.cl rfl rfl rfl rfl (offerL0_ok hT) ?_
     rintro r13 K14 rfl
     refine au [3,14,5,23,1,3] ?_
     refine TK.maskL [1,2,3,4,6,23,24] ?_
     refine TK.kp ((0,_)::(s,_)::(h,_)::(e,_)::(j4,_)::(jb,_)::[(jo,_),(jl,_)]) ?_
     exact hnext _ _ _ (by omega) ⟨i+1,_,rfl,by omega,by unfold clashL; rw [if_pos hbad,hcl]; exact ⟨jl,3,rfl⟩,rfl,rfl⟩
    ·rw [hcl] at hbl
     obtain ⟨j0,e0,rfl⟩:=hbl
     refine TK.a rfl (q_move rfl rfl) ?_
     refine TK.cl rfl rfl rfl rfl (offerL1_ok hT (by have:=bitsM_le i b.measures.length; omega)) ?_
     rintro r16 K17 h18
     rcases h18 with ⟨hsm,rfl⟩ | ⟨hsm,rfl⟩
     ·refine au [3,14,5,23,1,3] ?_
      refine TK.maskL [1,2,3,4,6,23,24] ?_
      refine TK.kp ((0,_)::(s,_)::(h,_)::(e,_)::(j4,_)::(jb,_)::[(jo,_),(jl,_)]) ?_
      exact hnext _ _ _ (by omega) ⟨i+1,_,rfl,by omega,by unfold clashL; rw [if_pos hbad,hcl]; dsimp only; rw [if_pos hsm]; exact ⟨jl,3,rfl⟩,rfl,rfl⟩
     ·refine au [3,14,5,23,1,3] ?_
      refine TK.maskL [1,2,3,4,6,23,24] ?_
      refine TK.kp ((0,_)::(s,_)::(h,_)::(e,_)::(j4,_)::(jb,_)::[(jo,_),(j0,_)]) ?_
      exact hnext _ _ _ (by omega) ⟨i+1,_,rfl,by omega,by unfold clashL; rw [if_pos hbad,hcl]; dsimp only; rw [if_neg (by rw [hsm]; decide)]; exact ⟨j0,e0,rfl⟩,rfl,rfl⟩
   have hbad:¬ badM b i=true:=fun h=>by simp [badM] at h; rw [h] at hc3; simp at hc3
   refine au [12,14,5,23,1,3] ?_
   refine TK.maskL [1,2,3,4,6,23,24] ?_
   refine TK.kp ((0,_)::(s,_)::(h,_)::(e,_)::(j4,_)::(jb,_)::Kb) ?_
   exact hnext _ _ _ (by omega) ⟨i+1,_,rfl,by omega,by unfold clashL; rw [if_neg hbad]; exact hbl,rfl,rfl⟩
  have hil:¬ i<2 ^ b.measures.length:=fun h=>of_decide_eq_false hc2 (Int.ofNat_lt.2 h)
  obtain rfl:i=2 ^ b.measures.length:=by omega
  refine au [16,4,5] ?_
  rcases hbst:clashL b (2 ^ b.measures.length) with _ | l0
  ·rw [hbst] at hbl
   have hbl:Kb=[(jo,.cells [.v (.slice none 0 0),boolA false] 155 true)]:=hbl
   subst hbl
   refine TK.a rfl (q_fieldAddr rfl rfl FldOf.h (by decide)) ?_
   refine au [9,2,2,3] ?_
   refine TK.rt hret [(0,_),(s,_),(h,_),(e,_)] ?_
   exact .inr (.inr (.inl ⟨hbar,hnil,hbst,rfl,rfl⟩))
  ·rw [hbst] at hbl
   obtain ⟨j0,e0,rfl⟩:=hbl
   refine TK.a rfl (q_fieldAddr rfl rfl FldOf.h (by decide)) ?_
   refine au [9,2,2,3] ?_
   refine TK.rt hret [(j0,_),(0,_),(s,_),(h,_),(e,_)] ?_
   exact .inr (.inr (.inr ⟨hbar,hnil,l0,j0,e0,hbst,rfl,rfl⟩))
 ·refine au [1,10,10,22] ?_
  intro j4 hj4
  refine au [17,2,3,4,4,5,1,6,3,20] ?_
  refine ⟨fun hc0=>?_,fun hc0=>?_⟩
  ·
   refine au [4,5,1,2,2,3] ?_
   refine TK.rt hret [(0,_),(s,_),(h,_),(e,_)] ?_
   exact .inl ⟨hbar,rfl,rfl⟩
  exact absurd hbar (by simpa using hc0)
end Go.Vel
end
section
set_option linter.all false
set_option maxRecDepth 20000
set_option maxHeartbeats 60000000
namespace Go.Vel
open Go Go.Conc Go.Proofs
def greatM (b:RBk):Bool:=decide (b.seams.length>20)||decide (b.shrinks.length>20)||decide (b.measures.length>20)
def exB:RBk:=⟨12,15,8,2,[⟨0,3,2,1,false⟩,⟨5,2,1,4,false⟩,⟨9,4,3,0,false⟩],[⟨0,1⟩,⟨0,0⟩,⟨0,1⟩],[]⟩
theorem take_eq_next {α:Type} {xs ys:List α} {i:Nat} {x y:α} (hx:xs[i]? =some x) (hy:ys[i]? =some y) (ht:xs.take i=ys.take i) (he:x=y):xs.take (i+1)=ys.take (i+1):=by
 rw [take_snoc hx,take_snoc hy,ht,he]
theorem eq_of_takes {α:Type} {xs ys:List α} (hl:xs.length=ys.length) (ht:xs.take xs.length=ys.take xs.length):xs=ys:=by
 rwa [List.take_length,hl,List.take_length] at ht
theorem ne_at {α:Type} {xs ys:List α} {i:Nat} {x y:α} (hx:xs[i]? =some x) (hy:ys[i]? =some y) (hne:x≠y):xs≠ys:=fun h=>by rw [h,hy] at hx; exact hne (Option.some.inj hx).symm
instance:BlOf Tryz.prog 94 [(0,1),(1,1),(2,1),(3,1),(4,1)]:=⟨by kernel_rfl⟩
instance:Cal Tryz.prog 29:=⟨by kernel_rfl⟩
instance:Cal Tryz.prog 55:=⟨by kernel_rfl⟩
instance:Cal Tryz.prog 56:=⟨by kernel_rfl⟩
theorem great_ok {main:Bool} {T:Goroutine→Hp→Prop} (hT:Shut Tryz.prog main T) {gm:Nat→Option Nat} {b:RBk} {s h e:Nat} :
  CallK Tryz.prog T gm 18 [.agg (rollC b s h e)] [] (fun r K'=>r=boolA (greatM b)∧K'=[]):=by
 refine callK_in 19 hT Tryz.func18 fun Y hret=>?_
 refine au [4,5,21] ?_
 intro jb hjb
 refine au [2,3,4,5,7,9,28,6,1] ?_
 refine TK.sp 7 (fun g1_5=>?_) (fun g1_5=>?_)
 ·refine au [11,11,11,11,26,1,11,11,11,11,26,2,3] ?_
  refine TK.rt hret [] ?_
  exact ⟨by unfold greatM; rw [show decide (b.seams.length>20)=true by simp at g1_5; simp; omega]; rfl,rfl⟩
 refine au [7,9,28,6,25,1] ?_
 refine TK.sp 13 (fun g1_11=>?_) (fun g1_11=>?_)
 ·refine au [11,11,11,11,26,2,3] ?_
  refine TK.rt hret [] ?_
  exact ⟨by unfold greatM; rw [show decide (b.shrinks.length>20)=true by simp at g1_11; simp; omega]; simp,rfl⟩
 refine au [7,9,28,6,25,2,3] ?_
 refine TK.rt hret [] ?_
 exact ⟨by unfold greatM; rw [show decide (b.seams.length>20)=false by simp at g1_5; simp; omega,show decide (b.shrinks.length>20)=false by simp at g1_11; simp; omega,Bool.false_or,Bool.false_or]; exact congrArg _ (congrArg _ (decide_eq_decide.2 (by omega))),rfl⟩
theorem sameIntsR_ok {main:Bool} {T:Goroutine→Hp→Prop} (hT:Shut Tryz.prog main T) {gm:Nat→Option Nat} {j off j2:Nat} {ob:AObj} {xs ys:List Int} (hI:∀ (i:Nat) (x:Int),xs[i]? =some x→takeO ob (off+(i:Int).toNat*1) 1=some [intA x]) (hl:xs.length≤1000) :
  CallK Tryz.prog T gm 29 [.sl j off xs.length,.row j2 ys.length] [(j,ob),(j2,.row (ys.map intA) 3 1)] (fun r K'=>r=boolA (decide (xs=ys))∧K'=[(j,ob),(j2,.row (ys.map intA) 3 1)]):=by
 refine callK_in 26 hT Tryz.func29 fun Y hret=>?_
 refine au [4,5,2,3,4,4,5,1,28,1,28,6,3,20] ?_
 refine ⟨fun hc0=>?_,fun hc0=>?_⟩
 ·refine au [4,5,2,3] ?_
  refine TK.rt hret [(j,_),(j2,_)] ?_
  exact ⟨by rw [decide_eq_false (fun h=>by rw [h] at hc0; simp at hc0)],rfl⟩
 have hll:xs.length=ys.length:=by simp at hc0; omega
 refine au [12,4,4,5,2,3,13] ?_
 refine TK.maskL [0,1,4,5] ?_
 refine TK.loopN (fun n env K=>∃ (i:Nat),n=xs.length - i∧i≤xs.length∧xs.take i=ys.take i∧env=[.sl j off xs.length,.row j2 ys.length,.any,.any,boolA false,intA i,.any,.any,.any,.any,.any,.any,.any,.any,.any,.any,.any,.any,.any,.any,.any,.any,.any,.any,.any,.any]∧K=[(j,ob),(j2,.row (ys.map intA) 3 1)]) xs.length ⟨0,rfl,Nat.zero_le _,by simp,rfl,rfl⟩ fun n env K hI2 hnext=>?_
 obtain ⟨i,rfl,hi,hta,rfl,rfl⟩:=hI2
 refine au [4,4,5,1,1,28,6,3,20] ?_
 refine ⟨fun hc1=>?_,fun hc1=>?_⟩
 ·have hil:i<xs.length:=by simp at hc1; omega
  obtain ⟨x,hx⟩:∃ x,xs[i]? =some x:=⟨_,List.getElem?_eq_getElem hil⟩
  obtain ⟨y,hy⟩:∃ y,ys[i]? =some y:=⟨_,List.getElem?_eq_getElem (by omega)⟩
  refine au [12,4,13,4] ?_
  refine TK.draw [0,1,2,3,4,5,6,7,8] [0,1,2,3,4,5,6,7,8] (by kernel_rfl) (by kernel_rfl) ?_
  refine TD.z [0] rfl (q_move rfl rfl) ?_
  refine TD.z [5] rfl (q_move rfl rfl) ?_
  refine TD.z [17,18] rfl (q_indexSl rfl rfl rfl SlEl.h (by omega) (by omega)) ?_
  refine TD.y [19] rfl (hq:=q_load1 rfl rfl TySz.h (List.Mem.head _) (hI i x hx)) (h:=?_)
  refine TD.z [1] rfl (q_move rfl rfl) ?_
  refine TD.z [5] rfl (q_move rfl rfl) ?_
  refine TD.y [21,22] rfl (hq:=q_indexRow rfl rfl rfl SlEl.h (List.Mem.head _) (by omega) (by omega)) (h:=?_)
  refine TD.y [23] rfl (hq:=q_load1 rfl rfl TySz.h (List.Mem.head _) (rows_at hy rfl)) (h:=?_)
  refine TD.z [20,24] rfl (q_cmp rfl rfl rfl rfl) ?_
  refine TD.fin ?_
  refine au [20] ?_
  refine ⟨fun hc2=>?_,fun hc2=>?_⟩
  ·refine au [4,5,2,3] ?_
   refine TK.rt hret [(j,_),(j2,_)] ?_
   exact ⟨by rw [decide_eq_false (ne_at hx hy (fun h=>by rw [h] at hc2; simp at hc2))],rfl⟩
  refine au [12,14,5,1,23,2,3] ?_
  refine TK.maskL [0,1,4,5] ?_
  refine TK.kp [(j,_),(j2,_)] ?_
  exact hnext _ _ _ (by omega) ⟨i+1,rfl,by omega,take_eq_next hx hy hta (by simp at hc2; exact hc2),rfl,rfl⟩
 obtain rfl:i=xs.length:=by simp at hc1; omega
 refine au [16,4,5,2,3] ?_
 refine TK.rt hret [(j,_),(j2,_)] ?_
 exact ⟨by rw [decide_eq_true (eq_of_takes hll hta)],rfl⟩
theorem sameStripsR_ok {main:Bool} {T:Goroutine→Hp→Prop} (hT:Shut Tryz.prog main T) {gm:Nat→Option Nat} {j off j2:Nat} {ob:AObj} {xs ys:List (Int×Int)} (hI:∀ (i:Nat) (x:Int×Int),xs[i]? =some x→takeO ob (off+(i:Int).toNat*2) 2=some (pairC x)) (hl:xs.length≤1000) :
  CallK Tryz.prog T gm 26 [.sl j off xs.length,.row j2 ys.length] [(j,ob),(j2,.row (ys.flatMap pairC) 96 2)] (fun r K'=>r=boolA (decide (xs=ys))∧K'=[(j,ob),(j2,.row (ys.flatMap pairC) 96 2)]):=by
 refine callK_in 26 hT Tryz.func26 fun Y hret=>?_
 refine au [4,5,2,3,4,4,5,1,28,1,28,6,3,20] ?_
 refine ⟨fun hc0=>?_,fun hc0=>?_⟩
 ·refine au [4,5,2,3] ?_
  refine TK.rt hret [(j,_),(j2,_)] ?_
  exact ⟨by rw [decide_eq_false (fun h=>by rw [h] at hc0; simp at hc0)],rfl⟩
 have hll:xs.length=ys.length:=by simp at hc0; omega
 refine au [12,4,4,5,2,3,13] ?_
 refine TK.maskL [0,1,4,5] ?_
 refine TK.loopN (fun n env K=>∃ (i:Nat),n=xs.length - i∧i≤xs.length∧xs.take i=ys.take i∧env=[.sl j off xs.length,.row j2 ys.length,.any,.any,boolA false,intA i,.any,.any,.any,.any,.any,.any,.any,.any,.any,.any,.any,.any,.any,.any,.any,.any,.any,.any,.any,.any]∧K=[(j,ob),(j2,.row (ys.flatMap pairC) 96 2)]) xs.length ⟨0,rfl,Nat.zero_le _,by simp,rfl,rfl⟩ fun n env K hI2 hnext=>?_
 obtain ⟨i,rfl,hi,hta,rfl,rfl⟩:=hI2
 refine au [4,4,5,1,1,28,6,3,20] ?_
 refine ⟨fun hc1=>?_,fun hc1=>?_⟩
 ·have hil:i<xs.length:=by simp at hc1; omega
  obtain ⟨x,hx⟩:∃ x,xs[i]? =some x:=⟨_,List.getElem?_eq_getElem hil⟩
  obtain ⟨y,hy⟩:∃ y,ys[i]? =some y:=⟨_,List.getElem?_eq_getElem (by omega)⟩
  refine au [12,4,13,4] ?_
  refine TK.draw [0,1,2,3,4,5,6,7,8] [0,1,2,3,4,5,6,7,8] (by kernel_rfl) (by kernel_rfl) ?_
  refine TD.z [0] rfl (q_move rfl rfl) ?_
  refine TD.z [5] rfl (q_move rfl rfl) ?_
  refine TD.z [17,18] rfl (q_indexSl rfl rfl rfl SlEl.h (by omega) (by omega)) ?_
  refine TD.y [19] rfl (hq:=q_load rfl rfl TySz.h (List.Mem.head _) (hI i x hx)) (h:=?_)
  refine TD.z [1] rfl (q_move rfl rfl) ?_
  refine TD.z [5] rfl (q_move rfl rfl) ?_
  refine TD.y [21,22] rfl (hq:=q_indexRow rfl rfl rfl SlEl.h (List.Mem.head _) (by omega) (by omega)) (h:=?_)
  refine TD.y [23] rfl (hq:=q_load rfl rfl TySz.h (List.Mem.head _) (rowf_at (c:=2) (f:=pairC) (fun _=>rfl) hy rfl (by decide))) (h:=?_)
  refine TD.z [20,24] rfl (q_neqFlat rfl rfl rfl rfl rfl FlatF.h EqG.h) ?_
  refine TD.fin ?_
  refine au [20] ?_
  refine ⟨fun hc2=>?_,fun hc2=>?_⟩
  ·refine au [4,5,2,3] ?_
   refine TK.rt hret [(j,_),(j2,_)] ?_
   exact ⟨by rw [decide_eq_false (ne_at hx hy (fun h=>by rw [h] at hc2; simp at hc2))],rfl⟩
  refine au [12,14,5,1,23,2,3] ?_
  refine TK.maskL [0,1,4,5] ?_
  refine TK.kp [(j,_),(j2,_)] ?_
  exact hnext _ _ _ (by omega) ⟨i+1,rfl,by omega,take_eq_next hx hy hta (by simp at hc2; exact Prod.ext hc2.1 hc2.2),rfl,rfl⟩
 obtain rfl:i=xs.length:=by simp at hc1; omega
 refine au [16,4,5,2,3] ?_
 refine TK.rt hret [(j,_),(j2,_)] ?_
 exact ⟨by rw [decide_eq_true (eq_of_takes hll hta)],rfl⟩
theorem list_ok {main:Bool} {T:Goroutine→Hp→Prop} (hT:Shut Tryz.prog main T) {gm:Nat→Option Nat} {j off j2:Nat} {ob:AObj} {xs ys:List Int} (hI:∀ (i:Nat) (x:Int),xs[i]? =some x→takeO ob (off+(i:Int).toNat*1) 1=some [intA x]) (hl:xs.length≤1000) :
  CallK Tryz.prog T gm 89 [.sl j off xs.length,.row j2 ys.length] [(j,ob),(j2,.row (ys.map intA) 3 1)] (fun r K'=>r=boolA (decide (xs=ys))∧K'=[(j,ob),(j2,.row (ys.map intA) 3 1)]):=by
 refine callK_in 8 hT Tryz.func89 fun Y hret=>?_
 refine au [4,5,2,3,4,5,1,1] ?_
 refine TK.cl rfl rfl rfl rfl (sameIntsR_ok hT hI hl) ?_
 rintro r1 K2 ⟨rfl,rfl⟩
 refine au [2,3] ?_
 refine TK.rt hret [(j,_),(j2,_)] ?_
 exact ⟨rfl,rfl⟩
theorem to_ok {main:Bool} {T:Goroutine→Hp→Prop} (hT:Shut Tryz.prog main T) {gm:Nat→Option Nat} {a z:Int} :
  CallK Tryz.prog T gm 55 [intA a,intA z] [] (fun r K'=>r=.agg [intA a,intA z]∧K'=[]):=by
 refine callK_in 8 hT Tryz.func55 fun Y hret=>?_
 refine au [4,5,22] ?_
 intro j1 hj1
 refine au [3,4,5,1,1,39,17,3] ?_
 refine TK.rt hret [] ?_
 exact ⟨rfl,rfl⟩
theorem one_ok {main:Bool} {T:Goroutine→Hp→Prop} (hT:Shut Tryz.prog main T) {gm:Nat→Option Nat} {n:Int} :
  CallK Tryz.prog T gm 56 [intA n] [] (fun r K'=>r=.agg [intA n,intA n]∧K'=[]):=by
 refine callK_in 6 hT Tryz.func56 fun Y hret=>?_
 refine au [4,5,22] ?_
 intro j1 hj1
 refine au [3,4,5,1,1] ?_
 refine TK.cl rfl rfl rfl rfl (to_ok hT) ?_
 rintro r2 K3 ⟨rfl,rfl⟩
 refine au [17,3] ?_
 refine TK.rt hret [] ?_
 exact ⟨rfl,rfl⟩
theorem example_ok {main:Bool} {T:Goroutine→Hp→Prop} (hT:Shut Tryz.prog main T) {gm:Nat→Option Nat}  :
  CallK Tryz.prog T gm 88 [] [] (fun r K'=>∃ s h e,r=.agg (rollC exB s h e)∧K'=[(s,seamO exB),(h,shrO exB),(e,measO exB)]):=by
 refine callK_in 10 hT Tryz.func88 fun Y hret=>?_
 refine au [4,5,22] ?_
 intro j0 hj0
 refine au [3,4,5,42,42,42] ?_
 refine TK.newR rfl rfl rfl (n_buildSlice (l:=[_,_,_,_,_,_,_,_,_,_,_,_,_,_,_]) rfl SlEl.h TyZ.h (by decide) (by decide) rfl) (fun _=>putS rfl (by simp only [List.set]; rfl)) fun js hjs=>?_
 refine TK.cl rfl rfl rfl rfl (to_ok hT) ?_
 rintro r1 K2 ⟨rfl,rfl⟩
 refine au [] ?_
 refine TK.cl rfl rfl rfl rfl (one_ok hT) ?_
 rintro r4 K5 ⟨rfl,rfl⟩
 refine au [] ?_
 refine TK.cl rfl rfl rfl rfl (to_ok hT) ?_
 rintro r7 K8 ⟨rfl,rfl⟩
 refine au [] ?_
 refine TK.newR rfl rfl rfl (n_buildSlice (l:=[_,_,_,_,_,_]) rfl SlEl.h TyZ.h (by decide) (by decide) rfl) (fun _=>putS rfl (by simp only [List.set]; rfl)) fun jh hjh=>?_
 refine au [44,17] ?_
 refine TK.unrowAt (c:=j0) (i:=4) (j:=js) rfl (by repeat (first | exact List.Mem.head _ | assumption | apply List.Mem.tail)) (by repeat (first | exact Upd.head | apply Upd.tail)) ?_
 refine TK.frzRow (j:=js) ?_
 refine TK.unrowAt (c:=j0) (i:=5) (j:=jh) rfl (by repeat (first | exact List.Mem.head _ | assumption | apply List.Mem.tail)) (by repeat (first | exact Upd.head | apply Upd.tail)) ?_
 refine TK.frzRow (j:=jh) ?_
 refine TK.virtAt (j:=j0) (i:=6) (e:=49) (size:=3) (x:=none) (l:=[intA 12,intA 15,intA 8,intA 2,.sl js 0 3,.sl jh 0 3,.v (.slice none 0 0)]) (by rfl) (fun _=>(by repeat (first | exact Upd.head | apply Upd.tail))) fun je hje=>?_
 refine TK.unrowAt (c:=j0) (i:=6) (j:=je) rfl (by repeat (first | exact List.Mem.head _ | assumption | apply List.Mem.tail)) (by repeat (first | exact Upd.head | apply Upd.tail)) ?_
 refine TK.frzRow (j:=je) ?_
 refine au [3] ?_
 refine TK.rt hret [(js,_),(jh,_),(je,_)] ?_
 exact ⟨js,jh,je,rfl,rfl⟩
theorem measured_ok {main:Bool} {T:Goroutine→Hp→Prop} (hT:Shut Tryz.prog main T) {gm:Nat→Option Nat} {b:RBk} {s h e:Nat} {m:RMeas} (hm:b.measures.length≤100) :
  CallK Tryz.prog T gm 59 [.agg (rollC b s h e),.agg (measC m)] [(e,measO b)] (fun r K'=>∃ je,r=.agg (rollC (measuredB b m) s h je)∧K'=[(je,measO (measuredB b m)),(e,measO b)]):=by
 refine callK_in 14 hT Tryz.func59 fun Y hret=>?_
 refine au [] ?_
 have hfl:=flat_len measC 3 (fun _=>rfl) b.measures
 refine au [4,5,21] ?_
 intro jb hjb
 refine au [21] ?_
 intro jm hjm
 refine au [22] ?_
 intro jr hjr
 refine au [3,4] ?_
 refine TK.draw [1,2,4,0,3,5,6,7,8] [0,1,2,3,4,5,6,7,8] (by kernel_rfl) (by kernel_rfl) ?_
 refine TD.z [2] rfl (q_fieldAddr rfl rfl FldOf.h (by decide)) ?_
 refine TD.y [6] rfl (hq:=q_load1 rfl rfl TySz.h (List.Mem.head _) rfl) (h:=?_)
 refine TD.y [3] rfl (hq:=q_load rfl rfl TySz.h (List.Mem.head _) rfl) (h:=?_)
 refine TD.c2 (i1:=0) (i2:=5) (pend1:=[⟨4,[3],[(_,_)]⟩,⟨2,[6],[(_,_)]⟩,⟨1,[2],[]⟩]) (pend2:=[⟨2,[6],[(_,_)]⟩,⟨1,[2],[]⟩]) (L1:=[3,5,6,7,8]) (L2:=[0,3,6,7,8]) [] [9] rfl rfl rfl rfl rfl rfl rfl ?_ ?_
 ·refine exK_newR rfl (n_buildSlice (l:=[]) rfl SlEl.h TyZ.h (by decide) (by decide) rfl) (fun _=>putS rfl (by simp only [List.set]; rfl)) (by simp) fun j1 hj1=>?_
  refine TD.c2 (i1:=3) (i2:=5) (pend1:=[⟨4,[3],[(_,_)]⟩,⟨1,[2],[]⟩]) (pend2:=[⟨2,[6],[(_,_)]⟩,⟨1,[2],[]⟩]) (L1:=[5,6,7,8]) (L2:=[3,6,7,8]) [5,7] [9] rfl rfl rfl rfl rfl rfl rfl ?_ ?_
  ·refine exK_appG (ln:=b.measures.flatMap measC) rfl rfl ApOf.h rfl (by repeat (first | exact List.Mem.head _ | assumption | apply List.Mem.tail)) rfl rfl rfl (fun hp=>src_sl (by repeat (first | exact List.Mem.head _ | assumption | apply List.Mem.tail)) (by omega) (take_full hfl (by omega))) (fun h=>List.eq_nil_of_length_eq_zero (by omega)) (flat_all measC (fun _=>rfl) _) (by unfold maxLen; omega) (by omega) (fun _=>(by repeat (first | exact Upd.head | apply Upd.tail))) (fun _=>putS rfl (by simp only [List.set]; rfl)) (fun _=>by simp) fun jc=>?_
   simp only [List.nil_append,Nat.zero_add]
   refine TD.cnewR (pend':=[⟨1,[2],[]⟩]) [9] rfl rfl rfl rfl rfl (n_buildSlice (l:=[_,_,_]) rfl SlEl.h TyZ.h (by decide) (by decide) rfl) (fun _=>putS rfl (by simp only [List.set]; rfl)) (by simp) fun j2 hj2=>?_
   refine TD.capp (pend':=[⟨1,[2],[]⟩]) [8,10] rfl rfl rfl rfl rfl (a_app rfl ApOf.h rfl (by repeat (first | exact List.Mem.head _ | assumption | apply List.Mem.tail)) (by omega) rfl (src_row (ln:=[_,_,_]) (by repeat (first | exact List.Mem.head _ | assumption | apply List.Mem.tail)) (by decide) (by simp) rfl) (by omega) rfl (by unfold maxLen; omega) (by omega)) (fun _=>(by repeat (first | exact Upd.head | apply Upd.tail))) (fun _=>putS rfl (by simp only [List.set]; rfl)) (fun _=>(by simp)) fun je=>?_
   refine TD.z [2] rfl (q_fieldAddr rfl rfl FldOf.h (by decide)) ?_
   refine TD.s (pend':=[]) [11,12] rfl rfl (q_store rfl rfl TySz.h rfl rfl (by repeat (first | exact List.Mem.head _ | assumption | apply List.Mem.tail)) rfl) ?_
   refine TD.fin ?_
   refine au [4] ?_
   refine TK.unrowAt (c:=jb) (i:=6) (j:=je) rfl (by repeat (first | exact List.Mem.head _ | assumption | apply List.Mem.tail)) (by repeat (first | exact Upd.head | apply Upd.tail)) ?_
   refine TK.frzRow (j:=je) ?_
   rw [show b.measures.flatMap measC++[intA m.cloth,intA m.many,intA m.wide]=(measuredB b m).measures.flatMap measC from (flat_snoc measC b.measures m).symm,show b.measures.length+1=(measuredB b m).measures.length by simp [measuredB]]
   refine au [5,8,17,3] ?_
   refine TK.rt hret [(je,_),(e,_)] ?_
   exact ⟨je,rfl,rfl⟩
  ·refine exK_newR rfl (n_buildSlice (l:=[_,_,_]) rfl SlEl.h TyZ.h (by decide) (by decide) rfl) (fun _=>putS rfl (by simp only [List.set]; rfl)) (by simp) fun j3 hj3=>?_
   refine TD.cappG (ln:=b.measures.flatMap measC) (pend':=[⟨1,[2],[]⟩]) [5,7] rfl rfl rfl rfl rfl rfl ApOf.h rfl (by repeat (first | exact List.Mem.head _ | assumption | apply List.Mem.tail)) rfl rfl rfl (fun hp=>src_sl (by repeat (first | exact List.Mem.head _ | assumption | apply List.Mem.tail)) (by omega) (take_full hfl (by omega))) (fun h=>List.eq_nil_of_length_eq_zero (by omega)) (flat_all measC (fun _=>rfl) _) (by unfold maxLen; omega) (by omega) (fun _=>(by repeat (first | exact Upd.head | apply Upd.tail))) (fun _=>putS rfl (by simp only [List.set]; rfl)) (fun _=>by simp) fun jc=>?_
   simp only [List.nil_append,Nat.zero_add]
   refine TD.capp (pend':=[⟨1,[2],[]⟩]) [8,10] rfl rfl rfl rfl rfl (a_app rfl ApOf.h rfl (by repeat (first | exact List.Mem.head _ | assumption | apply List.Mem.tail)) (by omega) rfl (src_row (ln:=[_,_,_]) (by repeat (first | exact List.Mem.head _ | assumption | apply List.Mem.tail)) (by decide) (by simp) rfl) (by omega) rfl (by unfold maxLen; omega) (by omega)) (fun _=>(by repeat (first | exact Upd.head | apply Upd.tail))) (fun _=>putS rfl (by simp only [List.set]; rfl)) (fun _=>(by simp)) fun je=>?_
   refine TD.z [2] rfl (q_fieldAddr rfl rfl FldOf.h (by decide)) ?_
   refine TD.s (pend':=[]) [11,12] rfl rfl (q_store rfl rfl TySz.h rfl rfl (by repeat (first | exact List.Mem.head _ | assumption | apply List.Mem.tail)) rfl) ?_
   refine TD.fin ?_
   refine au [4] ?_
   refine TK.unrowAt (c:=jb) (i:=6) (j:=je) rfl (by repeat (first | exact List.Mem.head _ | assumption | apply List.Mem.tail)) (by repeat (first | exact Upd.head | apply Upd.tail)) ?_
   refine TK.frzRow (j:=je) ?_
   rw [show b.measures.flatMap measC++[intA m.cloth,intA m.many,intA m.wide]=(measuredB b m).measures.flatMap measC from (flat_snoc measC b.measures m).symm,show b.measures.length+1=(measuredB b m).measures.length by simp [measuredB]]
   refine au [5,8,17,3] ?_
   refine TK.rt hret [(je,_),(e,_)] ?_
   exact ⟨je,rfl,rfl⟩
 ·refine exK_newR rfl (n_buildSlice (l:=[_,_,_]) rfl SlEl.h TyZ.h (by decide) (by decide) rfl) (fun _=>putS rfl (by simp only [List.set]; rfl)) (by simp) fun j4 hj4=>?_
  refine TD.cnewR (pend':=[⟨2,[6],[(_,_)]⟩,⟨1,[2],[]⟩]) [] rfl rfl rfl rfl rfl (n_buildSlice (l:=[]) rfl SlEl.h TyZ.h (by decide) (by decide) rfl) (fun _=>putS rfl (by simp only [List.set]; rfl)) (by simp) fun j5 hj5=>?_
  refine TD.cappG (ln:=b.measures.flatMap measC) (pend':=[⟨1,[2],[]⟩]) [5,7] rfl rfl rfl rfl rfl rfl ApOf.h rfl (by repeat (first | exact List.Mem.head _ | assumption | apply List.Mem.tail)) rfl rfl rfl (fun hp=>src_sl (by repeat (first | exact List.Mem.head _ | assumption | apply List.Mem.tail)) (by omega) (take_full hfl (by omega))) (fun h=>List.eq_nil_of_length_eq_zero (by omega)) (flat_all measC (fun _=>rfl) _) (by unfold maxLen; omega) (by omega) (fun _=>(by repeat (first | exact Upd.head | apply Upd.tail))) (fun _=>putS rfl (by simp only [List.set]; rfl)) (fun _=>by simp) fun jc=>?_
  simp only [List.nil_append,Nat.zero_add]
  refine TD.capp (pend':=[⟨1,[2],[]⟩]) [8,10] rfl rfl rfl rfl rfl (a_app rfl ApOf.h rfl (by repeat (first | exact List.Mem.head _ | assumption | apply List.Mem.tail)) (by omega) rfl (src_row (ln:=[_,_,_]) (by repeat (first | exact List.Mem.head _ | assumption | apply List.Mem.tail)) (by decide) (by simp) rfl) (by omega) rfl (by unfold maxLen; omega) (by omega)) (fun _=>(by repeat (first | exact Upd.head | apply Upd.tail))) (fun _=>putS rfl (by simp only [List.set]; rfl)) (fun _=>(by simp)) fun je=>?_
  refine TD.z [2] rfl (q_fieldAddr rfl rfl FldOf.h (by decide)) ?_
  refine TD.s (pend':=[]) [11,12] rfl rfl (q_store rfl rfl TySz.h rfl rfl (by repeat (first | exact List.Mem.head _ | assumption | apply List.Mem.tail)) rfl) ?_
  refine TD.fin ?_
  refine au [4] ?_
  refine TK.unrowAt (c:=jb) (i:=6) (j:=je) rfl (by repeat (first | exact List.Mem.head _ | assumption | apply List.Mem.tail)) (by repeat (first | exact Upd.head | apply Upd.tail)) ?_
  refine TK.frzRow (j:=je) ?_
  rw [show b.measures.flatMap measC++[intA m.cloth,intA m.many,intA m.wide]=(measuredB b m).measures.flatMap measC from (flat_snoc measC b.measures m).symm,show b.measures.length+1=(measuredB b m).measures.length by simp [measuredB]]
  refine au [5,8,17,3] ?_
  refine TK.rt hret [(je,_),(e,_)] ?_
  exact ⟨je,rfl,rfl⟩
end Go.Vel
end
section
set_option linter.all false
set_option maxRecDepth 20000
set_option maxHeartbeats 60000000
namespace Go.Vel
open Go Go.Conc
theorem pendS {ops:Array Oper} {i:Nat} {pend pend':List Pd} {es:List Nat} (h:edgesOf .any ops i=es) (h2:(pend.filter fun p => !(es.elem p.i))=pend'):pendOf ops i pend=pend':=by unfold pendOf; rw [h]; exact h2
theorem x_len:(exB.seams.length≤100)∧(exB.measures.length≤100):=by decide
theorem x_check:checkM exB=0:=by decide +kernel
theorem x_cut12:bar2 (checkM exB) (cutsM exB [1,2])=0:=by decide +kernel
theorem x_cut01:bar2 (checkM exB) (cutsM exB [0,1])=0:=by decide +kernel
theorem x_cut02:bar2 (checkM exB) (cutsM exB [0,2])=0:=by decide +kernel
theorem x_strips:stripsM exB [1,2]=[(1,4),(2,8)]:=by decide +kernel
theorem x_fits01:fitsM exB [0,1]=true:=by decide +kernel
theorem x_fits02:fitsM exB [0,2]=false:=by decide +kernel
theorem x_h1:bar2 (checkM exB) (bar2 (cutsM exB [0,1]) (shM exB [1,0,1]))=0:=by decide +kernel
theorem x_hang1:hangM exB [0,1] [1,0,1]=some ([3,2],13):=by decide +kernel
theorem x_h2:bar2 (checkM exB) (bar2 (cutsM exB [0,1]) (shM exB [0,0,1]))=0:=by decide +kernel
theorem x_hang2:hangM exB [0,1] [0,0,1]=some ([2,2],11):=by decide +kernel
theorem x_places:placesM exB [0,1] [0,0,1] [2,2]=[0,7]:=by decide +kernel
theorem x_states:statesM exB=[[0,0,0],[0,0,1],[1,0,0],[1,0,1]]:=by decide +kernel
theorem x_ne:statesM exB≠[]:=by rw [x_states]; decide
theorem x_th2:bar2 (checkM exB) (thereM exB 2)=0:=by decide +kernel
theorem x_shr2:shrM exB 2=[0,1]:=by decide +kernel
theorem x_new:newM exB=(3,5):=by decide +kernel
theorem x_can01:canM exB [0,1]=1:=by decide +kernel
theorem x_can02:canM exB [0,2]=2:=by decide +kernel
theorem x_hall:betw 16 exB.steps 40=true:=by decide +kernel
theorem x_c16b:bar2 (checkM (atRound exB 16)) (cutsM (atRound exB 16) [0,1])=0:=by decide +kernel
theorem x_ne16:statesM (atRound exB 16)≠[]:=by decide +kernel
theorem x_can16:canM (atRound exB 16) [0,1]=0:=by decide +kernel
theorem x_sq12:squaresM exB (statesM exB) [1,2]=some (9,15):=by decide +kernel
theorem x_sq02:squaresM exB (statesM exB) [0,2]=none:=by decide +kernel
theorem x_sq01:squaresM exB (statesM exB) [0,1]=some (9,13):=by decide +kernel
theorem x_widest:widestM exB (statesM exB)=some 16:=by decide +kernel
theorem x_ask:askM exB (statesM exB)=(0,2):=by decide +kernel
def exM:RBk:=measuredB exB ⟨2,2,7⟩
theorem x_mc:checkM exM=0:=by decide +kernel
theorem x_mst:statesM exM=[[0,0,1],[1,0,0]]:=by decide +kernel
theorem x_mnew:newM exM=(4,4):=by decide +kernel
theorem x_mne:statesM exM≠[]:=by rw [x_mst]; decide
def exD:RBk:=driedB exB (0:Int).toNat (dryX exB 0 ⟨1,5⟩)
theorem x_d1:bar2 (checkM exB) (thereM exB 0)=0∧isBd ⟨1,5⟩ 0 5=true∧(dryX exB 0 ⟨1,5⟩).low≤(dryX exB 0 ⟨1,5⟩).high:=by decide +kernel
theorem x_d2:bar2 (checkM exB) (thereM exB 1)=0∧isBd ⟨1,2⟩ 0 5=true∧(dryX exB 1 ⟨1,2⟩).high<(dryX exB 1 ⟨1,2⟩).low:=by decide +kernel
theorem x_dc:checkM exD=0:=by decide +kernel
theorem x_dst:statesM exD=[[1,0,0],[1,0,1]]:=by decide +kernel
theorem x_dne:statesM exD≠[]:=by rw [x_dst]; decide
theorem x_dth:bar2 (checkM exD) (thereM exD 0)=0:=by decide +kernel
theorem x_dshr:shrM exD 0=[1]:=by decide +kernel
def exC1:RBk:=measuredB exB ⟨0,1,5⟩
def exC:RBk:=measuredB exC1 ⟨2,2,6⟩
theorem x_cc:checkM exC=0:=by decide +kernel
theorem x_cst:statesM exC=[]:=by decide +kernel
theorem x_clash:clashM exC=some [0,1]:=by decide +kernel
theorem x_bits3:bitsM 3 3=[0,1]:=by decide
theorem x_hi3:sqOk exB (statesM exB) (bitsM 3 3)=true∧sqHi exB (statesM exB) (bitsM 3 3)=13:=by
 unfold sqOk sqHi
 rw [x_bits3,x_sq01]
 exact ⟨rfl,rfl⟩
theorem x_best:∀ c:Fin 8,0<c.1→sqOk exB (statesM exB) (bitsM c.1 3)=true→c.1≠3→(bitsM 3 3,sqHi exB (statesM exB) (bitsM 3 3))≠(bitsM c.1 3,sqHi exB (statesM exB) (bitsM c.1 3))∧cheaperM (bitsM c.1 3,sqHi exB (statesM exB) (bitsM c.1 3)) (bitsM 3 3,sqHi exB (statesM exB) (bitsM 3 3))=false∧shorterM (bitsM c.1 3,sqHi exB (statesM exB) (bitsM c.1 3)) (bitsM 3 3,sqHi exB (statesM exB) (bitsM 3 3))=false:=by decide +kernel
theorem x_plan {bt:List Int×Int→List Int×Int→Bool} {c:Nat} (hbt:bt=cheaperM∨bt=shorterM) (h:PlanA exB (statesM exB) bt c):bitsM c exB.seams.length=[0,1]∧sqHi exB (statesM exB) (bitsM c exB.seams.length)=13:=by
 obtain ⟨h0,h1,h2,h3⟩:=h
 have e3:exB.seams.length=3:=rfl
 rw [e3] at h1 h2 h3 ⊢
 by_cases hc:c=3
 ·subst hc
  exact ⟨x_bits3,x_hi3.2⟩
 ·exfalso
  have h8:c<8:=h1
  obtain ⟨q1,q2,q3⟩:=x_best ⟨c,h8⟩ h0 h2 hc
  rcases h3 3 (by decide) (by decide) x_hi3.1 with h | h
  ·exact q1 h
  ·rcases hbt with rfl | rfl
   ·rw [q2] at h; cases h
   ·rw [q3] at h; cases h
theorem x_noplan (h:NoPlan exB (statesM exB)):False:=by
 have:=h 3 (by decide) (by decide)
 have e3:exB.seams.length=3:=rfl
 rw [e3,x_hi3.1] at this
 cases this
theorem or2 {x:Int} {A B:Prop} (h:(x≠0∧A)∨(x=0∧B)) (hx:x=0):B:=by
 rcases h with ⟨h,_⟩ | ⟨_,h⟩
 ·exact absurd hx h
 ·exact h
theorem or3 {x:Int} {A B C D:Prop} (h:(x≠0∧A)∨(x=0∧D∧B)∨(x=0∧¬ D∧C)) (hx:x=0) (hd:¬ D):C:=by
 rcases h with ⟨h,_⟩ | ⟨_,h,_⟩ | ⟨_,_,h⟩
 ·exact absurd hx h
 ·exact absurd h hd
 ·exact h
theorem or3b {x:Int} {A B C D:Prop} (h:(x≠0∧A)∨(x=0∧D∧B)∨(x=0∧C)) (hx:x=0) (hd:¬ D):C:=by
 rcases h with ⟨h,_⟩ | ⟨_,h,_⟩ | ⟨_,h⟩
 ·exact absurd hx h
 ·exact absurd h hd
 ·exact h
theorem or3c {x:Int} {y:Bool} {A B C:Prop} (h:(x≠0∧A)∨(x=0∧y=false∧B)∨(x=0∧y=true∧C)) (hx:x=0) (hy:y=true):C:=by
 rcases h with ⟨h,_⟩ | ⟨_,h,_⟩ | ⟨_,_,h⟩
 ·exact absurd hx h
 ·rw [hy] at h; cases h
 ·exact h
theorem or4 {x u v:Int} {y:Bool} {A B C D:Prop} (h:(x≠0∧A)∨(x=0∧y=false∧B)∨(x=0∧y=true∧u<v∧C)∨(x=0∧y=true∧v≤u∧D)) (hx:x=0∧y=true∧v≤u):D:=by
 obtain ⟨h1,h2,h3⟩:=hx
 rcases h with ⟨h,_⟩ | ⟨_,h,_⟩ | ⟨_,_,h,_⟩ | ⟨_,_,_,h⟩
 ·exact absurd h1 h
 ·rw [h2] at h; cases h
 ·omega
 ·exact h
theorem or4c {x u v:Int} {y:Bool} {A B C D:Prop} (h:(x≠0∧A)∨(x=0∧y=false∧B)∨(x=0∧y=true∧u<v∧C)∨(x=0∧y=true∧v≤u∧D)) (hx:x=0∧y=true∧u<v):C:=by
 obtain ⟨h1,h2,h3⟩:=hx
 rcases h with ⟨h,_⟩ | ⟨_,h,_⟩ | ⟨_,_,_,h⟩ | ⟨_,_,h,_⟩
 ·exact absurd h1 h
 ·rw [h2] at h; cases h
 ·exact h
 ·omega
theorem orCl {x:Int} {A B C D E F:Prop} (h:(x≠0∧A)∨(x=0∧¬ D∧B)∨(x=0∧D∧E∧C)∨(x=0∧D∧F)) (hx:x=0) (hd:D) (he:¬ E):F:=by
 rcases h with ⟨h,_⟩ | ⟨_,h,_⟩ | ⟨_,_,h,_⟩ | ⟨_,_,h⟩
 ·exact absurd hx h
 ·exact absurd hd h
 ·exact absurd h he
 ·exact h
theorem trT {r:AV} {P Q:Prop} [Decidable P] (h:r=boolA (decide P)∧Q) (hp:P):r=boolA true∧Q:=⟨by rw [h.1,decide_eq_true hp],h.2⟩
theorem ints_pre {xs zs:List Int} {i:Nat} {x:Int} {e:TypeId} {rw':Bool} (h:xs[i]? =some x):takeO (.cells ((xs++zs).map intA) e rw') (0+(i:Int).toNat*1) 1=some [intA x]:=ints_at (by rw [List.getElem?_append_left (List.getElem?_eq_some_iff.1 h).1]; exact h) rfl
theorem x_v12:sqLo exB (statesM exB) [1,2]=9∧sqHi exB (statesM exB) [1,2]=15∧sqOk exB (statesM exB) [1,2]=true:=by
 unfold sqLo sqHi sqOk
 rw [x_sq12]
 exact ⟨rfl,rfl,rfl⟩
theorem x_v02:sqLo exB (statesM exB) [0,2]=0∧sqHi exB (statesM exB) [0,2]=0∧sqOk exB (statesM exB) [0,2]=false:=by
 unfold sqLo sqHi sqOk
 rw [x_sq02]
 exact ⟨rfl,rfl,rfl⟩
theorem agr3 {b:RBk} {K:KV} {r:AV} {K':KV} (h:AgrR b K r K') (hx:checkM b=0) (hn:statesM b≠[]):∃ s h e,r=.tup [.agg (rollC b s h e),intA 0]∧K'=(s,seamO b)::(h,shrO b)::(e,measO b)::K:=or3 h hx hn
end Go.Vel
end
section
set_option linter.all false
set_option maxRecDepth 20000
set_option maxHeartbeats 60000000
namespace Go.Vel
open Go Go.Conc Go.Proofs
instance:BlOf Tryz.prog 49 [(0,1),(1,1),(2,1)]:=⟨by kernel_rfl⟩
instance:Cal Tryz.prog 20:=⟨by kernel_rfl⟩
instance:Cal Tryz.prog 22:=⟨by kernel_rfl⟩
instance:Cal Tryz.prog 26:=⟨by kernel_rfl⟩
instance:Cal Tryz.prog 27:=⟨by kernel_rfl⟩
instance:Cal Tryz.prog 30:=⟨by kernel_rfl⟩
instance:Cal Tryz.prog 32:=⟨by kernel_rfl⟩
instance:Cal Tryz.prog 34:=⟨by kernel_rfl⟩
instance:Cal Tryz.prog 36:=⟨by kernel_rfl⟩
instance:Cal Tryz.prog 38:=⟨by kernel_rfl⟩
instance:Cal Tryz.prog 40:=⟨by kernel_rfl⟩
instance:Cal Tryz.prog 42:=⟨by kernel_rfl⟩
instance:Cal Tryz.prog 45:=⟨by kernel_rfl⟩
instance:Cal Tryz.prog 47:=⟨by kernel_rfl⟩
instance:Cal Tryz.prog 51:=⟨by kernel_rfl⟩
instance:Cal Tryz.prog 52:=⟨by kernel_rfl⟩
instance:Cal Tryz.prog 53:=⟨by kernel_rfl⟩
instance:Cal Tryz.prog 54:=⟨by kernel_rfl⟩
instance:Cal Tryz.prog 59:=⟨by kernel_rfl⟩
instance:Cal Tryz.prog 70:=⟨by kernel_rfl⟩
instance:Cal Tryz.prog 88:=⟨by kernel_rfl⟩
instance:Cal Tryz.prog 89:=⟨by kernel_rfl⟩
instance:EqG Tryz.prog 51:=⟨by kernel_rfl⟩
instance:FlatF Tryz.prog 51 [(3,0),(3,1)]:=⟨by kernel_rfl⟩
instance {a0 a1 a2 a3 a4 a5 a6 a7 a8 a9 a10 a11 a12 a13 a14 a15 a16 a17 a18 a19 a20 a21 a22 a23 a24 a25 a26 a27 a28 a29 a30 a31 a32 a33 a34 a35 a36 a37:Oper}:RgL #[a0,a1,a2,a3,a4,a5,a6,a7,a8,a9,a10,a11,a12,a13,a14,a15,a16,a17,a18,a19,a20,a21,a22,a23,a24,a25,a26,a27,a28,a29,a30,a31,a32,a33,a34,a35,a36,a37] [0,1,2,3,4,5,6,7,8,9,10,11,12,13,14,15,16,17,18,19,20,21,22,23,24,25,26,27,28,29,30,31,32,33,34,35,36,37]:=⟨rfl⟩
theorem hung_ok {Ψ:Goroutine→World→Prop}  :
  CallK Tryz.prog (BT Tryz.prog Ψ) gmR 19 [] [(0,checksG)] (fun r K'=>r=boolA true∧K'=[(0,checksG)]):=by
 have hT:=shut_BT (P:=Tryz.prog) Ψ
 refine callK_in 407 hT Tryz.func19 fun Y hret=>?_
 refine au [4,5,2,3,4,5] ?_
 refine TK.cl rfl rfl rfl rfl (example_ok hT) ?_
 rintro r1 K2 ⟨s,h,e,rfl,rfl⟩
 refine au [22] ?_
 intro j1 hj1
 refine au [17,3,4] ?_
 refine TK.kp [(0,_),(s,_),(h,_),(e,_),(j1,_)] ?_
 refine au [5,8] ?_
 refine TK.newR rfl rfl rfl (n_buildSlice (l:=[_,_]) rfl SlEl.h TyZ.h (by decide) (by decide) rfl) (fun _=>putS rfl (by simp only [List.set]; rfl)) fun ja2 hja2=>?_
 refine TK.asSl 35 rfl (by repeat (first | exact List.Mem.head _ | assumption | apply List.Mem.tail)) ?_
 refine TK.frzRow (j:=ja2) ?_
 refine au [] ?_
 refine TK.cl rfl rfl rfl rfl ((cut_ok hT (b:=exB) (l:=[1,2]) x_len.1 x_len.2 (by decide)).mono (fun _ _ h=>or2 h x_cut12)) ?_
 rintro r4 K5 ⟨jr,rfl,rfl⟩
 refine au [] ?_
 rw [x_strips]
 refine au [1,10,10,2,2,3,4] ?_
 refine TK.asSl 2 rfl (by repeat (first | exact List.Mem.head _ | assumption | apply List.Mem.tail)) ?_
 refine TK.frzRow (j:=jr) ?_
 refine au [] ?_
 refine TK.kp [(0,_),(s,_),(h,_),(e,_),(j1,_),(jr,_)] ?_
 refine au [5,8] ?_
 refine TK.newR rfl rfl rfl (n_buildSlice (l:=[_,_]) rfl SlEl.h TyZ.h (by decide) (by decide) rfl) (fun _=>putS rfl (by simp only [List.set]; rfl)) fun ja3 hja3=>?_
 refine TK.asSl 41 rfl (by repeat (first | exact List.Mem.head _ | assumption | apply List.Mem.tail)) ?_
 refine TK.frzRow (j:=ja3) ?_
 refine au [] ?_
 refine TK.cl rfl rfl rfl rfl (fitsApi_ok hT (b:=exB) (l:=[0,1]) x_len.1 x_len.2 (by decide)) ?_
 rintro r7 K8 ⟨rfl,rfl⟩
 refine au [] ?_
 rw [x_cut01,x_fits01]
 refine au [1,10,10,2,2,3,4] ?_
 refine TK.kp [(0,_),(s,_),(h,_),(e,_),(j1,_),(jr,_)] ?_
 refine au [5,8] ?_
 refine TK.newR rfl rfl rfl (n_buildSlice (l:=[_,_]) rfl SlEl.h TyZ.h (by decide) (by decide) rfl) (fun _=>putS rfl (by simp only [List.set]; rfl)) fun ja4 hja4=>?_
 refine TK.asSl 47 rfl (by repeat (first | exact List.Mem.head _ | assumption | apply List.Mem.tail)) ?_
 refine TK.frzRow (j:=ja4) ?_
 refine au [] ?_
 refine TK.cl rfl rfl rfl rfl (fitsApi_ok hT (b:=exB) (l:=[0,2]) x_len.1 x_len.2 (by decide)) ?_
 rintro r10 K11 ⟨rfl,rfl⟩
 refine au [] ?_
 rw [x_cut02,x_fits02]
 refine au [1,10,10,2,2,3,4] ?_
 refine TK.kp [(0,_),(s,_),(h,_),(e,_),(j1,_),(jr,_)] ?_
 refine au [5,8] ?_
 refine TK.newR rfl rfl rfl (n_buildSlice (l:=[_,_]) rfl SlEl.h TyZ.h (by decide) (by decide) rfl) (fun _=>putS rfl (by simp only [List.set]; rfl)) fun ja5 hja5=>?_
 refine TK.newR rfl rfl rfl (n_buildSlice (l:=[_,_,_]) rfl SlEl.h TyZ.h (by decide) (by decide) rfl) (fun _=>putS rfl (by simp only [List.set]; rfl)) fun jb5 hjb5=>?_
 refine TK.asSl 53 rfl (by repeat (first | exact List.Mem.head _ | assumption | apply List.Mem.tail)) ?_
 refine TK.frzRow (j:=ja5) ?_
 refine au [] ?_
 refine TK.asSl 54 rfl (by repeat (first | exact List.Mem.head _ | assumption | apply List.Mem.tail)) ?_
 refine TK.frzRow (j:=jb5) ?_
 refine au [] ?_
 refine TK.cl rfl rfl rfl rfl ((hangApi_ok hT (b:=exB) (l:=[0,1]) (st:=[1,0,1]) x_len.1 x_len.2 (by decide)).mono (fun _ _ h=>or3b h x_h1 (by rw [x_hang1]; exact fun h=>nomatch h))) ?_
 rintro r13 K14 ⟨w5,q5,jw,hw,rfl,rfl⟩
 refine au [] ?_
 rw [x_hang1] at hw
 cases hw
 refine au [1,10,10,10,10,2,2,2,2,3,4] ?_
 refine TK.kp [(0,_),(s,_),(h,_),(e,_),(j1,_),(jr,_),(jw,_)] ?_
 refine au [5,8] ?_
 refine TK.newR rfl rfl rfl (n_buildSlice (l:=[_,_]) rfl SlEl.h TyZ.h (by decide) (by decide) rfl) (fun _=>putS rfl (by simp only [List.set]; rfl)) fun ja6 hja6=>?_
 refine TK.newR rfl rfl rfl (n_buildSlice (l:=[_,_,_]) rfl SlEl.h TyZ.h (by decide) (by decide) rfl) (fun _=>putS rfl (by simp only [List.set]; rfl)) fun jb6 hjb6=>?_
 refine TK.asSl 62 rfl (by repeat (first | exact List.Mem.head _ | assumption | apply List.Mem.tail)) ?_
 refine TK.frzRow (j:=ja6) ?_
 refine au [] ?_
 refine TK.asSl 63 rfl (by repeat (first | exact List.Mem.head _ | assumption | apply List.Mem.tail)) ?_
 refine TK.frzRow (j:=jb6) ?_
 refine au [] ?_
 refine TK.cl rfl rfl rfl rfl ((placesApi_ok hT (b:=exB) (l:=[0,1]) (st:=[0,0,1]) x_len.1 x_len.2 (by decide)).mono (fun _ _ h=>or3b h x_h2 (by rw [x_hang2]; exact fun h=>nomatch h))) ?_
 rintro r16 K17 ⟨w6,q6,jp,hw,rfl,rfl⟩
 refine au [] ?_
 rw [x_hang2] at hw
 cases hw
 rw [x_places]
 refine au [1,10,10,10,2,2,2,3,4] ?_
 refine TK.asSl 12 rfl (by repeat (first | exact List.Mem.head _ | assumption | apply List.Mem.tail)) ?_
 refine TK.frzRow (j:=jp) ?_
 refine au [] ?_
 refine TK.kp [(0,_),(s,_),(h,_),(e,_),(j1,_),(jr,_),(jw,_),(jp,_)] ?_
 refine au [5,8] ?_
 refine TK.cl rfl rfl rfl rfl (statesApi_ok hT (b:=exB) x_len.1 x_len.2) ?_
 rintro r19 K20 ⟨rfl,rfl⟩
 refine au [] ?_
 rw [x_check,if_pos rfl,x_states]
 refine au [1,10,10,2,2,3,4] ?_
 refine TK.kp [(0,_),(s,_),(h,_),(e,_),(j1,_),(jr,_),(jw,_),(jp,_)] ?_
 refine au [5,8] ?_
 refine TK.cl rfl rfl rfl rfl ((shrinks_ok hT (b:=exB) (n:=2) x_len.1 x_len.2 (by rw [x_states]; decide)).mono (fun _ _ h=>or3 h x_th2 x_ne)) ?_
 rintro r22 K23 ⟨js8,zs8,rfl,rfl⟩
 refine au [] ?_
 rw [x_shr2]
 refine au [1,10,10,2,2,3,4] ?_
 refine TK.kp [(0,_),(s,_),(h,_),(e,_),(j1,_),(jr,_),(jw,_),(jp,_),(js8,_)] ?_
 refine au [5,8] ?_
 refine TK.cl rfl rfl rfl rfl ((new_ok hT (b:=exB) x_len.1 x_len.2).mono (fun _ _ h=>or3 h x_check x_ne)) ?_
 rintro r25 K26 ⟨rfl,rfl⟩
 refine au [] ?_
 rw [x_new]
 refine au [1,10,10,22] ?_
 intro j19 hj19
 refine au [17,2,3,4] ?_
 refine TK.kp [(0,_),(s,_),(h,_),(e,_),(j1,_),(jr,_),(jw,_),(jp,_),(js8,_),(j19,_)] ?_
 refine au [5,8] ?_
 refine TK.newR rfl rfl rfl (n_buildSlice (l:=[_,_]) rfl SlEl.h TyZ.h (by decide) (by decide) rfl) (fun _=>putS rfl (by simp only [List.set]; rfl)) fun ja10 hja10=>?_
 refine TK.asSl 85 rfl (by repeat (first | exact List.Mem.head _ | assumption | apply List.Mem.tail)) ?_
 refine TK.frzRow (j:=ja10) ?_
 refine au [] ?_
 refine TK.cl rfl rfl rfl rfl ((can_ok hT (b:=exB) (l:=[0,1]) x_len.1 x_len.2 (by decide)).mono (fun _ _ h=>or3 h x_cut01 x_ne)) ?_
 rintro r28 K29 ⟨rfl,rfl⟩
 refine au [] ?_
 rw [x_can01]
 refine au [1,10,10,2,2,3,4] ?_
 refine TK.kp [(0,_),(s,_),(h,_),(e,_),(j1,_),(jr,_),(jw,_),(jp,_),(js8,_),(j19,_)] ?_
 refine au [5,8] ?_
 refine TK.newR rfl rfl rfl (n_buildSlice (l:=[_,_]) rfl SlEl.h TyZ.h (by decide) (by decide) rfl) (fun _=>putS rfl (by simp only [List.set]; rfl)) fun ja11 hja11=>?_
 refine TK.asSl 91 rfl (by repeat (first | exact List.Mem.head _ | assumption | apply List.Mem.tail)) ?_
 refine TK.frzRow (j:=ja11) ?_
 refine au [] ?_
 refine TK.cl rfl rfl rfl rfl ((can_ok hT (b:=exB) (l:=[0,2]) x_len.1 x_len.2 (by decide)).mono (fun _ _ h=>or3 h x_cut02 x_ne)) ?_
 rintro r31 K32 ⟨rfl,rfl⟩
 refine au [] ?_
 rw [x_can02]
 refine au [1,10,10,2,2,3,4,4] ?_
 refine TK.kp [(0,_),(s,_),(h,_),(e,_),(j1,_),(jr,_),(jw,_),(jp,_),(js8,_),(j19,_)] ?_
 refine au [5,1,6,1,1,6,25,1,1,6,25,1,1,6,25,1,1,6,25,1,1,6,25,1,1,6,25,1,1,6,25,1,1,6,25,1,1,6,25,3,19,12,4,4] ?_
 refine TK.kp [(0,_),(s,_),(h,_),(e,_),(j1,_),(jr,_),(jw,_),(jp,_),(js8,_),(j19,_)] ?_
 refine TK.draw [0,1,2,3,4,5,6,7,8,9,10,11,12,13,14,15,16,17,18,19,20,21,22,23,24,25,26,27,28,29,30,31,32,33,34,35,36,37,38,39,40,41,42,43,44,45,46,47,48,49,50,51,52,53,54,55,56,57,58,59] [0,1,2,3,4,5,6,7,8,9,10,11,12,13,14,15,16,17,18,19,20,21,22,23,24,25,26,27,28,29,30,31,32,33,34,35,36,37,38,39,40,41,42,43,44,45,46,47,48,49,50,51,52,53,54,55,56,57,58,59] (by kernel_rfl) (by kernel_rfl) ?_
 refine TD.z [2] rfl (q_move rfl rfl) ?_
 refine TD.z [] rfl (q_build (l:=[_,_]) rfl TyZ.h BlOf.h rfl) ?_
 refine TD.z [] rfl (q_build (l:=[_,_]) rfl TyZ.h BlOf.h rfl) ?_
 refine TD.cnewR (pend':=[Pd.mk 0 [2] []]) [134,135] rfl rfl rfl (pendS (es:=[1,2]) rfl rfl) rfl (n_buildSlice (l:=[_,_,_,_]) rfl SlEl.h TyZ.h (by decide) (by decide) rfl) (fun _=>putS rfl (by simp only [List.set]; rfl)) (by simp) fun jy1 hjy1=>?_
 refine TD.cl (pend':=[]) [133,136] rfl (pendS (es:=[0,3]) rfl rfl) rfl rfl rfl ((sameStripsR_ok hT (xs:=[(1,4),(2,8)]) (ys:=[(1,4),(2,8)]) (off:=0) (ob:=.cells (([(1,4),(2,8)]:List (Int×Int)).flatMap pairC) 96 false) (fun i x hx=>flat_at (c:=2) (f:=pairC) (fun _=>rfl) hx rfl (by decide)) (by decide)).mono (fun _ _ h=>trT h rfl)) (fun r34 K35 h36=>⟨?_,?_⟩)
 ·rcases h36 with ⟨rfl,rfl⟩
  all_goals simp
 obtain ⟨rfl,rfl⟩:=h36
 try simp only [List.cons_append,List.nil_append]
 refine TD.norm (by simp only [List.set]; rfl) ?_
 refine TD.z [137] rfl (q_not rfl rfl) ?_
 refine TD.z [138] rfl (q_move rfl rfl) ?_
 refine TD.z [4,139] rfl (q_move rfl rfl) ?_
 refine TD.z [139,140] rfl (q_not rfl rfl) ?_
 refine TD.z [139,141] rfl (q_pickF rfl rfl rfl) ?_
 refine TD.z [142] rfl (q_move rfl rfl) ?_
 refine TD.z [6,143] rfl (q_move rfl rfl) ?_
 refine TD.z [143,144] rfl (q_pickF rfl rfl rfl) ?_
 refine TD.z [145] rfl (q_move rfl rfl) ?_
 refine TD.z [8,146] rfl (q_move rfl rfl) ?_
 refine TD.cnewR (pend':=[Pd.mk 14 [8,146] [],Pd.mk 12 [143,144] [],Pd.mk 11 [6,143] [],Pd.mk 10 [142] [],Pd.mk 9 [139,141] [],Pd.mk 8 [139,140] [],Pd.mk 7 [4,139] [],Pd.mk 6 [138] [],Pd.mk 5 [137] []]) [146] rfl rfl rfl (pendS (es:=[13]) rfl rfl) rfl (n_buildSlice (l:=[_,_]) rfl SlEl.h TyZ.h (by decide) (by decide) rfl) (fun _=>putS rfl (by simp only [List.set]; rfl)) (by simp) fun jy2 hjy2=>?_
 refine TD.cl (pend':=[Pd.mk 12 [143,144] [],Pd.mk 11 [6,143] [],Pd.mk 10 [142] [],Pd.mk 9 [139,141] [],Pd.mk 8 [139,140] [],Pd.mk 7 [4,139] [],Pd.mk 6 [138] [],Pd.mk 5 [137] []]) [146,147,148] rfl (pendS (es:=[14,15,13,13]) rfl rfl) rfl rfl rfl ((list_ok hT (xs:=[3,2]) (ys:=[3,2]) (off:=0) (ob:=.cells (([3,2]:List Int).map intA) 3 false) (fun i x hx=>ints_at hx rfl) (by decide)).mono (fun _ _ h=>trT h rfl)) (fun r37 K38 h39=>⟨?_,?_⟩)
 ·rcases h39 with ⟨rfl,rfl⟩
  all_goals simp
 obtain ⟨rfl,rfl⟩:=h39
 try simp only [List.cons_append,List.nil_append]
 refine TD.norm (by simp only [List.set]; rfl) ?_
 refine TD.z [146,149] rfl (q_not rfl rfl) ?_
 refine TD.z [146,150] rfl (q_pickF rfl rfl rfl) ?_
 refine TD.z [151] rfl (q_move rfl rfl) ?_
 refine TD.z [9,152] rfl (q_move rfl rfl) ?_
 refine TD.z [152,153] rfl (q_cmp rfl rfl rfl rfl) ?_
 refine TD.z [152,154] rfl (q_pickF rfl rfl rfl) ?_
 refine TD.z [155] rfl (q_move rfl rfl) ?_
 refine TD.z [10,156] rfl (q_move rfl rfl) ?_
 refine TD.z [156,157] rfl (q_not rfl rfl) ?_
 refine TD.z [156,158] rfl (q_pickF rfl rfl rfl) ?_
 refine TD.z [159] rfl (q_move rfl rfl) ?_
 refine TD.z [12,160] rfl (q_move rfl rfl) ?_
 refine TD.cnewR (pend':=[Pd.mk 28 [12,160] [],Pd.mk 26 [156,158] [],Pd.mk 25 [156,157] [],Pd.mk 24 [10,156] [],Pd.mk 23 [155] [],Pd.mk 22 [152,154] [],Pd.mk 21 [152,153] [],Pd.mk 20 [9,152] [],Pd.mk 19 [151] [],Pd.mk 18 [146,150] [],Pd.mk 17 [146,149] [],Pd.mk 12 [143,144] [],Pd.mk 11 [6,143] [],Pd.mk 10 [142] [],Pd.mk 9 [139,141] [],Pd.mk 8 [139,140] [],Pd.mk 7 [4,139] [],Pd.mk 6 [138] [],Pd.mk 5 [137] []]) [160] rfl rfl rfl (pendS (es:=[27]) rfl rfl) rfl (n_buildSlice (l:=[_,_]) rfl SlEl.h TyZ.h (by decide) (by decide) rfl) (fun _=>putS rfl (by simp only [List.set]; rfl)) (by simp) fun jy3 hjy3=>?_
 refine TD.cl (pend':=[Pd.mk 26 [156,158] [],Pd.mk 25 [156,157] [],Pd.mk 24 [10,156] [],Pd.mk 23 [155] [],Pd.mk 22 [152,154] [],Pd.mk 21 [152,153] [],Pd.mk 20 [9,152] [],Pd.mk 19 [151] [],Pd.mk 18 [146,150] [],Pd.mk 17 [146,149] [],Pd.mk 12 [143,144] [],Pd.mk 11 [6,143] [],Pd.mk 10 [142] [],Pd.mk 9 [139,141] [],Pd.mk 8 [139,140] [],Pd.mk 7 [4,139] [],Pd.mk 6 [138] [],Pd.mk 5 [137] []]) [160,161,162] rfl (pendS (es:=[28,29,27,27]) rfl rfl) rfl rfl rfl ((list_ok hT (xs:=[0,7]) (ys:=[0,7]) (off:=0) (ob:=.cells (([0,7]:List Int).map intA) 3 false) (fun i x hx=>ints_at hx rfl) (by decide)).mono (fun _ _ h=>trT h rfl)) (fun r40 K41 h42=>⟨?_,?_⟩)
 ·rcases h42 with ⟨rfl,rfl⟩
  all_goals simp
 obtain ⟨rfl,rfl⟩:=h42
 try simp only [List.cons_append,List.nil_append]
 refine TD.norm (by simp only [List.set]; rfl) ?_
 refine TD.z [160,163] rfl (q_not rfl rfl) ?_
 refine TD.z [160,164] rfl (q_pickF rfl rfl rfl) ?_
 refine TD.z [165] rfl (q_move rfl rfl) ?_
 refine TD.z [13,166] rfl (q_move rfl rfl) ?_
 refine TD.z [166,167] rfl (q_not rfl rfl) ?_
 refine TD.z [166,168] rfl (q_pickF rfl rfl rfl) ?_
 refine TD.z [169] rfl (q_move rfl rfl) ?_
 refine TD.z [15,170] rfl (q_move rfl rfl) ?_
 refine TD.z [170,171] rfl (q_cmp rfl rfl rfl rfl) ?_
 refine TD.z [170,172] rfl (q_pickF rfl rfl rfl) ?_
 refine TD.z [173] rfl (q_move rfl rfl) ?_
 refine TD.z [17,174] rfl (q_move rfl rfl) ?_
 refine TD.cnewR (pend':=[Pd.mk 42 [17,174] [],Pd.mk 40 [170,172] [],Pd.mk 39 [170,171] [],Pd.mk 38 [15,170] [],Pd.mk 37 [169] [],Pd.mk 36 [166,168] [],Pd.mk 35 [166,167] [],Pd.mk 34 [13,166] [],Pd.mk 33 [165] [],Pd.mk 32 [160,164] [],Pd.mk 31 [160,163] [],Pd.mk 26 [156,158] [],Pd.mk 25 [156,157] [],Pd.mk 24 [10,156] [],Pd.mk 23 [155] [],Pd.mk 22 [152,154] [],Pd.mk 21 [152,153] [],Pd.mk 20 [9,152] [],Pd.mk 19 [151] [],Pd.mk 18 [146,150] [],Pd.mk 17 [146,149] [],Pd.mk 12 [143,144] [],Pd.mk 11 [6,143] [],Pd.mk 10 [142] [],Pd.mk 9 [139,141] [],Pd.mk 8 [139,140] [],Pd.mk 7 [4,139] [],Pd.mk 6 [138] [],Pd.mk 5 [137] []]) [174] rfl rfl rfl (pendS (es:=[41]) rfl rfl) rfl (n_buildSlice (l:=[_,_]) rfl SlEl.h TyZ.h (by decide) (by decide) rfl) (fun _=>putS rfl (by simp only [List.set]; rfl)) (by simp) fun jy4 hjy4=>?_
 refine TD.cl (pend':=[Pd.mk 40 [170,172] [],Pd.mk 39 [170,171] [],Pd.mk 38 [15,170] [],Pd.mk 37 [169] [],Pd.mk 36 [166,168] [],Pd.mk 35 [166,167] [],Pd.mk 34 [13,166] [],Pd.mk 33 [165] [],Pd.mk 32 [160,164] [],Pd.mk 31 [160,163] [],Pd.mk 26 [156,158] [],Pd.mk 25 [156,157] [],Pd.mk 24 [10,156] [],Pd.mk 23 [155] [],Pd.mk 22 [152,154] [],Pd.mk 21 [152,153] [],Pd.mk 20 [9,152] [],Pd.mk 19 [151] [],Pd.mk 18 [146,150] [],Pd.mk 17 [146,149] [],Pd.mk 12 [143,144] [],Pd.mk 11 [6,143] [],Pd.mk 10 [142] [],Pd.mk 9 [139,141] [],Pd.mk 8 [139,140] [],Pd.mk 7 [4,139] [],Pd.mk 6 [138] [],Pd.mk 5 [137] []]) [174,175,176] rfl (pendS (es:=[42,43,41,41]) rfl rfl) rfl rfl rfl ((list_ok hT (xs:=[0,1]) (ys:=[0,1]) (off:=0) (ob:=.cells (([0,1]++zs8).map intA) 3 false) (fun i x hx=>ints_pre hx) (by decide)).mono (fun _ _ h=>trT h rfl)) (fun r43 K44 h45=>⟨?_,?_⟩)
 ·rcases h45 with ⟨rfl,rfl⟩
  all_goals simp
 obtain ⟨rfl,rfl⟩:=h45
 try simp only [List.cons_append,List.nil_append]
 refine TD.norm (by simp only [List.set]; rfl) ?_
 refine TD.z [174,177] rfl (q_not rfl rfl) ?_
 refine TD.z [174,178] rfl (q_pickF rfl rfl rfl) ?_
 refine TD.z [179] rfl (q_move rfl rfl) ?_
 refine TD.y [19,180] rfl (hq:=q_load rfl rfl TySz.h (List.Mem.head _) rfl) (h:=?_)
 refine TD.cl (pend':=[Pd.mk 48 [19,180] [(_,_)],Pd.mk 46 [174,178] [],Pd.mk 45 [174,177] [],Pd.mk 40 [170,172] [],Pd.mk 39 [170,171] [],Pd.mk 38 [15,170] [],Pd.mk 37 [169] [],Pd.mk 36 [166,168] [],Pd.mk 35 [166,167] [],Pd.mk 34 [13,166] [],Pd.mk 33 [165] [],Pd.mk 32 [160,164] [],Pd.mk 31 [160,163] [],Pd.mk 26 [156,158] [],Pd.mk 25 [156,157] [],Pd.mk 24 [10,156] [],Pd.mk 23 [155] [],Pd.mk 22 [152,154] [],Pd.mk 21 [152,153] [],Pd.mk 20 [9,152] [],Pd.mk 19 [151] [],Pd.mk 18 [146,150] [],Pd.mk 17 [146,149] [],Pd.mk 12 [143,144] [],Pd.mk 11 [6,143] [],Pd.mk 10 [142] [],Pd.mk 9 [139,141] [],Pd.mk 8 [139,140] [],Pd.mk 7 [4,139] [],Pd.mk 6 [138] [],Pd.mk 5 [137] []]) [180] rfl (pendS (es:=[47,47]) rfl rfl) rfl rfl rfl (to_ok hT) (fun r46 K47 h48=>⟨?_,?_⟩)
 ·rcases h48 with ⟨rfl,rfl⟩
  all_goals simp
 obtain ⟨rfl,rfl⟩:=h48
 try simp only [List.cons_append,List.nil_append]
 refine TD.norm (by simp only [List.set]; rfl) ?_
 refine TD.z [180,181,182] rfl (q_neqFlat rfl rfl rfl rfl rfl FlatF.h EqG.h) ?_
 refine TD.z [180,183] rfl (q_pickF rfl rfl rfl) ?_
 refine TD.z [184] rfl (q_move rfl rfl) ?_
 refine TD.z [21,185] rfl (q_move rfl rfl) ?_
 refine TD.z [185,186] rfl (q_cmp rfl rfl rfl rfl) ?_
 refine TD.z [185,187] rfl (q_pickF rfl rfl rfl) ?_
 refine TD.z [188] rfl (q_move rfl rfl) ?_
 refine TD.z [23,189] rfl (q_move rfl rfl) ?_
 refine TD.z [189,190] rfl (q_cmp rfl rfl rfl rfl) ?_
 refine TD.z [189,191] rfl (q_pickF rfl rfl rfl) ?_
 refine TD.fin ?_
 refine au [19,12,4] ?_
 refine TK.kp [(0,_),(s,_),(h,_),(e,_),(j1,_),(j19,_)] ?_
 refine au [5,8] ?_
 refine TK.cl rfl rfl rfl rfl ((hall_ok hT (b:=exB) (r0:=16) x_len.1 x_len.2).mono (fun _ _ h=>or3c h x_check x_hall)) ?_
 rintro r49 K50 ⟨s6,h6,e6,rfl,rfl⟩
 refine au [1,10,10,22] ?_
 intro j25 hj25
 refine au [17,2,3,4] ?_
 refine TK.kp [(0,_),(s,_),(h,_),(e,_),(j1,_),(j19,_),(s6,_),(h6,_),(e6,_),(j25,_)] ?_
 refine au [5,8] ?_
 refine TK.newR rfl rfl rfl (n_buildSlice (l:=[_,_]) rfl SlEl.h TyZ.h (by decide) (by decide) rfl) (fun _=>putS rfl (by simp only [List.set]; rfl)) fun ja17 hja17=>?_
 refine TK.asSl 200 rfl (by repeat (first | exact List.Mem.head _ | assumption | apply List.Mem.tail)) ?_
 refine TK.frzRow (j:=ja17) ?_
 refine au [] ?_
 refine TK.cl rfl rfl rfl rfl ((can_ok hT (b:=atRound exB 16) (s:=s6) (h:=h6) (e:=e6) (l:=[0,1]) (by decide) (by decide) (by decide)).mono (fun _ _ h=>or3 h x_c16b x_ne16)) ?_
 rintro r52 K53 ⟨rfl,rfl⟩
 refine au [] ?_
 rw [x_can16]
 refine au [1,10,10,2,2,3,4] ?_
 refine TK.kp [(0,_),(s,_),(h,_),(e,_),(j1,_),(j19,_)] ?_
 refine au [5,8] ?_
 refine TK.newR rfl rfl rfl (n_buildSlice (l:=[_,_]) rfl SlEl.h TyZ.h (by decide) (by decide) rfl) (fun _=>putS rfl (by simp only [List.set]; rfl)) fun ja18 hja18=>?_
 refine TK.asSl 206 rfl (by repeat (first | exact List.Mem.head _ | assumption | apply List.Mem.tail)) ?_
 refine TK.frzRow (j:=ja18) ?_
 refine au [] ?_
 refine TK.cl rfl rfl rfl rfl ((squaresApi_ok hT (b:=exB) (l:=[1,2]) x_len.1 x_len.2 (by decide)).mono (fun _ _ h=>or3 h x_cut12 x_ne)) ?_
 rintro r55 K56 ⟨rfl,rfl⟩
 refine au [] ?_
 rw [x_v12.1,x_v12.2.1,x_v12.2.2,show (if true=true then (0:Int) else 8)=0 from rfl]
 refine au [1,10,10,17,2,3,4] ?_
 refine TK.kp [(0,_),(s,_),(h,_),(e,_),(j1,_),(j19,_)] ?_
 refine au [5,8] ?_
 refine TK.newR rfl rfl rfl (n_buildSlice (l:=[_,_]) rfl SlEl.h TyZ.h (by decide) (by decide) rfl) (fun _=>putS rfl (by simp only [List.set]; rfl)) fun ja19 hja19=>?_
 refine TK.asSl 212 rfl (by repeat (first | exact List.Mem.head _ | assumption | apply List.Mem.tail)) ?_
 refine TK.frzRow (j:=ja19) ?_
 refine au [] ?_
 refine TK.cl rfl rfl rfl rfl ((squaresApi_ok hT (b:=exB) (l:=[0,2]) x_len.1 x_len.2 (by decide)).mono (fun _ _ h=>or3 h x_cut02 x_ne)) ?_
 rintro r58 K59 ⟨rfl,rfl⟩
 refine au [] ?_
 rw [x_v02.1,x_v02.2.1,x_v02.2.2,show (if false=true then (0:Int) else 8)=8 from rfl]
 refine au [1,10,10,2,3,4] ?_
 refine TK.kp [(0,_),(s,_),(h,_),(e,_),(j1,_),(j19,_)] ?_
 refine au [5,8] ?_
 refine TK.cl rfl rfl rfl rfl ((best_ok (b:=exB) x_len.1 x_len.2).mono (fun _ _ h=>or3 h x_check x_ne)) ?_
 rintro r61 K62 h63
 rcases h63 with ⟨hno,rfl,rfl⟩ | ⟨c,jc,ec,hpl,rfl,rfl⟩
 ·refine au [] ?_
  exact (x_noplan hno).elim
 ·refine au [] ?_
  obtain ⟨hq1,hq2⟩:=x_plan (.inl rfl) hpl
  rw [hq2,hq1]
  refine au [1,10,10,10,10,2,2,2,2,3,4] ?_
  refine TK.kp [(0,_),(s,_),(h,_),(e,_),(j1,_),(j19,_),(jc,_)] ?_
  refine au [5,8] ?_
  refine TK.cl rfl rfl rfl rfl ((fewest_ok (b:=exB) x_len.1 x_len.2).mono (fun _ _ h=>or3 h x_check x_ne)) ?_
  rintro r64 K65 h66
  rcases h66 with ⟨hno,rfl,rfl⟩ | ⟨c2,jf,ef,hpl2,rfl,rfl⟩
  ·refine au [] ?_
   exact (x_noplan hno).elim
  ·refine au [] ?_
   obtain ⟨hq3,hq4⟩:=x_plan (.inr rfl) hpl2
   rw [hq3]
   refine au [1,10,10,10,2,2,2,3,4] ?_
   refine TK.kp [(0,_),(s,_),(h,_),(e,_),(j1,_),(j19,_),(jc,_),(jf,_)] ?_
   refine au [5,8] ?_
   refine TK.cl rfl rfl rfl rfl ((widest_ok (b:=exB) x_len.1 x_len.2).mono (fun _ _ h=>or3 h x_check x_ne)) ?_
   rintro r67 K68 ⟨rfl,rfl⟩
   refine au [] ?_
   rw [x_widest]
   refine au [1,10,10,10,2,2,2,3,4,4] ?_
   refine TK.kp [(0,_),(s,_),(h,_),(e,_),(j1,_),(j19,_),(jc,_),(jf,_)] ?_
   refine TK.draw [0,1,2,3,4,5,6,7,8,9,10,11,12,13,14,15,16,17,18,19,20,21,22,23,24,25,26,27,28,29,30,31,32,33,34,35,36,37,38,39,40,41,42,43,44,45,46,47,48,49,50,51,52,53,54,55,56,57,58,59,60,61,62,63,64,65,66] [0,1,2,3,4,5,6,7,8,9,10,11,12,13,14,15,16,17,18,19,20,21,22,23,24,25,26,27,28,29,30,31,32,33,34,35,36,37,38,39,40,41,42,43,44,45,46,47,48,49,50,51,52,53,54,55,56,57,58,59,60,61,62,63,64,65,66] (by kernel_rfl) (by kernel_rfl) ?_
   refine TD.z [3] rfl (q_move rfl rfl) ?_
   refine TD.z [235] rfl (q_cmp rfl rfl rfl rfl) ?_
   refine TD.z [236] rfl (q_move rfl rfl) ?_
   refine TD.z [5,237] rfl (q_move rfl rfl) ?_
   refine TD.z [237,238] rfl (q_cmp rfl rfl rfl rfl) ?_
   refine TD.z [237,239] rfl (q_pickF rfl rfl rfl) ?_
   refine TD.z [240] rfl (q_move rfl rfl) ?_
   refine TD.z [7,241] rfl (q_move rfl rfl) ?_
   refine TD.z [241,242] rfl (q_cmp rfl rfl rfl rfl) ?_
   refine TD.z [241,243] rfl (q_pickF rfl rfl rfl) ?_
   refine TD.z [244] rfl (q_move rfl rfl) ?_
   refine TD.z [11,245] rfl (q_move rfl rfl) ?_
   refine TD.z [245,246] rfl (q_cmp rfl rfl rfl rfl) ?_
   refine TD.z [245,247] rfl (q_pickF rfl rfl rfl) ?_
   refine TD.z [248] rfl (q_move rfl rfl) ?_
   refine TD.z [14,249] rfl (q_move rfl rfl) ?_
   refine TD.z [249,250] rfl (q_cmp rfl rfl rfl rfl) ?_
   refine TD.z [249,251] rfl (q_pickF rfl rfl rfl) ?_
   refine TD.z [252] rfl (q_move rfl rfl) ?_
   refine TD.z [16,253] rfl (q_move rfl rfl) ?_
   refine TD.z [253,254] rfl (q_cmp rfl rfl rfl rfl) ?_
   refine TD.z [253,255] rfl (q_pickF rfl rfl rfl) ?_
   refine TD.z [256] rfl (q_move rfl rfl) ?_
   refine TD.z [18,257] rfl (q_move rfl rfl) ?_
   refine TD.z [257,258] rfl (q_cmp rfl rfl rfl rfl) ?_
   refine TD.z [257,259] rfl (q_pickF rfl rfl rfl) ?_
   refine TD.z [260] rfl (q_move rfl rfl) ?_
   refine TD.z [21,261] rfl (q_move rfl rfl) ?_
   refine TD.z [261,262] rfl (q_cmp rfl rfl rfl rfl) ?_
   refine TD.z [261,263] rfl (q_pickF rfl rfl rfl) ?_
   refine TD.z [264] rfl (q_move rfl rfl) ?_
   refine TD.y [19,265] rfl (hq:=q_load rfl rfl TySz.h (List.Mem.head _) rfl) (h:=?_)
   refine TD.cl (pend':=[Pd.mk 31 [19,265] [(_,_)],Pd.mk 29 [261,263] [],Pd.mk 28 [261,262] [],Pd.mk 27 [21,261] [],Pd.mk 26 [260] [],Pd.mk 25 [257,259] [],Pd.mk 24 [257,258] [],Pd.mk 23 [18,257] [],Pd.mk 22 [256] [],Pd.mk 21 [253,255] [],Pd.mk 20 [253,254] [],Pd.mk 19 [16,253] [],Pd.mk 18 [252] [],Pd.mk 17 [249,251] [],Pd.mk 16 [249,250] [],Pd.mk 15 [14,249] [],Pd.mk 14 [248] [],Pd.mk 13 [245,247] [],Pd.mk 12 [245,246] [],Pd.mk 11 [11,245] [],Pd.mk 10 [244] [],Pd.mk 9 [241,243] [],Pd.mk 8 [241,242] [],Pd.mk 7 [7,241] [],Pd.mk 6 [240] [],Pd.mk 5 [237,239] [],Pd.mk 4 [237,238] [],Pd.mk 3 [5,237] [],Pd.mk 2 [236] [],Pd.mk 1 [235] [],Pd.mk 0 [3] []]) [265] rfl (pendS (es:=[30,30]) rfl rfl) rfl rfl rfl (to_ok hT) (fun r70 K71 h72=>⟨?_,?_⟩)
   ·rcases h72 with ⟨rfl,rfl⟩
    all_goals simp
   obtain ⟨rfl,rfl⟩:=h72
   try simp only [List.cons_append,List.nil_append]
   refine TD.norm (by simp only [List.set]; rfl) ?_
   refine TD.z [265,266,267] rfl (q_neqFlat rfl rfl rfl rfl rfl FlatF.h EqG.h) ?_
   refine TD.z [265,268] rfl (q_pickF rfl rfl rfl) ?_
   refine TD.z [269] rfl (q_move rfl rfl) ?_
   refine TD.z [26,270] rfl (q_move rfl rfl) ?_
   refine TD.cnewR (pend':=[Pd.mk 36 [26,270] [],Pd.mk 34 [265,268] [],Pd.mk 33 [265,266,267] [],Pd.mk 31 [19,265] [(_,_)],Pd.mk 29 [261,263] [],Pd.mk 28 [261,262] [],Pd.mk 27 [21,261] [],Pd.mk 26 [260] [],Pd.mk 25 [257,259] [],Pd.mk 24 [257,258] [],Pd.mk 23 [18,257] [],Pd.mk 22 [256] [],Pd.mk 21 [253,255] [],Pd.mk 20 [253,254] [],Pd.mk 19 [16,253] [],Pd.mk 18 [252] [],Pd.mk 17 [249,251] [],Pd.mk 16 [249,250] [],Pd.mk 15 [14,249] [],Pd.mk 14 [248] [],Pd.mk 13 [245,247] [],Pd.mk 12 [245,246] [],Pd.mk 11 [11,245] [],Pd.mk 10 [244] [],Pd.mk 9 [241,243] [],Pd.mk 8 [241,242] [],Pd.mk 7 [7,241] [],Pd.mk 6 [240] [],Pd.mk 5 [237,239] [],Pd.mk 4 [237,238] [],Pd.mk 3 [5,237] [],Pd.mk 2 [236] [],Pd.mk 1 [235] [],Pd.mk 0 [3] []]) [270] rfl rfl rfl (pendS (es:=[35]) rfl rfl) rfl (n_buildSlice (l:=[_,_]) rfl SlEl.h TyZ.h (by decide) (by decide) rfl) (fun _=>putS rfl (by simp only [List.set]; rfl)) (by simp) fun jz1 hjz1=>?_
   refine TD.cl (pend':=[Pd.mk 34 [265,268] [],Pd.mk 33 [265,266,267] [],Pd.mk 31 [19,265] [(_,_)],Pd.mk 29 [261,263] [],Pd.mk 28 [261,262] [],Pd.mk 27 [21,261] [],Pd.mk 26 [260] [],Pd.mk 25 [257,259] [],Pd.mk 24 [257,258] [],Pd.mk 23 [18,257] [],Pd.mk 22 [256] [],Pd.mk 21 [253,255] [],Pd.mk 20 [253,254] [],Pd.mk 19 [16,253] [],Pd.mk 18 [252] [],Pd.mk 17 [249,251] [],Pd.mk 16 [249,250] [],Pd.mk 15 [14,249] [],Pd.mk 14 [248] [],Pd.mk 13 [245,247] [],Pd.mk 12 [245,246] [],Pd.mk 11 [11,245] [],Pd.mk 10 [244] [],Pd.mk 9 [241,243] [],Pd.mk 8 [241,242] [],Pd.mk 7 [7,241] [],Pd.mk 6 [240] [],Pd.mk 5 [237,239] [],Pd.mk 4 [237,238] [],Pd.mk 3 [5,237] [],Pd.mk 2 [236] [],Pd.mk 1 [235] [],Pd.mk 0 [3] []]) [270,271,272] rfl (pendS (es:=[36,37,35,35]) rfl rfl) rfl rfl rfl ((list_ok hT (xs:=[0,1]) (ys:=[0,1]) (off:=0) (ob:=.cells (([0,1]:List Int).map intA) ec false) (fun i x hx=>ints_at hx rfl) (by decide)).mono (fun _ _ h=>trT h rfl)) (fun r73 K74 h75=>⟨?_,?_⟩)
   ·rcases h75 with ⟨rfl,rfl⟩
    all_goals simp
   obtain ⟨rfl,rfl⟩:=h75
   try simp only [List.cons_append,List.nil_append]
   refine TD.norm (by simp only [List.set]; rfl) ?_
   refine TD.z [270,273] rfl (q_not rfl rfl) ?_
   refine TD.z [270,274] rfl (q_pickF rfl rfl rfl) ?_
   refine TD.z [275] rfl (q_move rfl rfl) ?_
   refine TD.z [9,276] rfl (q_move rfl rfl) ?_
   refine TD.z [276,277] rfl (q_cmp rfl rfl rfl rfl) ?_
   refine TD.z [276,278] rfl (q_pickF rfl rfl rfl) ?_
   refine TD.z [279] rfl (q_move rfl rfl) ?_
   refine TD.z [10,280] rfl (q_move rfl rfl) ?_
   refine TD.z [280,281] rfl (q_not rfl rfl) ?_
   refine TD.z [280,282] rfl (q_pickF rfl rfl rfl) ?_
   refine TD.z [283] rfl (q_move rfl rfl) ?_
   refine TD.z [27,284] rfl (q_move rfl rfl) ?_
   refine TD.cnewR (pend':=[Pd.mk 50 [27,284] [],Pd.mk 48 [280,282] [],Pd.mk 47 [280,281] [],Pd.mk 46 [10,280] [],Pd.mk 45 [279] [],Pd.mk 44 [276,278] [],Pd.mk 43 [276,277] [],Pd.mk 42 [9,276] [],Pd.mk 41 [275] [],Pd.mk 40 [270,274] [],Pd.mk 39 [270,273] [],Pd.mk 34 [265,268] [],Pd.mk 33 [265,266,267] [],Pd.mk 31 [19,265] [(_,_)],Pd.mk 29 [261,263] [],Pd.mk 28 [261,262] [],Pd.mk 27 [21,261] [],Pd.mk 26 [260] [],Pd.mk 25 [257,259] [],Pd.mk 24 [257,258] [],Pd.mk 23 [18,257] [],Pd.mk 22 [256] [],Pd.mk 21 [253,255] [],Pd.mk 20 [253,254] [],Pd.mk 19 [16,253] [],Pd.mk 18 [252] [],Pd.mk 17 [249,251] [],Pd.mk 16 [249,250] [],Pd.mk 15 [14,249] [],Pd.mk 14 [248] [],Pd.mk 13 [245,247] [],Pd.mk 12 [245,246] [],Pd.mk 11 [11,245] [],Pd.mk 10 [244] [],Pd.mk 9 [241,243] [],Pd.mk 8 [241,242] [],Pd.mk 7 [7,241] [],Pd.mk 6 [240] [],Pd.mk 5 [237,239] [],Pd.mk 4 [237,238] [],Pd.mk 3 [5,237] [],Pd.mk 2 [236] [],Pd.mk 1 [235] [],Pd.mk 0 [3] []]) [284] rfl rfl rfl (pendS (es:=[49]) rfl rfl) rfl (n_buildSlice (l:=[_,_]) rfl SlEl.h TyZ.h (by decide) (by decide) rfl) (fun _=>putS rfl (by simp only [List.set]; rfl)) (by simp) fun jz2 hjz2=>?_
   refine TD.cl (pend':=[Pd.mk 48 [280,282] [],Pd.mk 47 [280,281] [],Pd.mk 46 [10,280] [],Pd.mk 45 [279] [],Pd.mk 44 [276,278] [],Pd.mk 43 [276,277] [],Pd.mk 42 [9,276] [],Pd.mk 41 [275] [],Pd.mk 40 [270,274] [],Pd.mk 39 [270,273] [],Pd.mk 34 [265,268] [],Pd.mk 33 [265,266,267] [],Pd.mk 31 [19,265] [(_,_)],Pd.mk 29 [261,263] [],Pd.mk 28 [261,262] [],Pd.mk 27 [21,261] [],Pd.mk 26 [260] [],Pd.mk 25 [257,259] [],Pd.mk 24 [257,258] [],Pd.mk 23 [18,257] [],Pd.mk 22 [256] [],Pd.mk 21 [253,255] [],Pd.mk 20 [253,254] [],Pd.mk 19 [16,253] [],Pd.mk 18 [252] [],Pd.mk 17 [249,251] [],Pd.mk 16 [249,250] [],Pd.mk 15 [14,249] [],Pd.mk 14 [248] [],Pd.mk 13 [245,247] [],Pd.mk 12 [245,246] [],Pd.mk 11 [11,245] [],Pd.mk 10 [244] [],Pd.mk 9 [241,243] [],Pd.mk 8 [241,242] [],Pd.mk 7 [7,241] [],Pd.mk 6 [240] [],Pd.mk 5 [237,239] [],Pd.mk 4 [237,238] [],Pd.mk 3 [5,237] [],Pd.mk 2 [236] [],Pd.mk 1 [235] [],Pd.mk 0 [3] []]) [284,285,286] rfl (pendS (es:=[50,51,49,49]) rfl rfl) rfl rfl rfl ((list_ok hT (xs:=[0,1]) (ys:=[0,1]) (off:=0) (ob:=.cells (([0,1]:List Int).map intA) ef false) (fun i x hx=>ints_at hx rfl) (by decide)).mono (fun _ _ h=>trT h rfl)) (fun r76 K77 h78=>⟨?_,?_⟩)
   ·rcases h78 with ⟨rfl,rfl⟩
    all_goals simp
   obtain ⟨rfl,rfl⟩:=h78
   try simp only [List.cons_append,List.nil_append]
   refine TD.norm (by simp only [List.set]; rfl) ?_
   refine TD.z [284,287] rfl (q_not rfl rfl) ?_
   refine TD.z [284,288] rfl (q_pickF rfl rfl rfl) ?_
   refine TD.z [289] rfl (q_move rfl rfl) ?_
   refine TD.z [13,290] rfl (q_move rfl rfl) ?_
   refine TD.z [290,291] rfl (q_not rfl rfl) ?_
   refine TD.z [290,292] rfl (q_pickF rfl rfl rfl) ?_
   refine TD.z [293] rfl (q_move rfl rfl) ?_
   refine TD.z [15,294] rfl (q_move rfl rfl) ?_
   refine TD.z [294,295] rfl (q_cmp rfl rfl rfl rfl) ?_
   refine TD.z [294,296] rfl (q_pickF rfl rfl rfl) ?_
   refine TD.z [297] rfl (q_move rfl rfl) ?_
   refine TD.z [4,298] rfl (q_move rfl rfl) ?_
   refine TD.z [298,299] rfl (q_not rfl rfl) ?_
   refine TD.z [298,300] rfl (q_pickF rfl rfl rfl) ?_
   refine TD.fin ?_
   refine au [19,12,4] ?_
   refine TK.kp [(0,_),(s,_),(h,_),(e,_),(j1,_),(j19,_)] ?_
   refine au [5,8] ?_
   refine TK.cl rfl rfl rfl rfl ((ask_ok hT (b:=exB) x_len.1 x_len.2).mono (fun _ _ h=>or3 h x_check x_ne)) ?_
   rintro r79 K80 ⟨rfl,rfl⟩
   refine au [] ?_
   rw [x_ask]
   refine au [1,10,10,10,2,2,2,3,4] ?_
   refine TK.kp [(0,_),(s,_),(h,_),(e,_),(j1,_),(j19,_)] ?_
   refine au [5,8,40] ?_
   refine TK.cl rfl rfl rfl rfl ((measure_ok hT (b:=exB) (m:=⟨2,2,7⟩) x_len.1 x_len.2).mono (fun _ _ h=>agr3 (or2 h x_check) x_mc x_mne)) ?_
   rintro r82 K83 ⟨s7,h7,e7,rfl,rfl⟩
   refine au [1,10,10,22] ?_
   intro j30 hj30
   refine au [17,2,3,4] ?_
   refine TK.kp [(0,_),(s,_),(h,_),(e,_),(j1,_),(j19,_),(s7,_),(h7,_),(e7,_),(j30,_)] ?_
   refine au [5,8] ?_
   refine TK.cl rfl rfl rfl rfl (statesApi_ok hT (b:=exM) (s:=s7) (h:=h7) (e:=e7) (by decide) (by decide)) ?_
   rintro r85 K86 ⟨rfl,rfl⟩
   refine au [] ?_
   rw [x_mc,if_pos rfl,x_mst]
   refine au [1,10,10,2,2,3,4] ?_
   refine TK.kp [(0,_),(s,_),(h,_),(e,_),(j1,_),(j19,_),(s7,_),(h7,_),(e7,_),(j30,_)] ?_
   refine au [5,8] ?_
   refine TK.cl rfl rfl rfl rfl ((new_ok hT (b:=exM) (s:=s7) (h:=h7) (e:=e7) (by decide) (by decide)).mono (fun _ _ h=>or3 h x_mc x_mne)) ?_
   rintro r88 K89 ⟨rfl,rfl⟩
   refine au [] ?_
   rw [x_mnew]
   refine au [1,10,10,17,2,3,4] ?_
   refine TK.kp [(0,_),(s,_),(h,_),(e,_),(j1,_),(j19,_),(j30,_)] ?_
   refine TK.draw [0,1,2,3,4,5,6,7] [0,1,2,3,4,6,5,7] (by kernel_rfl) (by kernel_rfl) ?_
   refine TD.y [1] rfl (hq:=q_load rfl rfl TySz.h (List.Mem.head _) rfl) (h:=?_)
   refine TD.cl (pend':=[⟨0,[1],[(_,_)]⟩]) [] rfl rfl rfl rfl rfl (to_ok hT) (fun r91 K92 h93=>⟨?_,?_⟩)
   ·rcases h93 with ⟨rfl,rfl⟩
    all_goals simp
   obtain ⟨rfl,rfl⟩:=h93
   try simp only [List.cons_append,List.nil_append]
   refine TD.norm (by simp only [List.set]; rfl) ?_
   refine TD.cl (pend':=[]) [325,326] rfl rfl rfl rfl rfl ((dry_ok hT (b:=exB) (n:=0) (x:=⟨1,5⟩) x_len.1 x_len.2).mono (fun _ _ h=>agr3 (or4 h x_d1) x_dc x_dne)) (fun r94 K95 h96=>⟨?_,?_⟩)
   ·rcases h96 with ⟨s8,h8,e8,rfl,rfl⟩
    all_goals simp
   obtain ⟨s8,h8,e8,rfl,rfl⟩:=h96
   try simp only [List.cons_append,List.nil_append]
   refine TD.norm (by simp only [List.set]; rfl) ?_
   refine TD.z [327] rfl (q_move rfl rfl) ?_
   refine TD.z [324] rfl (q_extract rfl rfl rfl) ?_
   refine TD.z [324] rfl (q_extract rfl rfl rfl) ?_
   refine TD.s (pend':=[⟨5,[324],[]⟩]) [30,328] rfl rfl (q_store rfl rfl TySz.h rfl rfl (by repeat (first | exact List.Mem.head _ | assumption | apply List.Mem.tail)) rfl) ?_
   refine TD.as (pend':=[]) [329] rfl rfl (q_assign rfl rfl) ?_
   refine TD.fin ?_
   refine au [4] ?_
   refine TK.kp [(0,_),(s,_),(h,_),(e,_),(j1,_),(j19,_),(j30,_),(s8,_),(h8,_),(e8,_)] ?_
   refine au [5,8] ?_
   refine TK.cl rfl rfl rfl rfl ((shrinks_ok hT (b:=exD) (s:=s8) (h:=h8) (e:=e8) (n:=0) (by decide) (by decide) (by rw [x_dst]; decide)).mono (fun _ _ h=>or3 h x_dth x_dne)) ?_
   rintro r97 K98 ⟨js9,zs9,rfl,rfl⟩
   refine au [] ?_
   rw [x_dshr]
   refine au [1,10,10,2,2,3,4] ?_
   refine TK.kp [(0,_),(s,_),(h,_),(e,_),(j1,_),(j19,_),(js9,_)] ?_
   refine TK.draw [0,1,2,3,4,5,6] [0,1,2,3,4,5,6] (by kernel_rfl) (by kernel_rfl) ?_
   refine TD.y [1] rfl (hq:=q_load rfl rfl TySz.h (List.Mem.head _) rfl) (h:=?_)
   refine TD.cl (pend':=[⟨0,[1],[(_,_)]⟩]) [] rfl rfl rfl rfl rfl (to_ok hT) (fun r100 K101 h102=>⟨?_,?_⟩)
   ·rcases h102 with ⟨rfl,rfl⟩
    all_goals simp
   obtain ⟨rfl,rfl⟩:=h102
   try simp only [List.cons_append,List.nil_append]
   refine TD.norm (by simp only [List.set]; rfl) ?_
   refine TD.cl (pend':=[]) [336,337] rfl rfl rfl rfl rfl ((dry_ok hT (b:=exB) (n:=1) (x:=⟨1,2⟩) x_len.1 x_len.2).mono (fun _ _ h=>or4c h x_d2)) (fun r103 K104 h105=>⟨?_,?_⟩)
   ·rcases h105 with ⟨rfl,rfl⟩
    all_goals simp
   obtain ⟨rfl,rfl⟩:=h105
   try simp only [List.cons_append,List.nil_append]
   refine TD.norm (by simp only [List.set]; rfl) ?_
   refine TD.z [338] rfl (q_move rfl rfl) ?_
   refine TD.z [335] rfl (q_extract rfl rfl rfl) ?_
   refine TD.z [335] rfl (q_extract rfl rfl rfl) ?_
   refine TD.as (pend':=[]) [340] rfl rfl (q_assign rfl rfl) ?_
   refine TD.fin ?_
   refine au [4] ?_
   refine TK.kp [(0,_),(s,_),(h,_),(e,_),(j1,_),(j19,_),(js9,_)] ?_
   refine au [5,8,40] ?_
   refine TK.cl rfl rfl rfl rfl (measured_ok hT (b:=exB) (m:=⟨0,1,5⟩) (by decide)) ?_
   rintro r106 K107 ⟨e9,rfl,rfl⟩
   refine au [40] ?_
   refine TK.cl rfl rfl rfl rfl (measured_ok hT (b:=exC1) (m:=⟨2,2,6⟩) (by decide)) ?_
   rintro r109 K110 ⟨e10,rfl,rfl⟩
   refine au [] ?_
   refine TK.cl rfl rfl rfl rfl ((clash_ok hT (b:=exC) (s:=s) (h:=h) (e:=e10) (by decide) (by decide)).mono (fun _ _ h=>orCl h x_cc x_cst (by rw [x_clash]; exact fun h=>nomatch h))) ?_
   rintro r112 K113 ⟨l0,j10,e11,hcl,rfl,rfl⟩
   refine au [] ?_
   rw [x_clash] at hcl
   cases hcl
   refine au [1,10,10,2,2,3,4] ?_
   refine TK.kp [(0,_),(j19,_),(js9,_),(j10,_)] ?_
   refine TK.draw [0,1,2,3,4,5,6,7,8,9,10,11,12,13,14,15,16,17,18,19,20,21,22,23,24,25,26,27,28,29,30,31,32,33,34,35,36,37,38,39,40,41,42,43,44,45,46,47,48,49,50,51,52,53,54,55,56,57] [0,1,2,3,4,5,6,7,8,9,10,11,12,13,14,15,16,17,18,19,20,21,22,23,24,25,26,27,28,29,30,31,32,33,34,35,36,37,38,39,40,41,42,43,44,45,46,47,48,49,50,51,52,53,54,55,56,57] (by kernel_rfl) (by kernel_rfl) ?_
   refine TD.z [3] rfl (q_move rfl rfl) ?_
   refine TD.z [350] rfl (q_cmp rfl rfl rfl rfl) ?_
   refine TD.z [351] rfl (q_move rfl rfl) ?_
   refine TD.z [5,352] rfl (q_move rfl rfl) ?_
   refine TD.z [352,353] rfl (q_cmp rfl rfl rfl rfl) ?_
   refine TD.z [352,354] rfl (q_pickT rfl rfl rfl) ?_
   refine TD.z [355] rfl (q_move rfl rfl) ?_
   refine TD.z [7,356] rfl (q_move rfl rfl) ?_
   refine TD.z [356,357] rfl (q_cmp rfl rfl rfl rfl) ?_
   refine TD.z [356,358] rfl (q_pickT rfl rfl rfl) ?_
   refine TD.z [359] rfl (q_move rfl rfl) ?_
   refine TD.z [11,360] rfl (q_move rfl rfl) ?_
   refine TD.z [360,361] rfl (q_cmp rfl rfl rfl rfl) ?_
   refine TD.z [360,362] rfl (q_pickT rfl rfl rfl) ?_
   refine TD.z [363] rfl (q_move rfl rfl) ?_
   refine TD.z [14,364] rfl (q_move rfl rfl) ?_
   refine TD.z [364,365] rfl (q_cmp rfl rfl rfl rfl) ?_
   refine TD.z [364,366] rfl (q_pickT rfl rfl rfl) ?_
   refine TD.z [367] rfl (q_move rfl rfl) ?_
   refine TD.z [16,368] rfl (q_move rfl rfl) ?_
   refine TD.z [368,369] rfl (q_cmp rfl rfl rfl rfl) ?_
   refine TD.z [368,370] rfl (q_pickT rfl rfl rfl) ?_
   refine TD.z [371] rfl (q_move rfl rfl) ?_
   refine TD.z [18,372] rfl (q_move rfl rfl) ?_
   refine TD.z [372,373] rfl (q_cmp rfl rfl rfl rfl) ?_
   refine TD.z [372,374] rfl (q_pickT rfl rfl rfl) ?_
   refine TD.z [375] rfl (q_move rfl rfl) ?_
   refine TD.z [20,376] rfl (q_move rfl rfl) ?_
   refine TD.z [376,377] rfl (q_cmp rfl rfl rfl rfl) ?_
   refine TD.z [376,378] rfl (q_pickT rfl rfl rfl) ?_
   refine TD.z [379] rfl (q_move rfl rfl) ?_
   refine TD.z [28,380] rfl (q_move rfl rfl) ?_
   refine TD.z [380,381] rfl (q_cmp rfl rfl rfl rfl) ?_
   refine TD.z [380,382] rfl (q_pickT rfl rfl rfl) ?_
   refine TD.z [383] rfl (q_move rfl rfl) ?_
   refine TD.z [29,384] rfl (q_move rfl rfl) ?_
   refine TD.z [384,385] rfl (q_cmp rfl rfl rfl rfl) ?_
   refine TD.z [384,386] rfl (q_pickT rfl rfl rfl) ?_
   refine TD.z [387] rfl (q_move rfl rfl) ?_
   refine TD.z [15,388] rfl (q_move rfl rfl) ?_
   refine TD.z [388,389] rfl (q_cmp rfl rfl rfl rfl) ?_
   refine TD.z [388,390] rfl (q_pickT rfl rfl rfl) ?_
   refine TD.z [391] rfl (q_move rfl rfl) ?_
   refine TD.y [19,392] rfl (hq:=q_load rfl rfl TySz.h (List.Mem.head _) rfl) (h:=?_)
   refine TD.cl (pend':=[⟨43,[19,392],[(_,_)]⟩,⟨41,[388,390],[]⟩,⟨40,[388,389],[]⟩,⟨39,[15,388],[]⟩,⟨38,[387],[]⟩,⟨37,[384,386],[]⟩,⟨36,[384,385],[]⟩,⟨35,[29,384],[]⟩,⟨34,[383],[]⟩,⟨33,[380,382],[]⟩,⟨32,[380,381],[]⟩,⟨31,[28,380],[]⟩,⟨30,[379],[]⟩,⟨29,[376,378],[]⟩,⟨28,[376,377],[]⟩,⟨27,[20,376],[]⟩,⟨26,[375],[]⟩,⟨25,[372,374],[]⟩,⟨24,[372,373],[]⟩,⟨23,[18,372],[]⟩,⟨22,[371],[]⟩,⟨21,[368,370],[]⟩,⟨20,[368,369],[]⟩,⟨19,[16,368],[]⟩,⟨18,[367],[]⟩,⟨17,[364,366],[]⟩,⟨16,[364,365],[]⟩,⟨15,[14,364],[]⟩,⟨14,[363],[]⟩,⟨13,[360,362],[]⟩,⟨12,[360,361],[]⟩,⟨11,[11,360],[]⟩,⟨10,[359],[]⟩,⟨9,[356,358],[]⟩,⟨8,[356,357],[]⟩,⟨7,[7,356],[]⟩,⟨6,[355],[]⟩,⟨5,[352,354],[]⟩,⟨4,[352,353],[]⟩,⟨3,[5,352],[]⟩,⟨2,[351],[]⟩,⟨1,[350],[]⟩,⟨0,[3],[]⟩]) [392] rfl rfl rfl rfl rfl (to_ok hT) (fun r115 K116 h117=>⟨?_,?_⟩)
   ·rcases h117 with ⟨rfl,rfl⟩
    all_goals simp
   obtain ⟨rfl,rfl⟩:=h117
   try simp only [List.cons_append,List.nil_append]
   refine TD.norm (by simp only [List.set]; rfl) ?_
   refine TD.z [392,393,394] rfl (q_eqFlat rfl rfl rfl rfl rfl FlatF.h EqG.h) ?_
   refine TD.z [392,395] rfl (q_pickT rfl rfl rfl) ?_
   refine TD.z [396] rfl (q_move rfl rfl) ?_
   refine TD.z [17,397] rfl (q_move rfl rfl) ?_
   refine TD.cnewR (pend':=[⟨48,[17,397],[]⟩,⟨46,[392,395],[]⟩,⟨45,[392,393,394],[]⟩,⟨43,[19,392],[(_,_)]⟩,⟨41,[388,390],[]⟩,⟨40,[388,389],[]⟩,⟨39,[15,388],[]⟩,⟨38,[387],[]⟩,⟨37,[384,386],[]⟩,⟨36,[384,385],[]⟩,⟨35,[29,384],[]⟩,⟨34,[383],[]⟩,⟨33,[380,382],[]⟩,⟨32,[380,381],[]⟩,⟨31,[28,380],[]⟩,⟨30,[379],[]⟩,⟨29,[376,378],[]⟩,⟨28,[376,377],[]⟩,⟨27,[20,376],[]⟩,⟨26,[375],[]⟩,⟨25,[372,374],[]⟩,⟨24,[372,373],[]⟩,⟨23,[18,372],[]⟩,⟨22,[371],[]⟩,⟨21,[368,370],[]⟩,⟨20,[368,369],[]⟩,⟨19,[16,368],[]⟩,⟨18,[367],[]⟩,⟨17,[364,366],[]⟩,⟨16,[364,365],[]⟩,⟨15,[14,364],[]⟩,⟨14,[363],[]⟩,⟨13,[360,362],[]⟩,⟨12,[360,361],[]⟩,⟨11,[11,360],[]⟩,⟨10,[359],[]⟩,⟨9,[356,358],[]⟩,⟨8,[356,357],[]⟩,⟨7,[7,356],[]⟩,⟨6,[355],[]⟩,⟨5,[352,354],[]⟩,⟨4,[352,353],[]⟩,⟨3,[5,352],[]⟩,⟨2,[351],[]⟩,⟨1,[350],[]⟩,⟨0,[3],[]⟩]) [397] rfl rfl rfl rfl rfl (n_buildSlice (l:=[_]) rfl SlEl.h TyZ.h (by decide) (by decide) rfl) (fun _=>putS rfl (by simp only [List.set]; rfl)) (by simp) fun jq1 hjq1=>?_
   refine TD.cl (pend':=[⟨46,[392,395],[]⟩,⟨45,[392,393,394],[]⟩,⟨43,[19,392],[(_,_)]⟩,⟨41,[388,390],[]⟩,⟨40,[388,389],[]⟩,⟨39,[15,388],[]⟩,⟨38,[387],[]⟩,⟨37,[384,386],[]⟩,⟨36,[384,385],[]⟩,⟨35,[29,384],[]⟩,⟨34,[383],[]⟩,⟨33,[380,382],[]⟩,⟨32,[380,381],[]⟩,⟨31,[28,380],[]⟩,⟨30,[379],[]⟩,⟨29,[376,378],[]⟩,⟨28,[376,377],[]⟩,⟨27,[20,376],[]⟩,⟨26,[375],[]⟩,⟨25,[372,374],[]⟩,⟨24,[372,373],[]⟩,⟨23,[18,372],[]⟩,⟨22,[371],[]⟩,⟨21,[368,370],[]⟩,⟨20,[368,369],[]⟩,⟨19,[16,368],[]⟩,⟨18,[367],[]⟩,⟨17,[364,366],[]⟩,⟨16,[364,365],[]⟩,⟨15,[14,364],[]⟩,⟨14,[363],[]⟩,⟨13,[360,362],[]⟩,⟨12,[360,361],[]⟩,⟨11,[11,360],[]⟩,⟨10,[359],[]⟩,⟨9,[356,358],[]⟩,⟨8,[356,357],[]⟩,⟨7,[7,356],[]⟩,⟨6,[355],[]⟩,⟨5,[352,354],[]⟩,⟨4,[352,353],[]⟩,⟨3,[5,352],[]⟩,⟨2,[351],[]⟩,⟨1,[350],[]⟩,⟨0,[3],[]⟩]) [397,398,399] rfl rfl rfl rfl rfl ((list_ok hT (xs:=[1]) (ys:=[1]) (off:=0) (ob:=.cells (([1]++zs9).map intA) 3 false) (fun i x hx=>ints_pre hx) (by decide)).mono (fun _ _ h=>trT h rfl)) (fun r118 K119 h120=>⟨?_,?_⟩)
   ·rcases h120 with ⟨rfl,rfl⟩
    all_goals simp
   obtain ⟨rfl,rfl⟩:=h120
   try simp only [List.cons_append,List.nil_append]
   refine TD.norm (by simp only [List.set]; rfl) ?_
   refine TD.z [397,400] rfl (q_pickT rfl rfl rfl) ?_
   refine TD.z [401] rfl (q_move rfl rfl) ?_
   refine TD.z [31,402] rfl (q_move rfl rfl) ?_
   refine TD.cnewR (pend':=[⟨53,[31,402],[]⟩,⟨51,[397,400],[]⟩,⟨46,[392,395],[]⟩,⟨45,[392,393,394],[]⟩,⟨43,[19,392],[(_,_)]⟩,⟨41,[388,390],[]⟩,⟨40,[388,389],[]⟩,⟨39,[15,388],[]⟩,⟨38,[387],[]⟩,⟨37,[384,386],[]⟩,⟨36,[384,385],[]⟩,⟨35,[29,384],[]⟩,⟨34,[383],[]⟩,⟨33,[380,382],[]⟩,⟨32,[380,381],[]⟩,⟨31,[28,380],[]⟩,⟨30,[379],[]⟩,⟨29,[376,378],[]⟩,⟨28,[376,377],[]⟩,⟨27,[20,376],[]⟩,⟨26,[375],[]⟩,⟨25,[372,374],[]⟩,⟨24,[372,373],[]⟩,⟨23,[18,372],[]⟩,⟨22,[371],[]⟩,⟨21,[368,370],[]⟩,⟨20,[368,369],[]⟩,⟨19,[16,368],[]⟩,⟨18,[367],[]⟩,⟨17,[364,366],[]⟩,⟨16,[364,365],[]⟩,⟨15,[14,364],[]⟩,⟨14,[363],[]⟩,⟨13,[360,362],[]⟩,⟨12,[360,361],[]⟩,⟨11,[11,360],[]⟩,⟨10,[359],[]⟩,⟨9,[356,358],[]⟩,⟨8,[356,357],[]⟩,⟨7,[7,356],[]⟩,⟨6,[355],[]⟩,⟨5,[352,354],[]⟩,⟨4,[352,353],[]⟩,⟨3,[5,352],[]⟩,⟨2,[351],[]⟩,⟨1,[350],[]⟩,⟨0,[3],[]⟩]) [402] rfl rfl rfl rfl rfl (n_buildSlice (l:=[_,_]) rfl SlEl.h TyZ.h (by decide) (by decide) rfl) (fun _=>putS rfl (by simp only [List.set]; rfl)) (by simp) fun jq2 hjq2=>?_
   refine TD.cl (pend':=[⟨51,[397,400],[]⟩,⟨46,[392,395],[]⟩,⟨45,[392,393,394],[]⟩,⟨43,[19,392],[(_,_)]⟩,⟨41,[388,390],[]⟩,⟨40,[388,389],[]⟩,⟨39,[15,388],[]⟩,⟨38,[387],[]⟩,⟨37,[384,386],[]⟩,⟨36,[384,385],[]⟩,⟨35,[29,384],[]⟩,⟨34,[383],[]⟩,⟨33,[380,382],[]⟩,⟨32,[380,381],[]⟩,⟨31,[28,380],[]⟩,⟨30,[379],[]⟩,⟨29,[376,378],[]⟩,⟨28,[376,377],[]⟩,⟨27,[20,376],[]⟩,⟨26,[375],[]⟩,⟨25,[372,374],[]⟩,⟨24,[372,373],[]⟩,⟨23,[18,372],[]⟩,⟨22,[371],[]⟩,⟨21,[368,370],[]⟩,⟨20,[368,369],[]⟩,⟨19,[16,368],[]⟩,⟨18,[367],[]⟩,⟨17,[364,366],[]⟩,⟨16,[364,365],[]⟩,⟨15,[14,364],[]⟩,⟨14,[363],[]⟩,⟨13,[360,362],[]⟩,⟨12,[360,361],[]⟩,⟨11,[11,360],[]⟩,⟨10,[359],[]⟩,⟨9,[356,358],[]⟩,⟨8,[356,357],[]⟩,⟨7,[7,356],[]⟩,⟨6,[355],[]⟩,⟨5,[352,354],[]⟩,⟨4,[352,353],[]⟩,⟨3,[5,352],[]⟩,⟨2,[351],[]⟩,⟨1,[350],[]⟩,⟨0,[3],[]⟩]) [402,403,404] rfl rfl rfl rfl rfl ((list_ok hT (xs:=[0,1]) (ys:=[0,1]) (off:=0) (ob:=.cells (([0,1]:List Int).map intA) e11 false) (fun i x hx=>ints_at hx rfl) (by decide)).mono (fun _ _ h=>trT h rfl)) (fun r121 K122 h123=>⟨?_,?_⟩)
   ·rcases h123 with ⟨rfl,rfl⟩
    all_goals simp
   obtain ⟨rfl,rfl⟩:=h123
   try simp only [List.cons_append,List.nil_append]
   refine TD.norm (by simp only [List.set]; rfl) ?_
   refine TD.z [402,405] rfl (q_pickT rfl rfl rfl) ?_
   refine TD.as (pend':=[]) [406] rfl rfl (q_assign rfl rfl) ?_
   refine TD.fin ?_
   refine au [] ?_
   refine TK.rt hret [(0,_)] ?_
   exact ⟨rfl,rfl⟩
end Go.Vel
end
section
set_option linter.all false
set_option maxRecDepth 20000
set_option maxHeartbeats 60000000
namespace Go.Vel
open Go Go.Conc Go.Proofs Go.ChangeShapes Go.WideShapes Go.ChangeAt Go.RowKit
open Go.ConcM (OsLater)
def tblLaid:List (String×DataW Unit):=[("velarium/roll.checks",Go.Proofs.YtamcohjpanjdiaaGreatDoor.Rows.laid_velarium_roll_checks)]
theorem tbl4 {P:Program} {W:World} {n:String} {d:DataW Unit} {g0 t0 e0:Nat} {ps rs:Array TypeId} {va:Bool} {b1 b2 b3 b4:UInt8} {r1 r2 r3 r4:List UInt8} {f1 f2 f3 f4:Nat} (h:funcsAt P W n d)
  (hg0:P.globalNamed n=some g0) (ht0:(P.globals[g0]?).map (·.type)=some t0) (hu:P.underlying t0=some (.array 4 e0)) (he:P.underlying e0=some (.func ps rs va)) (hc:P.cellsOf e0=1) (hc3:P.cellsOf t0=4)
  (hd:d.funcsOut=.agg [.held (b1::r1),.held (b2::r2),.held (b3::r3),.held (b4::r4)])
  (q1:((List.range P.funcs.size).filter fun f=>(P.funcs[f]?).any (·.name.toUTF8.data.toList==b1::r1))=[f1])
  (q2:((List.range P.funcs.size).filter fun f=>(P.funcs[f]?).any (·.name.toUTF8.data.toList==b2::r2))=[f2])
  (q3:((List.range P.funcs.size).filter fun f=>(P.funcs[f]?).any (·.name.toUTF8.data.toList==b3::r3))=[f3])
  (q4:((List.range P.funcs.size).filter fun f=>(P.funcs[f]?).any (·.name.toUTF8.data.toList==b4::r4))=[f4]) :
  ∃ cur e fz,W.heap[g0]? =some (.cells cur e fz)∧cur[0]? =some (.func (.func f1) #[] #[])∧cur[1]? =some (.func (.func f2) #[] #[])∧cur[2]? =some (.func (.func f3) #[] #[])∧cur[3]? =some (.func (.func f4) #[] #[]):=by
 obtain ⟨g,t,cs,fuel,p,hg,ht,hv,htr⟩:=h
 obtain rfl:=Option.some.inj (hg0.symm.trans hg)
 obtain rfl:=Option.some.inj (ht0.symm.trans ht)
 rw [hd] at htr
 obtain ⟨xs,m,rfl,hx,hlen,hn,hel⟩:=DataW.trod_array hu htr
 match xs,hn with
 | [x0,x1,x2,x3],_ =>
 simp only [Prod.mk.injEq,DataW.agg.injEq,List.map_cons,List.map_nil,List.cons.injEq,and_true] at hx
 obtain ⟨⟨e1,e2,e3,e4⟩,_⟩:=hx
 rw [hc3] at hlen
 obtain ⟨l⟩:=cs
 match l,hlen with
 | [c0,c1,c2,c3],_ =>
 have h0:=hel 0 (by decide)
 have h1:=hel 1 (by decide)
 have h2:=hel 2 (by decide)
 have h3:=hel 3 (by decide)
 rw [hc] at h0 h1 h2 h3
 obtain ⟨x0,y0⟩:=x0
 obtain ⟨x1,y1⟩:=x1
 obtain ⟨x2,y2⟩:=x2
 obtain ⟨x3,y3⟩:=x3
 dsimp only at e1 e2 e3 e4
 subst e1 e2 e3 e4
 obtain rfl:=func_of_trod (v:=c0) he q1 h0
 obtain rfl:=func_of_trod (v:=c1) he q2 h1
 obtain rfl:=func_of_trod (v:=c2) he q3 h2
 obtain rfl:=func_of_trod (v:=c3) he q4 h3
 have k0:=World.var?_cell hg hv 0
 have k1:=World.var?_cell hg hv 1
 have k2:=World.var?_cell hg hv 2
 have k3:=World.var?_cell hg hv 3
 simp only [List.getElem?_toArray,List.getElem?_cons_zero,List.getElem?_cons_succ] at k0 k1 k2 k3
 simp only [World.cell?] at k0 k1 k2 k3
 cases hh:W.heap[g0]? with
 | none=>rw [hh] at k0; cases k0
 | some o =>
  cases o with
  | cells cur e fz=>rw [hh] at k0 k1 k2 k3; exact ⟨cur,e,fz,rfl,by simpa using k0,by simpa using k1,by simpa using k2,by simpa using k3⟩
  | _=>rw [hh] at k0; cases k0
set_option maxRecDepth 100000 in
theorem of_laid {W:World} (h:laidMetH Tryz.prog tblLaid W):∃ cur e fz,W.heap[0]? =some (.cells cur e fz)∧cur[0]? =some (.func (.func 251) #[] #[])∧cur[1]? =some (.func (.func 252) #[] #[])∧cur[2]? =some (.func (.func 253) #[] #[])∧cur[3]? =some (.func (.func 254) #[] #[]) :=
 tbl4 (h.funcs (n := "velarium/roll.checks") (List.mem_cons_self ..)) (t0:=122) (e0:=116) (by kernel_rfl) (by kernel_rfl) Tryz.underlying122 Tryz.underlying116 (by kernel_rfl) (by kernel_rfl) rfl (by kernel_rfl) (by kernel_rfl) (by kernel_rfl) (by kernel_rfl)
theorem choose_list {α:Type} {p:Nat→α→Prop}:∀ n,(∀ i,i<n→∃ z,p i z)→∃ zs:List α,zs.length=n∧∀ (i:Nat) z,zs[i]? =some z→p i z
 | 0,_=>⟨[],rfl,fun i z h=>by simp at h⟩
 | n+1,h=>by
  obtain ⟨zs,h1,h2⟩:=choose_list n fun i hi=>h i (by omega)
  obtain ⟨z,hz⟩:=h n (by omega)
  refine ⟨zs++[z],by simp [h1],fun i y hy=>?_⟩
  rcases Nat.lt_or_ge i n with hi | hi
  ·rw [List.getElem?_append_left (by omega)] at hy
   exact h2 i y hy
  ·rw [List.getElem?_append_right (by omega),h1] at hy
   rcases Nat.eq_zero_or_pos (i - n) with h0 | h0
   ·rw [h0] at hy; cases hy
    obtain rfl:i=n:=by omega
    exact hz
   ·rw [List.getElem?_eq_none (by simp; omega)] at hy; cases hy
theorem open_list {H:Type} {enc:TypeId×Value→H} {P:Program} {W:World} {sp:Nat→Bool} {held:Bool} {α:Type} {vals:α→List Value} {c fuel:Nat} {t e:TypeId} {cs:List Value} {x:DataW H×List MemPlace} (hu:P.underlying t=some (.slice e)) (hce:P.cellsOf e=c) (hpos:0<c)
  (hdec:∀ (m:Nat) cs x,DataW.trod enc P W 0 sp held m e cs=some x→∃ z,cs=vals z) (h:DataW.trod enc P W 0 sp held fuel t cs=some x) :
  ∃ (zs:List α) (b:Option Addr) (cap:Nat),cs=[.slice b zs.length cap]∧zs.length≤cap∧(0<zs.length→∃ blk off cur e' fz,b=some ⟨blk,off,none⟩∧W.heap[blk]? =some (.cells cur e' fz) ∧
   ∀ (i:Nat) z (j:Nat),zs[i]? =some z→j<c→cur[off+(i*c+j)]? =(vals z)[j]?):=by
 rcases DataW.trod_slice hu h with ⟨rfl,_⟩ | ⟨a,len,cap,elems,rest,n,_,rfl,_,_,hlc,_,hel,hat,_,_⟩
 ·exact ⟨[],none,0,rfl,Nat.le_refl _,fun h=>absurd h (by simp)⟩
 ·obtain ⟨zs,hz1,hz2⟩:=choose_list (p:=fun i z=>W.cells? 0 (a.add (i*P.cellsOf e)) (P.cellsOf e)=some (vals z)) len fun i hi=>by
   have:=hat i hi
   rw [List.getElem?_eq_getElem (by omega),Option.bind_eq_some_iff] at this
   obtain ⟨cs',h1,h2⟩:=this
   obtain ⟨z,rfl⟩:=hdec _ _ _ h2
   exact ⟨z,h1⟩
  refine ⟨zs,some a,cap,by rw [hz1],by omega,fun hp=>?_⟩
  have hcell:∀ (i:Nat) z (j:Nat),zs[i]? =some z→j<c→W.cell? ((a.add (i*c)).add j)=(vals z)[j]? :=fun i z j hi hj=>by
   have:=hz2 i z hi
   rw [hce] at this
   exact (World.cells?_some this).2.2 j hj
  have hlen:∀ (i:Nat) z,zs[i]? =some z→(vals z).length=c:=fun i z hi=>by
   have:=hz2 i z hi
   rw [hce] at this
   exact (World.cells?_some this).2.1
  obtain ⟨z0,hz0⟩:∃ z,zs[0]? =some z:=⟨_,List.getElem?_eq_getElem hp⟩
  have h00:=hcell 0 z0 0 hz0 hpos
  rw [List.getElem?_eq_getElem (by rw [hlen 0 z0 hz0]; exact hpos)] at h00
  have hspot:a.spot=none:=by simpa [Addr.add] using World.cell?_spot h00
  obtain ⟨blk,off,spot⟩:=a
  dsimp only at hspot
  subst hspot
  have hadd:∀ n,(⟨blk,off,none⟩:Addr).add n=⟨blk,off+n,none⟩:=fun n=>by
   unfold Addr.add
   split
   ·rename_i h; subst h; rfl
   ·rfl
  have hadd2:∀ n m,((⟨blk,off,none⟩:Addr).add n).add m=⟨blk,off+(n+m),none⟩:=fun n m=>by
   rw [hadd]
   unfold Addr.add
   split
   ·rename_i h; subst h; simp
   ·simp [Nat.add_assoc]
  rw [hadd2] at h00
  unfold World.cell? at h00
  dsimp only at h00
  cases hh:W.heap[blk]? with
  | none=>rw [hh] at h00; cases h00
  | some o =>
   cases o with
   | cells cur e' fz =>
    refine ⟨blk,off,cur,e',fz,rfl,hh,fun i z j hi hj=>?_⟩
    have:=hcell i z j hi hj
    rw [hadd2] at this
    unfold World.cell? at this
    dsimp only at this
    rw [hh] at this
    simpa using this
   | _=>rw [hh] at h00; cases h00
def seamV (x:RSeam):List Value:=[.int .i64 x.step,.int .i64 x.most,.int .i64 x.busy,.int .i64 x.spoil,.bool x.whole]
def bandV (x:RBand):List Value:=[.int .i64 x.low,.int .i64 x.high]
def measV (x:RMeas):List Value:=[.int .i64 x.cloth,.int .i64 x.many,.int .i64 x.wide]
def intV (n:Int):List Value:=[.int .i64 n]
theorem listN2 {α:Type} {l:List α} (h:l.length=2):∃ a b,l=[a,b]:=by
 match l,h with
 | [a,b],_=>exact ⟨a,b,rfl⟩
theorem listN3 {α:Type} {l:List α} (h:l.length=3):∃ a b c,l=[a,b,c]:=by
 match l,h with
 | [a,b,c],_=>exact ⟨a,b,c,rfl⟩
theorem listN5 {α:Type} {l:List α} (h:l.length=5):∃ a b c d e,l=[a,b,c,d,e]:=by
 match l,h with
 | [a,b,c,d,e],_=>exact ⟨a,b,c,d,e,rfl⟩
theorem listN7 {α:Type} {l:List α} (h:l.length=7):∃ a b c d e f g,l=[a,b,c,d,e,f,g]:=by
 match l,h with
 | [a,b,c,d,e,f,g],_=>exact ⟨a,b,c,d,e,f,g,rfl⟩
section
variable {H:Type} {enc:TypeId×Value→H} {W:World} {sp:Nat→Bool} {held:Bool}
theorem some_of {α:Type} {xs:List α} {n i:Nat} (h:xs.length=n) (hi:i<n):∃ y,xs[i]? =some y:=⟨_,List.getElem?_eq_getElem (h ▸ hi)⟩
theorem one_field {P:Program} {n:Nat} {t:TypeId} {c:Value} {y:Option (DataW H×List MemPlace)} {z:DataW H×List MemPlace} {l:List Value} (h:DataW.trod enc P W 0 sp held n t l=y) (hy:y=some z) (hl:l=[c]):DataW.trod enc P W 0 sp held n t [c]=some z:=by rw [← hl,h,hy]
theorem dec_seam (m:Nat) (cs:List Value) (x:DataW H×List MemPlace) (h:DataW.trod enc Tryz.prog W 0 sp held m 94 cs=some x):∃ z,cs=seamV z:=by
 obtain ⟨xs,n,rfl,hx,hlen,hxs,hf⟩:=DataW.trod_struct Tryz.underlying94 h
 have hlen':cs.length=5:=hlen.trans (by kernel_rfl)
 have hxs':xs.length=5:=hxs
 have c3:Tryz.prog.cellsOf 3=1:=by kernel_rfl
 have c4:Tryz.prog.cellsOf 4=1:=by kernel_rfl
 obtain ⟨v0,v1,v2,v3,v4,rfl⟩:=listN5 hlen'
 obtain ⟨y0,q0⟩:=some_of hxs' (i:=0) (by decide)
 obtain ⟨y1,q1⟩:=some_of hxs' (i:=1) (by decide)
 obtain ⟨y2,q2⟩:=some_of hxs' (i:=2) (by decide)
 obtain ⟨y3,q3⟩:=some_of hxs' (i:=3) (by decide)
 obtain ⟨y4,q4⟩:=some_of hxs' (i:=4) (by decide)
 obtain ⟨z0,e0,_⟩:=DataW.trod_int Tryz.underlying3 (one_field (c:=v0) (hf 0 _ rfl) q0 (by show List.take (Tryz.prog.cellsOf 3) (List.drop 0 _)=_; rw [c3]; rfl))
 obtain ⟨z1,e1,_⟩:=DataW.trod_int Tryz.underlying3 (one_field (c:=v1) (hf 1 _ rfl) q1 (by show List.take (Tryz.prog.cellsOf 3) (List.drop 1 _)=_; rw [c3]; rfl))
 obtain ⟨z2,e2,_⟩:=DataW.trod_int Tryz.underlying3 (one_field (c:=v2) (hf 2 _ rfl) q2 (by show List.take (Tryz.prog.cellsOf 3) (List.drop 2 _)=_; rw [c3]; rfl))
 obtain ⟨z3,e3,_⟩:=DataW.trod_int Tryz.underlying3 (one_field (c:=v3) (hf 3 _ rfl) q3 (by show List.take (Tryz.prog.cellsOf 3) (List.drop 3 _)=_; rw [c3]; rfl))
 obtain ⟨z4,e4,_⟩:=DataW.trod_bool Tryz.underlying4 (one_field (c:=v4) (hf 4 _ rfl) q4 (by show List.take (Tryz.prog.cellsOf 4) (List.drop 4 _)=_; rw [c4]; rfl))
 cases e0
 cases e1
 cases e2
 cases e3
 cases e4
 exact ⟨⟨z0,z1,z2,z3,z4⟩,rfl⟩
theorem dec_band (m:Nat) (cs:List Value) (x:DataW H×List MemPlace) (h:DataW.trod enc Tryz.prog W 0 sp held m 51 cs=some x):∃ z,cs=bandV z:=by
 obtain ⟨xs,n,rfl,hx,hlen,hxs,hf⟩:=DataW.trod_struct Tryz.underlying51 h
 have hlen':cs.length=2:=hlen.trans (by kernel_rfl)
 have hxs':xs.length=2:=hxs
 have c3:Tryz.prog.cellsOf 3=1:=by kernel_rfl
 obtain ⟨v0,v1,rfl⟩:=listN2 hlen'
 obtain ⟨y0,q0⟩:=some_of hxs' (i:=0) (by decide)
 obtain ⟨y1,q1⟩:=some_of hxs' (i:=1) (by decide)
 obtain ⟨z0,e0,_⟩:=DataW.trod_int Tryz.underlying3 (one_field (c:=v0) (hf 0 _ rfl) q0 (by show List.take (Tryz.prog.cellsOf 3) (List.drop 0 _)=_; rw [c3]; rfl))
 obtain ⟨z1,e1,_⟩:=DataW.trod_int Tryz.underlying3 (one_field (c:=v1) (hf 1 _ rfl) q1 (by show List.take (Tryz.prog.cellsOf 3) (List.drop 1 _)=_; rw [c3]; rfl))
 cases e0
 cases e1
 exact ⟨⟨z0,z1⟩,rfl⟩
theorem dec_meas (m:Nat) (cs:List Value) (x:DataW H×List MemPlace) (h:DataW.trod enc Tryz.prog W 0 sp held m 49 cs=some x):∃ z,cs=measV z:=by
 obtain ⟨xs,n,rfl,hx,hlen,hxs,hf⟩:=DataW.trod_struct Tryz.underlying49 h
 have hlen':cs.length=3:=hlen.trans (by kernel_rfl)
 have hxs':xs.length=3:=hxs
 have c3:Tryz.prog.cellsOf 3=1:=by kernel_rfl
 obtain ⟨v0,v1,v2,rfl⟩:=listN3 hlen'
 obtain ⟨y0,q0⟩:=some_of hxs' (i:=0) (by decide)
 obtain ⟨y1,q1⟩:=some_of hxs' (i:=1) (by decide)
 obtain ⟨y2,q2⟩:=some_of hxs' (i:=2) (by decide)
 obtain ⟨z0,e0,_⟩:=DataW.trod_int Tryz.underlying3 (one_field (c:=v0) (hf 0 _ rfl) q0 (by show List.take (Tryz.prog.cellsOf 3) (List.drop 0 _)=_; rw [c3]; rfl))
 obtain ⟨z1,e1,_⟩:=DataW.trod_int Tryz.underlying3 (one_field (c:=v1) (hf 1 _ rfl) q1 (by show List.take (Tryz.prog.cellsOf 3) (List.drop 1 _)=_; rw [c3]; rfl))
 obtain ⟨z2,e2,_⟩:=DataW.trod_int Tryz.underlying3 (one_field (c:=v2) (hf 2 _ rfl) q2 (by show List.take (Tryz.prog.cellsOf 3) (List.drop 2 _)=_; rw [c3]; rfl))
 cases e0
 cases e1
 cases e2
 exact ⟨⟨z0,z1,z2⟩,rfl⟩
def SlIn (W:World) {α:Type} (vals:α→List Value) (c:Nat) (zs:List α) (v:Value):Prop:=∃ (b:Option Addr) (cap:Nat),v=.slice b zs.length cap∧zs.length≤cap∧(0<zs.length→∃ blk off cur e' fz,b=some ⟨blk,off,none⟩∧W.heap[blk]? =some (.cells cur e' fz) ∧
   ∀ (i:Nat) z (j:Nat),zs[i]? =some z→j<c→cur[off+(i*c+j)]? =(vals z)[j]?)
theorem open_book {v:Value} {d:DataW H} {p:List MemPlace} (hv:∃ cs,v=.agg cs) (h:DataW.Trod enc Tryz.prog W 0 sp held 26 v d p):∃ (b:RBk) (v1 v2 v3:Value),v=.agg #[.int .i64 b.steps,.int .i64 b.round,.int .i64 b.roll,.int .i64 b.rolls,v1,v2,v3]∧SlIn W seamV 5 b.seams v1∧SlIn W bandV 2 b.shrinks v2∧SlIn W measV 3 b.measures v3:=by
 obtain ⟨ca,rfl⟩:=hv
 obtain ⟨fuel,h⟩:=h
 generalize hcs:(Value.agg ca).cells.toList=cs at h
 obtain ⟨xs,n,rfl,hx,hlen,hxs,hf⟩:=DataW.trod_struct Tryz.underlying26 h
 have hlen':cs.length=7:=hlen.trans (by kernel_rfl)
 have hxs':xs.length=7:=hxs
 have c3:Tryz.prog.cellsOf 3=1:=by kernel_rfl
 have c22:Tryz.prog.cellsOf 22=1:=by kernel_rfl
 have c23:Tryz.prog.cellsOf 23=1:=by kernel_rfl
 have c24:Tryz.prog.cellsOf 24=1:=by kernel_rfl
 obtain ⟨v0,v1,v2,v3,v4,v5,v6,rfl⟩:=listN7 hlen'
 obtain ⟨y0,q0⟩:=some_of hxs' (i:=0) (by decide)
 obtain ⟨y1,q1⟩:=some_of hxs' (i:=1) (by decide)
 obtain ⟨y2,q2⟩:=some_of hxs' (i:=2) (by decide)
 obtain ⟨y3,q3⟩:=some_of hxs' (i:=3) (by decide)
 obtain ⟨y4,q4⟩:=some_of hxs' (i:=4) (by decide)
 obtain ⟨y5,q5⟩:=some_of hxs' (i:=5) (by decide)
 obtain ⟨y6,q6⟩:=some_of hxs' (i:=6) (by decide)
 obtain ⟨a0,e0,_⟩:=DataW.trod_int Tryz.underlying3 (one_field (c:=v0) (hf 0 _ rfl) q0 (by show List.take (Tryz.prog.cellsOf 3) (List.drop 0 _)=_; rw [c3]; rfl))
 obtain ⟨a1,e1,_⟩:=DataW.trod_int Tryz.underlying3 (one_field (c:=v1) (hf 1 _ rfl) q1 (by show List.take (Tryz.prog.cellsOf 3) (List.drop 1 _)=_; rw [c3]; rfl))
 obtain ⟨a2,e2,_⟩:=DataW.trod_int Tryz.underlying3 (one_field (c:=v2) (hf 2 _ rfl) q2 (by show List.take (Tryz.prog.cellsOf 3) (List.drop 2 _)=_; rw [c3]; rfl))
 obtain ⟨a3,e3,_⟩:=DataW.trod_int Tryz.underlying3 (one_field (c:=v3) (hf 3 _ rfl) q3 (by show List.take (Tryz.prog.cellsOf 3) (List.drop 3 _)=_; rw [c3]; rfl))
 obtain ⟨l4,b4,cap4,e4,k4,r4⟩:=open_list (vals:=seamV) (c:=5) Tryz.underlying22 (by kernel_rfl) (by decide) dec_seam (one_field (c:=v4) (hf 4 _ rfl) q4 (by show List.take (Tryz.prog.cellsOf 22) (List.drop 4 _)=_; rw [c22]; rfl))
 obtain ⟨l5,b5,cap5,e5,k5,r5⟩:=open_list (vals:=bandV) (c:=2) Tryz.underlying23 (by kernel_rfl) (by decide) dec_band (one_field (c:=v5) (hf 5 _ rfl) q5 (by show List.take (Tryz.prog.cellsOf 23) (List.drop 5 _)=_; rw [c23]; rfl))
 obtain ⟨l6,b6,cap6,e6,k6,r6⟩:=open_list (vals:=measV) (c:=3) Tryz.underlying24 (by kernel_rfl) (by decide) dec_meas (one_field (c:=v6) (hf 6 _ rfl) q6 (by show List.take (Tryz.prog.cellsOf 24) (List.drop 6 _)=_; rw [c24]; rfl))
 cases e0; cases e1; cases e2; cases e3; cases e4; cases e5; cases e6
 refine ⟨⟨a0,a1,a2,a3,l4,l5,l6⟩,_,_,_,?_,⟨b4,cap4,rfl,k4,r4⟩,⟨b5,cap5,rfl,k5,r5⟩,⟨b6,cap6,rfl,k6,r6⟩⟩
 have:ca.toList=_:=hcs
 rw [← Array.toArray_toList (xs:=ca),this]
end
def locV:Value→Loc3
 | .slice (some a) _ _=>⟨a.block,a.off,0⟩
 | _=>⟨0,0,0⟩
def holdAll (W:World):Hp:=fun b=>(W.heap[b]?).map fun o=>(false,o)
theorem holdAll_fits (W:World):Fits (holdAll W) W:=fun b rw' o h=>by
 unfold holdAll at h
 obtain ⟨x,h1,h2⟩:=Option.map_eq_some_iff.1 h
 cases h2
 exact h1
theorem holdAll_get {W:World} {b:Nat} {o:Obj} (h:W.heap[b]? =some o):holdAll W b=some (false,o):=by unfold holdAll; rw [h]; rfl
theorem flat_get {α:Type} {f:α→List AV} {c:Nat} (hc:∀ x,(f x).length=c):∀ (zs:List α) (j:Nat) a,(zs.flatMap f)[j]? =some a→∃ i z jj,zs[i]? =some z∧jj<c∧j=i*c+jj∧(f z)[jj]? =some a
 | [],j,a,h=>by simp at h
 | z::zs,j,a,h=>by
  rw [List.flatMap_cons] at h
  rcases Nat.lt_or_ge j c with hj | hj
  ·rw [List.getElem?_append_left (by rw [hc]; exact hj)] at h
   exact ⟨0,z,j,rfl,hj,by omega,h⟩
  ·rw [List.getElem?_append_right (by rw [hc]; exact hj),hc] at h
   obtain ⟨i,y,jj,h1,h2,h3,h4⟩:=flat_get hc zs _ a h
   exact ⟨i+1,y,jj,h1,h2,by rw [Nat.succ_mul]; omega,h4⟩
theorem relO_in {W:World} {α:Type} {vals:α→List Value} {f:α→List AV} {c:Nat} {zs:List α} {v:Value} {φ:Nat→Loc3} {n:Nat} {e:TypeId} (h:SlIn W vals c zs v) (hc:∀ x,(f x).length=c)
  (hrel:∀ z (jj:Nat) a,(f z)[jj]? =some a→∃ y,(vals z)[jj]? =some y∧RelV φ n a y):RelO φ n (locV v) (holdAll W) (.cells (zs.flatMap f) e false):=by
 intro hne
 obtain ⟨b,cap,rfl,hle,hq⟩:=h
 have hpos:0<zs.length:=by
  rcases Nat.eq_zero_or_pos zs.length with h0 | h0
  ·rw [List.eq_nil_of_length_eq_zero h0] at hne; exact absurd rfl hne
  ·exact h0
 obtain ⟨blk,off,cur,e',fz,rfl,hh,hcell⟩:=hq hpos
 refine ⟨false,cur,(e',fz),holdAll_get hh,(fun h=>by cases h),fun j a ha=>?_⟩
 obtain ⟨i,z,jj,h1,h2,rfl,h4⟩:=flat_get hc zs j a ha
 obtain ⟨y,h5,h6⟩:=hrel z jj a h4
 exact ⟨y,(hcell i z jj h1 h2).trans h5,h6⟩
theorem relV_in {W:World} {α:Type} {vals:α→List Value} {c:Nat} {zs:List α} {v:Value} {φ:Nat→Loc3} {n i:Nat} (h:SlIn W vals c zs v) (hi:i<n) (hφ:φ i=locV v):RelV φ n (.sl i 0 zs.length) v:=by
 obtain ⟨b,cap,rfl,hle,hq⟩:=h
 refine .sl hi hle fun hpos=>?_
 obtain ⟨blk,off,cur,e',fz,rfl,_⟩:=hq hpos
 rw [hφ]
 rfl
theorem seam_rel {φ:Nat→Loc3} {n:Nat} (z) (jj:Nat) (a:AV) (h:(seamC z)[jj]? =some a):∃ y,(seamV z)[jj]? =some y∧RelV φ n a y:=by
 match jj,h with
 | 0,h=>cases h; exact ⟨_,rfl,.v _⟩
 | 1,h=>cases h; exact ⟨_,rfl,.v _⟩
 | 2,h=>cases h; exact ⟨_,rfl,.v _⟩
 | 3,h=>cases h; exact ⟨_,rfl,.v _⟩
 | 4,h=>cases h; exact ⟨_,rfl,.v _⟩
 | jj+5,h=>simp [seamC] at h
theorem band_rel {φ:Nat→Loc3} {n:Nat} (z) (jj:Nat) (a:AV) (h:(bandC z)[jj]? =some a):∃ y,(bandV z)[jj]? =some y∧RelV φ n a y:=by
 match jj,h with
 | 0,h=>cases h; exact ⟨_,rfl,.v _⟩
 | 1,h=>cases h; exact ⟨_,rfl,.v _⟩
 | jj+2,h=>simp [bandC] at h
theorem meas_rel {φ:Nat→Loc3} {n:Nat} (z) (jj:Nat) (a:AV) (h:(measC z)[jj]? =some a):∃ y,(measV z)[jj]? =some y∧RelV φ n a y:=by
 match jj,h with
 | 0,h=>cases h; exact ⟨_,rfl,.v _⟩
 | 1,h=>cases h; exact ⟨_,rfl,.v _⟩
 | 2,h=>cases h; exact ⟨_,rfl,.v _⟩
 | jj+3,h=>simp [measC] at h
theorem fn_rel {φ:Nat→Loc3} {n f:Nat}:RelV φ n (.fn f [] []) (.func (.func f) #[] #[]):=.fn rfl (fun j a y h=>by simp at h) rfl (fun j a y h=>by simp at h)
theorem tbl_rel {W:World} {φ:Nat→Loc3} {n g f1 f2 f3 f4:Nat} {e:TypeId} (h:∃ cur e fz,W.heap[g]? =some (.cells cur e fz)∧cur[0]? =some (.func (.func f1) #[] #[])∧cur[1]? =some (.func (.func f2) #[] #[])∧cur[2]? =some (.func (.func f3) #[] #[])∧cur[3]? =some (.func (.func f4) #[] #[])):RelO φ n ⟨g,0,0⟩ (holdAll W) (.cells [.fn f1 [] [],.fn f2 [] [],.fn f3 [] [],.fn f4 [] []] e false):=by
 intro _
 obtain ⟨cur,e',fz,hh,h0,h1,h2,h3⟩:=h
 refine ⟨false,cur,(e',fz),holdAll_get hh,(fun h=>by cases h),fun j a ha=>?_⟩
 match j,ha with
 | 0,ha=>cases ha; exact ⟨_,h0,fn_rel⟩
 | 1,ha=>cases ha; exact ⟨_,h1,fn_rel⟩
 | 2,ha=>cases ha; exact ⟨_,h2,fn_rel⟩
 | 3,ha=>cases ha; exact ⟨_,h3,fn_rel⟩
 | j+4,ha=>simp at ha
theorem book_rel {W:World} {b:RBk} {x1 x2 x3:Value} {φ:Nat→Loc3} {n s h e:Nat} (h1:SlIn W seamV 5 b.seams x1) (h2:SlIn W bandV 2 b.shrinks x2) (h3:SlIn W measV 3 b.measures x3) (q1:s<n∧φ s=locV x1) (q2:h<n∧φ h=locV x2) (q3:e<n∧φ e=locV x3) :
  RelV φ n (.agg (rollC b s h e)) (.agg #[.int .i64 b.steps,.int .i64 b.round,.int .i64 b.roll,.int .i64 b.rolls,x1,x2,x3]):=by
 refine .agg rfl fun t u z hu hz=>?_
 match t,hu,hz with
 | 0,hu,hz=>cases hu; cases hz; exact .v _
 | 1,hu,hz=>cases hu; cases hz; exact .v _
 | 2,hu,hz=>cases hu; cases hz; exact .v _
 | 3,hu,hz=>cases hu; cases hz; exact .v _
 | 4,hu,hz=>cases hu; cases hz; exact relV_in h1 q1.1 q1.2
 | 5,hu,hz=>cases hu; cases hz; exact relV_in h2 q2.1 q2.2
 | 6,hu,hz=>cases hu; cases hz; exact relV_in h3 q3.1 q3.2
 | t+7,hu,hz=>simp [rollC] at hu
def KeptAll (W w:World):Prop:=∀ i,i<W.heap.size→w.heap[i]? =W.heap[i]?
def startA (W:World) (objs:List AObj):List AObj:=objs++W.heap.toList.map .ro
def startP (n:Nat) (f:Nat→Loc3):Nat→Loc3:=fun i=>if i<n then f i else ⟨i - n,0,0⟩
theorem startP_lt {n i:Nat} {f:Nat→Loc3} (h:i<n):startP n f i=f i:=by unfold startP; rw [if_pos h]
theorem startA_get {W:World} {objs:List AObj} {i:Nat} {o:AObj} (h:(startA W objs)[i]? =some o):(i<objs.length∧objs[i]? =some o)∨∃ q,objs.length≤i∧o=.ro q∧W.heap[i - objs.length]? =some q:=by
 unfold startA at h
 rcases Nat.lt_or_ge i objs.length with hl | hl
 ·rw [List.getElem?_append_left hl] at h; exact .inl ⟨hl,h⟩
 ·rw [List.getElem?_append_right hl,List.getElem?_map] at h
  obtain ⟨q,hq,rfl⟩:=Option.map_eq_some_iff.1 h
  exact .inr ⟨q,hl,rfl,by simpa using hq⟩
theorem roll_run {W:World} {g:FuncId} {fn:Func} {c:Code} {args:List AV} {vs:Array Value} {K:KV} {objs:List AObj} {f:Nat→Loc3} (hf:Tryz.prog.funcs[g]? =some fn) (hb:fn.body=some c) (hi:Tryz.prog.inits.idxOf? g=none)
  (ht:Top Tryz.prog gmR g args K (fun r _=>r=boolA true)) (hK:∀ x∈K,objs[x.1]? =some x.2) (hn:(keys K).Nodup) (h0:f 0=⟨0,0,0⟩) (hpos:0<objs.length) (hx:∀ o∈objs,o.excl=false)
  (ho:∀ (φ:Nat→Loc3) n (i:Nat) o,objs[i]? =some o→RelO φ n (f i) (holdAll W) o)
  (hv:∀ (φ:Nat→Loc3) n,(∀ i,i<objs.length→i<n∧φ i=f i)→RelL φ n args vs) :
  ∃ M last o w' t',runNT Tryz.prog (M+1) (solo (G (Frame.enter Tryz.prog g vs .normal) []) W) #[]=(.ended o w',t') ∧
   runN Tryz.prog M (solo (G (Frame.enter Tryz.prog g vs .normal) []) W)=.next last ∧
   step Tryz.prog last=.ended o w'∧Conc.Good Tryz.prog (fun v w=>v=.bool true∧OsLater W.os w.os∧w.output=W.output∧KeptAll W w) last o w' t':=by
 refine good_run (R:=fun v w=>v=.bool true∧KeptAll W w) (R':=fun v w=>v=.bool true∧OsLater W.os w.os∧w.output=W.output∧KeptAll W w) hf hb hi (fun v w' ho hu hr=>⟨hr.1,ho,hu,hr.2⟩) (fun v w d h=>h) (holdAll_fits W) ?_
 have hlen:(startA W objs).length=objs.length+W.heap.size:=by simp [startA]
 have hex:∀ (i:Nat) o,(startA W objs)[i]? =some o→o.excl=false:=fun i o h=>by
  rcases startA_get h with ⟨_,h⟩ | ⟨q,_,rfl,_⟩
  ·exact hx o (List.mem_of_getElem? h)
  ·rfl
 refine ht _ (startA W objs) (startP objs.length f) (holdAll W) vs (fun x hxK=>?_) hn (fun g i hg=>?_) ⟨fun i o h=>?_,fun i j o o' hi _ _ he=>?_,(fun b x h=>by cases h),fun i o hi he _=>?_⟩ (hv _ _ fun i hi=>⟨by omega,startP_lt hi⟩) ?_
 ·have:=hK x hxK
  obtain ⟨hl,_⟩:=List.getElem?_eq_some_iff.1 this
  show (objs++_)[x.1]? =_
  rw [List.getElem?_append_left hl]
  exact this
 ·match g,hg with
  | 0,hg=>cases hg; exact ⟨by omega,by rw [startP_lt hpos,h0],by rw [startP_lt hpos,h0]⟩
  | g+1,hg=>cases hg
 ·rcases startA_get h with ⟨hl,hq⟩ | ⟨q,hl,rfl,hq⟩
  ·rw [startP_lt hl]; exact ho _ _ i o hq
  ·refine ⟨false,?_⟩
   rw [show (startP objs.length f i).blk=i - objs.length by unfold startP; rw [if_neg (by omega)]]
   exact holdAll_get hq
 ·rw [hex i o hi] at he; cases he
 ·rfl
 ·rintro r K' φ' A' H' v w rfl hk ha hH' hv' hfit
  refine ⟨inv_v hv',fun i hi=>?_⟩
  have hh:=Array.getElem?_eq_getElem hi
  have hA:(startA W objs)[objs.length+i]? =some (.ro W.heap[i]):=by
   unfold startA
   rw [List.getElem?_append_right (by omega),List.getElem?_map,show objs.length+i - objs.length=i by omega]
   simp [hi]
  have hA':=(hk (objs.length+i) (by omega) (fun hm=>by
   obtain ⟨x,hx,e⟩:=List.mem_map.1 hm
   obtain ⟨hl,_⟩:=List.getElem?_eq_some_iff.1 (hK x hx)
   omega)).trans hA
  obtain ⟨rw',hb⟩:=hH'.obj _ _ hA'
  rw [ha _ (show objs.length+i<_ by omega)] at hb
  rw [show (startP objs.length f (objs.length+i)).blk=i by unfold startP; rw [if_neg (by omega)]; show objs.length+i - objs.length=i; omega] at hb
  rw [hh]
  exact hfit i _ _ hb
theorem and32 {a1 a2 a3 a4 a5 a6 a7 a8 a9 a10 a11 a12 a13 a14 a15 a16 a17 a18 a19 a20 a21 a22 a23 a24 a25 a26 a27 a28 a29 a30 a31 a32:Bool} (h1:a1=true) (h2:a2=true) (h3:a3=true) (h4:a4=true) (h5:a5=true) (h6:a6=true) (h7:a7=true) (h8:a8=true) (h9:a9=true) (h10:a10=true) (h11:a11=true) (h12:a12=true) (h13:a13=true) (h14:a14=true) (h15:a15=true) (h16:a16=true) (h17:a17=true) (h18:a18=true) (h19:a19=true) (h20:a20=true) (h21:a21=true) (h22:a22=true) (h23:a23=true) (h24:a24=true) (h25:a25=true) (h26:a26=true) (h27:a27=true) (h28:a28=true) (h29:a29=true) (h30:a30=true) (h31:a31=true) (h32:a32=true):(a1&&a2&&a3&&a4&&a5&&a6&&a7&&a8&&a9&&a10&&a11&&a12&&a13&&a14&&a15&&a16&&a17&&a18&&a19&&a20&&a21&&a22&&a23&&a24&&a25&&a26&&a27&&a28&&a29&&a30&&a31&&a32)=true:=by
 rw [h1,h2,h3,h4,h5,h6,h7,h8,h9,h10,h11,h12,h13,h14,h15,h16,h17,h18,h19,h20,h21,h22,h23,h24,h25,h26,h27,h28,h29,h30,h31,h32]
 rfl
theorem kf3:mapsRowed Tryz.prog=true:=by kernel_rfl
theorem kf7:(Tryz.prog.stops==[])=true:=by kernel_rfl
theorem kf9:(Tryz.prog.stopKnobs==[])=true:=by kernel_rfl
theorem kf25:Tryz.prog.stopsHeard=true:=by kernel_rfl
theorem kf26:Tryz.prog.mayEnter=true:=by kernel_rfl
theorem kf27:(Go.Proofs.YtamcohjpanjdiaaGreatDoor.Rows.rollWidestRow.lifted==Tryz.prog.liftsFinal)=true:=by kernel_rfl
theorem kf28:(Tryz.prog.make==some Go.Proofs.YtamcohjpanjdiaaGreatDoor.Rows.rollWidestRow.make)=true:=by kernel_rfl
theorem kf23:(Go.Proofs.YtamcohjpanjdiaaGreatDoor.Rows.rollWidestRow.plainKeys==Tryz.prog.plainKeys)=true:=by kernel_rfl
theorem own:ownKnob Tryz.prog.godebug=none:=by kernel_rfl
set_option maxRecDepth 100000 in
theorem door_met (os:Os) (args:Array Value):laidMetH Tryz.prog tblLaid ((World.doorLaid Tryz.prog 400 os).forCall (fun _ _=>0) ⟨#[],args,[]⟩).memory :=
 laidMetH_of_parts3 (fuel:=8) (laidMet_nil _ _) (by kernel_rfl) (by kernel_rfl)
theorem kept_but {W w:World} (ho:w.os=W.os) (hu:w.output=W.output) (hk:KeptAll W w) (may:MemPlace→Prop):W.keptBut w may:=by
 refine ⟨ho,hu,fun i hi=>?_⟩
 rw [hk i hi]
 cases W.heap[i]? with
 | none=>rfl
 | some o=>cases o <;> simp
theorem same_at {W w:World} (hk:KeptAll W w) {p:MemPlace} (hp:p.block<W.heap.size):W.sameAt w p:=by
 have:=hk p.block hp
 cases p with
 | cell b o=>exact World.cell?_of_block (w:=W) this
 | map b=>exact this
theorem okAgg {P:Program} {W:World} {base:Nat} {t:TypeId} {fs:Array Field} {v:Value} (ht:P.underlying t=some (.struct fs)) (h:Value.okWide P W .any base t v):∃ cs,v=.agg cs:=by
 unfold Value.okWide at h
 rw [ht] at h
 obtain ⟨cs,h1,_⟩:=h
 exact ⟨cs,h1⟩
theorem laid_out:laidOutB Tryz.prog=true:=by kernel_rfl
theorem trod_mono {H:Type} {enc:TypeId×Value→H} {W w:World} {t:TypeId} {v:Value} {d:DataW H} {p:List MemPlace} (hl:laidOutB Tryz.prog=true) (h:DataW.Trod enc Tryz.prog W 0 (fun _=>true) true t v d p) (hk:KeptAll W w) (hr:Tryz.prog.readableRec t=true:=by kernel_rfl) (hrow:decide (t<Tryz.prog.types.size)=true:=by kernel_rfl):DataW.Trod enc Tryz.prog w 0 (fun b=>decide (b<W.heap.size)) true t v d p:=by
 have hlt:∀ x∈p,x.block<W.heap.size:=by obtain ⟨n,hn⟩:=h; exact DataW.trod_lt n t _ _ hn
 exact WideElems.Trod_stays hl hr (of_decide_eq_true hrow) h (fun x hx=>same_at hk (hlt x hx)) (fun x hx=>by simpa using hlt x hx)
theorem u8_wf {k:Int} (h:(Lit.int IntKind.u8 k).wf=true):0≤k∧k<256:=by
 simp only [Lit.wf,Bool.and_eq_true,decide_eq_true_eq] at h
 have h1:IntKind.u8.min=0:=by decide
 have h2:IntKind.u8.max=255:=by decide
 omega
theorem witness_calm {H:Type} {enc:TypeId×Value→H} {C:Checked} {os:Os} {f:FuncId} {fn:Func} {s:ChangeSpec} {conds:List PathCond} {apart:Bool} {X:World→Array Value→Prop} (w0:World) (args:Array Value) (fuel:Nat) (hos:w0.os=os)
  (hsh:(w0.forCall (fun _ _=>0) ⟨#[],args,[]⟩).Shaped C.prog)
  (hok:Input.okWideB C.prog (w0.forCall (fun _ _=>0) ⟨#[],args,[]⟩) f ⟨#[],args,[]⟩=true)
  (hpre:s.preB enc C.prog fn conds apart (w0.forCall (fun _ _=>0) ⟨#[],args,[]⟩).memory args fuel=true)
  (hsz:s.sizedB enc C.prog fn apart (w0.forCall (fun _ _=>0) ⟨#[],args,[]⟩).memory args fuel=true)
  (hx:X (w0.forCall (fun _ _=>0) ⟨#[],args,[]⟩).memory args) :
  ∃ (w:World) (tape:Tape) (i:Input),w.os=os∧(w.forCall tape i).Shaped C.prog∧i.vars=[]∧Input.okWide C.prog (w.forCall tape i) .any w.heap.size f i ∧
   ((s.pre enc C.prog fn conds apart (w.forCall tape i).memory i.args∧X (w.forCall tape i).memory i.args)∧sizedMet enc C.prog fn (OpenSpec.ofChange s) apart (w.forCall tape i).memory i.args)∧({ calm:=true }:Assume).holds C.prog (lone (Frame.enter C.prog f i.args .normal) [] (w.forCall tape i)) :=
 ⟨w0,fun _ _=>0,⟨#[],args,[]⟩,hos,hsh,(Input.okWide_of_okWideB (base:=0) hok).1,(Input.okWide_of_okWideB hok).2,⟨⟨ChangeSpec.pre_of_preB hpre,hx⟩,sizedMet_of_sizedB hsz⟩,by
  simp only [Assume.holds]
  exact ⟨by simp,fun _ _ _ _=>rfl,by simp,by simp,by simp⟩⟩
theorem holds_tied_goes (Lk:Looks) {p:Pinned} {s:OpenSpec} {c:OpenClaim} (kinds:List LaidKind) (tests:Bool) (har:Bool×String) (lk:Bool)
  (hc:c.holds p s) (hw:c.wfByText s=true)
  (htie:c.laidByTextAt Lk p kinds tests)
  (hst:c.start=.entering) (hnb:c.noBlocks=false∧c.again=false) (hm:p.checked.prog.mainIs=some (har.1,har.2.toList)) (hn:(!har.1&&har.2.isEmpty && !lk)=false)
  (hl:∀ f fn,p.checked.prog.funcNamed c.func=some f→p.checked.prog.funcs[f]? =some fn→lk=p.checked.prog.looks []∧∀ (j:Nat) t,fn.params[j]? =some t→p.checked.prog.wantsStandIn t=false)
  (hg:true=c.goesBy p.checked.prog) :
  Claim7.holds p (.plain s) { stood:={ row:=c,standIns:=[],harness:=har,looks:=lk },kinds:=[],alts:=[],goes:=true,laidByText:=true,laidKinds:=kinds,laidTests:=tests,laidLooks:=Lk }:=by
 have h6:∀ r:OpenClaim,Claim7.isSixth { stood:={ row:=r,standIns:=[],harness:=har,looks:=lk },kinds:=[] }=false:=fun r=>by simpa [Claim7.isSixth] using hn
 exact ⟨Claim7.tied_new_at Lk kinds tests (Claim7.new_of_sixth hc har lk hst hnb hm (h6 c) hl) hw,(fun D hD=>by cases hD),htie,(fun h=>by cases h),hg⟩
end Go.Vel
end
section
set_option linter.all false
set_option maxRecDepth 20000
set_option maxHeartbeats 60000000
namespace Go.Vel
open Go Go.Conc Go.Proofs
instance:Cal Tryz.prog 106:=⟨by kernel_rfl⟩
instance:Cal Tryz.prog 127:=⟨by kernel_rfl⟩
instance:Cal Tryz.prog 18:=⟨by kernel_rfl⟩
instance:Cal Tryz.prog 25:=⟨by kernel_rfl⟩
instance:Cal Tryz.prog 67:=⟨by kernel_rfl⟩
instance:Cal Tryz.prog 97:=⟨by kernel_rfl⟩
instance:Cal Tryz.prog 98:=⟨by kernel_rfl⟩
instance {a0 a1 a2 a3 a4 a5 a6 a7 a8 a9 a10 a11 a12 a13 a14 a15 a16 a17 a18 a19 a20 a21 a22 a23:Oper}:RgL #[a0,a1,a2,a3,a4,a5,a6,a7,a8,a9,a10,a11,a12,a13,a14,a15,a16,a17,a18,a19,a20,a21,a22,a23] [0,1,2,3,4,5,6,7,8,9,10,11,12,13,14,15,16,17,18,19,20,21,22,23]:=⟨rfl⟩
instance {a0 a1 a2 a3 a4 a5 a6 a7 a8 a9 a10 a11 a12 a13 a14 a15 a16 a17 a18 a19 a20 a21 a22 a23 a24:Oper}:RgL #[a0,a1,a2,a3,a4,a5,a6,a7,a8,a9,a10,a11,a12,a13,a14,a15,a16,a17,a18,a19,a20,a21,a22,a23,a24] [0,1,2,3,4,5,6,7,8,9,10,11,12,13,14,15,16,17,18,19,20,21,22,23,24]:=⟨rfl⟩
theorem betweenR_ok {main:Bool} {T:Goroutine→Hp→Prop} (hT:Shut Tryz.prog main T) {gm:Nat→Option Nat} {n lo hi:Int} :
  CallK Tryz.prog T gm 67 [intA n,intA lo,intA hi] [] (fun r K'=>r=boolA (betw n lo hi)∧K'=[]):=by
 refine callK_in 15 hT Tryz.func67 fun Y hret=>?_
 refine au [4,5,2,3,4,5,1,1,6,1] ?_
 refine TK.sp 10 (fun g1_4=>?_) (fun g1_4=>?_)
 ·refine au [1,1,6,26,2,3] ?_
  refine TK.rta hret ?_
  exact ⟨by simp [boolA,betw,g1_4],rfl⟩
 refine au [11,11,11,25,2,3] ?_
 refine TK.rta hret ?_
 exact ⟨by simp [boolA,betw,g1_4],rfl⟩
theorem insideR_ok {main:Bool} {T:Goroutine→Hp→Prop} (hT:Shut Tryz.prog main T) {gm:Nat→Option Nat} {x:RBand} {lo hi:Int} :
  CallK Tryz.prog T gm 127 [.agg (bandC x),intA lo,intA hi] [] (fun r K'=>r=boolA (isBd x lo hi)∧K'=[]):=by
 refine callK_in 24 hT Tryz.func127 fun Y hret=>?_
 refine au [4,5,21] ?_
 intro j1 hj1
 refine au [2,3,4,5,1,7,9,6,1] ?_
 refine TK.sp 11 (fun g1_5=>?_) (fun g1_5=>?_)
 ·refine au [7,9,7,9,6,26,1] ?_
  refine TK.sp 18 (fun g1_12=>?_) (fun g1_12=>?_)
  ·refine au [7,9,1,6,26,2,3] ?_
   refine TK.rt hret [] ?_
   exact ⟨by simp_all [isBd,bandC] <;> (intros; omega),rfl⟩
  refine au [11,11,11,11,25,2,3] ?_
  refine TK.rt hret [] ?_
  exact ⟨by simp_all [isBd,bandC] <;> (intros; omega),rfl⟩
 refine au [11,11,11,11,11,25,1,11,11,11,11,25,2,3] ?_
 refine TK.rt hret [] ?_
 exact ⟨by simp_all [isBd,bandC] <;> (intros; omega),rfl⟩
theorem wideOf_ok {main:Bool} {T:Goroutine→Hp→Prop} (hT:Shut Tryz.prog main T) {gm:Nat→Option Nat} {b:RBk} {s h e i:Nat} (hr:RndOk b) (hs:SmOk b) (hi:i<b.seams.length) :
  CallK Tryz.prog T gm 106 [.agg (rollC b s h e),intA i] [(s,seamO b)] (fun r K'=>r=intA (wideM b i)∧K'=[(s,seamO b)]):=by
 refine callK_in 40 hT Tryz.func106 fun Y hret=>?_
 refine au [] ?_
 have h5:=hs.len
 have hst:=hr.steps
 have f0:=hs.fld 0 (by omega)
 have fi:=hs.fld i hi
 refine au [4,5,21] ?_
 intro jb hjb
 refine au [2,3,4,4,5,1,23,7,9,28,6,3,20] ?_
 refine ⟨fun hc0=>?_,fun hc0=>?_⟩
 ·have hlt:i+1<b.seams.length:=by simp at hc0; omega
  have fn:=hs.fld (i+1) hlt
  refine au [4] ?_
  refine TK.draw [0,1,2,3,4,5,6,7,8,9,10,11,12,13,14] [0,1,2,3,4,5,6,7,8,9,10,11,12,13,14] (by kernel_rfl) (by kernel_rfl) ?_
  refine TD.z [2] rfl (q_fieldAddr rfl rfl FldOf.h (by decide)) ?_
  refine TD.y [11] rfl (hq:=q_load1 rfl rfl TySz.h (List.Mem.head _) rfl) (h:=?_)
  refine TD.z [1] rfl (q_move rfl rfl) ?_
  refine TD.z [13] rfl (q_add rfl rfl rfl (by omega)) ?_
  refine TD.z [12,14] rfl (q_indexSl rfl rfl rfl SlEl.h (by omega) (by omega)) ?_
  refine TD.z [15] rfl (q_fieldAddr rfl rfl FldOf.h (by decide)) ?_
  refine TD.y [16] rfl (hq:=q_load1 rfl rfl TySz.h (List.Mem.head _) (take_fld (c:=0) (sm_at (i:=i+1) b hlt rfl) (by decide) rfl)) (h:=?_)
  refine TD.z [2] rfl (q_fieldAddr rfl rfl FldOf.h (by decide)) ?_
  refine TD.y [18] rfl (hq:=q_load1 rfl rfl TySz.h (List.Mem.head _) rfl) (h:=?_)
  refine TD.z [1] rfl (q_move rfl rfl) ?_
  refine TD.z [19,20] rfl (q_indexSl rfl rfl rfl SlEl.h (by omega) (by omega)) ?_
  refine TD.z [21] rfl (q_fieldAddr rfl rfl FldOf.h (by decide)) ?_
  refine TD.y [22] rfl (hq:=q_load1 rfl rfl TySz.h (List.Mem.head _) (take_fld (c:=0) (sm_at (i:=i) b hi rfl) (by decide) rfl)) (h:=?_)
  refine TD.z [17,23] rfl (q_sub rfl rfl rfl (by omega)) ?_
  refine TD.as (pend':=[]) [24] rfl rfl (q_assign rfl rfl) ?_
  refine TD.fin ?_
  refine au [] ?_
  refine TK.rt hret [(s,_)] ?_
  exact ⟨by unfold wideM; rw [if_pos hlt]; rfl,rfl⟩
 have hlt:¬ i+1<b.seams.length:=by simp at hc0; omega
 refine au [12,4] ?_
 refine TK.draw [0,1,2,3,4,5,6,7,8,9,10,11,12,13,14,15] [0,1,2,3,4,5,6,7,8,9,10,11,12,13,14,15] (by kernel_rfl) (by kernel_rfl) ?_
 refine TD.z [2] rfl (q_fieldAddr rfl rfl FldOf.h (by decide)) ?_
 refine TD.y [25] rfl (hq:=q_load1 rfl rfl TySz.h (List.Mem.head _) rfl) (h:=?_)
 refine TD.z [26] rfl (q_indexSl rfl rfl rfl SlEl.h (by omega) (by omega)) ?_
 refine TD.z [27] rfl (q_fieldAddr rfl rfl FldOf.h (by decide)) ?_
 refine TD.y [28] rfl (hq:=q_load1 rfl rfl TySz.h (List.Mem.head _) (take_fld (c:=0) (sm_at (i:=0) b (by omega) rfl) (by decide) rfl)) (h:=?_)
 refine TD.z [2] rfl (q_fieldAddr rfl rfl FldOf.h (by decide)) ?_
 refine TD.y [30] rfl (hq:=q_load1 rfl rfl TySz.h (List.Mem.head _) rfl) (h:=?_)
 refine TD.z [29,31] rfl (q_add rfl rfl rfl (by omega)) ?_
 refine TD.z [2] rfl (q_fieldAddr rfl rfl FldOf.h (by decide)) ?_
 refine TD.y [33] rfl (hq:=q_load1 rfl rfl TySz.h (List.Mem.head _) rfl) (h:=?_)
 refine TD.z [1] rfl (q_move rfl rfl) ?_
 refine TD.z [34,35] rfl (q_indexSl rfl rfl rfl SlEl.h (by omega) (by omega)) ?_
 refine TD.z [36] rfl (q_fieldAddr rfl rfl FldOf.h (by decide)) ?_
 refine TD.y [37] rfl (hq:=q_load1 rfl rfl TySz.h (List.Mem.head _) (take_fld (c:=0) (sm_at (i:=i) b hi rfl) (by decide) rfl)) (h:=?_)
 refine TD.z [32,38] rfl (q_sub rfl rfl rfl (by omega)) ?_
 refine TD.as (pend':=[]) [39] rfl rfl (q_assign rfl rfl) ?_
 refine TD.fin ?_
 refine au [] ?_
 refine TK.rt hret [(s,_)] ?_
 exact ⟨by unfold wideM; rw [if_neg hlt]; rfl,rfl⟩
theorem seamsR_ok {main:Bool} {T:Goroutine→Hp→Prop} (hT:Shut Tryz.prog main T) {gm:Nat→Option Nat} {b:RBk} {s h e:Nat} (hr:RndOk b) (hl:b.seams.length≤100) :
  CallK Tryz.prog T gm 97 [.agg (rollC b s h e)] [(s,seamO b)] (fun r K'=>r=intA (seamsM b)∧K'=[(s,seamO b)]):=by
 refine callK_in 61 hT Tryz.func97 fun Y hret=>?_
 refine au [] ?_
 have hst:=hr.steps
 refine au [4,5,21] ?_
 intro jb hjb
 refine au [2,3,4,4,5,7,9,28] ?_
 refine TK.cl rfl rfl rfl rfl (betweenR_ok hT) ?_
 rintro r1 K2 ⟨rfl,rfl⟩
 refine au [30,3,20] ?_
 refine ⟨fun hc0=>?_,fun hc0=>?_⟩
 ·refine au [4,5,2,3] ?_
  refine TK.rt hret [(s,_)] ?_
  simp only [Bool.not_eq_true',Bool.not_eq_false'] at hc0
  exact ⟨by simp [seamsM,hc0],rfl⟩
 simp only [Bool.not_eq_true',Bool.not_eq_false'] at hc0
 have hl5:=betw_t hc0
 refine au [12,4,4,5,2,3,13] ?_
 refine TK.maskL [1,2,3] ?_
 refine TK.loopN (fun n env K=>∃ (i:Nat) (last:Int),n=b.seams.length - i∧i≤b.seams.length∧seamsL b last (b.seams.drop i)=seamsM b∧(0<i→last=(sm b (i - 1)).step)∧(i=0→last = -1)∧env=[.any,.ptr jb 0,intA 0,intA i,.any,.any,.any,.any,.any,.any,.any,.any,.any,.any,.any,.any,.any,.any,.any,.any,.any,.any,.any,.any,.any,.any,.any,.any,.any,.any,.any,.any,.any,.any,.any,.any,.any,.any,.any,.any,.any,.any,.any,.any,.any,.any,.any,.any,.any,.any,.any,.any,.any,.any,.any,.any,.any,.any,.any,.any,.any]∧K=[(jb,.cells (rollC b s h e) 26 true),(s,seamO b)]) b.seams.length ⟨0,-1,rfl,Nat.zero_le _,by unfold seamsM; rw [if_neg (by rw [hc0]; decide)]; rfl,fun h=>absurd h (Nat.lt_irrefl _),fun _=>rfl,rfl,rfl⟩ fun n env K hI hnext=>?_
 obtain ⟨i,last,rfl,hi,hinv,hlast,hlast0,rfl,rfl⟩:=hI
 refine au [4,4,5,1,7,9,28,6,3,20] ?_
 refine ⟨fun hc1=>?_,fun hc1=>?_⟩
 ·have hil:i<b.seams.length:=by simp at hc1; omega
  refine au [12,4,13,4,5,7,9,1,36] ?_
  refine TK.a rfl (q_load rfl rfl TySz.h (by repeat (first | exact List.Mem.head _ | assumption | apply List.Mem.tail)) (sm_at (i:=i) b hil rfl)) ?_
  refine au [22] ?_
  intro jx hjx
  refine au [17,3,4,4,5,7,9,7,9,24] ?_
  refine TK.cl rfl rfl rfl rfl (betweenR_ok hT) ?_
  rintro r4 K5 ⟨rfl,rfl⟩
  refine au [30,1] ?_
  refine TK.sp 29 (fun g7_8=>?_) (fun g7_8=>?_)
  ·refine au [11,11,11,11,26,1,11,11,11,11,26,1,11,11,11,11,26,3,18,4,5,2,3] ?_
   refine TK.rt hret [(s,_)] ?_
   exact ⟨by rw [← hinv,drop_cons (sm_get hil),seamsL,if_pos (by simp only [Bool.not_eq_true',Bool.not_eq_false'] at g7_8; simp [seamB,g7_8])],rfl⟩
  refine au [7,9] ?_
  refine TK.cl rfl rfl rfl rfl (betweenR_ok hT) ?_
  rintro r7 K8 ⟨rfl,rfl⟩
  refine au [30,25,1] ?_
  refine TK.sp 35 (fun g7_14=>?_) (fun g7_14=>?_)
  ·refine au [11,11,11,11,26,1,11,11,11,11,26,3,18,4,5,2,3] ?_
   refine TK.rt hret [(s,_)] ?_
   exact ⟨by rw [← hinv,drop_cons (sm_get hil),seamsL,if_pos (by simp only [Bool.not_eq_true',Bool.not_eq_false'] at g7_8 g7_14; simp [seamB,g7_8,g7_14])],rfl⟩
  refine au [7,9] ?_
  refine TK.cl rfl rfl rfl rfl (betweenR_ok hT) ?_
  rintro r10 K11 ⟨rfl,rfl⟩
  refine au [30,25,1] ?_
  refine TK.sp 41 (fun g7_20=>?_) (fun g7_20=>?_)
  ·refine au [11,11,11,11,26,3,18,4,5,2,3] ?_
   refine TK.rt hret [(s,_)] ?_
   exact ⟨by rw [← hinv,drop_cons (sm_get hil),seamsL,if_pos (by simp only [Bool.not_eq_true',Bool.not_eq_false'] at g7_8 g7_14 g7_20; simp [seamB,g7_8,g7_14,g7_20])],rfl⟩
  refine au [7,9] ?_
  refine TK.cl rfl rfl rfl rfl (betweenR_ok hT) ?_
  rintro r13 K14 ⟨rfl,rfl⟩
  refine au [30,25,3,20] ?_
  refine ⟨fun hc2=>?_,fun hc2=>?_⟩
  ·refine au [4,5,2,3] ?_
   refine TK.rt hret [(s,_)] ?_
   exact ⟨by rw [← hinv,drop_cons (sm_get hil),seamsL,if_pos (by simp only [Bool.not_eq_true',Bool.not_eq_false'] at g7_8 g7_14 g7_20 hc2; simp [seamB,g7_8,g7_14,g7_20,hc2])],rfl⟩
  have hsb:seamB b (sm b i)=true:=by simp only [Bool.not_eq_true',Bool.not_eq_false'] at g7_8 g7_14 g7_20 hc2; simp [seamB,g7_8,g7_14,g7_20,hc2]
  refine au [12,4] ?_
  refine TK.draw [0,1,2,3,4,5,6,7,8,9,10,11,12,13] [0,1,2,3,4,5,6,7,8,9,10,11,12,13] (by kernel_rfl) (by kernel_rfl) ?_
  refine TD.z [3] rfl (q_move rfl rfl) ?_
  refine TD.z [47] rfl (q_cmp rfl rfl rfl rfl) ?_
  refine TD.z [48] rfl (q_move rfl rfl) ?_
  refine TD.sp 49 (fun g9_3=>?_) (fun g9_3=>?_)
  ·have hi0:0<i:=by simp at g9_3; omega
   refine TD.z [4,49] rfl (q_fieldAddr rfl rfl FldOf.h (by decide)) ?_
   refine TD.y [49,50] rfl (hq:=q_load1 rfl rfl TySz.h (List.Mem.head _) rfl) (h:=?_)
   refine TD.z [1,49] rfl (q_fieldAddr rfl rfl FldOf.h (by decide)) ?_
   refine TD.y [49,52] rfl (hq:=q_load1 rfl rfl TySz.h (List.Mem.head _) rfl) (h:=?_)
   refine TD.z [3,49] rfl (q_move rfl rfl) ?_
   refine TD.z [49,54] rfl (q_sub rfl rfl rfl (by omega)) ?_
   refine TD.z [49,53,55] rfl (q_indexSl rfl rfl rfl SlEl.h (by omega) (by omega)) ?_
   refine TD.z [49,56] rfl (q_fieldAddr rfl rfl FldOf.h (by decide)) ?_
   refine TD.y [49,57] rfl (hq:=q_load1 rfl rfl TySz.h (List.Mem.head _) (take_fld (c:=0) (sm_at (i:=i - 1) b (by omega) (by omega)) (by decide) rfl)) (h:=?_)
   refine TD.z [49,51,58] rfl (q_cmp rfl rfl rfl rfl) ?_
   refine TD.z [49,59] rfl (q_pickT rfl rfl rfl) ?_
   refine TD.fin ?_
   refine au [20] ?_
   refine ⟨fun hc3=>?_,fun hc3=>?_⟩
   ·refine au [4,5,2,3] ?_
    refine TK.rt hret [(s,_)] ?_
    exact ⟨by rw [← hinv,drop_cons (sm_get hil),seamsL,if_neg (by rw [hsb]; decide),if_pos (by rw [hlast (by simp at g9_3; omega)]; exact of_decide_eq_true hc3)],rfl⟩
   refine au [12,14,5,1,23,2,3] ?_
   refine TK.maskL [1,2,3] ?_
   refine TK.kp [(jb,_),(s,_)] ?_
   exact hnext _ _ _ (by omega) ⟨i+1,(sm b i).step,rfl,by omega,by rw [← hinv,drop_cons (sm_get hil),seamsL,if_neg (by rw [hsb]; decide),if_neg (by rw [hlast (by simp at g9_3; omega)]; exact of_decide_eq_false hc3)],fun _=>rfl,fun h=>by omega,rfl,rfl⟩
  refine TD.u [4,49] rfl ?_
  refine TD.u [49,50] rfl ?_
  refine TD.u [1,49] rfl ?_
  refine TD.u [49,52] rfl ?_
  refine TD.u [3,49] rfl ?_
  refine TD.u [49,54] rfl ?_
  refine TD.u [49,53,55] rfl ?_
  refine TD.u [49,56] rfl ?_
  refine TD.u [49,57] rfl ?_
  refine TD.u [49,51,58] rfl ?_
  refine TD.z [49,59] rfl (q_pickF rfl rfl rfl) ?_
  refine TD.fin ?_
  refine au [19,12,14,5,1,23,2,3] ?_
  refine TK.maskL [1,2,3] ?_
  refine TK.kp [(jb,_),(s,_)] ?_
  exact hnext _ _ _ (by omega) ⟨i+1,(sm b i).step,rfl,by omega,by have h0:=(seamB_t hsb).1; rw [← hinv,drop_cons (sm_get hil),seamsL,if_neg (by rw [hsb]; decide),if_neg (by rw [hlast0 (by simp at g9_3; omega)]; omega)],fun _=>rfl,fun h=>by omega,rfl,rfl⟩
 obtain rfl:i=b.seams.length:=by simp at hc1; omega
 refine au [16,4,5,2,3] ?_
 refine TK.rt hret [(s,_)] ?_
 exact ⟨by rw [← hinv,List.drop_length]; rfl,rfl⟩
theorem clothsR_ok {main:Bool} {T:Goroutine→Hp→Prop} (hT:Shut Tryz.prog main T) {gm:Nat→Option Nat} {b:RBk} {s h e:Nat} (hr:RndOk b) (hs:SmOk b) (hm:b.measures.length≤100) :
  CallK Tryz.prog T gm 98 [.agg (rollC b s h e)] [(s,seamO b),(h,shrO b),(e,measO b)] (fun r K'=>r=intA (if clothsM b≠0 then clothsM b else measM b)∧K'=[(s,seamO b),(h,shrO b),(e,measO b)]):=by
 refine callK_in 80 hT Tryz.func98 fun Y hret=>?_
 refine au [] ?_
 have hst:=hr.steps
 have hl5:=hs.len
 refine au [4,5,21] ?_
 intro jb hjb
 refine au [2,3,4,4,5,7,9,28,7,9,28,6,3,20] ?_
 refine ⟨fun hc0=>?_,fun hc0=>?_⟩
 ·refine au [4,5,2,3] ?_
  refine TK.rt hret [(s,_),(h,_),(e,_)] ?_
  exact ⟨by rw [show clothsM b=2 by unfold clothsM; rw [if_pos (by simp at hc0; omega)]]; rfl,rfl⟩
 have hle:b.shrinks.length=b.seams.length:=by simp at hc0; omega
 refine au [12,4,4,5,2,3,13] ?_
 refine TK.maskL [1,2,3] ?_
 refine TK.loopN (fun n env K=>∃ (i:Nat),n=b.shrinks.length - i∧i≤b.shrinks.length∧clothsL b i (b.shrinks.drop i)=clothsM b∧env=[.any,.ptr jb 0,intA 0,intA i,.any,.any,.any,.any,.any,.any,.any,.any,.any,.any,.any,.any,.any,.any,.any,.any,.any,.any,.any,.any,.any,.any,.any,.any,.any,.any,.any,.any,.any,.any,.any,.any,.any,.any,.any,.any,.any,.any,.any,.any,.any,.any,.any,.any,.any,.any,.any,.any,.any,.any,.any,.any,.any,.any,.any,.any,.any,.any,.any,.any,.any,.any,.any,.any,.any,.any,.any,.any,.any,.any,.any,.any,.any,.any,.any,.any]∧K=[(jb,.cells (rollC b s h e) 26 true),(s,seamO b),(h,shrO b),(e,measO b)]) b.shrinks.length ⟨0,rfl,Nat.zero_le _,by unfold clothsM; rw [if_neg (by simpa using hle)]; rfl,rfl,rfl⟩ fun n env K hI hnext=>?_
 obtain ⟨i,rfl,hi,hinv,rfl,rfl⟩:=hI
 refine au [4,4,5,1,7,9,28,6,3,20] ?_
 refine ⟨fun hc1=>?_,fun hc1=>?_⟩
 ·have hil:i<b.shrinks.length:=by simp at hc1; omega
  refine au [12,4,13,4,5,7,9,1,36] ?_
  refine TK.a rfl (q_load rfl rfl TySz.h (by repeat (first | exact List.Mem.head _ | assumption | apply List.Mem.tail)) (bd_at (i:=i) b hil rfl)) ?_
  refine au [22] ?_
  intro jx hjx
  refine au [17,3,4,4,5,8] ?_
  refine TK.cl rfl rfl rfl rfl (insideR_ok hT (x:=bd b i)) ?_
  rintro r1 K2 ⟨rfl,rfl⟩
  refine au [30,1] ?_
  refine TK.sp 29 (fun g7_4=>?_) (fun g7_4=>?_)
  ·refine au [11,11,11,11,11,11,26,3,18,4,5,2,3] ?_
   refine TK.rt hret [(s,_),(h,_),(e,_)] ?_
   exact ⟨by rw [show clothsM b=1 by rw [← hinv,drop_cons (bd_get hil),clothsL,if_pos (by simp at g7_4; simp [bandB,g7_4])]]; rfl,rfl⟩
  have hbd:0≤(bd b i).low∧(bd b i).low≤(bd b i).high∧(bd b i).high≤5:=by simp [isBd] at g7_4; omega
  refine au [7,9,7,9,24,6,25,3,20] ?_
  refine ⟨fun hc2=>?_,fun hc2=>?_⟩
  ·refine au [4,5,2,3] ?_
   refine TK.rt hret [(s,_),(h,_),(e,_)] ?_
   exact ⟨by rw [show clothsM b=1 by rw [← hinv,drop_cons (bd_get hil),clothsL,if_pos (by simp at g7_4 hc2; simp [bandB,g7_4] <;> omega)]]; rfl,rfl⟩
  have hbb:bandB (bd b i)=true:=by simp at g7_4 hc2; simp [bandB,g7_4]; omega
  refine au [12,4] ?_
  refine TK.draw [0,1,2,3,4,5] [0,1,2,3,4,5] (by kernel_rfl) (by kernel_rfl) ?_
  refine TD.z [4] rfl (q_fieldAddr rfl rfl FldOf.h (by decide)) ?_
  refine TD.y [37] rfl (hq:=q_load1 rfl rfl TySz.h (List.Mem.head _) rfl) (h:=?_)
  refine TD.y [1] rfl (hq:=q_load rfl rfl TySz.h (List.Mem.head _) rfl) (h:=?_)
  refine TD.z [3] rfl (q_move rfl rfl) ?_
  refine TD.cl (pend':=[⟨1,[37],[(_,_)]⟩,⟨0,[4],[]⟩]) [39,40] rfl rfl rfl rfl rfl (wideOf_ok hT (i:=i) hr hs (by omega)) (fun r4 K5 h6=>⟨?_,?_⟩)
  ·rcases h6 with ⟨rfl,rfl⟩
   all_goals simp
  obtain ⟨rfl,rfl⟩:=h6
  try simp only [List.cons_append,List.nil_append]
  refine TD.norm (by simp only [List.set]; rfl) ?_
  refine TD.z [38,41] rfl (q_cmp rfl rfl rfl rfl) ?_
  refine TD.fin ?_
  refine au [20] ?_
  refine ⟨fun hc3=>?_,fun hc3=>?_⟩
  ·refine au [4,5,2,3] ?_
   refine TK.rt hret [(s,_),(h,_),(e,_)] ?_
   exact ⟨by rw [show clothsM b=8 by rw [← hinv,drop_cons (bd_get hil),clothsL,if_neg (by rw [hbb]; decide),if_pos (of_decide_eq_true hc3)]]; rfl,rfl⟩
  refine au [12,14,5,1,23,2,3] ?_
  refine TK.maskL [1,2,3] ?_
  refine TK.kp [(jb,_),(s,_),(h,_),(e,_)] ?_
  exact hnext _ _ _ (by omega) ⟨i+1,rfl,by omega,by rw [← hinv,drop_cons (bd_get hil),clothsL,if_neg (by rw [hbb]; decide),if_neg (of_decide_eq_false hc3)],rfl,rfl⟩
 obtain rfl:i=b.shrinks.length:=by simp at hc1; omega
 have hcl:clothsM b=0:=by rw [← hinv,List.drop_length]; rfl
 refine au [16,4,4,5,7,9,28,6,3,20] ?_
 refine ⟨fun hc4=>?_,fun hc4=>?_⟩
 ·refine au [4,5,2,3] ?_
  refine TK.rt hret [(s,_),(h,_),(e,_)] ?_
  exact ⟨by rw [if_neg (fun h=>h hcl),show measM b=2 by unfold measM; rw [if_pos (by simp at hc4; omega)]],rfl⟩
 refine au [12,4,4,5,2,3,13] ?_
 refine TK.maskL [1,2,5] ?_
 refine TK.loopN (fun n env K=>∃ (i:Nat),n=b.measures.length - i∧i≤b.measures.length∧measL b (b.measures.drop i)=measM b∧env=[.any,.ptr jb 0,intA 0,.any,.any,intA i,.any,.any,.any,.any,.any,.any,.any,.any,.any,.any,.any,.any,.any,.any,.any,.any,.any,.any,.any,.any,.any,.any,.any,.any,.any,.any,.any,.any,.any,.any,.any,.any,.any,.any,.any,.any,.any,.any,.any,.any,.any,.any,.any,.any,.any,.any,.any,.any,.any,.any,.any,.any,.any,.any,.any,.any,.any,.any,.any,.any,.any,.any,.any,.any,.any,.any,.any,.any,.any,.any,.any,.any,.any,.any]∧K=[(jb,.cells (rollC b s h e) 26 true),(s,seamO b),(h,shrO b),(e,measO b)]) b.measures.length ⟨0,rfl,Nat.zero_le _,by unfold measM; rw [if_neg (by simp at hc4; omega)]; rfl,rfl,rfl⟩ fun n env K hI hnext=>?_
 obtain ⟨i,rfl,hi,hinv2,rfl,rfl⟩:=hI
 refine au [4,4,5,1,7,9,28,6,3,20] ?_
 refine ⟨fun hc5=>?_,fun hc5=>?_⟩
 ·have hil:i<b.measures.length:=by simp at hc5; omega
  obtain ⟨x,hg⟩:∃ x,b.measures[i]? =some x:=⟨_,List.getElem?_eq_getElem hil⟩
  refine au [12,4,13,4,5,7,9,1,36] ?_
  refine TK.a rfl (q_load rfl rfl TySz.h (by repeat (first | exact List.Mem.head _ | assumption | apply List.Mem.tail)) (mes_at (i:=i) hg rfl)) ?_
  refine au [22] ?_
  intro jy hjy
  refine au [17,3,4,4,5,7,9,7,9,28,24] ?_
  refine TK.cl rfl rfl rfl rfl (betweenR_ok hT) ?_
  rintro r7 K8 ⟨rfl,rfl⟩
  refine au [30,3,20] ?_
  refine ⟨fun hc6=>?_,fun hc6=>?_⟩
  ·refine au [4,5,2,3] ?_
   refine TK.rt hret [(s,_),(h,_),(e,_)] ?_
   exact ⟨by rw [if_neg (fun h=>h hcl),← hinv2,drop_cons hg,measL,if_pos (by simp at hc6; simp [thereM,hc6]),show thereM b x.cloth=6 by simp at hc6; simp [thereM,hc6]],rfl⟩
  refine au [12,4,5,7,9,7,9,28] ?_
  refine TK.cl rfl rfl rfl rfl (betweenR_ok hT) ?_
  rintro r10 K11 ⟨rfl,rfl⟩
  refine au [30,1] ?_
  refine TK.sp 74 (fun g19_8=>?_) (fun g19_8=>?_)
  ·refine au [11,11,11,11,26,3,18,4,5,2,3] ?_
   refine TK.rt hret [(s,_),(h,_),(e,_)] ?_
   exact ⟨by rw [if_neg (fun h=>h hcl),← hinv2,drop_cons hg,measL,if_neg (by simp at hc6; simp [thereM,hc6]),if_pos (by simp at g19_8; simp [measB,g19_8])],rfl⟩
  refine au [7,9] ?_
  refine TK.cl rfl rfl rfl rfl (betweenR_ok hT) ?_
  rintro r13 K14 ⟨rfl,rfl⟩
  refine au [30,25,3,20] ?_
  refine ⟨fun hc7=>?_,fun hc7=>?_⟩
  ·refine au [4,5,2,3] ?_
   refine TK.rt hret [(s,_),(h,_),(e,_)] ?_
   exact ⟨by rw [if_neg (fun h=>h hcl),← hinv2,drop_cons hg,measL,if_neg (by simp at hc6; simp [thereM,hc6]),if_pos (by simp at g19_8 hc7; simp [measB,g19_8,hc7])],rfl⟩
  refine au [12,14,5,1,23,2,3] ?_
  refine TK.maskL [1,2,5] ?_
  refine TK.kp [(jb,_),(s,_),(h,_),(e,_)] ?_
  exact hnext _ _ _ (by omega) ⟨i+1,rfl,by omega,by rw [← hinv2,drop_cons hg,measL,if_neg (by simp at hc6; simp [thereM,hc6]),if_neg (by simp at g19_8 hc7; simp [measB,g19_8,hc7])],rfl,rfl⟩
 obtain rfl:i=b.measures.length:=by simp at hc5; omega
 refine au [16,4,5,2,3] ?_
 refine TK.rt hret [(s,_),(h,_),(e,_)] ?_
 exact ⟨by rw [if_neg (fun h=>h hcl),← hinv2,List.drop_length]; rfl,rfl⟩
theorem checkR_ok {main:Bool} {T:Goroutine→Hp→Prop} (hT:Shut Tryz.prog main T) {gm:Nat→Option Nat} {b:RBk} {s h e:Nat} (hl:b.seams.length≤100) (hm:b.measures.length≤100) :
  CallK Tryz.prog T gm 25 [.agg (rollC b s h e)] [(s,seamO b),(h,shrO b),(e,measO b)] (fun r K'=>r=intA (checkM b)∧K'=[(s,seamO b),(h,shrO b),(e,measO b)]):=by
 refine callK_in 35 hT Tryz.func25 fun Y hret=>?_
 refine au [4,5,21] ?_
 intro jb hjb
 refine au [2,3,4,4,5,7,9] ?_
 refine TK.cl rfl rfl rfl rfl (betweenR_ok hT) ?_
 rintro r1 K2 ⟨rfl,rfl⟩
 refine au [30,1] ?_
 refine TK.sp 8 (fun g1_5=>?_) (fun g1_5=>?_)
 ·refine au [11,11,11,11,11,11,26,1,11,11,11,11,26,1,11,11,11,11,26,3,18,4,5,2,3] ?_
  refine TK.rt hret [(s,_),(h,_),(e,_)] ?_
  simp only [Bool.not_eq_true',Bool.not_eq_false'] at g1_5
  exact ⟨by rw [show checkM b=1 by unfold checkM; rw [if_pos (by rw [show roundsM b=1 by simp [roundsM,g1_5]]; decide)]; simp [roundsM,g1_5]],rfl⟩
 refine au [7,9,7,9] ?_
 refine TK.cl rfl rfl rfl rfl (betweenR_ok hT) ?_
 rintro r4 K5 ⟨rfl,rfl⟩
 refine au [30,25,1] ?_
 refine TK.sp 16 (fun g1_13=>?_) (fun g1_13=>?_)
 ·refine au [11,11,11,11,26,1,11,11,11,11,26,3,18,4,5,2,3] ?_
  refine TK.rt hret [(s,_),(h,_),(e,_)] ?_
  simp only [Bool.not_eq_true',Bool.not_eq_false'] at g1_5 g1_13
  exact ⟨by rw [show checkM b=1 by unfold checkM; rw [if_pos (by rw [show roundsM b=1 by simp [roundsM,g1_5,g1_13]]; decide)]; simp [roundsM,g1_5,g1_13]],rfl⟩
 refine au [7,9] ?_
 refine TK.cl rfl rfl rfl rfl (betweenR_ok hT) ?_
 rintro r7 K8 ⟨rfl,rfl⟩
 refine au [30,25,1] ?_
 refine TK.sp 22 (fun g1_19=>?_) (fun g1_19=>?_)
 ·refine au [11,11,11,11,26,3,18,4,5,2,3] ?_
  refine TK.rt hret [(s,_),(h,_),(e,_)] ?_
  simp only [Bool.not_eq_true',Bool.not_eq_false'] at g1_5 g1_13 g1_19
  exact ⟨by rw [show checkM b=1 by unfold checkM; rw [if_pos (by rw [show roundsM b=1 by simp [roundsM,g1_5,g1_13,g1_19]]; decide)]; simp [roundsM,g1_5,g1_13,g1_19]],rfl⟩
 refine au [7,9] ?_
 refine TK.cl rfl rfl rfl rfl (betweenR_ok hT) ?_
 rintro r10 K11 ⟨rfl,rfl⟩
 refine au [30,25,3,20] ?_
 refine ⟨fun hc0=>?_,fun hc0=>?_⟩
 ·refine au [4,5,2,3] ?_
  refine TK.rt hret [(s,_),(h,_),(e,_)] ?_
  simp only [Bool.not_eq_true',Bool.not_eq_false'] at g1_5 g1_13 g1_19 hc0
  exact ⟨by rw [show checkM b=1 by unfold checkM; rw [if_pos (by rw [show roundsM b=1 by simp [roundsM,g1_5,g1_13,g1_19,hc0]]; decide)]; simp [roundsM,g1_5,g1_13,g1_19,hc0]],rfl⟩
 simp only [Bool.not_eq_true',Bool.not_eq_false'] at g1_5 g1_13 g1_19 hc0
 have hr0:roundsM b=0:=by simp [roundsM,g1_5,g1_13,g1_19,hc0]
 have hr:=rounds_ok0 hr0
 refine au [12,4,4,5,8] ?_
 refine TK.cl rfl rfl rfl rfl (seamsR_ok hT hr hl) ?_
 rintro r13 K14 ⟨rfl,rfl⟩
 refine au [2,3,4,5,1,6,3,20] ?_
 refine ⟨fun hc1=>?_,fun hc1=>?_⟩
 ·refine au [4,5,1,2,3] ?_
  refine TK.rt hret [(s,_),(h,_),(e,_)] ?_
  exact ⟨by unfold checkM; rw [if_neg (by simpa using hr0),if_pos (by simpa using hc1)],rfl⟩
 have hs0:seamsM b=0:=by simpa using hc1
 have hs:=seams_ok0 hs0
 refine au [12,4,5,8] ?_
 refine TK.cl rfl rfl rfl rfl (clothsR_ok hT hr hs hm) ?_
 rintro r16 K17 ⟨rfl,rfl⟩
 refine au [2,3] ?_
 refine TK.rt hret [(s,_),(h,_),(e,_)] ?_
 exact ⟨by rw [show checkM b=(if clothsM b≠0 then clothsM b else measM b) by unfold checkM; rw [if_neg (by simpa using hr0),if_neg (by simpa using hs0)]],rfl⟩
theorem fit_ok {main:Bool} {T:Goroutine→Hp→Prop} (hT:Shut Tryz.prog main T) {gm:Nat→Option Nat} {b:RBk} {s h e:Nat} :
  CallK Tryz.prog T gm 49 [.agg (rollC b s h e)] [(s,seamO b),(h,shrO b),(e,measO b)] (fun r K'=>r=boolA (!greatM b&&decide (checkM b=0))∧K'=[(s,seamO b),(h,shrO b),(e,measO b)]):=by
 refine callK_in 11 hT Tryz.func49 fun Y hret=>?_
 refine au [4,5,21] ?_
 intro jb hjb
 refine au [2,3,4,5,8] ?_
 refine TK.cl rfl rfl rfl rfl (great_ok hT) ?_ (hs:=(.none _))
 rintro r1 K2 ⟨rfl,rfl⟩
 refine au [30,1] ?_
 refine TK.sp 6 (fun g1_4=>?_) (fun g1_4=>?_)
 ·refine au [8] ?_
  refine TK.cl rfl rfl rfl rfl (checkR_ok hT (by simp [greatM] at g1_4; omega) (by simp [greatM] at g1_4; omega)) ?_
  rintro r4 K5 ⟨rfl,rfl⟩
  refine au [6,26,2,3] ?_
  refine TK.rt hret [(s,_),(h,_),(e,_)] ?_
  exact ⟨by simp at g1_4; rw [g1_4]; simp; rfl,rfl⟩
 refine au [11,11,11,25,2,3] ?_
 refine TK.rt hret [(s,_),(h,_),(e,_)] ?_
 exact ⟨by simp at g1_4; rw [g1_4]; rfl,rfl⟩
end Go.Vel
end
