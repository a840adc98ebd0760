/- Texts for the statements of chapter 8: what all of them need, part 9. It holds of every program, tape and world that the statements name, as each theorem says. -/
import Derived.Test.YtamcohjpanjdiaaGreatDoorU7
section
set_option linter.all false
set_option maxRecDepth 20000
set_option maxHeartbeats 60000000
namespace Go.Vel
open Go Go.Conc Go.Proofs
theorem zhl {main:Bool} {T:Goroutine->Hp->Prop} (hT:Shut Tryz.prog main T) {gm:Nat->Option Nat} {b:RBk} {s h e mask:Nat} (hm:b.measures.length<=3) (hk:mask<100) :
  CallK Tryz.prog T gm 116 [.agg (rollC b s h e),intA mask] [(e,measO b)] (fun r K'=>∃ jl jm,r=.tup [.agg [intA b.steps,intA b.round,intA b.roll,intA b.rolls,.sl s 0 b.seams.length,.sl h 0 b.shrinks.length,.row jm (onlyB b mask).measures.length],.row jl (bitsM mask b.measures.length).length]/\K'=[(jl,.row ((bitsM mask b.measures.length).map intA) 3 1),(jm,.row ((onlyB b mask).measures.flatMap measC) 49 3),(e,measO b)]):=by
 refine zf 42 hT Tryz.func116 fun Y hret=>?_
 refine au [4,5,21] ?_
 intro jb hjb
 refine au [22] ?_
 intro jr hjr
 refine au [2,3,4,5,2] ?_
 refine TK.virt 6 3 1 rfl fun jl0 hjl0=>?_
 refine au [3,4,5,8,22] ?_
 intro j7 hj7
 refine au [17,3,4,5,7,7,17] ?_
 refine TK.normK (K':=[(j7,.cells [intA b.steps,intA b.round,intA b.roll,intA b.rolls,.sl s 0 b.seams.length,.sl h 0 b.shrinks.length,.v (.slice none 0 0)] 113 true),_,_,_,_]) (by simp only [setL,rollC,List.drop_zero,List.take,List.set]; rfl) ?_
 refine TK.virtAt (j:=j7) (i:=6) (e:=49) (size:=3) (l:=[intA b.steps,intA b.round,intA b.roll,intA b.rolls,.sl s 0 b.seams.length,.sl h 0 b.shrinks.length,.v (.slice none 0 0)]) rfl (fun _=>uQ) fun jm0 hjm0=>?_
 refine au [3,4,4,5,7,7,9,28,1,3,13] ?_
 refine TK.maskL [1,4,5,6,7,15,16,17] ?_
 refine TK.kp [(e,_),(jl0,_),(jm0,_),(j7,_),(jr,_)] ?_
 refine TK.loopN (fun n env K=>∃ (i jl jm:Nat),n=b.measures.length - i/\i<=b.measures.length/\env=[.any,.v (.int .i64 ((mask:Nat):Int)),.any,.any,.ptr jr 0,.v (.slice none 0 0),.row jl (bitsM mask i).length,.ptr j7 0,.any,.any,.any,.any,.any,.any,.any,.sl e 0 b.measures.length,intA b.measures.length,intA i,.any,.any,.any,.any,.any,.any,.any,.any,.any,.any,.any,.any,.any,.any,.any,.any,.any,.any,.any,.any,.any,.any,.any,.any]/\K=[(e,measO b),(jl,.row ((bitsM mask i).map intA) 3 1),(jm,.row ((onlyL b.measures mask i).flatMap measC) 49 3),(j7,.cells [intA b.steps,intA b.round,intA b.roll,intA b.rolls,.sl s 0 b.seams.length,.sl h 0 b.shrinks.length,.row jm (onlyL b.measures mask i).length] 113 true),(jr,.cells z7R 113 true)]) b.measures.length ⟨0,jl0,jm0,rfl,Nat.zero_le _,rfl,rfl⟩ fun n env K hI hnext=>?_
 obtain ⟨i,jl,jm,rfl,hi,rfl,rfl⟩:=hI
 have hbl:=kC mask i
 have hol:=uD b.measures mask i hi
 have hfl:=zS measC 3 (fun _=>rfl) (onlyL b.measures mask i)
 refine au [4,5,6,3,4,20] ?_
 refine ⟨fun hc0=>?_,fun hc0=>?_⟩
 ·have hil:i<b.measures.length:=by simp at hc0; omega
  obtain ⟨x,hx⟩:∃ x,b.measures[i]? =some x:=⟨_,List.getElem?_eq_getElem hil⟩
  refine au [12,4,13,4,5,1,36] ?_
  refine TK.a rfl (zx rfl rfl TySz.h mQ (xE (i:=i) hx rfl)) ?_
  refine au [22] ?_
  intro j9 hj9
  refine au [2,17,3,4,5,1,1] ?_
  refine TK.a rfl (q_sh rfl rfl rfl ⟨by omega,by show ((i:Nat):Int)<=64; omega⟩ (ze6 mask i)) ?_
  refine TK.a rfl (zeV rfl rfl rfl (by have:=Nat.div_le_self mask (2 ^ i); omega)) ?_
  refine au [6,3,20] ?_
  refine ⟨fun hc1=>?_,fun hc1=>?_⟩
  ·have hbit:mask / 2 ^ i % 2=1:=by have h:=eq_of_beq hc1; omega
   have hk1:bitsM mask (i+1)=bitsM mask i++[(i:Int)]:=by show bitsM mask i++_=_; rw [if_pos hbit]
   have hk2:onlyL b.measures mask (i+1)=onlyL b.measures mask i++[x]:=by show onlyL b.measures mask i++_=_; rw [if_pos hbit,hx]; rfl
   refine TK.draw [0,1,4,5,6,7,2,3,8,9,10,11,12,13] [0,1,2,3,4,5,6,7,8,9,10,11,12,13] (by kernel_rfl) (by kernel_rfl) ?_
   refine TD.z [6] rfl (zd rfl rfl) ?_
   refine TD.z [8] rfl (zd rfl rfl) ?_
   refine TD.z [7] rfl (zc rfl rfl FldOf.h dQ) ?_
   refine TD.z [31] rfl (zc rfl rfl FldOf.h dQ) ?_
   refine TD.y [32] rfl (hq:=ze rfl rfl TySz.h (List.Mem.head _) rfl) (h:=?_)
   refine TD.y [9] rfl (hq:=zx rfl rfl TySz.h (List.Mem.head _) rfl) (h:=?_)
   refine TD.c2 (i1:=2) (i2:=8) (pend1:=[⟨7,[9],[(_,_)]⟩,⟨6,[32],[(_,_)]⟩,⟨5,[31],[]⟩,⟨4,[7],[]⟩,⟨0,[6],[]⟩]) (pend2:=[⟨6,[32],[(_,_)]⟩,⟨5,[31],[]⟩,⟨4,[7],[]⟩,⟨1,[8],[]⟩,⟨0,[6],[]⟩]) (L1:=[3,8,9,10,11,12,13]) (L2:=[2,3,9,10,11,12,13]) [28] [34] rfl rfl rfl rfl rfl rfl rfl ?_ ?_
   ·refine kE rfl (zg (l:=[_]) rfl SlEl.h TyZ.h dQ dQ rfl) (fun _=>putS rfl (by simp only [List.set]; rfl)) sQ fun j1 hj1=>?_
    refine TD.c2 (i1:=3) (i2:=8) (pend1:=[⟨7,[9],[(_,_)]⟩,⟨6,[32],[(_,_)]⟩,⟨5,[31],[]⟩,⟨4,[7],[]⟩]) (pend2:=[⟨6,[32],[(_,_)]⟩,⟨5,[31],[]⟩,⟨4,[7],[]⟩,⟨0,[6],[]⟩]) (L1:=[8,9,10,11,12,13]) (L2:=[3,9,10,11,12,13]) [27,29] [34] rfl rfl rfl rfl rfl rfl rfl ?_ ?_
    ·refine zc2 rfl (a_app rfl ApOf.h rfl mQ sQ rfl (zL (ln:=[_]) mQ dQ sQ rfl) oQ rfl (by unfold maxLen; omega) oQ) (fun _=>uQ) (fun _=>putS rfl (by simp only [List.set]; rfl)) (fun _=>sQ) fun jl2=>?_
     refine TD.cnewR (pend':=[⟨6,[32],[(_,_)]⟩,⟨5,[31],[]⟩,⟨4,[7],[]⟩]) [34] rfl rfl rfl rfl rfl (zg (l:=[_,_,_]) rfl SlEl.h TyZ.h dQ dQ rfl) (fun _=>putS rfl (by simp only [List.set]; rfl)) sQ fun j2 hj2=>?_
     refine TD.capp (pend':=[⟨5,[31],[]⟩,⟨4,[7],[]⟩]) [33,35] rfl rfl rfl rfl rfl (a_app rfl ApOf.h rfl mQ oQ rfl (zL (ln:=[_,_,_]) mQ dQ sQ rfl) oQ rfl (by unfold maxLen; omega) oQ) (fun _=>uQ) (fun _=>putS rfl (by simp only [List.set]; rfl)) (fun _=>sQ) fun jm2=>?_
     refine TD.as (pend':=[⟨5,[31],[]⟩,⟨4,[7],[]⟩]) [30] rfl rfl (zj rfl rfl) ?_
     refine TD.z [7] rfl (zc rfl rfl FldOf.h dQ) ?_
     refine TD.z [37] rfl (zc rfl rfl FldOf.h dQ) ?_
     refine TD.s (pend':=[⟨11,[7],[]⟩]) [36,38] rfl rfl (zt rfl rfl TySz.h rfl rfl mQ rfl) ?_
     refine TD.fin ?_
     refine au [14,5,23,1,3] ?_
     refine TK.maskL [1,4,5,6,7,15,16,17] ?_
     refine TK.kp [(e,_),(jl2,_),(jm2,_),(j7,_),(jr,_)] ?_
     exact hnext _ _ _ oQ ⟨i+1,jl2,jm2,rfl,by omega,by rw [hk1,List.length_append]; rfl,by rw [hk1,hk2,ym,List.map_append,List.length_append]; rfl⟩
    ·refine kE rfl (zg (l:=[_,_,_]) rfl SlEl.h TyZ.h dQ dQ rfl) (fun _=>putS rfl (by simp only [List.set]; rfl)) sQ fun j3 hj3=>?_
     refine TD.capp (pend':=[⟨6,[32],[(_,_)]⟩,⟨5,[31],[]⟩,⟨4,[7],[]⟩]) [27,29] rfl rfl rfl rfl rfl (a_app rfl ApOf.h rfl mQ sQ rfl (zL (ln:=[_]) mQ dQ sQ rfl) oQ rfl (by unfold maxLen; omega) oQ) (fun _=>uQ) (fun _=>putS rfl (by simp only [List.set]; rfl)) (fun _=>sQ) fun jl2=>?_
     refine TD.capp (pend':=[⟨5,[31],[]⟩,⟨4,[7],[]⟩]) [33,35] rfl rfl rfl rfl rfl (a_app rfl ApOf.h rfl mQ oQ rfl (zL (ln:=[_,_,_]) mQ dQ sQ rfl) oQ rfl (by unfold maxLen; omega) oQ) (fun _=>uQ) (fun _=>putS rfl (by simp only [List.set]; rfl)) (fun _=>sQ) fun jm2=>?_
     refine TD.as (pend':=[⟨5,[31],[]⟩,⟨4,[7],[]⟩]) [30] rfl rfl (zj rfl rfl) ?_
     refine TD.z [7] rfl (zc rfl rfl FldOf.h dQ) ?_
     refine TD.z [37] rfl (zc rfl rfl FldOf.h dQ) ?_
     refine TD.s (pend':=[⟨11,[7],[]⟩]) [36,38] rfl rfl (zt rfl rfl TySz.h rfl rfl mQ rfl) ?_
     refine TD.fin ?_
     refine au [14,5,23,1,3] ?_
     refine TK.maskL [1,4,5,6,7,15,16,17] ?_
     refine TK.kp [(e,_),(jl2,_),(jm2,_),(j7,_),(jr,_)] ?_
     exact hnext _ _ _ oQ ⟨i+1,jl2,jm2,rfl,by omega,by rw [hk1,List.length_append]; rfl,by rw [hk1,hk2,ym,List.map_append,List.length_append]; rfl⟩
   ·refine kE rfl (zg (l:=[_,_,_]) rfl SlEl.h TyZ.h dQ dQ rfl) (fun _=>putS rfl (by simp only [List.set]; rfl)) sQ fun j4 hj4=>?_
    refine TD.cnewR (pend':=[⟨6,[32],[(_,_)]⟩,⟨5,[31],[]⟩,⟨4,[7],[]⟩,⟨0,[6],[]⟩]) [28] rfl rfl rfl rfl rfl (zg (l:=[_]) rfl SlEl.h TyZ.h dQ dQ rfl) (fun _=>putS rfl (by simp only [List.set]; rfl)) sQ fun j5 hj5=>?_
    refine TD.capp (pend':=[⟨6,[32],[(_,_)]⟩,⟨5,[31],[]⟩,⟨4,[7],[]⟩]) [27,29] rfl rfl rfl rfl rfl (a_app rfl ApOf.h rfl mQ sQ rfl (zL (ln:=[_]) mQ dQ sQ rfl) oQ rfl (by unfold maxLen; omega) oQ) (fun _=>uQ) (fun _=>putS rfl (by simp only [List.set]; rfl)) (fun _=>sQ) fun jl2=>?_
    refine TD.capp (pend':=[⟨5,[31],[]⟩,⟨4,[7],[]⟩]) [33,35] rfl rfl rfl rfl rfl (a_app rfl ApOf.h rfl mQ oQ rfl (zL (ln:=[_,_,_]) mQ dQ sQ rfl) oQ rfl (by unfold maxLen; omega) oQ) (fun _=>uQ) (fun _=>putS rfl (by simp only [List.set]; rfl)) (fun _=>sQ) fun jm2=>?_
    refine TD.as (pend':=[⟨5,[31],[]⟩,⟨4,[7],[]⟩]) [30] rfl rfl (zj rfl rfl) ?_
    refine TD.z [7] rfl (zc rfl rfl FldOf.h dQ) ?_
    refine TD.z [37] rfl (zc rfl rfl FldOf.h dQ) ?_
    refine TD.s (pend':=[⟨11,[7],[]⟩]) [36,38] rfl rfl (zt rfl rfl TySz.h rfl rfl mQ rfl) ?_
    refine TD.fin ?_
    refine au [14,5,23,1,3] ?_
    refine TK.maskL [1,4,5,6,7,15,16,17] ?_
    refine TK.kp [(e,_),(jl2,_),(jm2,_),(j7,_),(jr,_)] ?_
    exact hnext _ _ _ oQ ⟨i+1,jl2,jm2,rfl,by omega,by rw [hk1,List.length_append]; rfl,by rw [hk1,hk2,ym,List.map_append,List.length_append]; rfl⟩
  have hbit:¬ mask / 2 ^ i % 2=1:=fun h=>by rw [h] at hc1; simp at hc1
  refine au [12,14,5,23,1,3] ?_
  refine TK.maskL [1,4,5,6,7,15,16,17] ?_
  refine TK.kp [(e,_),(jl,_),(jm,_),(j7,_),(jr,_)] ?_
  exact hnext _ _ _ oQ ⟨i+1,jl,jm,rfl,by omega,by rw [show bitsM mask (i+1)=bitsM mask i by show bitsM mask i++_=_; rw [if_neg hbit,List.append_nil]]; rfl,by rw [show bitsM mask (i+1)=bitsM mask i by show bitsM mask i++_=_; rw [if_neg hbit,List.append_nil],show onlyL b.measures mask (i+1)=onlyL b.measures mask i by show onlyL b.measures mask i++_=_; rw [if_neg hbit,List.append_nil]]⟩
 obtain rfl:i=b.measures.length:=by simp at hc0; omega
 refine au [16,4,5,8,1,17,2,3] ?_
 refine TK.rt hret [(jl,_),(jm,_),(e,_)] ?_
 exact ⟨jl,jm,by unfold onlyB; rfl,by unfold onlyB; rfl⟩
def badM (b:RBk) (k:Nat):Bool:=(statesM (onlyB b k)).isEmpty
def clashL (b:RBk):Nat->Option (List Int)
 | 0=>none
 | k+1=>if badM b k=true then (match clashL b k with
  | none=>some (bitsM k b.measures.length)
  | some l=>if smallerM (bitsM k b.measures.length) l=true then some (bitsM k b.measures.length) else some l) else clashL b k
def clashM (b:RBk):Option (List Int):=clashL b (2 ^ b.measures.length)
def BestL (jo:Nat):Option (List Int)->KV->Prop
 | none,K=>K=[(jo,.cells [.v (.slice none 0 0),boolA false] 155 true)]
 | some l,K=>∃ j0 e0,K=[(jo,.cells [.sl j0 0 l.length,boolA true] 155 true),(j0,.cells (l.map intA) e0 false)]
theorem ziD {m:Nat} (hm:m<=3):IntKind.i64.wrap (1*2 ^ ((m:Nat):Int).toNat)=((2 ^ m:Nat):Int):=by
 have:m=0\/m=1\/m=2\/m=3:=by omega
 rcases this with rfl | rfl | rfl | rfl <;> decide
instance:Cal Tryz.prog 115:=⟨by kernel_rfl⟩
instance:Cal Tryz.prog 116:=⟨by kernel_rfl⟩
instance:Cal Tryz.prog 117:=⟨by kernel_rfl⟩
instance:FldOf Tryz.prog 155 0 0 false 1:=⟨by kernel_rfl⟩
instance:FldOf Tryz.prog 155 1 1 false 1:=⟨by kernel_rfl⟩
instance:TyZA Tryz.prog 155 [.v (.slice none 0 0),.v (.bool false)]:=⟨by kernel_rfl⟩
theorem zdR {main:Bool} {T:Goroutine->Hp->Prop} (hT:Shut Tryz.prog main T) {gm:Nat->Option Nat} {jo jl:Nat} {xs:List Int} {e1:TypeId} :
  CallK Tryz.prog T gm 117 [.ptr jo 0,.sl jl 0 xs.length,.fn 118 [] []] [(jo,.cells [.v (.slice none 0 0),boolA false] 155 true),(jl,.cells (xs.map intA) e1 false)] (fun r K'=>K'=[(jo,.cells [.sl jl 0 xs.length,boolA true] 155 true),(jl,.cells (xs.map intA) e1 false)]):=by
 refine zf 27 hT Tryz.func117 fun Y hret=>?_
 refine au [4,5,1] ?_
 refine TK.a rfl (yE rfl rfl) ?_
 refine au [7,9,30,1] ?_
 refine TK.sp 11 (fun g0_6=>?_) (fun g0_6=>?_)
 ·refine au [11,11,11,11,11,11,11,26,3,18,5,1,1,1] ?_
  refine TK.a rfl (yE rfl rfl) ?_
  refine au [7,17] ?_
  refine TK.a rfl (yE rfl rfl) ?_
  refine au [7,17,3] ?_
  refine TK.rt0 hret [(jo,_),(jl,_)] ?_
  exact rfl
 simp at g0_6
theorem zdS {main:Bool} {T:Goroutine->Hp->Prop} (hT:Shut Tryz.prog main T) {gm:Nat->Option Nat} {jo jl j0:Nat} {xs ys:List Int} {e1 e2:TypeId} (hl:xs.length<=1000) :
  CallK Tryz.prog T gm 117 [.ptr jo 0,.sl jl 0 xs.length,.fn 118 [] []] [(jo,.cells [.sl j0 0 ys.length,boolA true] 155 true),(j0,.cells (ys.map intA) e2 false),(jl,.cells (xs.map intA) e1 false)] (fun r K'=>(smallerM xs ys=true/\K'=[(jo,.cells [.sl jl 0 xs.length,boolA true] 155 true),(jl,.cells (xs.map intA) e1 false)])\/(smallerM xs ys=false/\K'=[(jo,.cells [.sl j0 0 ys.length,boolA true] 155 true),(j0,.cells (ys.map intA) e2 false)])):=by
 refine zf 27 hT Tryz.func117 fun Y hret=>?_
 refine au [4,5,1] ?_
 refine TK.a rfl (yE rfl rfl) ?_
 refine au [7,9,30,1] ?_
 refine TK.sp 11 (fun g0_6=>?_) (fun g0_6=>?_)
 ·simp at g0_6
 refine au [1,1,1] ?_
 refine TK.a rfl (yE rfl rfl) ?_
 refine au [7,9] ?_
 refine TK.callF' rfl rfl rfl rfl rfl (zT Cal.h (vX hT hl)) (by repeat (first | exact Split.none _ | exact Split.all _ | (apply Split.rem; repeat (first | exact Rem.head | apply Rem.tail)) | apply Split.right)) fun r1 K2 h3=>?_
 obtain ⟨rfl,rfl⟩:=h3
 refine au [25,3,20] ?_
 refine ⟨fun hc0=>?_,fun hc0=>?_⟩
 ·refine au [5,1,1,1] ?_
  refine TK.a rfl (yE rfl rfl) ?_
  refine au [7,17] ?_
  refine TK.a rfl (yE rfl rfl) ?_
  refine au [7,17,3] ?_
  refine TK.rt0 hret [(jo,_),(jl,_)] ?_
  exact .inl ⟨hc0,rfl⟩
 refine au [12] ?_
 refine TK.rt0 hret [(jo,_),(j0,_)] ?_
 exact .inr ⟨hc0,rfl⟩
theorem zfu {main:Bool} {T:Goroutine->Hp->Prop} (hT:Shut Tryz.prog main T)  {b:RBk} {s h e:Nat} (hl:b.seams.length<=100) (hm:b.measures.length<=100) :
  CallK Tryz.prog T gmR 38 [.agg (rollC b s h e)] [(0,checksG),(s,seamO b),(h,shrO b),(e,measO b)] (fun r K'=>(checkM b≠0/\r=.tup [.v (.slice none 0 0),intA (checkM b)]/\K'=[(0,checksG),(s,seamO b),(h,shrO b),(e,measO b)])\/(checkM b=0/\statesM b≠[]/\r=.tup [.v (.slice none 0 0),intA 0]/\K'=[(0,checksG),(s,seamO b),(h,shrO b),(e,measO b)])\/(checkM b=0/\statesM b=[]/\clashM b=none/\r=.tup [.v (.slice none 0 0),intA 0]/\K'=[(0,checksG),(s,seamO b),(h,shrO b),(e,measO b)])\/(checkM b=0/\statesM b=[]/\∃ l j0 e0,clashM b=some l/\r=.tup [.sl j0 0 l.length,intA 0]/\K'=(j0,.cells (l.map intA) e0 false)::[(0,checksG),(s,seamO b),(h,shrO b),(e,measO b)])):=by
 refine zf 41 hT Tryz.func38 fun Y hret=>?_
 refine au [4,5,21] ?_
 intro jb hjb
 refine au [2,2,3,4,5,8] ?_
 refine TK.cl rfl rfl rfl rfl (vT hT (Kx:=[]) hl hm) ?_
 rintro r1 K2 h3
 rcases h3 with ⟨⟨hbar,rfl⟩ | ⟨hbar,rfl⟩,rfl⟩
 ·refine au [1,10,10,22] ?_
  intro j4 hj4
  refine au [17,2,3,4,4,5,1,6,3,20] ?_
  refine ⟨fun hc0=>?_,fun hc0=>?_⟩
  ·exact absurd hc0 sQ
  have hbb:=zp hbar
  have hml:=hbb.mes.len
  have hsh:=ziD hml
  have h2m:2 ^ b.measures.length<=8:=Nat.pow_le_pow_right (n:=2) dQ hml
  refine au [12,4,4,5,8] ?_
  refine TK.cl rfl rfl rfl rfl (zdr hT hbb) ?_
  rintro r4 K5 ⟨rfl,rfl⟩
  refine au [3,20] ?_
  refine ⟨fun hc1=>?_,fun hc1=>?_⟩
  ·refine au [4,5,2,2,3] ?_
   refine TK.rt hret [(0,_),(s,_),(h,_),(e,_)] ?_
   exact .inr (.inl ⟨hbar,fun h=>by rw [h] at hc1; simp at hc1,rfl,rfl⟩)
  have hnil:statesM b=[]:=by cases hh:statesM b with | nil=>rfl | cons x r=>rw [hh] at hc1; simp at hc1
  refine au [12,4,5,22] ?_
  intro jo hjo
  refine au [3,4,4,5,7,9,28] ?_
  refine TK.a rfl (q_shL rfl rfl rfl ⟨by omega,by show ((b.measures.length:Nat):Int)<=64; omega⟩ (r:=((2 ^ b.measures.length:Nat):Int)) hsh) ?_
  refine au [1,3,13] ?_
  refine TK.maskL [1,2,3,4,6,23,24] ?_
  refine TK.kp ((0,_)::(s,_)::(h,_)::(e,_)::(j4,_)::(jb,_)::[(jo,_)]) ?_
  refine TK.loopN (fun n env K=>∃ (i:Nat) (Kb:KV),n=2 ^ b.measures.length - i/\i<=2 ^ b.measures.length/\BestL jo (clashL b i) Kb/\env=[.any,.ptr jb 0,.v (.slice none 0 0),intA 0,.ptr j4 0,.any,.ptr jo 0,.any,.any,.any,.any,.any,.any,.any,.any,.any,.any,.any,.any,.any,.any,.any,.any,.v (.int .i64 ((2 ^ b.measures.length:Nat):Int)),intA i,.any,.any,.any,.any,.any,.any,.any,.any,.any,.any,.any,.any,.any,.any,.any,.any]/\K=(0,checksG)::(s,seamO b)::(h,shrO b)::(e,measO b)::(j4,.cells (rollC b s h e) 113 true)::(jb,.cells (rollC b s h e) 26 true)::Kb) (2 ^ b.measures.length) ⟨0,_,rfl,Nat.zero_le _,rfl,rfl,rfl⟩ fun n env K hI hnext=>?_
  obtain ⟨i,Kb,rfl,hi,hbl,rfl,rfl⟩:=hI
  refine au [4,5,6,3,4,20] ?_
  refine ⟨fun hc2=>?_,fun hc2=>?_⟩
  ·have hil:i<2 ^ b.measures.length:=Int.ofNat_lt.1 (of_decide_eq_true hc2)
   have hbo:=zf8 hbb i
   refine au [12,4,13,4,5,1,2,3,4,5,8,1] ?_
   refine TK.cl rfl rfl rfl rfl (zhl hT (mask:=i) hml oQ) ?_ (hs:=(.right (.right (.right (.left (.none _))))))
   rintro r7 K8 ⟨jl,jm,rfl,rfl⟩
   refine au [1,10,10,22] ?_
   intro j8 hj8
   refine au [17,2,3,4] ?_
   refine TK.unrowAt (c:=j8) (i:=6) (j:=jm) rfl mQ uQ ?_
   refine TK.frzRow (j:=jm) ?_
   refine au [5,8] ?_
   refine TK.cl rfl rfl rfl rfl (zdr hT hbo (s:=s) (h:=h) (e:=jm)) ?_ (hs:=(.rem (.tail (.tail (.tail (.tail (.tail .head))))) (.rem (.tail (.tail (.tail (.tail (.tail .head))))) (.rem (.tail (.tail .head)) (.none _)))))
   rintro r10 K11 ⟨rfl,rfl⟩
   refine au [30,3,20] ?_
   refine ⟨fun hc3=>?_,fun hc3=>?_⟩
   ·have hbad:badM b i=true:=by simpa [badM] using hc3
    refine TK.asSl 9 rfl mQ ?_
    refine TK.frzRow (j:=jl) ?_
    refine au [5] ?_
    rcases hcl:clashL b i with _ | l0
    ·rw [hcl] at hbl
     have hbl:Kb=[(jo,.cells [.v (.slice none 0 0),boolA false] 155 true)]:=hbl
     subst hbl
     refine TK.a rfl (zd rfl rfl) ?_
     refine TK.cl rfl rfl rfl rfl (zdR hT) ?_
     rintro r13 K14 rfl
     refine au [3,14,5,23,1,3] ?_
     refine TK.maskL [1,2,3,4,6,23,24] ?_
     refine TK.kp ((0,_)::(s,_)::(h,_)::(e,_)::(j4,_)::(jb,_)::[(jo,_),(jl,_)]) ?_
     exact hnext _ _ _ oQ ⟨i+1,_,rfl,by omega,by unfold clashL; rw [if_pos hbad,hcl]; exact ⟨jl,3,rfl⟩,rfl,rfl⟩
    ·rw [hcl] at hbl
     obtain ⟨j0,e0,rfl⟩:=hbl
     refine TK.a rfl (zd rfl rfl) ?_
     refine TK.cl rfl rfl rfl rfl (zdS hT (by have:=kC i b.measures.length; omega)) ?_
     rintro r16 K17 h18
     rcases h18 with ⟨hsm,rfl⟩ | ⟨hsm,rfl⟩
     ·refine au [3,14,5,23,1,3] ?_
      refine TK.maskL [1,2,3,4,6,23,24] ?_
      refine TK.kp ((0,_)::(s,_)::(h,_)::(e,_)::(j4,_)::(jb,_)::[(jo,_),(jl,_)]) ?_
      exact hnext _ _ _ oQ ⟨i+1,_,rfl,by omega,by unfold clashL; rw [if_pos hbad,hcl]; dsimp only; rw [if_pos hsm]; exact ⟨jl,3,rfl⟩,rfl,rfl⟩
     ·refine au [3,14,5,23,1,3] ?_
      refine TK.maskL [1,2,3,4,6,23,24] ?_
      refine TK.kp ((0,_)::(s,_)::(h,_)::(e,_)::(j4,_)::(jb,_)::[(jo,_),(j0,_)]) ?_
      exact hnext _ _ _ oQ ⟨i+1,_,rfl,by omega,by unfold clashL; rw [if_pos hbad,hcl]; dsimp only; rw [if_neg (by rw [hsm]; decide)]; exact ⟨j0,e0,rfl⟩,rfl,rfl⟩
   have hbad:¬ badM b i=true:=fun h=>by simp [badM] at h; rw [h] at hc3; simp at hc3
   refine au [12,14,5,23,1,3] ?_
   refine TK.maskL [1,2,3,4,6,23,24] ?_
   refine TK.kp ((0,_)::(s,_)::(h,_)::(e,_)::(j4,_)::(jb,_)::Kb) ?_
   exact hnext _ _ _ oQ ⟨i+1,_,rfl,by omega,by unfold clashL; rw [if_neg hbad]; exact hbl,rfl,rfl⟩
  have hil:¬ i<2 ^ b.measures.length:=fun h=>of_decide_eq_false hc2 (Int.ofNat_lt.2 h)
  obtain rfl:i=2 ^ b.measures.length:=by omega
  refine au [16,4,5] ?_
  rcases hbst:clashL b (2 ^ b.measures.length) with _ | l0
  ·rw [hbst] at hbl
   have hbl:Kb=[(jo,.cells [.v (.slice none 0 0),boolA false] 155 true)]:=hbl
   subst hbl
   refine TK.a rfl (zc rfl rfl FldOf.h dQ) ?_
   refine au [9,2,2,3] ?_
   refine TK.rt hret [(0,_),(s,_),(h,_),(e,_)] ?_
   exact .inr (.inr (.inl ⟨hbar,hnil,hbst,rfl,rfl⟩))
  ·rw [hbst] at hbl
   obtain ⟨j0,e0,rfl⟩:=hbl
   refine TK.a rfl (zc rfl rfl FldOf.h dQ) ?_
   refine au [9,2,2,3] ?_
   refine TK.rt hret [(j0,_),(0,_),(s,_),(h,_),(e,_)] ?_
   exact .inr (.inr (.inr ⟨hbar,hnil,l0,j0,e0,hbst,rfl,rfl⟩))
 ·refine au [1,10,10,22] ?_
  intro j4 hj4
  refine au [17,2,3,4,4,5,1,6,3,20] ?_
  refine ⟨fun hc0=>?_,fun hc0=>?_⟩
  ·
   refine au [4,5,1,2,2,3] ?_
   refine TK.rt hret [(0,_),(s,_),(h,_),(e,_)] ?_
   exact .inl ⟨hbar,rfl,rfl⟩
  exact absurd hbar (by simpa using hc0)
def greatM (b:RBk):Bool:=decide (b.seams.length>20)||decide (b.shrinks.length>20)||decide (b.measures.length>20)
def exB:RBk:=⟨12,15,8,2,[⟨0,3,2,1,false⟩,⟨5,2,1,4,false⟩,⟨9,4,3,0,false⟩],[⟨0,1⟩,⟨0,0⟩,⟨0,1⟩],[]⟩
theorem uP {α:Type} {xs ys:List α} {i:Nat} {x y:α} (hx:xs[i]? =some x) (hy:ys[i]? =some y) (ht:xs.take i=ys.take i) (he:x=y):xs.take (i+1)=ys.take (i+1):=by
 rw [zM hx,zM hy,ht,he]
theorem jF {α:Type} {xs ys:List α} (hl:xs.length=ys.length) (ht:xs.take xs.length=ys.take xs.length):xs=ys:=by
 rwa [List.take_length,hl,List.take_length] at ht
theorem ne_at {α:Type} {xs ys:List α} {i:Nat} {x y:α} (hx:xs[i]? =some x) (hy:ys[i]? =some y) (hne:x≠y):xs≠ys:=fun h=>by rw [h,hy] at hx; exact hne (Option.some.inj hx).symm
instance:BlOf Tryz.prog 94 [(0,1),(1,1),(2,1),(3,1),(4,1)]:=⟨by kernel_rfl⟩
instance:Cal Tryz.prog 29:=⟨by kernel_rfl⟩
instance:Cal Tryz.prog 55:=⟨by kernel_rfl⟩
instance:Cal Tryz.prog 56:=⟨by kernel_rfl⟩
theorem zfL {main:Bool} {T:Goroutine->Hp->Prop} (hT:Shut Tryz.prog main T) {gm:Nat->Option Nat} {b:RBk} {s h e:Nat} :
  CallK Tryz.prog T gm 18 [.agg (rollC b s h e)] [] (fun r K'=>r=boolA (greatM b)/\K'=[]):=by
 refine zf 19 hT Tryz.func18 fun Y hret=>?_
 refine au [4,5,21] ?_
 intro jb hjb
 refine au [2,3,4,5,7,9,28,6,1] ?_
 refine TK.sp 7 (fun g1_5=>?_) (fun g1_5=>?_)
 ·refine au [11,11,11,11,26,1,11,11,11,11,26,2,3] ?_
  refine TK.rt hret [] ?_
  exact ⟨by unfold greatM; rw [show decide (b.seams.length>20)=true by simp at g1_5; simp; omega]; rfl,rfl⟩
 refine au [7,9,28,6,25,1] ?_
 refine TK.sp 13 (fun g1_11=>?_) (fun g1_11=>?_)
 ·refine au [11,11,11,11,26,2,3] ?_
  refine TK.rt hret [] ?_
  exact ⟨by unfold greatM; rw [show decide (b.shrinks.length>20)=true by simp at g1_11; simp; omega]; simp,rfl⟩
 refine au [7,9,28,6,25,2,3] ?_
 refine TK.rt hret [] ?_
 exact ⟨by unfold greatM; rw [show decide (b.seams.length>20)=false by simp at g1_5; simp; omega,show decide (b.shrinks.length>20)=false by simp at g1_11; simp; omega,Bool.false_or,Bool.false_or]; exact congrArg _ (congrArg _ (decide_eq_decide.2 oQ)),rfl⟩
theorem zcg {main:Bool} {T:Goroutine->Hp->Prop} (hT:Shut Tryz.prog main T) {gm:Nat->Option Nat} {j off j2:Nat} {ob:AObj} {xs ys:List Int} (hI:∀ (i:Nat) (x:Int),xs[i]? =some x->takeO ob (off+(i:Int).toNat*1) 1=some [intA x]) (hl:xs.length<=1000) :
  CallK Tryz.prog T gm 29 [.sl j off xs.length,.row j2 ys.length] [(j,ob),(j2,.row (ys.map intA) 3 1)] (fun r K'=>r=boolA (decide (xs=ys))/\K'=[(j,ob),(j2,.row (ys.map intA) 3 1)]):=by
 refine zf 26 hT Tryz.func29 fun Y hret=>?_
 refine au [4,5,2,3,4,4,5,1,28,1,28,6,3,20] ?_
 refine ⟨fun hc0=>?_,fun hc0=>?_⟩
 ·refine au [4,5,2,3] ?_
  refine TK.rt hret [(j,_),(j2,_)] ?_
  exact ⟨by rw [decide_eq_false (fun h=>by rw [h] at hc0; simp at hc0)],rfl⟩
 have hll:xs.length=ys.length:=by simp at hc0; omega
 refine au [12,4,4,5,2,3,13] ?_
 refine TK.maskL [0,1,4,5] ?_
 refine TK.loopN (fun n env K=>∃ (i:Nat),n=xs.length - i/\i<=xs.length/\xs.take i=ys.take i/\env=[.sl j off xs.length,.row j2 ys.length,.any,.any,boolA false,intA i,.any,.any,.any,.any,.any,.any,.any,.any,.any,.any,.any,.any,.any,.any,.any,.any,.any,.any,.any,.any]/\K=[(j,ob),(j2,.row (ys.map intA) 3 1)]) xs.length ⟨0,rfl,Nat.zero_le _,by simp,rfl,rfl⟩ fun n env K hI2 hnext=>?_
 obtain ⟨i,rfl,hi,hta,rfl,rfl⟩:=hI2
 refine au [4,4,5,1,1,28,6,3,20] ?_
 refine ⟨fun hc1=>?_,fun hc1=>?_⟩
 ·have hil:i<xs.length:=by simp at hc1; omega
  obtain ⟨x,hx⟩:∃ x,xs[i]? =some x:=⟨_,List.getElem?_eq_getElem hil⟩
  obtain ⟨y,hy⟩:∃ y,ys[i]? =some y:=⟨_,List.getElem?_eq_getElem oQ⟩
  refine au [12,4,13,4] ?_
  refine TK.draw [0,1,2,3,4,5,6,7,8] [0,1,2,3,4,5,6,7,8] (by kernel_rfl) (by kernel_rfl) ?_
  refine TD.z [0] rfl (zd rfl rfl) ?_
  refine TD.z [5] rfl (zd rfl rfl) ?_
  refine TD.z [17,18] rfl (zm rfl rfl rfl SlEl.h oQ oQ) ?_
  refine TD.y [19] rfl (hq:=ze rfl rfl TySz.h (List.Mem.head _) (hI i x hx)) (h:=?_)
  refine TD.z [1] rfl (zd rfl rfl) ?_
  refine TD.z [5] rfl (zd rfl rfl) ?_
  refine TD.y [21,22] rfl (hq:=yw rfl rfl rfl SlEl.h (List.Mem.head _) oQ oQ) (h:=?_)
  refine TD.y [23] rfl (hq:=ze rfl rfl TySz.h (List.Mem.head _) (jB hy rfl)) (h:=?_)
  refine TD.z [20,24] rfl (q_cmp rfl rfl rfl rfl) ?_
  refine TD.fin ?_
  refine au [20] ?_
  refine ⟨fun hc2=>?_,fun hc2=>?_⟩
  ·refine au [4,5,2,3] ?_
   refine TK.rt hret [(j,_),(j2,_)] ?_
   exact ⟨by rw [decide_eq_false (ne_at hx hy (fun h=>by rw [h] at hc2; simp at hc2))],rfl⟩
  refine au [12,14,5,1,23,2,3] ?_
  refine TK.maskL [0,1,4,5] ?_
  refine TK.kp [(j,_),(j2,_)] ?_
  exact hnext _ _ _ oQ ⟨i+1,rfl,by omega,uP hx hy hta (by simp at hc2; exact hc2),rfl,rfl⟩
 obtain rfl:i=xs.length:=by simp at hc1; omega
 refine au [16,4,5,2,3] ?_
 refine TK.rt hret [(j,_),(j2,_)] ?_
 exact ⟨by rw [decide_eq_true (jF hll hta)],rfl⟩
theorem zam {main:Bool} {T:Goroutine->Hp->Prop} (hT:Shut Tryz.prog main T) {gm:Nat->Option Nat} {j off j2:Nat} {ob:AObj} {xs ys:List (Int×Int)} (hI:∀ (i:Nat) (x:Int×Int),xs[i]? =some x->takeO ob (off+(i:Int).toNat*2) 2=some (pairC x)) (hl:xs.length<=1000) :
  CallK Tryz.prog T gm 26 [.sl j off xs.length,.row j2 ys.length] [(j,ob),(j2,.row (ys.flatMap pairC) 96 2)] (fun r K'=>r=boolA (decide (xs=ys))/\K'=[(j,ob),(j2,.row (ys.flatMap pairC) 96 2)]):=by
 refine zf 26 hT Tryz.func26 fun Y hret=>?_
 refine au [4,5,2,3,4,4,5,1,28,1,28,6,3,20] ?_
 refine ⟨fun hc0=>?_,fun hc0=>?_⟩
 ·refine au [4,5,2,3] ?_
  refine TK.rt hret [(j,_),(j2,_)] ?_
  exact ⟨by rw [decide_eq_false (fun h=>by rw [h] at hc0; simp at hc0)],rfl⟩
 have hll:xs.length=ys.length:=by simp at hc0; omega
 refine au [12,4,4,5,2,3,13] ?_
 refine TK.maskL [0,1,4,5] ?_
 refine TK.loopN (fun n env K=>∃ (i:Nat),n=xs.length - i/\i<=xs.length/\xs.take i=ys.take i/\env=[.sl j off xs.length,.row j2 ys.length,.any,.any,boolA false,intA i,.any,.any,.any,.any,.any,.any,.any,.any,.any,.any,.any,.any,.any,.any,.any,.any,.any,.any,.any,.any]/\K=[(j,ob),(j2,.row (ys.flatMap pairC) 96 2)]) xs.length ⟨0,rfl,Nat.zero_le _,by simp,rfl,rfl⟩ fun n env K hI2 hnext=>?_
 obtain ⟨i,rfl,hi,hta,rfl,rfl⟩:=hI2
 refine au [4,4,5,1,1,28,6,3,20] ?_
 refine ⟨fun hc1=>?_,fun hc1=>?_⟩
 ·have hil:i<xs.length:=by simp at hc1; omega
  obtain ⟨x,hx⟩:∃ x,xs[i]? =some x:=⟨_,List.getElem?_eq_getElem hil⟩
  obtain ⟨y,hy⟩:∃ y,ys[i]? =some y:=⟨_,List.getElem?_eq_getElem oQ⟩
  refine au [12,4,13,4] ?_
  refine TK.draw [0,1,2,3,4,5,6,7,8] [0,1,2,3,4,5,6,7,8] (by kernel_rfl) (by kernel_rfl) ?_
  refine TD.z [0] rfl (zd rfl rfl) ?_
  refine TD.z [5] rfl (zd rfl rfl) ?_
  refine TD.z [17,18] rfl (zm rfl rfl rfl SlEl.h oQ oQ) ?_
  refine TD.y [19] rfl (hq:=zx rfl rfl TySz.h (List.Mem.head _) (hI i x hx)) (h:=?_)
  refine TD.z [1] rfl (zd rfl rfl) ?_
  refine TD.z [5] rfl (zd rfl rfl) ?_
  refine TD.y [21,22] rfl (hq:=yw rfl rfl rfl SlEl.h (List.Mem.head _) oQ oQ) (h:=?_)
  refine TD.y [23] rfl (hq:=zx rfl rfl TySz.h (List.Mem.head _) (zal (c:=2) (f:=pairC) (fun _=>rfl) hy rfl dQ)) (h:=?_)
  refine TD.z [20,24] rfl (uH rfl rfl rfl rfl rfl FlatF.h EqG.h) ?_
  refine TD.fin ?_
  refine au [20] ?_
  refine ⟨fun hc2=>?_,fun hc2=>?_⟩
  ·refine au [4,5,2,3] ?_
   refine TK.rt hret [(j,_),(j2,_)] ?_
   exact ⟨by rw [decide_eq_false (ne_at hx hy (fun h=>by rw [h] at hc2; simp at hc2))],rfl⟩
  refine au [12,14,5,1,23,2,3] ?_
  refine TK.maskL [0,1,4,5] ?_
  refine TK.kp [(j,_),(j2,_)] ?_
  exact hnext _ _ _ oQ ⟨i+1,rfl,by omega,uP hx hy hta (by simp at hc2; exact Prod.ext hc2.1 hc2.2),rfl,rfl⟩
 obtain rfl:i=xs.length:=by simp at hc1; omega
 refine au [16,4,5,2,3] ?_
 refine TK.rt hret [(j,_),(j2,_)] ?_
 exact ⟨by rw [decide_eq_true (jF hll hta)],rfl⟩
theorem wb {main:Bool} {T:Goroutine->Hp->Prop} (hT:Shut Tryz.prog main T) {gm:Nat->Option Nat} {j off j2:Nat} {ob:AObj} {xs ys:List Int} (hI:∀ (i:Nat) (x:Int),xs[i]? =some x->takeO ob (off+(i:Int).toNat*1) 1=some [intA x]) (hl:xs.length<=1000) :
  CallK Tryz.prog T gm 89 [.sl j off xs.length,.row j2 ys.length] [(j,ob),(j2,.row (ys.map intA) 3 1)] (fun r K'=>r=boolA (decide (xs=ys))/\K'=[(j,ob),(j2,.row (ys.map intA) 3 1)]):=by
 refine zf 8 hT Tryz.func89 fun Y hret=>?_
 refine au [4,5,2,3,4,5,1,1] ?_
 refine TK.cl rfl rfl rfl rfl (zcg hT hI hl) ?_
 rintro r1 K2 ⟨rfl,rfl⟩
 refine au [2,3] ?_
 refine TK.rt hret [(j,_),(j2,_)] ?_
 exact ⟨rfl,rfl⟩
theorem to_ok {main:Bool} {T:Goroutine->Hp->Prop} (hT:Shut Tryz.prog main T) {gm:Nat->Option Nat} {a z:Int} :
  CallK Tryz.prog T gm 55 [intA a,intA z] [] (fun r K'=>r=.agg [intA a,intA z]/\K'=[]):=by
 refine zf 8 hT Tryz.func55 fun Y hret=>?_
 refine au [4,5,22] ?_
 intro j1 hj1
 refine au [3,4,5,1,1,39,17,3] ?_
 refine TK.rt hret [] ?_
 exact ⟨rfl,rfl⟩
theorem zit {main:Bool} {T:Goroutine->Hp->Prop} (hT:Shut Tryz.prog main T) {gm:Nat->Option Nat} {n:Int} :
  CallK Tryz.prog T gm 56 [intA n] [] (fun r K'=>r=.agg [intA n,intA n]/\K'=[]):=by
 refine zf 6 hT Tryz.func56 fun Y hret=>?_
 refine au [4,5,22] ?_
 intro j1 hj1
 refine au [3,4,5,1,1] ?_
 refine TK.cl rfl rfl rfl rfl (to_ok hT) ?_
 rintro r2 K3 ⟨rfl,rfl⟩
 refine au [17,3] ?_
 refine TK.rt hret [] ?_
 exact ⟨rfl,rfl⟩
theorem zdJ {main:Bool} {T:Goroutine->Hp->Prop} (hT:Shut Tryz.prog main T) {gm:Nat->Option Nat}  :
  CallK Tryz.prog T gm 88 [] [] (fun r K'=>∃ s h e,r=.agg (rollC exB s h e)/\K'=[(s,seamO exB),(h,shrO exB),(e,measO exB)]):=by
 refine zf 10 hT Tryz.func88 fun Y hret=>?_
 refine au [4,5,22] ?_
 intro j0 hj0
 refine au [3,4,5,42,42,42] ?_
 refine TK.newR rfl rfl rfl (zg (l:=[_,_,_,_,_,_,_,_,_,_,_,_,_,_,_]) rfl SlEl.h TyZ.h dQ dQ rfl) (fun _=>putS rfl (by simp only [List.set]; rfl)) fun js hjs=>?_
 refine TK.cl rfl rfl rfl rfl (to_ok hT) ?_
 rintro r1 K2 ⟨rfl,rfl⟩
 refine au [] ?_
 refine TK.cl rfl rfl rfl rfl (zit hT) ?_
 rintro r4 K5 ⟨rfl,rfl⟩
 refine au [] ?_
 refine TK.cl rfl rfl rfl rfl (to_ok hT) ?_
 rintro r7 K8 ⟨rfl,rfl⟩
 refine au [] ?_
 refine TK.newR rfl rfl rfl (zg (l:=[_,_,_,_,_,_]) rfl SlEl.h TyZ.h dQ dQ rfl) (fun _=>putS rfl (by simp only [List.set]; rfl)) fun jh hjh=>?_
 refine au [44,17] ?_
 refine TK.unrowAt (c:=j0) (i:=4) (j:=js) rfl mQ uQ ?_
 refine TK.frzRow (j:=js) ?_
 refine TK.unrowAt (c:=j0) (i:=5) (j:=jh) rfl mQ uQ ?_
 refine TK.frzRow (j:=jh) ?_
 refine TK.virtAt (j:=j0) (i:=6) (e:=49) (size:=3) (x:=none) (l:=[intA 12,intA 15,intA 8,intA 2,.sl js 0 3,.sl jh 0 3,.v (.slice none 0 0)]) (by rfl) (fun _=>uQ) fun je hje=>?_
 refine TK.unrowAt (c:=j0) (i:=6) (j:=je) rfl mQ uQ ?_
 refine TK.frzRow (j:=je) ?_
 refine au [3] ?_
 refine TK.rt hret [(js,_),(jh,_),(je,_)] ?_
 exact ⟨js,jh,je,rfl,rfl⟩
theorem jM {main:Bool} {T:Goroutine->Hp->Prop} (hT:Shut Tryz.prog main T) {gm:Nat->Option Nat} {b:RBk} {s h e:Nat} {m:RMeas} (hm:b.measures.length<=100) :
  CallK Tryz.prog T gm 59 [.agg (rollC b s h e),.agg (measC m)] [(e,measO b)] (fun r K'=>∃ je,r=.agg (rollC (measuredB b m) s h je)/\K'=[(je,measO (measuredB b m)),(e,measO b)]):=by
 refine zf 14 hT Tryz.func59 fun Y hret=>?_
 refine au [] ?_
 have hfl:=zS measC 3 (fun _=>rfl) b.measures
 refine au [4,5,21] ?_
 intro jb hjb
 refine au [21] ?_
 intro jm hjm
 refine au [22] ?_
 intro jr hjr
 refine au [3,4] ?_
 refine TK.draw [1,2,4,0,3,5,6,7,8] [0,1,2,3,4,5,6,7,8] (by kernel_rfl) (by kernel_rfl) ?_
 refine TD.z [2] rfl (zc rfl rfl FldOf.h dQ) ?_
 refine TD.y [6] rfl (hq:=ze rfl rfl TySz.h (List.Mem.head _) rfl) (h:=?_)
 refine TD.y [3] rfl (hq:=zx rfl rfl TySz.h (List.Mem.head _) rfl) (h:=?_)
 refine TD.c2 (i1:=0) (i2:=5) (pend1:=[⟨4,[3],[(_,_)]⟩,⟨2,[6],[(_,_)]⟩,⟨1,[2],[]⟩]) (pend2:=[⟨2,[6],[(_,_)]⟩,⟨1,[2],[]⟩]) (L1:=[3,5,6,7,8]) (L2:=[0,3,6,7,8]) [] [9] rfl rfl rfl rfl rfl rfl rfl ?_ ?_
 ·refine kE rfl (zg (l:=[]) rfl SlEl.h TyZ.h dQ dQ rfl) (fun _=>putS rfl (by simp only [List.set]; rfl)) sQ fun j1 hj1=>?_
  refine TD.c2 (i1:=3) (i2:=5) (pend1:=[⟨4,[3],[(_,_)]⟩,⟨1,[2],[]⟩]) (pend2:=[⟨2,[6],[(_,_)]⟩,⟨1,[2],[]⟩]) (L1:=[5,6,7,8]) (L2:=[3,6,7,8]) [5,7] [9] rfl rfl rfl rfl rfl rfl rfl ?_ ?_
  ·refine zfE (ln:=b.measures.flatMap measC) rfl rfl ApOf.h rfl mQ rfl rfl rfl (fun hp=>kV mQ oQ (yT hfl oQ)) (fun h=>List.eq_nil_of_length_eq_zero oQ) (yI measC (fun _=>rfl) _) (by unfold maxLen; omega) oQ (fun _=>uQ) (fun _=>putS rfl (by simp only [List.set]; rfl)) (fun _=>by simp) fun jc=>?_
   simp only [List.nil_append,Nat.zero_add]
   refine TD.cnewR (pend':=[⟨1,[2],[]⟩]) [9] rfl rfl rfl rfl rfl (zg (l:=[_,_,_]) rfl SlEl.h TyZ.h dQ dQ rfl) (fun _=>putS rfl (by simp only [List.set]; rfl)) sQ fun j2 hj2=>?_
   refine TD.capp (pend':=[⟨1,[2],[]⟩]) [8,10] rfl rfl rfl rfl rfl (a_app rfl ApOf.h rfl mQ oQ rfl (zL (ln:=[_,_,_]) mQ dQ sQ rfl) oQ rfl (by unfold maxLen; omega) oQ) (fun _=>uQ) (fun _=>putS rfl (by simp only [List.set]; rfl)) (fun _=>sQ) fun je=>?_
   refine TD.z [2] rfl (zc rfl rfl FldOf.h dQ) ?_
   refine TD.s (pend':=[]) [11,12] rfl rfl (zt rfl rfl TySz.h rfl rfl mQ rfl) ?_
   refine TD.fin ?_
   refine au [4] ?_
   refine TK.unrowAt (c:=jb) (i:=6) (j:=je) rfl mQ uQ ?_
   refine TK.frzRow (j:=je) ?_
   rw [show b.measures.flatMap measC++[intA m.cloth,intA m.many,intA m.wide]=(measuredB b m).measures.flatMap measC from (ym measC b.measures m).symm,show b.measures.length+1=(measuredB b m).measures.length by simp [measuredB]]
   refine au [5,8,17,3] ?_
   refine TK.rt hret [(je,_),(e,_)] ?_
   exact ⟨je,rfl,rfl⟩
  ·refine kE rfl (zg (l:=[_,_,_]) rfl SlEl.h TyZ.h dQ dQ rfl) (fun _=>putS rfl (by simp only [List.set]; rfl)) sQ fun j3 hj3=>?_
   refine TD.cappG (ln:=b.measures.flatMap measC) (pend':=[⟨1,[2],[]⟩]) [5,7] rfl rfl rfl rfl rfl rfl ApOf.h rfl mQ rfl rfl rfl (fun hp=>kV mQ oQ (yT hfl oQ)) (fun h=>List.eq_nil_of_length_eq_zero oQ) (yI measC (fun _=>rfl) _) (by unfold maxLen; omega) oQ (fun _=>uQ) (fun _=>putS rfl (by simp only [List.set]; rfl)) (fun _=>by simp) fun jc=>?_
   simp only [List.nil_append,Nat.zero_add]
   refine TD.capp (pend':=[⟨1,[2],[]⟩]) [8,10] rfl rfl rfl rfl rfl (a_app rfl ApOf.h rfl mQ oQ rfl (zL (ln:=[_,_,_]) mQ dQ sQ rfl) oQ rfl (by unfold maxLen; omega) oQ) (fun _=>uQ) (fun _=>putS rfl (by simp only [List.set]; rfl)) (fun _=>sQ) fun je=>?_
   refine TD.z [2] rfl (zc rfl rfl FldOf.h dQ) ?_
   refine TD.s (pend':=[]) [11,12] rfl rfl (zt rfl rfl TySz.h rfl rfl mQ rfl) ?_
   refine TD.fin ?_
   refine au [4] ?_
   refine TK.unrowAt (c:=jb) (i:=6) (j:=je) rfl mQ uQ ?_
   refine TK.frzRow (j:=je) ?_
   rw [show b.measures.flatMap measC++[intA m.cloth,intA m.many,intA m.wide]=(measuredB b m).measures.flatMap measC from (ym measC b.measures m).symm,show b.measures.length+1=(measuredB b m).measures.length by simp [measuredB]]
   refine au [5,8,17,3] ?_
   refine TK.rt hret [(je,_),(e,_)] ?_
   exact ⟨je,rfl,rfl⟩
 ·refine kE rfl (zg (l:=[_,_,_]) rfl SlEl.h TyZ.h dQ dQ rfl) (fun _=>putS rfl (by simp only [List.set]; rfl)) sQ fun j4 hj4=>?_
  refine TD.cnewR (pend':=[⟨2,[6],[(_,_)]⟩,⟨1,[2],[]⟩]) [] rfl rfl rfl rfl rfl (zg (l:=[]) rfl SlEl.h TyZ.h dQ dQ rfl) (fun _=>putS rfl (by simp only [List.set]; rfl)) sQ fun j5 hj5=>?_
  refine TD.cappG (ln:=b.measures.flatMap measC) (pend':=[⟨1,[2],[]⟩]) [5,7] rfl rfl rfl rfl rfl rfl ApOf.h rfl mQ rfl rfl rfl (fun hp=>kV mQ oQ (yT hfl oQ)) (fun h=>List.eq_nil_of_length_eq_zero oQ) (yI measC (fun _=>rfl) _) (by unfold maxLen; omega) oQ (fun _=>uQ) (fun _=>putS rfl (by simp only [List.set]; rfl)) (fun _=>by simp) fun jc=>?_
  simp only [List.nil_append,Nat.zero_add]
  refine TD.capp (pend':=[⟨1,[2],[]⟩]) [8,10] rfl rfl rfl rfl rfl (a_app rfl ApOf.h rfl mQ oQ rfl (zL (ln:=[_,_,_]) mQ dQ sQ rfl) oQ rfl (by unfold maxLen; omega) oQ) (fun _=>uQ) (fun _=>putS rfl (by simp only [List.set]; rfl)) (fun _=>sQ) fun je=>?_
  refine TD.z [2] rfl (zc rfl rfl FldOf.h dQ) ?_
  refine TD.s (pend':=[]) [11,12] rfl rfl (zt rfl rfl TySz.h rfl rfl mQ rfl) ?_
  refine TD.fin ?_
  refine au [4] ?_
  refine TK.unrowAt (c:=jb) (i:=6) (j:=je) rfl mQ uQ ?_
  refine TK.frzRow (j:=je) ?_
  rw [show b.measures.flatMap measC++[intA m.cloth,intA m.many,intA m.wide]=(measuredB b m).measures.flatMap measC from (ym measC b.measures m).symm,show b.measures.length+1=(measuredB b m).measures.length by simp [measuredB]]
  refine au [5,8,17,3] ?_
  refine TK.rt hret [(je,_),(e,_)] ?_
  exact ⟨je,rfl,rfl⟩
end Go.Vel
namespace Go.Vel
open Go Go.Conc
theorem pendS {ops:Array Oper} {i:Nat} {pend pend':List Pd} {es:List Nat} (h:edgesOf .any ops i=es) (h2:(pend.filter fun p => !(es.elem p.i))=pend'):pendOf ops i pend=pend':=by unfold pendOf; rw [h]; exact h2
theorem x_len:(exB.seams.length<=100)/\(exB.measures.length<=100):=by decide
theorem kL:checkM exB=0:=by decide +kernel
theorem zdy:bar2 (checkM exB) (cutsM exB [1,2])=0:=by decide +kernel
theorem zdx:bar2 (checkM exB) (cutsM exB [0,1])=0:=by decide +kernel
theorem zau:bar2 (checkM exB) (cutsM exB [0,2])=0:=by decide +kernel
theorem zgz:stripsM exB [1,2]=[(1,4),(2,8)]:=by decide +kernel
theorem zgw:fitsM exB [0,1]=true:=by decide +kernel
theorem zgx:fitsM exB [0,2]=false:=by decide +kernel
theorem x_h1:bar2 (checkM exB) (bar2 (cutsM exB [0,1]) (shM exB [1,0,1]))=0:=by decide +kernel
theorem zdz:hangM exB [0,1] [1,0,1]=some ([3,2],13):=by decide +kernel
theorem x_h2:bar2 (checkM exB) (bar2 (cutsM exB [0,1]) (shM exB [0,0,1]))=0:=by decide +kernel
theorem zdA:hangM exB [0,1] [0,0,1]=some ([2,2],11):=by decide +kernel
theorem zgy:placesM exB [0,1] [0,0,1] [2,2]=[0,7]:=by decide +kernel
theorem xi:statesM exB=[[0,0,0],[0,0,1],[1,0,0],[1,0,1]]:=by decide +kernel
theorem x_ne:statesM exB≠[]:=by rw [xi]; decide
theorem x_th2:bar2 (checkM exB) (thereM exB 2)=0:=by decide +kernel
theorem ziP:shrM exB 2=[0,1]:=by decide +kernel
theorem x_new:newM exB=(3,5):=by decide +kernel
theorem zhC:canM exB [0,1]=1:=by decide +kernel
theorem zhD:canM exB [0,2]=2:=by decide +kernel
theorem ziM:betw 16 exB.steps 40=true:=by decide +kernel
theorem ziK:bar2 (checkM (atRound exB 16)) (cutsM (atRound exB 16) [0,1])=0:=by decide +kernel
theorem ziO:statesM (atRound exB 16)≠[]:=by decide +kernel
theorem zhE:canM (atRound exB 16) [0,1]=0:=by decide +kernel
theorem ziS:squaresM exB (statesM exB) [1,2]=some (9,15):=by decide +kernel
theorem ziR:squaresM exB (statesM exB) [0,2]=none:=by decide +kernel
theorem ziQ:squaresM exB (statesM exB) [0,1]=some (9,13):=by decide +kernel
theorem zgA:widestM exB (statesM exB)=some 16:=by decide +kernel
theorem x_ask:askM exB (statesM exB)=(0,2):=by decide +kernel
def exM:RBk:=measuredB exB ⟨2,2,7⟩
theorem x_mc:checkM exM=0:=by decide +kernel
theorem x_mst:statesM exM=[[0,0,1],[1,0,0]]:=by decide +kernel
theorem ziN:newM exM=(4,4):=by decide +kernel
theorem x_mne:statesM exM≠[]:=by rw [x_mst]; decide
def exD:RBk:=driedB exB (0:Int).toNat (dryX exB 0 ⟨1,5⟩)
theorem x_d1:bar2 (checkM exB) (thereM exB 0)=0/\isBd ⟨1,5⟩ 0 5=true/\(dryX exB 0 ⟨1,5⟩).low<=(dryX exB 0 ⟨1,5⟩).high:=by decide +kernel
theorem x_d2:bar2 (checkM exB) (thereM exB 1)=0/\isBd ⟨1,2⟩ 0 5=true/\(dryX exB 1 ⟨1,2⟩).high<(dryX exB 1 ⟨1,2⟩).low:=by decide +kernel
theorem x_dc:checkM exD=0:=by decide +kernel
theorem x_dst:statesM exD=[[1,0,0],[1,0,1]]:=by decide +kernel
theorem x_dne:statesM exD≠[]:=by rw [x_dst]; decide
theorem x_dth:bar2 (checkM exD) (thereM exD 0)=0:=by decide +kernel
theorem ziL:shrM exD 0=[1]:=by decide +kernel
def exC1:RBk:=measuredB exB ⟨0,1,5⟩
def exC:RBk:=measuredB exC1 ⟨2,2,6⟩
theorem x_cc:checkM exC=0:=by decide +kernel
theorem x_cst:statesM exC=[]:=by decide +kernel
theorem zdw:clashM exC=some [0,1]:=by decide +kernel
theorem zdv:bitsM 3 3=[0,1]:=by decide
theorem x_hi3:sqOk exB (statesM exB) (bitsM 3 3)=true/\sqHi exB (statesM exB) (bitsM 3 3)=13:=by
 unfold sqOk sqHi
 rw [zdv,ziQ]
 exact ⟨rfl,rfl⟩
theorem ziJ:∀ c:Fin 8,0<c.1->sqOk exB (statesM exB) (bitsM c.1 3)=true->c.1≠3->(bitsM 3 3,sqHi exB (statesM exB) (bitsM 3 3))≠(bitsM c.1 3,sqHi exB (statesM exB) (bitsM c.1 3))/\cheaperM (bitsM c.1 3,sqHi exB (statesM exB) (bitsM c.1 3)) (bitsM 3 3,sqHi exB (statesM exB) (bitsM 3 3))=false/\shorterM (bitsM c.1 3,sqHi exB (statesM exB) (bitsM c.1 3)) (bitsM 3 3,sqHi exB (statesM exB) (bitsM 3 3))=false:=by decide +kernel
theorem zfk {bt:List Int×Int->List Int×Int->Bool} {c:Nat} (hbt:bt=cheaperM\/bt=shorterM) (h:PlanA exB (statesM exB) bt c):bitsM c exB.seams.length=[0,1]/\sqHi exB (statesM exB) (bitsM c exB.seams.length)=13:=by
 obtain ⟨h0,h1,h2,h3⟩:=h
 have e3:exB.seams.length=3:=rfl
 rw [e3] at h1 h2 h3 ⊢
 by_cases hc:c=3
 ·subst hc
  exact ⟨zdv,x_hi3.2⟩
 ·exfalso
  have h8:c<8:=h1
  obtain ⟨q1,q2,q3⟩:=ziJ ⟨c,h8⟩ h0 h2 hc
  rcases h3 3 dQ dQ x_hi3.1 with h | h
  ·exact q1 h
  ·rcases hbt with rfl | rfl
   ·rw [q2] at h; cases h
   ·rw [q3] at h; cases h
theorem zcy (h:NoPlan exB (statesM exB)):False:=by
 have:=h 3 dQ dQ
 have e3:exB.seams.length=3:=rfl
 rw [e3,x_hi3.1] at this
 cases this
theorem or2 {x:Int} {A B:Prop} (h:(x≠0/\A)\/(x=0/\B)) (hx:x=0):B:=by
 rcases h with ⟨h,_⟩ | ⟨_,h⟩
 ·exact absurd hx h
 ·exact h
theorem or3 {x:Int} {A B C D:Prop} (h:(x≠0/\A)\/(x=0/\D/\B)\/(x=0/\¬ D/\C)) (hx:x=0) (hd:¬ D):C:=by
 rcases h with ⟨h,_⟩ | ⟨_,h,_⟩ | ⟨_,_,h⟩
 ·exact absurd hx h
 ·exact absurd h hd
 ·exact h
theorem or3b {x:Int} {A B C D:Prop} (h:(x≠0/\A)\/(x=0/\D/\B)\/(x=0/\C)) (hx:x=0) (hd:¬ D):C:=by
 rcases h with ⟨h,_⟩ | ⟨_,h,_⟩ | ⟨_,h⟩
 ·exact absurd hx h
 ·exact absurd h hd
 ·exact h
theorem or3c {x:Int} {y:Bool} {A B C:Prop} (h:(x≠0/\A)\/(x=0/\y=false/\B)\/(x=0/\y=true/\C)) (hx:x=0) (hy:y=true):C:=by
 rcases h with ⟨h,_⟩ | ⟨_,h,_⟩ | ⟨_,_,h⟩
 ·exact absurd hx h
 ·rw [hy] at h; cases h
 ·exact h
theorem or4 {x u v:Int} {y:Bool} {A B C D:Prop} (h:(x≠0/\A)\/(x=0/\y=false/\B)\/(x=0/\y=true/\u<v/\C)\/(x=0/\y=true/\v<=u/\D)) (hx:x=0/\y=true/\v<=u):D:=by
 obtain ⟨h1,h2,h3⟩:=hx
 rcases h with ⟨h,_⟩ | ⟨_,h,_⟩ | ⟨_,_,h,_⟩ | ⟨_,_,_,h⟩
 ·exact absurd h1 h
 ·rw [h2] at h; cases h
 ·omega
 ·exact h
theorem or4c {x u v:Int} {y:Bool} {A B C D:Prop} (h:(x≠0/\A)\/(x=0/\y=false/\B)\/(x=0/\y=true/\u<v/\C)\/(x=0/\y=true/\v<=u/\D)) (hx:x=0/\y=true/\u<v):C:=by
 obtain ⟨h1,h2,h3⟩:=hx
 rcases h with ⟨h,_⟩ | ⟨_,h,_⟩ | ⟨_,_,_,h⟩ | ⟨_,_,h,_⟩
 ·exact absurd h1 h
 ·rw [h2] at h; cases h
 ·exact h
 ·omega
theorem orCl {x:Int} {A B C D E F:Prop} (h:(x≠0/\A)\/(x=0/\¬ D/\B)\/(x=0/\D/\E/\C)\/(x=0/\D/\F)) (hx:x=0) (hd:D) (he:¬ E):F:=by
 rcases h with ⟨h,_⟩ | ⟨_,h,_⟩ | ⟨_,_,h,_⟩ | ⟨_,_,h⟩
 ·exact absurd hx h
 ·exact absurd hd h
 ·exact absurd h he
 ·exact h
theorem trT {r:AV} {P Q:Prop} [Decidable P] (h:r=boolA (decide P)/\Q) (hp:P):r=boolA true/\Q:=⟨by rw [h.1,decide_eq_true hp],h.2⟩
theorem zbJ {xs zs:List Int} {i:Nat} {x:Int} {e:TypeId} {rw':Bool} (h:xs[i]? =some x):takeO (.cells ((xs++zs).map intA) e rw') (0+(i:Int).toNat*1) 1=some [intA x]:=zF (by rw [List.getElem?_append_left (List.getElem?_eq_some_iff.1 h).1]; exact h) rfl
theorem x_v12:sqLo exB (statesM exB) [1,2]=9/\sqHi exB (statesM exB) [1,2]=15/\sqOk exB (statesM exB) [1,2]=true:=by
 unfold sqLo sqHi sqOk
 rw [ziS]
 exact ⟨rfl,rfl,rfl⟩
theorem x_v02:sqLo exB (statesM exB) [0,2]=0/\sqHi exB (statesM exB) [0,2]=0/\sqOk exB (statesM exB) [0,2]=false:=by
 unfold sqLo sqHi sqOk
 rw [ziR]
 exact ⟨rfl,rfl,rfl⟩
theorem agr3 {b:RBk} {K:KV} {r:AV} {K':KV} (h:AgrR b K r K') (hx:checkM b=0) (hn:statesM b≠[]):∃ s h e,r=.tup [.agg (rollC b s h e),intA 0]/\K'=(s,seamO b)::(h,shrO b)::(e,measO b)::K:=or3 h hx hn
end Go.Vel
namespace Go.Vel
open Go Go.Conc Go.Proofs
instance:BlOf Tryz.prog 49 [(0,1),(1,1),(2,1)]:=⟨by kernel_rfl⟩
instance:Cal Tryz.prog 20:=⟨by kernel_rfl⟩
instance:Cal Tryz.prog 22:=⟨by kernel_rfl⟩
instance:Cal Tryz.prog 26:=⟨by kernel_rfl⟩
instance:Cal Tryz.prog 27:=⟨by kernel_rfl⟩
instance:Cal Tryz.prog 30:=⟨by kernel_rfl⟩
instance:Cal Tryz.prog 32:=⟨by kernel_rfl⟩
instance:Cal Tryz.prog 34:=⟨by kernel_rfl⟩
instance:Cal Tryz.prog 36:=⟨by kernel_rfl⟩
instance:Cal Tryz.prog 38:=⟨by kernel_rfl⟩
instance:Cal Tryz.prog 40:=⟨by kernel_rfl⟩
instance:Cal Tryz.prog 42:=⟨by kernel_rfl⟩
instance:Cal Tryz.prog 45:=⟨by kernel_rfl⟩
instance:Cal Tryz.prog 47:=⟨by kernel_rfl⟩
instance:Cal Tryz.prog 51:=⟨by kernel_rfl⟩
instance:Cal Tryz.prog 52:=⟨by kernel_rfl⟩
instance:Cal Tryz.prog 53:=⟨by kernel_rfl⟩
instance:Cal Tryz.prog 54:=⟨by kernel_rfl⟩
instance:Cal Tryz.prog 59:=⟨by kernel_rfl⟩
instance:Cal Tryz.prog 70:=⟨by kernel_rfl⟩
instance:Cal Tryz.prog 88:=⟨by kernel_rfl⟩
instance:Cal Tryz.prog 89:=⟨by kernel_rfl⟩
instance:EqG Tryz.prog 51:=⟨by kernel_rfl⟩
instance:FlatF Tryz.prog 51 [(3,0),(3,1)]:=⟨by kernel_rfl⟩
instance {a0 a1 a2 a3 a4 a5 a6 a7 a8 a9 a10 a11 a12 a13 a14 a15 a16 a17 a18 a19 a20 a21 a22 a23 a24 a25 a26 a27 a28 a29 a30 a31 a32 a33 a34 a35 a36 a37:Oper}:RgL #[a0,a1,a2,a3,a4,a5,a6,a7,a8,a9,a10,a11,a12,a13,a14,a15,a16,a17,a18,a19,a20,a21,a22,a23,a24,a25,a26,a27,a28,a29,a30,a31,a32,a33,a34,a35,a36,a37] [0,1,2,3,4,5,6,7,8,9,10,11,12,13,14,15,16,17,18,19,20,21,22,23,24,25,26,27,28,29,30,31,32,33,34,35,36,37]:=⟨rfl⟩
theorem wH {Ψ:Goroutine->World->Prop}  :
  CallK Tryz.prog (BT Tryz.prog Ψ) gmR 19 [] [(0,checksG)] (fun r K'=>r=boolA true/\K'=[(0,checksG)]):=by
 have hT:=yC (P:=Tryz.prog) Ψ
 refine zf 407 hT Tryz.func19 fun Y hret=>?_
 refine au [4,5,2,3,4,5] ?_
 refine TK.cl rfl rfl rfl rfl (zdJ hT) ?_
 rintro r1 K2 ⟨s,h,e,rfl,rfl⟩
 refine au [22] ?_
 intro j1 hj1
 refine au [17,3,4] ?_
 refine TK.kp [(0,_),(s,_),(h,_),(e,_),(j1,_)] ?_
 refine au [5,8] ?_
 refine TK.newR rfl rfl rfl (zg (l:=[_,_]) rfl SlEl.h TyZ.h dQ dQ rfl) (fun _=>putS rfl (by simp only [List.set]; rfl)) fun ja2 hja2=>?_
 refine TK.asSl 35 rfl mQ ?_
 refine TK.frzRow (j:=ja2) ?_
 refine au [] ?_
 refine TK.cl rfl rfl rfl rfl ((zhM hT (b:=exB) (l:=[1,2]) x_len.1 x_len.2 dQ).mono (fun _ _ h=>or2 h zdy)) ?_
 rintro r4 K5 ⟨jr,rfl,rfl⟩
 refine au [] ?_
 rw [zgz]
 refine au [1,10,10,2,2,3,4] ?_
 refine TK.asSl 2 rfl mQ ?_
 refine TK.frzRow (j:=jr) ?_
 refine au [] ?_
 refine TK.kp [(0,_),(s,_),(h,_),(e,_),(j1,_),(jr,_)] ?_
 refine au [5,8] ?_
 refine TK.newR rfl rfl rfl (zg (l:=[_,_]) rfl SlEl.h TyZ.h dQ dQ rfl) (fun _=>putS rfl (by simp only [List.set]; rfl)) fun ja3 hja3=>?_
 refine TK.asSl 41 rfl mQ ?_
 refine TK.frzRow (j:=ja3) ?_
 refine au [] ?_
 refine TK.cl rfl rfl rfl rfl (xu hT (b:=exB) (l:=[0,1]) x_len.1 x_len.2 dQ) ?_
 rintro r7 K8 ⟨rfl,rfl⟩
 refine au [] ?_
 rw [zdx,zgw]
 refine au [1,10,10,2,2,3,4] ?_
 refine TK.kp [(0,_),(s,_),(h,_),(e,_),(j1,_),(jr,_)] ?_
 refine au [5,8] ?_
 refine TK.newR rfl rfl rfl (zg (l:=[_,_]) rfl SlEl.h TyZ.h dQ dQ rfl) (fun _=>putS rfl (by simp only [List.set]; rfl)) fun ja4 hja4=>?_
 refine TK.asSl 47 rfl mQ ?_
 refine TK.frzRow (j:=ja4) ?_
 refine au [] ?_
 refine TK.cl rfl rfl rfl rfl (xu hT (b:=exB) (l:=[0,2]) x_len.1 x_len.2 dQ) ?_
 rintro r10 K11 ⟨rfl,rfl⟩
 refine au [] ?_
 rw [zau,zgx]
 refine au [1,10,10,2,2,3,4] ?_
 refine TK.kp [(0,_),(s,_),(h,_),(e,_),(j1,_),(jr,_)] ?_
 refine au [5,8] ?_
 refine TK.newR rfl rfl rfl (zg (l:=[_,_]) rfl SlEl.h TyZ.h dQ dQ rfl) (fun _=>putS rfl (by simp only [List.set]; rfl)) fun ja5 hja5=>?_
 refine TK.newR rfl rfl rfl (zg (l:=[_,_,_]) rfl SlEl.h TyZ.h dQ dQ rfl) (fun _=>putS rfl (by simp only [List.set]; rfl)) fun jb5 hjb5=>?_
 refine TK.asSl 53 rfl mQ ?_
 refine TK.frzRow (j:=ja5) ?_
 refine au [] ?_
 refine TK.asSl 54 rfl mQ ?_
 refine TK.frzRow (j:=jb5) ?_
 refine au [] ?_
 refine TK.cl rfl rfl rfl rfl ((zdL hT (b:=exB) (l:=[0,1]) (st:=[1,0,1]) x_len.1 x_len.2 dQ).mono (fun _ _ h=>or3b h x_h1 (by rw [zdz]; exact fun h=>nomatch h))) ?_
 rintro r13 K14 ⟨w5,q5,jw,hw,rfl,rfl⟩
 refine au [] ?_
 rw [zdz] at hw
 cases hw
 refine au [1,10,10,10,10,2,2,2,2,3,4] ?_
 refine TK.kp [(0,_),(s,_),(h,_),(e,_),(j1,_),(jr,_),(jw,_)] ?_
 refine au [5,8] ?_
 refine TK.newR rfl rfl rfl (zg (l:=[_,_]) rfl SlEl.h TyZ.h dQ dQ rfl) (fun _=>putS rfl (by simp only [List.set]; rfl)) fun ja6 hja6=>?_
 refine TK.newR rfl rfl rfl (zg (l:=[_,_,_]) rfl SlEl.h TyZ.h dQ dQ rfl) (fun _=>putS rfl (by simp only [List.set]; rfl)) fun jb6 hjb6=>?_
 refine TK.asSl 62 rfl mQ ?_
 refine TK.frzRow (j:=ja6) ?_
 refine au [] ?_
 refine TK.asSl 63 rfl mQ ?_
 refine TK.frzRow (j:=jb6) ?_
 refine au [] ?_
 refine TK.cl rfl rfl rfl rfl ((zb2 hT (b:=exB) (l:=[0,1]) (st:=[0,0,1]) x_len.1 x_len.2 dQ).mono (fun _ _ h=>or3b h x_h2 (by rw [zdA]; exact fun h=>nomatch h))) ?_
 rintro r16 K17 ⟨w6,q6,jp,hw,rfl,rfl⟩
 refine au [] ?_
 rw [zdA] at hw
 cases hw
 rw [zgy]
 refine au [1,10,10,10,2,2,2,3,4] ?_
 refine TK.asSl 12 rfl mQ ?_
 refine TK.frzRow (j:=jp) ?_
 refine au [] ?_
 refine TK.kp [(0,_),(s,_),(h,_),(e,_),(j1,_),(jr,_),(jw,_),(jp,_)] ?_
 refine au [5,8] ?_
 refine TK.cl rfl rfl rfl rfl (uN hT (b:=exB) x_len.1 x_len.2) ?_
 rintro r19 K20 ⟨rfl,rfl⟩
 refine au [] ?_
 rw [kL,if_pos rfl,xi]
 refine au [1,10,10,2,2,3,4] ?_
 refine TK.kp [(0,_),(s,_),(h,_),(e,_),(j1,_),(jr,_),(jw,_),(jp,_)] ?_
 refine au [5,8] ?_
 refine TK.cl rfl rfl rfl rfl ((xU hT (b:=exB) (n:=2) x_len.1 x_len.2 (by rw [xi]; decide)).mono (fun _ _ h=>or3 h x_th2 x_ne)) ?_
 rintro r22 K23 ⟨js8,zs8,rfl,rfl⟩
 refine au [] ?_
 rw [ziP]
 refine au [1,10,10,2,2,3,4] ?_
 refine TK.kp [(0,_),(s,_),(h,_),(e,_),(j1,_),(jr,_),(jw,_),(jp,_),(js8,_)] ?_
 refine au [5,8] ?_
 refine TK.cl rfl rfl rfl rfl ((zeE hT (b:=exB) x_len.1 x_len.2).mono (fun _ _ h=>or3 h kL x_ne)) ?_
 rintro r25 K26 ⟨rfl,rfl⟩
 refine au [] ?_
 rw [x_new]
 refine au [1,10,10,22] ?_
 intro j19 hj19
 refine au [17,2,3,4] ?_
 refine TK.kp [(0,_),(s,_),(h,_),(e,_),(j1,_),(jr,_),(jw,_),(jp,_),(js8,_),(j19,_)] ?_
 refine au [5,8] ?_
 refine TK.newR rfl rfl rfl (zg (l:=[_,_]) rfl SlEl.h TyZ.h dQ dQ rfl) (fun _=>putS rfl (by simp only [List.set]; rfl)) fun ja10 hja10=>?_
 refine TK.asSl 85 rfl mQ ?_
 refine TK.frzRow (j:=ja10) ?_
 refine au [] ?_
 refine TK.cl rfl rfl rfl rfl ((xp hT (b:=exB) (l:=[0,1]) x_len.1 x_len.2 dQ).mono (fun _ _ h=>or3 h zdx x_ne)) ?_
 rintro r28 K29 ⟨rfl,rfl⟩
 refine au [] ?_
 rw [zhC]
 refine au [1,10,10,2,2,3,4] ?_
 refine TK.kp [(0,_),(s,_),(h,_),(e,_),(j1,_),(jr,_),(jw,_),(jp,_),(js8,_),(j19,_)] ?_
 refine au [5,8] ?_
 refine TK.newR rfl rfl rfl (zg (l:=[_,_]) rfl SlEl.h TyZ.h dQ dQ rfl) (fun _=>putS rfl (by simp only [List.set]; rfl)) fun ja11 hja11=>?_
 refine TK.asSl 91 rfl mQ ?_
 refine TK.frzRow (j:=ja11) ?_
 refine au [] ?_
 refine TK.cl rfl rfl rfl rfl ((xp hT (b:=exB) (l:=[0,2]) x_len.1 x_len.2 dQ).mono (fun _ _ h=>or3 h zau x_ne)) ?_
 rintro r31 K32 ⟨rfl,rfl⟩
 refine au [] ?_
 rw [zhD]
 refine au [1,10,10,2,2,3,4,4] ?_
 refine TK.kp [(0,_),(s,_),(h,_),(e,_),(j1,_),(jr,_),(jw,_),(jp,_),(js8,_),(j19,_)] ?_
 refine au [5,1,6,1,1,6,25,1,1,6,25,1,1,6,25,1,1,6,25,1,1,6,25,1,1,6,25,1,1,6,25,1,1,6,25,1,1,6,25,3,19,12,4,4] ?_
 refine TK.kp [(0,_),(s,_),(h,_),(e,_),(j1,_),(jr,_),(jw,_),(jp,_),(js8,_),(j19,_)] ?_
 refine TK.draw [0,1,2,3,4,5,6,7,8,9,10,11,12,13,14,15,16,17,18,19,20,21,22,23,24,25,26,27,28,29,30,31,32,33,34,35,36,37,38,39,40,41,42,43,44,45,46,47,48,49,50,51,52,53,54,55,56,57,58,59] [0,1,2,3,4,5,6,7,8,9,10,11,12,13,14,15,16,17,18,19,20,21,22,23,24,25,26,27,28,29,30,31,32,33,34,35,36,37,38,39,40,41,42,43,44,45,46,47,48,49,50,51,52,53,54,55,56,57,58,59] (by kernel_rfl) (by kernel_rfl) ?_
 refine TD.z [2] rfl (zd rfl rfl) ?_
 refine TD.z [] rfl (z5 (l:=[_,_]) rfl TyZ.h BlOf.h rfl) ?_
 refine TD.z [] rfl (z5 (l:=[_,_]) rfl TyZ.h BlOf.h rfl) ?_
 refine TD.cnewR (pend':=[Pd.mk 0 [2] []]) [134,135] rfl rfl rfl (pendS (es:=[1,2]) rfl rfl) rfl (zg (l:=[_,_,_,_]) rfl SlEl.h TyZ.h dQ dQ rfl) (fun _=>putS rfl (by simp only [List.set]; rfl)) sQ fun jy1 hjy1=>?_
 refine TD.cl (pend':=[]) [133,136] rfl (pendS (es:=[0,3]) rfl rfl) rfl rfl rfl ((zam hT (xs:=[(1,4),(2,8)]) (ys:=[(1,4),(2,8)]) (off:=0) (ob:=.cells (([(1,4),(2,8)]:List (Int×Int)).flatMap pairC) 96 false) (fun i x hx=>wE (c:=2) (f:=pairC) (fun _=>rfl) hx rfl dQ) dQ).mono (fun _ _ h=>trT h rfl)) (fun r34 K35 h36=>⟨?_,?_⟩)
 ·rcases h36 with ⟨rfl,rfl⟩
  all_goals simp
 obtain ⟨rfl,rfl⟩:=h36
 try simp only [List.cons_append,List.nil_append]
 refine TD.norm (by simp only [List.set]; rfl) ?_
 refine TD.z [137] rfl (q_not rfl rfl) ?_
 refine TD.z [138] rfl (zd rfl rfl) ?_
 refine TD.z [4,139] rfl (zd rfl rfl) ?_
 refine TD.z [139,140] rfl (q_not rfl rfl) ?_
 refine TD.z [139,141] rfl (zE rfl rfl rfl) ?_
 refine TD.z [142] rfl (zd rfl rfl) ?_
 refine TD.z [6,143] rfl (zd rfl rfl) ?_
 refine TD.z [143,144] rfl (zE rfl rfl rfl) ?_
 refine TD.z [145] rfl (zd rfl rfl) ?_
 refine TD.z [8,146] rfl (zd rfl rfl) ?_
 refine TD.cnewR (pend':=[Pd.mk 14 [8,146] [],Pd.mk 12 [143,144] [],Pd.mk 11 [6,143] [],Pd.mk 10 [142] [],Pd.mk 9 [139,141] [],Pd.mk 8 [139,140] [],Pd.mk 7 [4,139] [],Pd.mk 6 [138] [],Pd.mk 5 [137] []]) [146] rfl rfl rfl (pendS (es:=[13]) rfl rfl) rfl (zg (l:=[_,_]) rfl SlEl.h TyZ.h dQ dQ rfl) (fun _=>putS rfl (by simp only [List.set]; rfl)) sQ fun jy2 hjy2=>?_
 refine TD.cl (pend':=[Pd.mk 12 [143,144] [],Pd.mk 11 [6,143] [],Pd.mk 10 [142] [],Pd.mk 9 [139,141] [],Pd.mk 8 [139,140] [],Pd.mk 7 [4,139] [],Pd.mk 6 [138] [],Pd.mk 5 [137] []]) [146,147,148] rfl (pendS (es:=[14,15,13,13]) rfl rfl) rfl rfl rfl ((wb hT (xs:=[3,2]) (ys:=[3,2]) (off:=0) (ob:=.cells (([3,2]:List Int).map intA) 3 false) (fun i x hx=>zF hx rfl) dQ).mono (fun _ _ h=>trT h rfl)) (fun r37 K38 h39=>⟨?_,?_⟩)
 ·rcases h39 with ⟨rfl,rfl⟩
  all_goals simp
 obtain ⟨rfl,rfl⟩:=h39
 try simp only [List.cons_append,List.nil_append]
 refine TD.norm (by simp only [List.set]; rfl) ?_
 refine TD.z [146,149] rfl (q_not rfl rfl) ?_
 refine TD.z [146,150] rfl (zE rfl rfl rfl) ?_
 refine TD.z [151] rfl (zd rfl rfl) ?_
 refine TD.z [9,152] rfl (zd rfl rfl) ?_
 refine TD.z [152,153] rfl (q_cmp rfl rfl rfl rfl) ?_
 refine TD.z [152,154] rfl (zE rfl rfl rfl) ?_
 refine TD.z [155] rfl (zd rfl rfl) ?_
 refine TD.z [10,156] rfl (zd rfl rfl) ?_
 refine TD.z [156,157] rfl (q_not rfl rfl) ?_
 refine TD.z [156,158] rfl (zE rfl rfl rfl) ?_
 refine TD.z [159] rfl (zd rfl rfl) ?_
 refine TD.z [12,160] rfl (zd rfl rfl) ?_
 refine TD.cnewR (pend':=[Pd.mk 28 [12,160] [],Pd.mk 26 [156,158] [],Pd.mk 25 [156,157] [],Pd.mk 24 [10,156] [],Pd.mk 23 [155] [],Pd.mk 22 [152,154] [],Pd.mk 21 [152,153] [],Pd.mk 20 [9,152] [],Pd.mk 19 [151] [],Pd.mk 18 [146,150] [],Pd.mk 17 [146,149] [],Pd.mk 12 [143,144] [],Pd.mk 11 [6,143] [],Pd.mk 10 [142] [],Pd.mk 9 [139,141] [],Pd.mk 8 [139,140] [],Pd.mk 7 [4,139] [],Pd.mk 6 [138] [],Pd.mk 5 [137] []]) [160] rfl rfl rfl (pendS (es:=[27]) rfl rfl) rfl (zg (l:=[_,_]) rfl SlEl.h TyZ.h dQ dQ rfl) (fun _=>putS rfl (by simp only [List.set]; rfl)) sQ fun jy3 hjy3=>?_
 refine TD.cl (pend':=[Pd.mk 26 [156,158] [],Pd.mk 25 [156,157] [],Pd.mk 24 [10,156] [],Pd.mk 23 [155] [],Pd.mk 22 [152,154] [],Pd.mk 21 [152,153] [],Pd.mk 20 [9,152] [],Pd.mk 19 [151] [],Pd.mk 18 [146,150] [],Pd.mk 17 [146,149] [],Pd.mk 12 [143,144] [],Pd.mk 11 [6,143] [],Pd.mk 10 [142] [],Pd.mk 9 [139,141] [],Pd.mk 8 [139,140] [],Pd.mk 7 [4,139] [],Pd.mk 6 [138] [],Pd.mk 5 [137] []]) [160,161,162] rfl (pendS (es:=[28,29,27,27]) rfl rfl) rfl rfl rfl ((wb hT (xs:=[0,7]) (ys:=[0,7]) (off:=0) (ob:=.cells (([0,7]:List Int).map intA) 3 false) (fun i x hx=>zF hx rfl) dQ).mono (fun _ _ h=>trT h rfl)) (fun r40 K41 h42=>⟨?_,?_⟩)
 ·rcases h42 with ⟨rfl,rfl⟩
  all_goals simp
 obtain ⟨rfl,rfl⟩:=h42
 try simp only [List.cons_append,List.nil_append]
 refine TD.norm (by simp only [List.set]; rfl) ?_
 refine TD.z [160,163] rfl (q_not rfl rfl) ?_
 refine TD.z [160,164] rfl (zE rfl rfl rfl) ?_
 refine TD.z [165] rfl (zd rfl rfl) ?_
 refine TD.z [13,166] rfl (zd rfl rfl) ?_
 refine TD.z [166,167] rfl (q_not rfl rfl) ?_
 refine TD.z [166,168] rfl (zE rfl rfl rfl) ?_
 refine TD.z [169] rfl (zd rfl rfl) ?_
 refine TD.z [15,170] rfl (zd rfl rfl) ?_
 refine TD.z [170,171] rfl (q_cmp rfl rfl rfl rfl) ?_
 refine TD.z [170,172] rfl (zE rfl rfl rfl) ?_
 refine TD.z [173] rfl (zd rfl rfl) ?_
 refine TD.z [17,174] rfl (zd rfl rfl) ?_
 refine TD.cnewR (pend':=[Pd.mk 42 [17,174] [],Pd.mk 40 [170,172] [],Pd.mk 39 [170,171] [],Pd.mk 38 [15,170] [],Pd.mk 37 [169] [],Pd.mk 36 [166,168] [],Pd.mk 35 [166,167] [],Pd.mk 34 [13,166] [],Pd.mk 33 [165] [],Pd.mk 32 [160,164] [],Pd.mk 31 [160,163] [],Pd.mk 26 [156,158] [],Pd.mk 25 [156,157] [],Pd.mk 24 [10,156] [],Pd.mk 23 [155] [],Pd.mk 22 [152,154] [],Pd.mk 21 [152,153] [],Pd.mk 20 [9,152] [],Pd.mk 19 [151] [],Pd.mk 18 [146,150] [],Pd.mk 17 [146,149] [],Pd.mk 12 [143,144] [],Pd.mk 11 [6,143] [],Pd.mk 10 [142] [],Pd.mk 9 [139,141] [],Pd.mk 8 [139,140] [],Pd.mk 7 [4,139] [],Pd.mk 6 [138] [],Pd.mk 5 [137] []]) [174] rfl rfl rfl (pendS (es:=[41]) rfl rfl) rfl (zg (l:=[_,_]) rfl SlEl.h TyZ.h dQ dQ rfl) (fun _=>putS rfl (by simp only [List.set]; rfl)) sQ fun jy4 hjy4=>?_
 refine TD.cl (pend':=[Pd.mk 40 [170,172] [],Pd.mk 39 [170,171] [],Pd.mk 38 [15,170] [],Pd.mk 37 [169] [],Pd.mk 36 [166,168] [],Pd.mk 35 [166,167] [],Pd.mk 34 [13,166] [],Pd.mk 33 [165] [],Pd.mk 32 [160,164] [],Pd.mk 31 [160,163] [],Pd.mk 26 [156,158] [],Pd.mk 25 [156,157] [],Pd.mk 24 [10,156] [],Pd.mk 23 [155] [],Pd.mk 22 [152,154] [],Pd.mk 21 [152,153] [],Pd.mk 20 [9,152] [],Pd.mk 19 [151] [],Pd.mk 18 [146,150] [],Pd.mk 17 [146,149] [],Pd.mk 12 [143,144] [],Pd.mk 11 [6,143] [],Pd.mk 10 [142] [],Pd.mk 9 [139,141] [],Pd.mk 8 [139,140] [],Pd.mk 7 [4,139] [],Pd.mk 6 [138] [],Pd.mk 5 [137] []]) [174,175,176] rfl (pendS (es:=[42,43,41,41]) rfl rfl) rfl rfl rfl ((wb hT (xs:=[0,1]) (ys:=[0,1]) (off:=0) (ob:=.cells (([0,1]++zs8).map intA) 3 false) (fun i x hx=>zbJ hx) dQ).mono (fun _ _ h=>trT h rfl)) (fun r43 K44 h45=>⟨?_,?_⟩)
 ·rcases h45 with ⟨rfl,rfl⟩
  all_goals simp
 obtain ⟨rfl,rfl⟩:=h45
 try simp only [List.cons_append,List.nil_append]
 refine TD.norm (by simp only [List.set]; rfl) ?_
 refine TD.z [174,177] rfl (q_not rfl rfl) ?_
 refine TD.z [174,178] rfl (zE rfl rfl rfl) ?_
 refine TD.z [179] rfl (zd rfl rfl) ?_
 refine TD.y [19,180] rfl (hq:=zx rfl rfl TySz.h (List.Mem.head _) rfl) (h:=?_)
 refine TD.cl (pend':=[Pd.mk 48 [19,180] [(_,_)],Pd.mk 46 [174,178] [],Pd.mk 45 [174,177] [],Pd.mk 40 [170,172] [],Pd.mk 39 [170,171] [],Pd.mk 38 [15,170] [],Pd.mk 37 [169] [],Pd.mk 36 [166,168] [],Pd.mk 35 [166,167] [],Pd.mk 34 [13,166] [],Pd.mk 33 [165] [],Pd.mk 32 [160,164] [],Pd.mk 31 [160,163] [],Pd.mk 26 [156,158] [],Pd.mk 25 [156,157] [],Pd.mk 24 [10,156] [],Pd.mk 23 [155] [],Pd.mk 22 [152,154] [],Pd.mk 21 [152,153] [],Pd.mk 20 [9,152] [],Pd.mk 19 [151] [],Pd.mk 18 [146,150] [],Pd.mk 17 [146,149] [],Pd.mk 12 [143,144] [],Pd.mk 11 [6,143] [],Pd.mk 10 [142] [],Pd.mk 9 [139,141] [],Pd.mk 8 [139,140] [],Pd.mk 7 [4,139] [],Pd.mk 6 [138] [],Pd.mk 5 [137] []]) [180] rfl (pendS (es:=[47,47]) rfl rfl) rfl rfl rfl (to_ok hT) (fun r46 K47 h48=>⟨?_,?_⟩)
 ·rcases h48 with ⟨rfl,rfl⟩
  all_goals simp
 obtain ⟨rfl,rfl⟩:=h48
 try simp only [List.cons_append,List.nil_append]
 refine TD.norm (by simp only [List.set]; rfl) ?_
 refine TD.z [180,181,182] rfl (uH rfl rfl rfl rfl rfl FlatF.h EqG.h) ?_
 refine TD.z [180,183] rfl (zE rfl rfl rfl) ?_
 refine TD.z [184] rfl (zd rfl rfl) ?_
 refine TD.z [21,185] rfl (zd rfl rfl) ?_
 refine TD.z [185,186] rfl (q_cmp rfl rfl rfl rfl) ?_
 refine TD.z [185,187] rfl (zE rfl rfl rfl) ?_
 refine TD.z [188] rfl (zd rfl rfl) ?_
 refine TD.z [23,189] rfl (zd rfl rfl) ?_
 refine TD.z [189,190] rfl (q_cmp rfl rfl rfl rfl) ?_
 refine TD.z [189,191] rfl (zE rfl rfl rfl) ?_
 refine TD.fin ?_
 refine au [19,12,4] ?_
 refine TK.kp [(0,_),(s,_),(h,_),(e,_),(j1,_),(j19,_)] ?_
 refine au [5,8] ?_
 refine TK.cl rfl rfl rfl rfl ((zgY hT (b:=exB) (r0:=16) x_len.1 x_len.2).mono (fun _ _ h=>or3c h kL ziM)) ?_
 rintro r49 K50 ⟨s6,h6,e6,rfl,rfl⟩
 refine au [1,10,10,22] ?_
 intro j25 hj25
 refine au [17,2,3,4] ?_
 refine TK.kp [(0,_),(s,_),(h,_),(e,_),(j1,_),(j19,_),(s6,_),(h6,_),(e6,_),(j25,_)] ?_
 refine au [5,8] ?_
 refine TK.newR rfl rfl rfl (zg (l:=[_,_]) rfl SlEl.h TyZ.h dQ dQ rfl) (fun _=>putS rfl (by simp only [List.set]; rfl)) fun ja17 hja17=>?_
 refine TK.asSl 200 rfl mQ ?_
 refine TK.frzRow (j:=ja17) ?_
 refine au [] ?_
 refine TK.cl rfl rfl rfl rfl ((xp hT (b:=atRound exB 16) (s:=s6) (h:=h6) (e:=e6) (l:=[0,1]) dQ dQ dQ).mono (fun _ _ h=>or3 h ziK ziO)) ?_
 rintro r52 K53 ⟨rfl,rfl⟩
 refine au [] ?_
 rw [zhE]
 refine au [1,10,10,2,2,3,4] ?_
 refine TK.kp [(0,_),(s,_),(h,_),(e,_),(j1,_),(j19,_)] ?_
 refine au [5,8] ?_
 refine TK.newR rfl rfl rfl (zg (l:=[_,_]) rfl SlEl.h TyZ.h dQ dQ rfl) (fun _=>putS rfl (by simp only [List.set]; rfl)) fun ja18 hja18=>?_
 refine TK.asSl 206 rfl mQ ?_
 refine TK.frzRow (j:=ja18) ?_
 refine au [] ?_
 refine TK.cl rfl rfl rfl rfl ((wz hT (b:=exB) (l:=[1,2]) x_len.1 x_len.2 dQ).mono (fun _ _ h=>or3 h zdy x_ne)) ?_
 rintro r55 K56 ⟨rfl,rfl⟩
 refine au [] ?_
 rw [x_v12.1,x_v12.2.1,x_v12.2.2,show (if true=true then (0:Int) else 8)=0 from rfl]
 refine au [1,10,10,17,2,3,4] ?_
 refine TK.kp [(0,_),(s,_),(h,_),(e,_),(j1,_),(j19,_)] ?_
 refine au [5,8] ?_
 refine TK.newR rfl rfl rfl (zg (l:=[_,_]) rfl SlEl.h TyZ.h dQ dQ rfl) (fun _=>putS rfl (by simp only [List.set]; rfl)) fun ja19 hja19=>?_
 refine TK.asSl 212 rfl mQ ?_
 refine TK.frzRow (j:=ja19) ?_
 refine au [] ?_
 refine TK.cl rfl rfl rfl rfl ((wz hT (b:=exB) (l:=[0,2]) x_len.1 x_len.2 dQ).mono (fun _ _ h=>or3 h zau x_ne)) ?_
 rintro r58 K59 ⟨rfl,rfl⟩
 refine au [] ?_
 rw [x_v02.1,x_v02.2.1,x_v02.2.2,show (if false=true then (0:Int) else 8)=8 from rfl]
 refine au [1,10,10,2,3,4] ?_
 refine TK.kp [(0,_),(s,_),(h,_),(e,_),(j1,_),(j19,_)] ?_
 refine au [5,8] ?_
 refine TK.cl rfl rfl rfl rfl ((vt (b:=exB) x_len.1 x_len.2).mono (fun _ _ h=>or3 h kL x_ne)) ?_
 rintro r61 K62 h63
 rcases h63 with ⟨hno,rfl,rfl⟩ | ⟨c,jc,ec,hpl,rfl,rfl⟩
 ·refine au [] ?_
  exact (zcy hno).elim
 ·refine au [] ?_
  obtain ⟨hq1,hq2⟩:=zfk (.inl rfl) hpl
  rw [hq2,hq1]
  refine au [1,10,10,10,10,2,2,2,2,3,4] ?_
  refine TK.kp [(0,_),(s,_),(h,_),(e,_),(j1,_),(j19,_),(jc,_)] ?_
  refine au [5,8] ?_
  refine TK.cl rfl rfl rfl rfl ((kc (b:=exB) x_len.1 x_len.2).mono (fun _ _ h=>or3 h kL x_ne)) ?_
  rintro r64 K65 h66
  rcases h66 with ⟨hno,rfl,rfl⟩ | ⟨c2,jf,ef,hpl2,rfl,rfl⟩
  ·refine au [] ?_
   exact (zcy hno).elim
  ·refine au [] ?_
   obtain ⟨hq3,hq4⟩:=zfk (.inr rfl) hpl2
   rw [hq3]
   refine au [1,10,10,10,2,2,2,3,4] ?_
   refine TK.kp [(0,_),(s,_),(h,_),(e,_),(j1,_),(j19,_),(jc,_),(jf,_)] ?_
   refine au [5,8] ?_
   refine TK.cl rfl rfl rfl rfl ((kn (b:=exB) x_len.1 x_len.2).mono (fun _ _ h=>or3 h kL x_ne)) ?_
   rintro r67 K68 ⟨rfl,rfl⟩
   refine au [] ?_
   rw [zgA]
   refine au [1,10,10,10,2,2,2,3,4,4] ?_
   refine TK.kp [(0,_),(s,_),(h,_),(e,_),(j1,_),(j19,_),(jc,_),(jf,_)] ?_
   refine TK.draw [0,1,2,3,4,5,6,7,8,9,10,11,12,13,14,15,16,17,18,19,20,21,22,23,24,25,26,27,28,29,30,31,32,33,34,35,36,37,38,39,40,41,42,43,44,45,46,47,48,49,50,51,52,53,54,55,56,57,58,59,60,61,62,63,64,65,66] [0,1,2,3,4,5,6,7,8,9,10,11,12,13,14,15,16,17,18,19,20,21,22,23,24,25,26,27,28,29,30,31,32,33,34,35,36,37,38,39,40,41,42,43,44,45,46,47,48,49,50,51,52,53,54,55,56,57,58,59,60,61,62,63,64,65,66] (by kernel_rfl) (by kernel_rfl) ?_
   refine TD.z [3] rfl (zd rfl rfl) ?_
   refine TD.z [235] rfl (q_cmp rfl rfl rfl rfl) ?_
   refine TD.z [236] rfl (zd rfl rfl) ?_
   refine TD.z [5,237] rfl (zd rfl rfl) ?_
   refine TD.z [237,238] rfl (q_cmp rfl rfl rfl rfl) ?_
   refine TD.z [237,239] rfl (zE rfl rfl rfl) ?_
   refine TD.z [240] rfl (zd rfl rfl) ?_
   refine TD.z [7,241] rfl (zd rfl rfl) ?_
   refine TD.z [241,242] rfl (q_cmp rfl rfl rfl rfl) ?_
   refine TD.z [241,243] rfl (zE rfl rfl rfl) ?_
   refine TD.z [244] rfl (zd rfl rfl) ?_
   refine TD.z [11,245] rfl (zd rfl rfl) ?_
   refine TD.z [245,246] rfl (q_cmp rfl rfl rfl rfl) ?_
   refine TD.z [245,247] rfl (zE rfl rfl rfl) ?_
   refine TD.z [248] rfl (zd rfl rfl) ?_
   refine TD.z [14,249] rfl (zd rfl rfl) ?_
   refine TD.z [249,250] rfl (q_cmp rfl rfl rfl rfl) ?_
   refine TD.z [249,251] rfl (zE rfl rfl rfl) ?_
   refine TD.z [252] rfl (zd rfl rfl) ?_
   refine TD.z [16,253] rfl (zd rfl rfl) ?_
   refine TD.z [253,254] rfl (q_cmp rfl rfl rfl rfl) ?_
   refine TD.z [253,255] rfl (zE rfl rfl rfl) ?_
   refine TD.z [256] rfl (zd rfl rfl) ?_
   refine TD.z [18,257] rfl (zd rfl rfl) ?_
   refine TD.z [257,258] rfl (q_cmp rfl rfl rfl rfl) ?_
   refine TD.z [257,259] rfl (zE rfl rfl rfl) ?_
   refine TD.z [260] rfl (zd rfl rfl) ?_
   refine TD.z [21,261] rfl (zd rfl rfl) ?_
   refine TD.z [261,262] rfl (q_cmp rfl rfl rfl rfl) ?_
   refine TD.z [261,263] rfl (zE rfl rfl rfl) ?_
   refine TD.z [264] rfl (zd rfl rfl) ?_
   refine TD.y [19,265] rfl (hq:=zx rfl rfl TySz.h (List.Mem.head _) rfl) (h:=?_)
   refine TD.cl (pend':=[Pd.mk 31 [19,265] [(_,_)],Pd.mk 29 [261,263] [],Pd.mk 28 [261,262] [],Pd.mk 27 [21,261] [],Pd.mk 26 [260] [],Pd.mk 25 [257,259] [],Pd.mk 24 [257,258] [],Pd.mk 23 [18,257] [],Pd.mk 22 [256] [],Pd.mk 21 [253,255] [],Pd.mk 20 [253,254] [],Pd.mk 19 [16,253] [],Pd.mk 18 [252] [],Pd.mk 17 [249,251] [],Pd.mk 16 [249,250] [],Pd.mk 15 [14,249] [],Pd.mk 14 [248] [],Pd.mk 13 [245,247] [],Pd.mk 12 [245,246] [],Pd.mk 11 [11,245] [],Pd.mk 10 [244] [],Pd.mk 9 [241,243] [],Pd.mk 8 [241,242] [],Pd.mk 7 [7,241] [],Pd.mk 6 [240] [],Pd.mk 5 [237,239] [],Pd.mk 4 [237,238] [],Pd.mk 3 [5,237] [],Pd.mk 2 [236] [],Pd.mk 1 [235] [],Pd.mk 0 [3] []]) [265] rfl (pendS (es:=[30,30]) rfl rfl) rfl rfl rfl (to_ok hT) (fun r70 K71 h72=>⟨?_,?_⟩)
   ·rcases h72 with ⟨rfl,rfl⟩
    all_goals simp
   obtain ⟨rfl,rfl⟩:=h72
   try simp only [List.cons_append,List.nil_append]
   refine TD.norm (by simp only [List.set]; rfl) ?_
   refine TD.z [265,266,267] rfl (uH rfl rfl rfl rfl rfl FlatF.h EqG.h) ?_
   refine TD.z [265,268] rfl (zE rfl rfl rfl) ?_
   refine TD.z [269] rfl (zd rfl rfl) ?_
   refine TD.z [26,270] rfl (zd rfl rfl) ?_
   refine TD.cnewR (pend':=[Pd.mk 36 [26,270] [],Pd.mk 34 [265,268] [],Pd.mk 33 [265,266,267] [],Pd.mk 31 [19,265] [(_,_)],Pd.mk 29 [261,263] [],Pd.mk 28 [261,262] [],Pd.mk 27 [21,261] [],Pd.mk 26 [260] [],Pd.mk 25 [257,259] [],Pd.mk 24 [257,258] [],Pd.mk 23 [18,257] [],Pd.mk 22 [256] [],Pd.mk 21 [253,255] [],Pd.mk 20 [253,254] [],Pd.mk 19 [16,253] [],Pd.mk 18 [252] [],Pd.mk 17 [249,251] [],Pd.mk 16 [249,250] [],Pd.mk 15 [14,249] [],Pd.mk 14 [248] [],Pd.mk 13 [245,247] [],Pd.mk 12 [245,246] [],Pd.mk 11 [11,245] [],Pd.mk 10 [244] [],Pd.mk 9 [241,243] [],Pd.mk 8 [241,242] [],Pd.mk 7 [7,241] [],Pd.mk 6 [240] [],Pd.mk 5 [237,239] [],Pd.mk 4 [237,238] [],Pd.mk 3 [5,237] [],Pd.mk 2 [236] [],Pd.mk 1 [235] [],Pd.mk 0 [3] []]) [270] rfl rfl rfl (pendS (es:=[35]) rfl rfl) rfl (zg (l:=[_,_]) rfl SlEl.h TyZ.h dQ dQ rfl) (fun _=>putS rfl (by simp only [List.set]; rfl)) sQ fun jz1 hjz1=>?_
   refine TD.cl (pend':=[Pd.mk 34 [265,268] [],Pd.mk 33 [265,266,267] [],Pd.mk 31 [19,265] [(_,_)],Pd.mk 29 [261,263] [],Pd.mk 28 [261,262] [],Pd.mk 27 [21,261] [],Pd.mk 26 [260] [],Pd.mk 25 [257,259] [],Pd.mk 24 [257,258] [],Pd.mk 23 [18,257] [],Pd.mk 22 [256] [],Pd.mk 21 [253,255] [],Pd.mk 20 [253,254] [],Pd.mk 19 [16,253] [],Pd.mk 18 [252] [],Pd.mk 17 [249,251] [],Pd.mk 16 [249,250] [],Pd.mk 15 [14,249] [],Pd.mk 14 [248] [],Pd.mk 13 [245,247] [],Pd.mk 12 [245,246] [],Pd.mk 11 [11,245] [],Pd.mk 10 [244] [],Pd.mk 9 [241,243] [],Pd.mk 8 [241,242] [],Pd.mk 7 [7,241] [],Pd.mk 6 [240] [],Pd.mk 5 [237,239] [],Pd.mk 4 [237,238] [],Pd.mk 3 [5,237] [],Pd.mk 2 [236] [],Pd.mk 1 [235] [],Pd.mk 0 [3] []]) [270,271,272] rfl (pendS (es:=[36,37,35,35]) rfl rfl) rfl rfl rfl ((wb hT (xs:=[0,1]) (ys:=[0,1]) (off:=0) (ob:=.cells (([0,1]:List Int).map intA) ec false) (fun i x hx=>zF hx rfl) dQ).mono (fun _ _ h=>trT h rfl)) (fun r73 K74 h75=>⟨?_,?_⟩)
   ·rcases h75 with ⟨rfl,rfl⟩
    all_goals simp
   obtain ⟨rfl,rfl⟩:=h75
   try simp only [List.cons_append,List.nil_append]
   refine TD.norm (by simp only [List.set]; rfl) ?_
   refine TD.z [270,273] rfl (q_not rfl rfl) ?_
   refine TD.z [270,274] rfl (zE rfl rfl rfl) ?_
   refine TD.z [275] rfl (zd rfl rfl) ?_
   refine TD.z [9,276] rfl (zd rfl rfl) ?_
   refine TD.z [276,277] rfl (q_cmp rfl rfl rfl rfl) ?_
   refine TD.z [276,278] rfl (zE rfl rfl rfl) ?_
   refine TD.z [279] rfl (zd rfl rfl) ?_
   refine TD.z [10,280] rfl (zd rfl rfl) ?_
   refine TD.z [280,281] rfl (q_not rfl rfl) ?_
   refine TD.z [280,282] rfl (zE rfl rfl rfl) ?_
   refine TD.z [283] rfl (zd rfl rfl) ?_
   refine TD.z [27,284] rfl (zd rfl rfl) ?_
   refine TD.cnewR (pend':=[Pd.mk 50 [27,284] [],Pd.mk 48 [280,282] [],Pd.mk 47 [280,281] [],Pd.mk 46 [10,280] [],Pd.mk 45 [279] [],Pd.mk 44 [276,278] [],Pd.mk 43 [276,277] [],Pd.mk 42 [9,276] [],Pd.mk 41 [275] [],Pd.mk 40 [270,274] [],Pd.mk 39 [270,273] [],Pd.mk 34 [265,268] [],Pd.mk 33 [265,266,267] [],Pd.mk 31 [19,265] [(_,_)],Pd.mk 29 [261,263] [],Pd.mk 28 [261,262] [],Pd.mk 27 [21,261] [],Pd.mk 26 [260] [],Pd.mk 25 [257,259] [],Pd.mk 24 [257,258] [],Pd.mk 23 [18,257] [],Pd.mk 22 [256] [],Pd.mk 21 [253,255] [],Pd.mk 20 [253,254] [],Pd.mk 19 [16,253] [],Pd.mk 18 [252] [],Pd.mk 17 [249,251] [],Pd.mk 16 [249,250] [],Pd.mk 15 [14,249] [],Pd.mk 14 [248] [],Pd.mk 13 [245,247] [],Pd.mk 12 [245,246] [],Pd.mk 11 [11,245] [],Pd.mk 10 [244] [],Pd.mk 9 [241,243] [],Pd.mk 8 [241,242] [],Pd.mk 7 [7,241] [],Pd.mk 6 [240] [],Pd.mk 5 [237,239] [],Pd.mk 4 [237,238] [],Pd.mk 3 [5,237] [],Pd.mk 2 [236] [],Pd.mk 1 [235] [],Pd.mk 0 [3] []]) [284] rfl rfl rfl (pendS (es:=[49]) rfl rfl) rfl (zg (l:=[_,_]) rfl SlEl.h TyZ.h dQ dQ rfl) (fun _=>putS rfl (by simp only [List.set]; rfl)) sQ fun jz2 hjz2=>?_
   refine TD.cl (pend':=[Pd.mk 48 [280,282] [],Pd.mk 47 [280,281] [],Pd.mk 46 [10,280] [],Pd.mk 45 [279] [],Pd.mk 44 [276,278] [],Pd.mk 43 [276,277] [],Pd.mk 42 [9,276] [],Pd.mk 41 [275] [],Pd.mk 40 [270,274] [],Pd.mk 39 [270,273] [],Pd.mk 34 [265,268] [],Pd.mk 33 [265,266,267] [],Pd.mk 31 [19,265] [(_,_)],Pd.mk 29 [261,263] [],Pd.mk 28 [261,262] [],Pd.mk 27 [21,261] [],Pd.mk 26 [260] [],Pd.mk 25 [257,259] [],Pd.mk 24 [257,258] [],Pd.mk 23 [18,257] [],Pd.mk 22 [256] [],Pd.mk 21 [253,255] [],Pd.mk 20 [253,254] [],Pd.mk 19 [16,253] [],Pd.mk 18 [252] [],Pd.mk 17 [249,251] [],Pd.mk 16 [249,250] [],Pd.mk 15 [14,249] [],Pd.mk 14 [248] [],Pd.mk 13 [245,247] [],Pd.mk 12 [245,246] [],Pd.mk 11 [11,245] [],Pd.mk 10 [244] [],Pd.mk 9 [241,243] [],Pd.mk 8 [241,242] [],Pd.mk 7 [7,241] [],Pd.mk 6 [240] [],Pd.mk 5 [237,239] [],Pd.mk 4 [237,238] [],Pd.mk 3 [5,237] [],Pd.mk 2 [236] [],Pd.mk 1 [235] [],Pd.mk 0 [3] []]) [284,285,286] rfl (pendS (es:=[50,51,49,49]) rfl rfl) rfl rfl rfl ((wb hT (xs:=[0,1]) (ys:=[0,1]) (off:=0) (ob:=.cells (([0,1]:List Int).map intA) ef false) (fun i x hx=>zF hx rfl) dQ).mono (fun _ _ h=>trT h rfl)) (fun r76 K77 h78=>⟨?_,?_⟩)
   ·rcases h78 with ⟨rfl,rfl⟩
    all_goals simp
   obtain ⟨rfl,rfl⟩:=h78
   try simp only [List.cons_append,List.nil_append]
   refine TD.norm (by simp only [List.set]; rfl) ?_
   refine TD.z [284,287] rfl (q_not rfl rfl) ?_
   refine TD.z [284,288] rfl (zE rfl rfl rfl) ?_
   refine TD.z [289] rfl (zd rfl rfl) ?_
   refine TD.z [13,290] rfl (zd rfl rfl) ?_
   refine TD.z [290,291] rfl (q_not rfl rfl) ?_
   refine TD.z [290,292] rfl (zE rfl rfl rfl) ?_
   refine TD.z [293] rfl (zd rfl rfl) ?_
   refine TD.z [15,294] rfl (zd rfl rfl) ?_
   refine TD.z [294,295] rfl (q_cmp rfl rfl rfl rfl) ?_
   refine TD.z [294,296] rfl (zE rfl rfl rfl) ?_
   refine TD.z [297] rfl (zd rfl rfl) ?_
   refine TD.z [4,298] rfl (zd rfl rfl) ?_
   refine TD.z [298,299] rfl (q_not rfl rfl) ?_
   refine TD.z [298,300] rfl (zE rfl rfl rfl) ?_
   refine TD.fin ?_
   refine au [19,12,4] ?_
   refine TK.kp [(0,_),(s,_),(h,_),(e,_),(j1,_),(j19,_)] ?_
   refine au [5,8] ?_
   refine TK.cl rfl rfl rfl rfl ((zhH hT (b:=exB) x_len.1 x_len.2).mono (fun _ _ h=>or3 h kL x_ne)) ?_
   rintro r79 K80 ⟨rfl,rfl⟩
   refine au [] ?_
   rw [x_ask]
   refine au [1,10,10,10,2,2,2,3,4] ?_
   refine TK.kp [(0,_),(s,_),(h,_),(e,_),(j1,_),(j19,_)] ?_
   refine au [5,8,40] ?_
   refine TK.cl rfl rfl rfl rfl ((zdO hT (b:=exB) (m:=⟨2,2,7⟩) x_len.1 x_len.2).mono (fun _ _ h=>agr3 (or2 h kL) x_mc x_mne)) ?_
   rintro r82 K83 ⟨s7,h7,e7,rfl,rfl⟩
   refine au [1,10,10,22] ?_
   intro j30 hj30
   refine au [17,2,3,4] ?_
   refine TK.kp [(0,_),(s,_),(h,_),(e,_),(j1,_),(j19,_),(s7,_),(h7,_),(e7,_),(j30,_)] ?_
   refine au [5,8] ?_
   refine TK.cl rfl rfl rfl rfl (uN hT (b:=exM) (s:=s7) (h:=h7) (e:=e7) dQ dQ) ?_
   rintro r85 K86 ⟨rfl,rfl⟩
   refine au [] ?_
   rw [x_mc,if_pos rfl,x_mst]
   refine au [1,10,10,2,2,3,4] ?_
   refine TK.kp [(0,_),(s,_),(h,_),(e,_),(j1,_),(j19,_),(s7,_),(h7,_),(e7,_),(j30,_)] ?_
   refine au [5,8] ?_
   refine TK.cl rfl rfl rfl rfl ((zeE hT (b:=exM) (s:=s7) (h:=h7) (e:=e7) dQ dQ).mono (fun _ _ h=>or3 h x_mc x_mne)) ?_
   rintro r88 K89 ⟨rfl,rfl⟩
   refine au [] ?_
   rw [ziN]
   refine au [1,10,10,17,2,3,4] ?_
   refine TK.kp [(0,_),(s,_),(h,_),(e,_),(j1,_),(j19,_),(j30,_)] ?_
   refine TK.draw [0,1,2,3,4,5,6,7] [0,1,2,3,4,6,5,7] (by kernel_rfl) (by kernel_rfl) ?_
   refine TD.y [1] rfl (hq:=zx rfl rfl TySz.h (List.Mem.head _) rfl) (h:=?_)
   refine TD.cl (pend':=[⟨0,[1],[(_,_)]⟩]) [] rfl rfl rfl rfl rfl (to_ok hT) (fun r91 K92 h93=>⟨?_,?_⟩)
   ·rcases h93 with ⟨rfl,rfl⟩
    all_goals simp
   obtain ⟨rfl,rfl⟩:=h93
   try simp only [List.cons_append,List.nil_append]
   refine TD.norm (by simp only [List.set]; rfl) ?_
   refine TD.cl (pend':=[]) [325,326] rfl rfl rfl rfl rfl ((zel hT (b:=exB) (n:=0) (x:=⟨1,5⟩) x_len.1 x_len.2).mono (fun _ _ h=>agr3 (or4 h x_d1) x_dc x_dne)) (fun r94 K95 h96=>⟨?_,?_⟩)
   ·rcases h96 with ⟨s8,h8,e8,rfl,rfl⟩
    all_goals simp
   obtain ⟨s8,h8,e8,rfl,rfl⟩:=h96
   try simp only [List.cons_append,List.nil_append]
   refine TD.norm (by simp only [List.set]; rfl) ?_
   refine TD.z [327] rfl (zd rfl rfl) ?_
   refine TD.z [324] rfl (zD rfl rfl rfl) ?_
   refine TD.z [324] rfl (zD rfl rfl rfl) ?_
   refine TD.s (pend':=[⟨5,[324],[]⟩]) [30,328] rfl rfl (zt rfl rfl TySz.h rfl rfl mQ rfl) ?_
   refine TD.as (pend':=[]) [329] rfl rfl (zj rfl rfl) ?_
   refine TD.fin ?_
   refine au [4] ?_
   refine TK.kp [(0,_),(s,_),(h,_),(e,_),(j1,_),(j19,_),(j30,_),(s8,_),(h8,_),(e8,_)] ?_
   refine au [5,8] ?_
   refine TK.cl rfl rfl rfl rfl ((xU hT (b:=exD) (s:=s8) (h:=h8) (e:=e8) (n:=0) dQ dQ (by rw [x_dst]; decide)).mono (fun _ _ h=>or3 h x_dth x_dne)) ?_
   rintro r97 K98 ⟨js9,zs9,rfl,rfl⟩
   refine au [] ?_
   rw [ziL]
   refine au [1,10,10,2,2,3,4] ?_
   refine TK.kp [(0,_),(s,_),(h,_),(e,_),(j1,_),(j19,_),(js9,_)] ?_
   refine TK.draw [0,1,2,3,4,5,6] [0,1,2,3,4,5,6] (by kernel_rfl) (by kernel_rfl) ?_
   refine TD.y [1] rfl (hq:=zx rfl rfl TySz.h (List.Mem.head _) rfl) (h:=?_)
   refine TD.cl (pend':=[⟨0,[1],[(_,_)]⟩]) [] rfl rfl rfl rfl rfl (to_ok hT) (fun r100 K101 h102=>⟨?_,?_⟩)
   ·rcases h102 with ⟨rfl,rfl⟩
    all_goals simp
   obtain ⟨rfl,rfl⟩:=h102
   try simp only [List.cons_append,List.nil_append]
   refine TD.norm (by simp only [List.set]; rfl) ?_
   refine TD.cl (pend':=[]) [336,337] rfl rfl rfl rfl rfl ((zel hT (b:=exB) (n:=1) (x:=⟨1,2⟩) x_len.1 x_len.2).mono (fun _ _ h=>or4c h x_d2)) (fun r103 K104 h105=>⟨?_,?_⟩)
   ·rcases h105 with ⟨rfl,rfl⟩
    all_goals simp
   obtain ⟨rfl,rfl⟩:=h105
   try simp only [List.cons_append,List.nil_append]
   refine TD.norm (by simp only [List.set]; rfl) ?_
   refine TD.z [338] rfl (zd rfl rfl) ?_
   refine TD.z [335] rfl (zD rfl rfl rfl) ?_
   refine TD.z [335] rfl (zD rfl rfl rfl) ?_
   refine TD.as (pend':=[]) [340] rfl rfl (zj rfl rfl) ?_
   refine TD.fin ?_
   refine au [4] ?_
   refine TK.kp [(0,_),(s,_),(h,_),(e,_),(j1,_),(j19,_),(js9,_)] ?_
   refine au [5,8,40] ?_
   refine TK.cl rfl rfl rfl rfl (jM hT (b:=exB) (m:=⟨0,1,5⟩) dQ) ?_
   rintro r106 K107 ⟨e9,rfl,rfl⟩
   refine au [40] ?_
   refine TK.cl rfl rfl rfl rfl (jM hT (b:=exC1) (m:=⟨2,2,6⟩) dQ) ?_
   rintro r109 K110 ⟨e10,rfl,rfl⟩
   refine au [] ?_
   refine TK.cl rfl rfl rfl rfl ((zfu hT (b:=exC) (s:=s) (h:=h) (e:=e10) dQ dQ).mono (fun _ _ h=>orCl h x_cc x_cst (by rw [zdw]; exact fun h=>nomatch h))) ?_
   rintro r112 K113 ⟨l0,j10,e11,hcl,rfl,rfl⟩
   refine au [] ?_
   rw [zdw] at hcl
   cases hcl
   refine au [1,10,10,2,2,3,4] ?_
   refine TK.kp [(0,_),(j19,_),(js9,_),(j10,_)] ?_
   refine TK.draw [0,1,2,3,4,5,6,7,8,9,10,11,12,13,14,15,16,17,18,19,20,21,22,23,24,25,26,27,28,29,30,31,32,33,34,35,36,37,38,39,40,41,42,43,44,45,46,47,48,49,50,51,52,53,54,55,56,57] [0,1,2,3,4,5,6,7,8,9,10,11,12,13,14,15,16,17,18,19,20,21,22,23,24,25,26,27,28,29,30,31,32,33,34,35,36,37,38,39,40,41,42,43,44,45,46,47,48,49,50,51,52,53,54,55,56,57] (by kernel_rfl) (by kernel_rfl) ?_
   refine TD.z [3] rfl (zd rfl rfl) ?_
   refine TD.z [350] rfl (q_cmp rfl rfl rfl rfl) ?_
   refine TD.z [351] rfl (zd rfl rfl) ?_
   refine TD.z [5,352] rfl (zd rfl rfl) ?_
   refine TD.z [352,353] rfl (q_cmp rfl rfl rfl rfl) ?_
   refine TD.z [352,354] rfl (z6 rfl rfl rfl) ?_
   refine TD.z [355] rfl (zd rfl rfl) ?_
   refine TD.z [7,356] rfl (zd rfl rfl) ?_
   refine TD.z [356,357] rfl (q_cmp rfl rfl rfl rfl) ?_
   refine TD.z [356,358] rfl (z6 rfl rfl rfl) ?_
   refine TD.z [359] rfl (zd rfl rfl) ?_
   refine TD.z [11,360] rfl (zd rfl rfl) ?_
   refine TD.z [360,361] rfl (q_cmp rfl rfl rfl rfl) ?_
   refine TD.z [360,362] rfl (z6 rfl rfl rfl) ?_
   refine TD.z [363] rfl (zd rfl rfl) ?_
   refine TD.z [14,364] rfl (zd rfl rfl) ?_
   refine TD.z [364,365] rfl (q_cmp rfl rfl rfl rfl) ?_
   refine TD.z [364,366] rfl (z6 rfl rfl rfl) ?_
   refine TD.z [367] rfl (zd rfl rfl) ?_
   refine TD.z [16,368] rfl (zd rfl rfl) ?_
   refine TD.z [368,369] rfl (q_cmp rfl rfl rfl rfl) ?_
   refine TD.z [368,370] rfl (z6 rfl rfl rfl) ?_
   refine TD.z [371] rfl (zd rfl rfl) ?_
   refine TD.z [18,372] rfl (zd rfl rfl) ?_
   refine TD.z [372,373] rfl (q_cmp rfl rfl rfl rfl) ?_
   refine TD.z [372,374] rfl (z6 rfl rfl rfl) ?_
   refine TD.z [375] rfl (zd rfl rfl) ?_
   refine TD.z [20,376] rfl (zd rfl rfl) ?_
   refine TD.z [376,377] rfl (q_cmp rfl rfl rfl rfl) ?_
   refine TD.z [376,378] rfl (z6 rfl rfl rfl) ?_
   refine TD.z [379] rfl (zd rfl rfl) ?_
   refine TD.z [28,380] rfl (zd rfl rfl) ?_
   refine TD.z [380,381] rfl (q_cmp rfl rfl rfl rfl) ?_
   refine TD.z [380,382] rfl (z6 rfl rfl rfl) ?_
   refine TD.z [383] rfl (zd rfl rfl) ?_
   refine TD.z [29,384] rfl (zd rfl rfl) ?_
   refine TD.z [384,385] rfl (q_cmp rfl rfl rfl rfl) ?_
   refine TD.z [384,386] rfl (z6 rfl rfl rfl) ?_
   refine TD.z [387] rfl (zd rfl rfl) ?_
   refine TD.z [15,388] rfl (zd rfl rfl) ?_
   refine TD.z [388,389] rfl (q_cmp rfl rfl rfl rfl) ?_
   refine TD.z [388,390] rfl (z6 rfl rfl rfl) ?_
   refine TD.z [391] rfl (zd rfl rfl) ?_
   refine TD.y [19,392] rfl (hq:=zx rfl rfl TySz.h (List.Mem.head _) rfl) (h:=?_)
   refine TD.cl (pend':=[⟨43,[19,392],[(_,_)]⟩,⟨41,[388,390],[]⟩,⟨40,[388,389],[]⟩,⟨39,[15,388],[]⟩,⟨38,[387],[]⟩,⟨37,[384,386],[]⟩,⟨36,[384,385],[]⟩,⟨35,[29,384],[]⟩,⟨34,[383],[]⟩,⟨33,[380,382],[]⟩,⟨32,[380,381],[]⟩,⟨31,[28,380],[]⟩,⟨30,[379],[]⟩,⟨29,[376,378],[]⟩,⟨28,[376,377],[]⟩,⟨27,[20,376],[]⟩,⟨26,[375],[]⟩,⟨25,[372,374],[]⟩,⟨24,[372,373],[]⟩,⟨23,[18,372],[]⟩,⟨22,[371],[]⟩,⟨21,[368,370],[]⟩,⟨20,[368,369],[]⟩,⟨19,[16,368],[]⟩,⟨18,[367],[]⟩,⟨17,[364,366],[]⟩,⟨16,[364,365],[]⟩,⟨15,[14,364],[]⟩,⟨14,[363],[]⟩,⟨13,[360,362],[]⟩,⟨12,[360,361],[]⟩,⟨11,[11,360],[]⟩,⟨10,[359],[]⟩,⟨9,[356,358],[]⟩,⟨8,[356,357],[]⟩,⟨7,[7,356],[]⟩,⟨6,[355],[]⟩,⟨5,[352,354],[]⟩,⟨4,[352,353],[]⟩,⟨3,[5,352],[]⟩,⟨2,[351],[]⟩,⟨1,[350],[]⟩,⟨0,[3],[]⟩]) [392] rfl rfl rfl rfl rfl (to_ok hT) (fun r115 K116 h117=>⟨?_,?_⟩)
   ·rcases h117 with ⟨rfl,rfl⟩
    all_goals simp
   obtain ⟨rfl,rfl⟩:=h117
   try simp only [List.cons_append,List.nil_append]
   refine TD.norm (by simp only [List.set]; rfl) ?_
   refine TD.z [392,393,394] rfl (zb8 rfl rfl rfl rfl rfl FlatF.h EqG.h) ?_
   refine TD.z [392,395] rfl (z6 rfl rfl rfl) ?_
   refine TD.z [396] rfl (zd rfl rfl) ?_
   refine TD.z [17,397] rfl (zd rfl rfl) ?_
   refine TD.cnewR (pend':=[⟨48,[17,397],[]⟩,⟨46,[392,395],[]⟩,⟨45,[392,393,394],[]⟩,⟨43,[19,392],[(_,_)]⟩,⟨41,[388,390],[]⟩,⟨40,[388,389],[]⟩,⟨39,[15,388],[]⟩,⟨38,[387],[]⟩,⟨37,[384,386],[]⟩,⟨36,[384,385],[]⟩,⟨35,[29,384],[]⟩,⟨34,[383],[]⟩,⟨33,[380,382],[]⟩,⟨32,[380,381],[]⟩,⟨31,[28,380],[]⟩,⟨30,[379],[]⟩,⟨29,[376,378],[]⟩,⟨28,[376,377],[]⟩,⟨27,[20,376],[]⟩,⟨26,[375],[]⟩,⟨25,[372,374],[]⟩,⟨24,[372,373],[]⟩,⟨23,[18,372],[]⟩,⟨22,[371],[]⟩,⟨21,[368,370],[]⟩,⟨20,[368,369],[]⟩,⟨19,[16,368],[]⟩,⟨18,[367],[]⟩,⟨17,[364,366],[]⟩,⟨16,[364,365],[]⟩,⟨15,[14,364],[]⟩,⟨14,[363],[]⟩,⟨13,[360,362],[]⟩,⟨12,[360,361],[]⟩,⟨11,[11,360],[]⟩,⟨10,[359],[]⟩,⟨9,[356,358],[]⟩,⟨8,[356,357],[]⟩,⟨7,[7,356],[]⟩,⟨6,[355],[]⟩,⟨5,[352,354],[]⟩,⟨4,[352,353],[]⟩,⟨3,[5,352],[]⟩,⟨2,[351],[]⟩,⟨1,[350],[]⟩,⟨0,[3],[]⟩]) [397] rfl rfl rfl rfl rfl (zg (l:=[_]) rfl SlEl.h TyZ.h dQ dQ rfl) (fun _=>putS rfl (by simp only [List.set]; rfl)) sQ fun jq1 hjq1=>?_
   refine TD.cl (pend':=[⟨46,[392,395],[]⟩,⟨45,[392,393,394],[]⟩,⟨43,[19,392],[(_,_)]⟩,⟨41,[388,390],[]⟩,⟨40,[388,389],[]⟩,⟨39,[15,388],[]⟩,⟨38,[387],[]⟩,⟨37,[384,386],[]⟩,⟨36,[384,385],[]⟩,⟨35,[29,384],[]⟩,⟨34,[383],[]⟩,⟨33,[380,382],[]⟩,⟨32,[380,381],[]⟩,⟨31,[28,380],[]⟩,⟨30,[379],[]⟩,⟨29,[376,378],[]⟩,⟨28,[376,377],[]⟩,⟨27,[20,376],[]⟩,⟨26,[375],[]⟩,⟨25,[372,374],[]⟩,⟨24,[372,373],[]⟩,⟨23,[18,372],[]⟩,⟨22,[371],[]⟩,⟨21,[368,370],[]⟩,⟨20,[368,369],[]⟩,⟨19,[16,368],[]⟩,⟨18,[367],[]⟩,⟨17,[364,366],[]⟩,⟨16,[364,365],[]⟩,⟨15,[14,364],[]⟩,⟨14,[363],[]⟩,⟨13,[360,362],[]⟩,⟨12,[360,361],[]⟩,⟨11,[11,360],[]⟩,⟨10,[359],[]⟩,⟨9,[356,358],[]⟩,⟨8,[356,357],[]⟩,⟨7,[7,356],[]⟩,⟨6,[355],[]⟩,⟨5,[352,354],[]⟩,⟨4,[352,353],[]⟩,⟨3,[5,352],[]⟩,⟨2,[351],[]⟩,⟨1,[350],[]⟩,⟨0,[3],[]⟩]) [397,398,399] rfl rfl rfl rfl rfl ((wb hT (xs:=[1]) (ys:=[1]) (off:=0) (ob:=.cells (([1]++zs9).map intA) 3 false) (fun i x hx=>zbJ hx) dQ).mono (fun _ _ h=>trT h rfl)) (fun r118 K119 h120=>⟨?_,?_⟩)
   ·rcases h120 with ⟨rfl,rfl⟩
    all_goals simp
   obtain ⟨rfl,rfl⟩:=h120
   try simp only [List.cons_append,List.nil_append]
   refine TD.norm (by simp only [List.set]; rfl) ?_
   refine TD.z [397,400] rfl (z6 rfl rfl rfl) ?_
   refine TD.z [401] rfl (zd rfl rfl) ?_
   refine TD.z [31,402] rfl (zd rfl rfl) ?_
   refine TD.cnewR (pend':=[⟨53,[31,402],[]⟩,⟨51,[397,400],[]⟩,⟨46,[392,395],[]⟩,⟨45,[392,393,394],[]⟩,⟨43,[19,392],[(_,_)]⟩,⟨41,[388,390],[]⟩,⟨40,[388,389],[]⟩,⟨39,[15,388],[]⟩,⟨38,[387],[]⟩,⟨37,[384,386],[]⟩,⟨36,[384,385],[]⟩,⟨35,[29,384],[]⟩,⟨34,[383],[]⟩,⟨33,[380,382],[]⟩,⟨32,[380,381],[]⟩,⟨31,[28,380],[]⟩,⟨30,[379],[]⟩,⟨29,[376,378],[]⟩,⟨28,[376,377],[]⟩,⟨27,[20,376],[]⟩,⟨26,[375],[]⟩,⟨25,[372,374],[]⟩,⟨24,[372,373],[]⟩,⟨23,[18,372],[]⟩,⟨22,[371],[]⟩,⟨21,[368,370],[]⟩,⟨20,[368,369],[]⟩,⟨19,[16,368],[]⟩,⟨18,[367],[]⟩,⟨17,[364,366],[]⟩,⟨16,[364,365],[]⟩,⟨15,[14,364],[]⟩,⟨14,[363],[]⟩,⟨13,[360,362],[]⟩,⟨12,[360,361],[]⟩,⟨11,[11,360],[]⟩,⟨10,[359],[]⟩,⟨9,[356,358],[]⟩,⟨8,[356,357],[]⟩,⟨7,[7,356],[]⟩,⟨6,[355],[]⟩,⟨5,[352,354],[]⟩,⟨4,[352,353],[]⟩,⟨3,[5,352],[]⟩,⟨2,[351],[]⟩,⟨1,[350],[]⟩,⟨0,[3],[]⟩]) [402] rfl rfl rfl rfl rfl (zg (l:=[_,_]) rfl SlEl.h TyZ.h dQ dQ rfl) (fun _=>putS rfl (by simp only [List.set]; rfl)) sQ fun jq2 hjq2=>?_
   refine TD.cl (pend':=[⟨51,[397,400],[]⟩,⟨46,[392,395],[]⟩,⟨45,[392,393,394],[]⟩,⟨43,[19,392],[(_,_)]⟩,⟨41,[388,390],[]⟩,⟨40,[388,389],[]⟩,⟨39,[15,388],[]⟩,⟨38,[387],[]⟩,⟨37,[384,386],[]⟩,⟨36,[384,385],[]⟩,⟨35,[29,384],[]⟩,⟨34,[383],[]⟩,⟨33,[380,382],[]⟩,⟨32,[380,381],[]⟩,⟨31,[28,380],[]⟩,⟨30,[379],[]⟩,⟨29,[376,378],[]⟩,⟨28,[376,377],[]⟩,⟨27,[20,376],[]⟩,⟨26,[375],[]⟩,⟨25,[372,374],[]⟩,⟨24,[372,373],[]⟩,⟨23,[18,372],[]⟩,⟨22,[371],[]⟩,⟨21,[368,370],[]⟩,⟨20,[368,369],[]⟩,⟨19,[16,368],[]⟩,⟨18,[367],[]⟩,⟨17,[364,366],[]⟩,⟨16,[364,365],[]⟩,⟨15,[14,364],[]⟩,⟨14,[363],[]⟩,⟨13,[360,362],[]⟩,⟨12,[360,361],[]⟩,⟨11,[11,360],[]⟩,⟨10,[359],[]⟩,⟨9,[356,358],[]⟩,⟨8,[356,357],[]⟩,⟨7,[7,356],[]⟩,⟨6,[355],[]⟩,⟨5,[352,354],[]⟩,⟨4,[352,353],[]⟩,⟨3,[5,352],[]⟩,⟨2,[351],[]⟩,⟨1,[350],[]⟩,⟨0,[3],[]⟩]) [402,403,404] rfl rfl rfl rfl rfl ((wb hT (xs:=[0,1]) (ys:=[0,1]) (off:=0) (ob:=.cells (([0,1]:List Int).map intA) e11 false) (fun i x hx=>zF hx rfl) dQ).mono (fun _ _ h=>trT h rfl)) (fun r121 K122 h123=>⟨?_,?_⟩)
   ·rcases h123 with ⟨rfl,rfl⟩
    all_goals simp
   obtain ⟨rfl,rfl⟩:=h123
   try simp only [List.cons_append,List.nil_append]
   refine TD.norm (by simp only [List.set]; rfl) ?_
   refine TD.z [402,405] rfl (z6 rfl rfl rfl) ?_
   refine TD.as (pend':=[]) [406] rfl rfl (zj rfl rfl) ?_
   refine TD.fin ?_
   refine au [] ?_
   refine TK.rt hret [(0,_)] ?_
   exact ⟨rfl,rfl⟩
end Go.Vel
end
