/- Texts for the statements of chapter 8: what all of them need, part 7. It holds of every program, tape and world that the statements name, as each theorem says. -/
import Derived.Test.YtamcohjpanjdiaaGreatDoorU3
import Derived.Test.YtamcohjpanjdiaaGreatDoorU5
section
set_option linter.all false
set_option maxRecDepth 20000
set_option maxHeartbeats 60000000
namespace Go.Vel
open Go Go.Conc Go.Proofs
def gmR:Nat->Option Nat
 | 0=>some 0
 | _=>none
def checksG:AObj:=.cells [.fn 251 [] [],.fn 252 [] [],.fn 253 [] [],.fn 254 [] []] 122 false
def z7R:List AV:=[intA 0,intA 0,intA 0,intA 0,.v (.slice none 0 0),.v (.slice none 0 0),.v (.slice none 0 0)]
def bar2 (x y:Int):Int:=if x≠0 then x else y
def OpenR (b:RBk) (s h e:Nat) (bar:Int) (r:AV):Prop:=(bar=0/\r=.tup [.agg (rollC b s h e),intA 0])\/(bar≠0/\r=.tup [.agg z7R,intA bar])
theorem vr {x y:Int} (h:x≠0):bar2 x y=x:=if_pos h
theorem yM {x y:Int} (h:x=0):bar2 x y=y:=if_neg (fun e=>e h)
theorem zaU (b:RBk) (l:List Int) (i:Nat):((List.range (i+1)).map (stripM b l)).flatMap pairC=((List.range i).map (stripM b l)).flatMap pairC++pairC (stripM b l i):=by
 rw [List.range_succ,List.map_append,List.flatMap_append]
 simp
theorem zga (b:RBk) (l:List Int) (i:Nat):(((List.range i).map (stripM b l)).flatMap pairC).length=i*2:=by
 rw [zS pairC 2 (fun _=>rfl)]; simp
theorem xv {b:RBk} {l:List Int} {k:Nat} (hk:k<l.length) (h:(cutS b l k).whole=true\/b.roll<(stripM b l k).2):fitsM b l=false:=by
 unfold fitsM
 rw [Bool.and_eq_false_iff]
 right
 rw [List.all_eq_false]
 refine ⟨k,List.mem_range.2 hk,?_⟩
 rcases h with h | h
 ·simp [h]
 ·simp; intro _; omega
theorem zfb {b:RBk} {l:List Int} {i:Nat} (h:i<l.length):((List.range l.length).map (stripM b l))[i]? =some (stripM b l i):=by
 rw [List.getElem?_map,List.getElem?_range h]; rfl
theorem zal {α:Type} {f:α->List AV} {c:Nat} (hc:∀ x,(f x).length=c) {xs:List α} {x:α} {i:Nat} {n:Int} {e:TypeId} {sz:Nat} (h:xs[i]? =some x) (hn:n=(i:Int)) (h0:0<c):takeO (.row (xs.flatMap f) e sz) (n.toNat*c) c=some (f x):=by
 subst hn
 obtain ⟨h1,h2⟩:=List.getElem?_eq_some_iff.1 h
 have hle:(i+1)*c<=xs.length*c:=Nat.mul_le_mul_right _ h1
 have:(i+1)*c=i*c+c:=Nat.succ_mul ..
 simp only [takeO,AObj.look,Int.toNat_natCast]
 rw [if_pos ⟨by omega,by rw [zS f c hc]; omega⟩,ut f c hc _ _ h1,h2]
theorem zad {a b c d e f g h:Nat×AObj} {R:KV}:((f::R)++[a,b,c,d,e,g,h]).Perm (a::b::f::c::d::e::g::h::R):=by
 have q:((f::R)++[a,b,c,d,e,g,h]).Perm ([a,b,c,d,e,g,h]++(f::R)):=List.perm_append_comm
 refine q.trans ?_
 have q2:([c,d,e,g,h]++f::R).Perm (f::([c,d,e,g,h]++R)):=List.perm_middle
 exact (q2.cons b).cons a
instance:ArEl Tryz.prog 122 4 116 false 1:=⟨by kernel_rfl⟩
instance:ArEl Tryz.prog 129 5 3 false 1:=⟨by kernel_rfl⟩
instance:BlOf Tryz.prog 113 [(0,7)]:=⟨by kernel_rfl⟩
instance:Cal Tryz.prog 24:=⟨by kernel_rfl⟩
instance:Cal Tryz.prog 251:=⟨by kernel_rfl⟩
instance:Cal Tryz.prog 252:=⟨by kernel_rfl⟩
instance:Cal Tryz.prog 253:=⟨by kernel_rfl⟩
instance:Cal Tryz.prog 254:=⟨by kernel_rfl⟩
instance:SlEl Tryz.prog 117 3 1:=⟨by kernel_rfl⟩
instance:SlEl Tryz.prog 123 3 1:=⟨by kernel_rfl⟩
instance:SlEl Tryz.prog 180 116 1:=⟨by kernel_rfl⟩
instance:TySz Tryz.prog 116 false 1:=⟨by kernel_rfl⟩
instance:TySz Tryz.prog 122 true 4:=⟨by kernel_rfl⟩
instance:TySz Tryz.prog 129 true 5:=⟨by kernel_rfl⟩
instance:TySz Tryz.prog 26 true 7:=⟨by kernel_rfl⟩
instance:TyZ Tryz.prog 113 [.int .i64 0,.int .i64 0,.int .i64 0,.int .i64 0,.slice none 0 0,.slice none 0 0,.slice none 0 0]:=⟨by kernel_rfl⟩
instance:TyZA Tryz.prog 113 [.v (.int .i64 0),.v (.int .i64 0),.v (.int .i64 0),.v (.int .i64 0),.v (.slice none 0 0),.v (.slice none 0 0),.v (.slice none 0 0)]:=⟨by kernel_rfl⟩
instance:TyZA Tryz.prog 129 [.v (.int .i64 0),.v (.int .i64 0),.v (.int .i64 0),.v (.int .i64 0),.v (.int .i64 0)]:=⟨by kernel_rfl⟩
instance:Und Tryz.prog 117 (.slice 3):=⟨by kernel_rfl⟩
instance:Und Tryz.prog 123 (.slice 3):=⟨by kernel_rfl⟩
instance:Und Tryz.prog 180 (.slice 116):=⟨by kernel_rfl⟩
theorem wN {main:Bool} {T:Goroutine->Hp->Prop} (hT:Shut Tryz.prog main T)  {b:RBk} {s h e:Nat} (hl:b.seams.length<=100) (hm:b.measures.length<=100) :
  CallK Tryz.prog T gmR 24 [.agg (rollC b s h e)] [(0,checksG),(s,seamO b),(h,shrO b),(e,measO b)] (fun r K'=>r=intA (checkM b)/\K'=[(0,checksG),(s,seamO b),(h,shrO b),(e,measO b)]):=by
 refine zf 18 hT Tryz.func24 fun Y hret=>?_
 refine au [4,5,21] ?_
 intro jb hjb
 refine au [2,3,4,4,5,8,1,3,13] ?_
 refine TK.loop ?_
 refine au [4,5,6,3,4,20] ?_
 refine ⟨fun hc0=>?_,fun hc0=>?_⟩
 ·
  refine au [12,4,13,4,5] ?_
  refine TK.a rfl (kq rfl rfl rfl ArEl.h oQ oQ rfl) ?_
  refine au [2,3,4,5,1,8,44] ?_
  refine TK.cl rfl rfl rfl rfl (ze3 hT) ?_
  rintro r1 K2 ⟨rfl,rfl⟩
  refine au [2,3,4,5,1,6,3,20] ?_
  refine ⟨fun hc1=>?_,fun hc1=>?_⟩
  ·refine au [4,5,1,2,3] ?_
   refine TK.rt hret [(0,_),(s,_),(h,_),(e,_)] ?_
   exact ⟨by unfold checkM; rw [if_pos (by simpa using hc1)],rfl⟩
  have q1:roundsM b=0:=by simpa using hc1
  have hr:=vV q1
  refine au [12,14,5,23,1,3] ?_
  refine TK.inLoop ?_
  refine au [4,5,6,3,4,20] ?_
  refine ⟨fun hc0=>?_,fun hc0=>?_⟩
  ·
   refine au [12,4,13,4,5] ?_
   refine TK.a rfl (kq rfl rfl rfl ArEl.h oQ oQ rfl) ?_
   refine au [2,3,4,5,1,8,44] ?_
   refine TK.cl rfl rfl rfl rfl (zgm hT hr hl) ?_
   rintro r4 K5 ⟨rfl,rfl⟩
   refine au [2,3,4,5,1,6,3,20] ?_
   refine ⟨fun hc1=>?_,fun hc1=>?_⟩
   ·refine au [4,5,1,2,3] ?_
    refine TK.rt hret [(0,_),(s,_),(h,_),(e,_)] ?_
    exact ⟨by unfold checkM; rw [if_neg (by simpa using q1),if_pos (by simpa using hc1)],rfl⟩
   have q2:seamsM b=0:=by simpa using hc1
   have hs:=uJ q2
   refine au [12,14,5,23,1,3] ?_
   refine TK.inLoop ?_
   refine au [4,5,6,3,4,20] ?_
   refine ⟨fun hc0=>?_,fun hc0=>?_⟩
   ·
    refine au [12,4,13,4,5] ?_
    refine TK.a rfl (kq rfl rfl rfl ArEl.h oQ oQ rfl) ?_
    refine au [2,3,4,5,1,8,44] ?_
    refine TK.cl rfl rfl rfl rfl (zej hT hr hs) ?_
    rintro r7 K8 ⟨rfl,rfl⟩
    refine au [2,3,4,5,1,6,3,20] ?_
    refine ⟨fun hc1=>?_,fun hc1=>?_⟩
    ·refine au [4,5,1,2,3] ?_
     refine TK.rt hret [(0,_),(s,_),(h,_),(e,_)] ?_
     exact ⟨by unfold checkM; rw [if_neg (by simpa using q1),if_neg (by simpa using q2),if_pos (by simpa using hc1)],rfl⟩
    have q3:clothsM b=0:=by simpa using hc1
    refine au [12,14,5,23,1,3] ?_
    refine TK.inLoop ?_
    refine au [4,5,6,3,4,20] ?_
    refine ⟨fun hc0=>?_,fun hc0=>?_⟩
    ·
     refine au [12,4,13,4,5] ?_
     refine TK.a rfl (kq rfl rfl rfl ArEl.h oQ oQ rfl) ?_
     refine au [2,3,4,5,1,8,44] ?_
     refine TK.cl rfl rfl rfl rfl (zcJ hT hs hm) ?_
     rintro r10 K11 ⟨rfl,rfl⟩
     refine au [2,3,4,5,1,6,3,20] ?_
     refine ⟨fun hc1=>?_,fun hc1=>?_⟩
     ·refine au [4,5,1,2,3] ?_
      refine TK.rt hret [(0,_),(s,_),(h,_),(e,_)] ?_
      exact ⟨by unfold checkM; rw [if_neg (by simpa using q1),if_neg (by simpa using q2),if_neg (by simpa using q3)],rfl⟩
     refine au [12,14,5,23,1,3] ?_
     refine TK.inLoop ?_
     refine au [4,5,6,3,4,20] ?_
     refine ⟨fun hc0=>?_,fun hc0=>?_⟩
     ·exact absurd hc0 dQ
     refine au [16,4,5,2,3] ?_
     refine TK.rt hret [(0,_),(s,_),(h,_),(e,_)] ?_
     exact ⟨by unfold checkM; rw [if_neg (by simpa using q1),if_neg (by simpa using q2),if_neg (by simpa using q3),show measM b=0 by simpa using hc1],rfl⟩
    exact absurd hc0 dQ
   exact absurd hc0 dQ
  exact absurd hc0 dQ
 exact absurd hc0 dQ
theorem ko {main:Bool} {T:Goroutine->Hp->Prop} (hT:Shut Tryz.prog main T) {gm:Nat->Option Nat} {b:RBk} {s h e j:Nat} {l:List Int} {et:TypeId} (hs:b.seams.length<=5) (hl:l.length<=1000) :
  CallK Tryz.prog T gm 91 [.sl j 0 l.length,.agg (rollC b s h e)] [(j,.cells (l.map intA) et false)] (fun r K'=>r=intA (cutsM b l)/\K'=[(j,.cells (l.map intA) et false)]):=by
 refine zf 36 hT Tryz.func91 fun Y hret=>?_
 refine au [4,5,21] ?_
 intro jb hjb
 refine au [2,3,4,4,5,1,28,6,3,20] ?_
 refine ⟨fun hc0=>?_,fun hc0=>?_⟩
 ·refine au [4,5,2,3] ?_
  refine TK.rt hret [(j,_)] ?_
  exact ⟨by unfold cutsM; rw [if_pos (by simp at hc0; simp [hc0])],rfl⟩
 refine au [12,4,4,5,1,28,1,3,13] ?_
 refine TK.maskL [0,3,4,11,12,13] ?_
 refine TK.loopN (fun n env K=>∃ (i:Nat) (last:Option Int),n=l.length - i/\i<=l.length/\cutsL b last (l.drop i)=cutsM b l/\(0<i->last=some (cutN l (i - 1)))/\(i=0->last=none)/\env=[.sl j 0 l.length,.any,.any,.ptr jb 0,intA 0,.any,.any,.any,.any,.any,.any,.sl j 0 l.length,intA l.length,intA i,.any,.any,.any,.any,.any,.any,.any,.any,.any,.any,.any,.any,.any,.any,.any,.any,.any,.any,.any,.any,.any,.any]/\K=[(jb,.cells (rollC b s h e) 113 true),(j,.cells (l.map intA) et false)]) l.length ⟨0,none,rfl,Nat.zero_le _,by unfold cutsM; rw [if_neg (by simp at hc0; simp; omega)]; rfl,fun h=>absurd h (Nat.lt_irrefl _),fun _=>rfl,rfl,rfl⟩ fun n env K hI hnext=>?_
 obtain ⟨i,last,rfl,hi,hinv,hlast,hlast0,rfl,rfl⟩:=hI
 refine au [4,5,6,3,4,20] ?_
 refine ⟨fun hc1=>?_,fun hc1=>?_⟩
 ·have hil:i<l.length:=by simp at hc1; omega
  refine au [12,4,13,4,5,1,36] ?_
  refine TK.a rfl (ze rfl rfl TySz.h mQ (zF (i:=i) (zy hil) rfl)) ?_
  refine au [2,2,3,4,4,5,1,8] ?_
  refine TK.cl rfl rfl rfl rfl (v8 hT oQ) ?_
  rintro r1 K2 ⟨rfl,rfl⟩
  refine au [2,3,4,5,1,6,3,20] ?_
  refine ⟨fun hc2=>?_,fun hc2=>?_⟩
  ·refine au [4,5,1,2,3] ?_
   refine TK.rt hret [(j,_)] ?_
   exact ⟨by rw [<- hinv,zl (zy hil),cutsL,if_pos (by simpa using hc2)],rfl⟩
  refine au [12,4,5,1,6,1] ?_
  refine TK.sp 26 (fun g9_3=>?_) (fun g9_3=>?_)
  ·have hi0:0<i:=by simp at g9_3; omega
   refine au [1,1,1,24,36] ?_
   refine TK.a rfl (ze rfl rfl TySz.h mQ (zF (i:=i - 1) (zy oQ) oQ)) ?_
   refine au [6,26,3,20] ?_
   refine ⟨fun hc3=>?_,fun hc3=>?_⟩
   ·refine au [4,5,2,3] ?_
    refine TK.rt hret [(j,_)] ?_
    exact ⟨by rw [<- hinv,zl (zy hil),cutsL,if_neg (by simpa using hc2),if_pos (by obtain rfl:=hlast (by simp at g9_3; omega); exact hc3)],rfl⟩
   refine au [12,14,5,23,1,3] ?_
   refine TK.maskL [0,3,4,11,12,13] ?_
   refine TK.kp [(jb,_),(j,_)] ?_
   exact hnext _ _ _ oQ ⟨i+1,some (cutN l i),rfl,by omega,by rw [<- hinv,zl (zy hil),cutsL,if_neg (by simpa using hc2),if_neg (by obtain rfl:=hlast (by simp at g9_3; omega); simpa [notAft] using hc3)],fun _=>rfl,fun h=>by omega,rfl,rfl⟩
  refine au [11,11,11,11,11,11,11,25,3,19,12,14,5,23,1,3] ?_
  refine TK.maskL [0,3,4,11,12,13] ?_
  refine TK.kp [(jb,_),(j,_)] ?_
  exact hnext _ _ _ oQ ⟨i+1,some (cutN l i),rfl,by omega,by rw [<- hinv,zl (zy hil),cutsL,if_neg (by simpa using hc2),if_neg (by obtain rfl:=hlast0 (by simp at g9_3; omega); simp [notAft])],fun _=>rfl,fun h=>by omega,rfl,rfl⟩
 obtain rfl:i=l.length:=by simp at hc1; omega
 refine au [16,4,5,2,3] ?_
 refine TK.rt hret [(j,_)] ?_
 exact ⟨by rw [<- hinv,List.drop_length]; rfl,rfl⟩
theorem zco {main:Bool} {T:Goroutine->Hp->Prop} (hT:Shut Tryz.prog main T) {gm:Nat->Option Nat} {b:RBk} {s h e j:Nat} {l:List Int} {et:TypeId} (hr:RndOk b) (hs:SmOk b) :
  CallK Tryz.prog T gm 99 [.sl j 0 l.length,.agg (rollC b s h e)] [(s,seamO b),(j,.cells (l.map intA) et false)] (fun r K'=>r=intA (shM b l)/\K'=[(s,seamO b),(j,.cells (l.map intA) et false)]):=by
 refine zf 32 hT Tryz.func99 fun Y hret=>?_
 refine au [] ?_
 have hs5:=hs.len
 refine au [4,5,21] ?_
 intro jb hjb
 refine au [2,3,4,4,5,1,28,7,7,9,28,6,3,20] ?_
 refine ⟨fun hc0=>?_,fun hc0=>?_⟩
 ·refine au [4,5,2,3] ?_
  refine TK.rt hret [(s,_),(j,_)] ?_
  exact ⟨by unfold shM; rw [if_pos (by simp at hc0; omega)],rfl⟩
 have hle:l.length=b.seams.length:=by simp at hc0; omega
 refine au [12,4,4,5,1,28,1,3,13] ?_
 refine TK.maskL [0,3,4,14,15,16] ?_
 refine TK.loopN (fun n env K=>∃ (i:Nat),n=l.length - i/\i<=l.length/\shL b i (l.drop i)=shM b l/\env=[.sl j 0 l.length,.any,.any,.ptr jb 0,intA 0,.any,.any,.any,.any,.any,.any,.any,.any,.any,.sl j 0 l.length,intA l.length,intA i,.any,.any,.any,.any,.any,.any,.any,.any,.any,.any,.any,.any,.any,.any,.any]/\K=[(jb,.cells (rollC b s h e) 113 true),(s,seamO b),(j,.cells (l.map intA) et false)]) l.length ⟨0,rfl,Nat.zero_le _,by unfold shM; rw [if_neg (by simpa using hle)]; rfl,rfl,rfl⟩ fun n env K hI hnext=>?_
 obtain ⟨i,rfl,hi,hinv,rfl,rfl⟩:=hI
 refine au [4,5,6,3,4,20] ?_
 refine ⟨fun hc1=>?_,fun hc1=>?_⟩
 ·have hil:i<l.length:=by simp at hc1; omega
  refine au [12,4,13,4,5,1,36] ?_
  refine TK.a rfl (ze rfl rfl TySz.h mQ (zF (i:=i) (zy hil) rfl)) ?_
  refine au [2,2,3,13,4,5,1] ?_
  refine TK.cl rfl rfl rfl rfl (zU hT) ?_
  rintro r1 K2 ⟨rfl,rfl⟩
  refine au [30,2,3,20] ?_
  refine ⟨fun hc2=>?_,fun hc2=>?_⟩
  ·refine au [4,5,2,3] ?_
   refine TK.rt hret [(s,_),(j,_)] ?_
   exact ⟨by rw [<- hinv,zl (zy hil),shL,if_pos (by simpa using hc2)],rfl⟩
  refine au [4,5,1,8,1] ?_
  refine TK.cl rfl rfl rfl rfl (zar hT (i:=i) hr hs oQ) ?_
  rintro r4 K5 ⟨rfl,rfl⟩
  refine au [6,2,3,20] ?_
  refine ⟨fun hc3=>?_,fun hc3=>?_⟩
  ·refine au [4,5,2,3] ?_
   refine TK.rt hret [(s,_),(j,_)] ?_
   exact ⟨by rw [<- hinv,zl (zy hil),shL,if_neg (by simpa using hc2),if_pos (of_decide_eq_true hc3)],rfl⟩
  refine au [12,14,14,5,23,1,3] ?_
  refine TK.maskL [0,3,4,14,15,16] ?_
  refine TK.kp [(jb,_),(s,_),(j,_)] ?_
  exact hnext _ _ _ oQ ⟨i+1,rfl,by omega,by rw [<- hinv,zl (zy hil),shL,if_neg (by simpa using hc2),if_neg (of_decide_eq_false hc3)],rfl,rfl⟩
 obtain rfl:i=l.length:=by simp at hc1; omega
 refine au [16,4,5,2,3] ?_
 refine TK.rt hret [(s,_),(j,_)] ?_
 exact ⟨by rw [<- hinv,List.drop_length]; rfl,rfl⟩
theorem vT {main:Bool} {T:Goroutine->Hp->Prop} (hT:Shut Tryz.prog main T)  {b:RBk} {s h e:Nat} {Kx:KV}  (hl:b.seams.length<=100) (hm:b.measures.length<=100)  :
  CallK Tryz.prog T gmR 90 [.agg (rollC b s h e),.v (.slice none 0 0)] ((0,checksG)::(s,seamO b)::(h,shrO b)::(e,measO b)::Kx) (fun r K'=>OpenR b s h e (checkM b) r/\K'=(0,checksG)::(s,seamO b)::(h,shrO b)::(e,measO b)::Kx):=by
 refine zf 34 hT Tryz.func90 fun Y hret=>?_
 refine au [4,5,21] ?_
 intro jb hjb
 refine au [22] ?_
 intro jr hjr
 refine au [2,3,4,4,5,8] ?_
 refine TK.cl rfl rfl rfl rfl (wN hT hl hm) ?_ (hs:=(.right (.right (.left (.left (.left (.left (.none _))))))))
 rintro r1 K2 ⟨rfl,rfl⟩
 refine au [2,3,4,5,1,6,3,20] ?_
 refine ⟨fun hc0=>?_,fun hc0=>?_⟩
 ·refine au [4,5,44,1,17,2,3] ?_
  refine TK.rt hret ((0,_)::(s,_)::(h,_)::(e,_)::Kx) ?_
  exact ⟨.inr ⟨by exact (by simpa using hc0),by rfl⟩,rfl⟩
 have q0:checkM b=0:=by simpa using hc0
 refine au [12,4,5,8,44,22] ?_
 intro jx hjx
 refine au [17,3,4,4,5,1,28,1,3,13] ?_
 refine TK.loop ?_
 refine au [4,5,6,3,4,20] ?_
 refine ⟨fun hc1=>?_,fun hc1=>?_⟩
 ·exact absurd hc1 dQ
 refine au [16,4,5,8,17,2,3] ?_
 refine TK.rt hret ((0,_)::(s,_)::(h,_)::(e,_)::Kx) ?_
 exact ⟨.inl ⟨q0,rfl⟩,rfl⟩
theorem wC {main:Bool} {T:Goroutine->Hp->Prop} (hT:Shut Tryz.prog main T)  {b:RBk} {s h e ja:Nat} {Kx:KV} {f1:AV} {p1:Int} (hl:b.seams.length<=100) (hm:b.measures.length<=100) (hf1:checkM b=0->CallFK Tryz.prog T gmR f1 [.agg (rollC b s h e)] ((s,seamO b)::Kx) (fun r K'=>r=intA p1/\K'=(s,seamO b)::Kx)) :
  CallK Tryz.prog T gmR 90 [.agg (rollC b s h e),.row ja 1] ((ja,.row [f1] 116 1)::(0,checksG)::(s,seamO b)::(h,shrO b)::(e,measO b)::Kx) (fun r K'=>OpenR b s h e (bar2 (checkM b) p1) r/\K'=(ja,.row [f1] 116 1)::(0,checksG)::(s,seamO b)::(h,shrO b)::(e,measO b)::Kx):=by
 refine zf 34 hT Tryz.func90 fun Y hret=>?_
 refine au [4,5,21] ?_
 intro jb hjb
 refine au [22] ?_
 intro jr hjr
 refine au [2,3,4,4,5,8] ?_
 refine TK.cl rfl rfl rfl rfl (wN hT hl hm) ?_ (hs:=(.right (.right (.right (.left (.left (.left (.left (.none _)))))))))
 rintro r1 K2 ⟨rfl,rfl⟩
 refine au [2,3,4,5,1,6,3,20] ?_
 refine ⟨fun hc0=>?_,fun hc0=>?_⟩
 ·refine au [4,5,44,1,17,2,3] ?_
  refine TK.rt hret ((ja,_)::(0,_)::(s,_)::(h,_)::(e,_)::Kx) ?_
  exact ⟨.inr ⟨by rw [vr (by simpa using hc0)]; exact (by simpa using hc0),by rw [vr (by simpa using hc0)]; rfl⟩,rfl⟩
 have q0:checkM b=0:=by simpa using hc0
 refine au [12,4,5,8,44,22] ?_
 intro jx hjx
 refine au [17,3,4,4,5,1,28,1,3,13] ?_
 refine TK.loop ?_
 refine au [4,5,6,3,4,20] ?_
 refine ⟨fun hc1=>?_,fun hc1=>?_⟩
 ·
  refine au [12,4,13,4,5,37,9,2,3,4,5,1,8] ?_
  refine TK.callF' rfl rfl rfl rfl rfl (hf1 q0) (.right (.right (.left (.right (.right (.right (.right (.right (.all _))))))))) fun r4 K5 h6=>?_
  obtain ⟨rfl,rfl⟩:=h6
  refine au [] ?_
  refine TK.perm (K':=(jx,_)::(0,_)::(s,_)::(h,_)::(e,_)::(jr,_)::(jb,_)::(ja,_)::Kx) zad ?_
  refine au [2,3,4,5,1,6,3,20] ?_
  refine ⟨fun hc2=>?_,fun hc2=>?_⟩
  ·refine au [4,5,44,1,17,2,3] ?_
   refine TK.rt hret ((ja,_)::(0,_)::(s,_)::(h,_)::(e,_)::Kx) ?_
   exact ⟨.inr ⟨by rw [yM q0]; simpa using hc2,by rw [yM q0]; rfl⟩,rfl⟩
  have q1:p1=0:=by simpa using hc2
  refine au [12,14,5,23,1,3] ?_
  refine TK.inLoop ?_
  refine au [4,5,6,3,4,20] ?_
  refine ⟨fun hc1=>?_,fun hc1=>?_⟩
  ·exact absurd hc1 dQ
  refine au [16,4,5,8,17,2,3] ?_
  refine TK.rt hret ((ja,_)::(0,_)::(s,_)::(h,_)::(e,_)::Kx) ?_
  exact ⟨.inl ⟨by rw [yM q0]; exact q1,rfl⟩,rfl⟩
 exact absurd hc1 dQ
theorem xH {main:Bool} {T:Goroutine->Hp->Prop} (hT:Shut Tryz.prog main T)  {b:RBk} {s h e ja:Nat} {Kx:KV} {f1:AV} {p1:Int} {f2:AV} {p2:Int} (hl:b.seams.length<=100) (hm:b.measures.length<=100) (hf1:checkM b=0->CallFK Tryz.prog T gmR f1 [.agg (rollC b s h e)] ((s,seamO b)::Kx) (fun r K'=>r=intA p1/\K'=(s,seamO b)::Kx)) (hf2:checkM b=0->CallFK Tryz.prog T gmR f2 [.agg (rollC b s h e)] ((s,seamO b)::Kx) (fun r K'=>r=intA p2/\K'=(s,seamO b)::Kx)) :
  CallK Tryz.prog T gmR 90 [.agg (rollC b s h e),.row ja 2] ((ja,.row [f1,f2] 116 1)::(0,checksG)::(s,seamO b)::(h,shrO b)::(e,measO b)::Kx) (fun r K'=>OpenR b s h e (bar2 (checkM b) (bar2 p1 p2)) r/\K'=(ja,.row [f1,f2] 116 1)::(0,checksG)::(s,seamO b)::(h,shrO b)::(e,measO b)::Kx):=by
 refine zf 34 hT Tryz.func90 fun Y hret=>?_
 refine au [4,5,21] ?_
 intro jb hjb
 refine au [22] ?_
 intro jr hjr
 refine au [2,3,4,4,5,8] ?_
 refine TK.cl rfl rfl rfl rfl (wN hT hl hm) ?_ (hs:=(.right (.right (.right (.left (.left (.left (.left (.none _)))))))))
 rintro r1 K2 ⟨rfl,rfl⟩
 refine au [2,3,4,5,1,6,3,20] ?_
 refine ⟨fun hc0=>?_,fun hc0=>?_⟩
 ·refine au [4,5,44,1,17,2,3] ?_
  refine TK.rt hret ((ja,_)::(0,_)::(s,_)::(h,_)::(e,_)::Kx) ?_
  exact ⟨.inr ⟨by rw [vr (by simpa using hc0)]; exact (by simpa using hc0),by rw [vr (by simpa using hc0)]; rfl⟩,rfl⟩
 have q0:checkM b=0:=by simpa using hc0
 refine au [12,4,5,8,44,22] ?_
 intro jx hjx
 refine au [17,3,4,4,5,1,28,1,3,13] ?_
 refine TK.loop ?_
 refine au [4,5,6,3,4,20] ?_
 refine ⟨fun hc1=>?_,fun hc1=>?_⟩
 ·
  refine au [12,4,13,4,5,37,9,2,3,4,5,1,8] ?_
  refine TK.callF' rfl rfl rfl rfl rfl (hf1 q0) (.right (.right (.left (.right (.right (.right (.right (.right (.all _))))))))) fun r4 K5 h6=>?_
  obtain ⟨rfl,rfl⟩:=h6
  refine au [] ?_
  refine TK.perm (K':=(jx,_)::(0,_)::(s,_)::(h,_)::(e,_)::(jr,_)::(jb,_)::(ja,_)::Kx) zad ?_
  refine au [2,3,4,5,1,6,3,20] ?_
  refine ⟨fun hc2=>?_,fun hc2=>?_⟩
  ·refine au [4,5,44,1,17,2,3] ?_
   refine TK.rt hret ((ja,_)::(0,_)::(s,_)::(h,_)::(e,_)::Kx) ?_
   exact ⟨.inr ⟨by rw [yM q0,vr (by simpa using hc2)]; simpa using hc2,by rw [yM q0,vr (by simpa using hc2)]; rfl⟩,rfl⟩
  have q1:p1=0:=by simpa using hc2
  refine au [12,14,5,23,1,3] ?_
  refine TK.inLoop ?_
  refine au [4,5,6,3,4,20] ?_
  refine ⟨fun hc1=>?_,fun hc1=>?_⟩
  ·
   refine au [12,4,13,4,5,37,9,2,3,4,5,1,8] ?_
   refine TK.callF' rfl rfl rfl rfl rfl (hf2 q0) (.right (.right (.left (.right (.right (.right (.right (.right (.all _))))))))) fun r7 K8 h9=>?_
   obtain ⟨rfl,rfl⟩:=h9
   refine au [] ?_
   refine TK.perm (K':=(jx,_)::(0,_)::(s,_)::(h,_)::(e,_)::(jr,_)::(jb,_)::(ja,_)::Kx) zad ?_
   refine au [2,3,4,5,1,6,3,20] ?_
   refine ⟨fun hc2=>?_,fun hc2=>?_⟩
   ·refine au [4,5,44,1,17,2,3] ?_
    refine TK.rt hret ((ja,_)::(0,_)::(s,_)::(h,_)::(e,_)::Kx) ?_
    exact ⟨.inr ⟨by rw [yM q0,yM q1]; simpa using hc2,by rw [yM q0,yM q1]; rfl⟩,rfl⟩
   have q2:p2=0:=by simpa using hc2
   refine au [12,14,5,23,1,3] ?_
   refine TK.inLoop ?_
   refine au [4,5,6,3,4,20] ?_
   refine ⟨fun hc1=>?_,fun hc1=>?_⟩
   ·exact absurd hc1 dQ
   refine au [16,4,5,8,17,2,3] ?_
   refine TK.rt hret ((ja,_)::(0,_)::(s,_)::(h,_)::(e,_)::Kx) ?_
   exact ⟨.inl ⟨by rw [yM q0,yM q1]; exact q2,rfl⟩,rfl⟩
  exact absurd hc1 dQ
 exact absurd hc1 dQ
theorem vZ {main:Bool} {T:Goroutine->Hp->Prop} (hT:Shut Tryz.prog main T) {gm:Nat->Option Nat} {j:Nat} {l:List Int} {et:TypeId} (h5:l.length<=5) (h0:0<l.length) :
  CallK Tryz.prog T gm 101 [.sl j 0 l.length] [(j,.cells (l.map intA) et false)] (fun r K'=>r=.agg (stC l)/\K'=[(j,.cells (l.map intA) et false)]):=by
 refine zf 8 hT Tryz.func101 fun Y hret=>?_
 refine au [4,5,22] ?_
 intro jr hjr
 refine au [3,4,5,22] ?_
 intro ja hja
 refine au [3,4,5] ?_
 refine TK.a rfl (zdY rfl rfl ArEl.h rfl rfl oQ oQ rfl) ?_
 refine au [1] ?_
 refine TK.st rfl rfl rfl (ziA rfl rfl SlEl.h (kV mQ oQ (zfc h0)) h0 h5 mQ (zgn h5 _ h0)) uQ (putS rfl (by simp only [List.set]; rfl)) ?_
 refine au [3,4,5,8,17,3] ?_
 refine TK.rt hret [(j,_)] ?_
 exact ⟨rfl,rfl⟩
theorem zbt {main:Bool} {T:Goroutine->Hp->Prop} (hT:Shut Tryz.prog main T) {gm:Nat->Option Nat} {b:RBk} {s h e:Nat} {l:List Int} (hb:ROk b) (hl:StOk b l) :
  CallK Tryz.prog T gm 133 [.agg (rollC b s h e),.agg (stC l)] [] (fun r K'=>r=intA (freshM b l)/\K'=[]):=by
 refine zf 24 hT Tryz.func133 fun Y hret=>?_
 refine au [] ?_
 have f0:=hl.slot hb 0
 have f1:=hl.slot hb 1
 have f2:=hl.slot hb 2
 have f3:=hl.slot hb 3
 have f4:=hl.slot hb 4
 have hst:=hb.rnd.steps
 have hrd:=hb.rnd.round
 refine au [4,5,21] ?_
 intro jb hjb
 refine au [21] ?_
 intro js hjs
 refine au [2,3,4,5,7,7,9,7,7,9,24,2,3,4,4,5,8,1,3,13] ?_
 refine TK.loop ?_
 refine au [4,5,6,3,4,20] ?_
 refine ⟨fun hc0=>?_,fun hc0=>?_⟩
 ·
  refine au [12,4,13,4,5] ?_
  refine TK.a rfl (kq rfl rfl rfl ArEl.h oQ oQ rfl) ?_
  refine au [2,3,5,1,1,23,2,3,14,5,23,1,3] ?_
  refine TK.inLoop ?_
  refine au [4,5,6,3,4,20] ?_
  refine ⟨fun hc0=>?_,fun hc0=>?_⟩
  ·
   refine au [12,4,13,4,5] ?_
   refine TK.a rfl (kq rfl rfl rfl ArEl.h oQ oQ rfl) ?_
   refine au [2,3,5,1,1,23,2,3,14,5,23,1,3] ?_
   refine TK.inLoop ?_
   refine au [4,5,6,3,4,20] ?_
   refine ⟨fun hc0=>?_,fun hc0=>?_⟩
   ·
    refine au [12,4,13,4,5] ?_
    refine TK.a rfl (kq rfl rfl rfl ArEl.h oQ oQ rfl) ?_
    refine au [2,3,5,1,1,23,2,3,14,5,23,1,3] ?_
    refine TK.inLoop ?_
    refine au [4,5,6,3,4,20] ?_
    refine ⟨fun hc0=>?_,fun hc0=>?_⟩
    ·
     refine au [12,4,13,4,5] ?_
     refine TK.a rfl (kq rfl rfl rfl ArEl.h oQ oQ rfl) ?_
     refine au [2,3,5,1,1,23,2,3,14,5,23,1,3] ?_
     refine TK.inLoop ?_
     refine au [4,5,6,3,4,20] ?_
     refine ⟨fun hc0=>?_,fun hc0=>?_⟩
     ·
      refine au [12,4,13,4,5] ?_
      refine TK.a rfl (kq rfl rfl rfl ArEl.h oQ oQ rfl) ?_
      refine au [2,3,5,1,1,23,2,3,14,5,23,1,3] ?_
      refine TK.inLoop ?_
      refine au [4,5,6,3,4,20] ?_
      refine ⟨fun hc0=>?_,fun hc0=>?_⟩
      ·exact absurd hc0 dQ
      refine au [16,4,5,1,2,3] ?_
      refine TK.rt hret [] ?_
      exact ⟨by show intA _=intA _; unfold freshM; congr 1; omega,rfl⟩
     exact absurd hc0 dQ
    exact absurd hc0 dQ
   exact absurd hc0 dQ
  exact absurd hc0 dQ
 exact absurd hc0 dQ
end Go.Vel
namespace Go.Vel
open Go Go.Conc
section
variable {P:Program} {gm:Nat->Option Nat} {V:KV} {env:List AV} {o:Oper} {r:AV}
theorem zdP {t e:TypeId} {ti:TypeInfo} {z:Value} {x y:Operand} {n:Nat} (ho:o.op=.makeSlice t x y) (hx:opndO gm env x=some (.v (.int .i64 n))) (hy:opndO gm env y=some (.v (.int .i64 n))) (ht:P.underlying t=some (.slice e)) (hi:P.info? e=some ti) (hz:ti.zero=some z) (hzc:z.cells=#[.int .i64 0]) (hs:ti.size=1) (hb:ti.bytes=8) (h0:0<n) (hn:n<=1000) :
  Nk P gm env V o (fun j=>.sl j 0 n) (.cells (List.replicate n (.v (.int .i64 0))) e true):=fun A _ φ F H a hg hH hE=>by
 unfold execOp; rw [ho]; dsimp only
 have hx':=zi hg hE x
 rw [zh hx] at hx'
 have hy':=zi hg hE y
 rw [zh hy] at hy'
 rw [inv_v hx',inv_v hy']
 refine wpS_v ?_
 unfold Instr.makeSlice
 refine za _ _ _ (zk ht ?_)
 dsimp only
 refine za _ _ _ ?_
 change wpS P (pure (n:Int)) H _
 rw [yq]
 refine za _ _ _ ?_
 change wpS P (pure (n:Int)) H _
 rw [yq]
 refine za _ _ _ (yR hi ?_)
 have hw:IntKind.i64.wrap (n:Int)=n:=yu oQ
 rw [hw,hb]
 have hf:((decide ((n:Int)<0)||decide (((8:Nat):Int)*(n:Int)>2 ^ 48))||decide ((n:Int)<0)||decide ((n:Int)>(n:Int)))=false:=by
  have h1:decide ((n:Int)<0)=false:=decide_eq_false oQ
  have h2:decide (((8:Nat):Int)*(n:Int)>2 ^ 48)=false:=decide_eq_false oQ
  have h3:decide ((n:Int)>(n:Int))=false:=decide_eq_false oQ
  rw [h1,h2,h3]; rfl
 rw [if_neg (by rw [hf]; decide)]
 have hroom:∀ (b:Nat) (Q:Unit->Hp->Prop),Q () H->wpS P (askRoom b) H Q:=fun b Q hq=>by
  unfold askRoom
  split
  ·exact ⟨.inl rfl,hq⟩
  ·exact hq
 refine za _ _ _ (hroom _ _ ?_)
 refine za _ _ _ (zH hi ?_)
 rw [hs,Int.toNat_natCast,Nat.mul_one,if_neg oQ]
 refine za _ _ _ (yr hi hz ?_)
 unfold newRow
 refine za _ _ _ ?_
 rw [yq]
 refine za _ _ _ ?_
 refine za _ _ _ fun b hb=>?_
 have hz1:∀ i:Nat,z.cells[i % z.cells.size]! =.int .i64 0:=fun i=>by
  rw [hzc]
  show (#[Value.int IntKind.i64 0])[i % 1]! =_
  rw [Nat.mod_one]; rfl
 show OpPost φ A F (.sl A.length 0 n) (A++[.cells (List.replicate n (.v (.int .i64 0))) e true]) (.value (.slice (some ⟨b,0,none⟩) n n)) (H.put b (true,.cells _ e (0,0)))
 refine ⟨_,upd3 φ A.length ⟨b,0,0⟩,.inl rfl,zI _ _ _,by simp,hH.push hb rfl ?_,?_⟩
 ·refine fun _=>⟨true,_,_,Hp.put_same _ _ _,fun _=>⟨⟨rfl,rfl⟩,by simp [upd3],by simp⟩,fun j u hu=>?_⟩
  obtain ⟨hj,rfl⟩:=List.getElem?_eq_some_iff.1 hu
  rw [List.getElem_replicate]
  rw [List.length_replicate] at hj
  refine ⟨.int .i64 0,?_,.v _⟩
  rw [Nat.zero_add,Array.getElem?_map,Array.getElem?_range,if_pos hj,Option.map_some,hz1]
 ·refine .sl sQ (Nat.le_refl _) fun _=>?_
  simp [upd3]
theorem zdg {t e:TypeId} {x y:Operand} {n:Nat} (ho:o.op=.makeSlice t x y) (hx:opndO gm env x=some (.v (.int .i64 n))) (hy:opndO gm env y=some (.v (.int .i64 n))) (ha:apOf P t=some (e,1,8)) (hz:tyZero P e=some [.int .i64 0]) (h0:0<n) (hn:n<=1000) :
  Nk P gm env V o (fun j=>.sl j 0 n) (.cells ((List.replicate n (0:Int)).map fun a=>.v (.int .i64 a)) e true):=by
 rw [List.map_replicate]
 unfold apOf at ha
 split at ha
 ·rename_i e' h1
  split at ha
  ·rename_i ti h2
   split at ha
   ·rename_i z h3
    split at ha
    ·rename_i h4
     simp only [Option.some.injEq,Prod.mk.injEq] at ha
     obtain ⟨rfl,h5,h6⟩:=ha
     obtain ⟨i,z',g1,g2,g3⟩:=kA hz
     rw [h2] at g1
     cases g1
     rw [h3] at g2
     cases g2
     exact zdP ho hx hy h1 h2 h3 (by rw [<- Array.toList_inj,g3]) h5 h6 h0 hn
    ·cases ha
   ·cases ha
  ·cases ha
 ·cases ha
variable {T:Goroutine->Hp->Prop} {Y:KX P gm T} {ds:List Nat} {k:List Item} {K K':KV} {ops:Array Oper} {L:List Nat} {pend:List Pd}
theorem TD.perm (hp:K.Perm K') (h:TD Y ds ops k pend L env K'):TD Y ds ops k pend L env K:=fun h1 h2 h3 A hA=>h h1 h2 (fun p hp' x hx=>hp.subset (h3 p hp' x hx)) A
 ⟨hA.view.sub fun x hx=>hp.symm.subset hx,(zr hp).nodup_iff.1 hA.nd,fun i hi=>hA.own i ((zr hp).symm.subset hi),hA.kept,hA.len⟩
end
theorem zck (xs:List AV) (k:Nat) (v:AV) (h:k<xs.length):setL xs k [v]=xs.set k v:=rfl
theorem vD {xs:List Int} {k:Nat} {n v:Int} {e:TypeId} (h:k<xs.length) (hn:n=(k:Int)):putO (.cells (xs.map intA) e true) (0+n.toNat*1) [intA v]=some (.cells ((xs.set k v).map intA) e true):=by
 subst hn
 unfold putO
 dsimp only
 rw [if_pos ⟨by simp; omega,by simp,rfl⟩,zck _ _ _ (by simp; omega),List.map_set]
 simp
def dataM (S T:List Int) (x:Int) (j:Nat):List Int:=S.take j++x::(S.drop j++T)
theorem uX {S T:List Int} {x:Int} {j:Nat} (h:j<=S.length):(dataM S T x j)[j]? =some x:=by
 unfold dataM
 rw [List.getElem?_append_right (by simp; omega)]
 simp [Nat.min_eq_left h]
theorem w9 {S T:List Int} {x:Int} {j:Nat} (h:j+1<=S.length):(dataM S T x (j+1))[j]? =S[j]? :=by
 unfold dataM
 rw [List.getElem?_append_left (by simp; omega),List.getElem?_take,if_pos oQ]
theorem zbq {S T:List Int} {x:Int} {j:Nat}:(dataM S T x j).length=S.length+T.length+1:=by
 unfold dataM
 simp
 omega
theorem zaB {S T:List Int} {x y:Int} {j:Nat} (h:S[j]? =some y):((dataM S T x (j+1)).set (j+1) y).set j x=dataM S T x j:=by
 obtain ⟨h1,rfl⟩:=List.getElem?_eq_some_iff.1 h
 unfold dataM
 have e1:S.take (j+1)=S.take j++[S[j]]:=by rw [List.take_add_one,h]; rfl
 have e2:S.drop j=S[j]::S.drop (j+1):=List.drop_eq_getElem_cons h1
 have l1:(S.take j).length=j:=by simp; omega
 rw [e1,e2]
 have:(S.take j++[S[j]]++x::(S.drop (j+1)++T)).set (j+1) S[j]=S.take j++S[j]::S[j]::(S.drop (j+1)++T):=by
  rw [List.append_assoc,List.set_append_right _ _ oQ,l1]
  simp
 rw [this,List.set_append_right _ _ oQ,l1,Nat.sub_self]
 rfl
theorem zbr (S T:List Int) (x:Int):dataM S T x S.length=S++x::T:=by
 unfold dataM
 simp
theorem vb {lt:Int->Int->Bool} {x:Int} {S T:List Int} {j:Nat} (h:j<=S.length) (hj:∀ i y,j=i+1->S[i]? =some y->lt x y=false):dataM S T x j=insJ lt x S j++T:=by
 unfold dataM
 cases j with
 | zero=>simp [insJ]
 | succ i =>
  have hi:i<S.length:=by omega
  have e:S[i]? =some S[i]:=List.getElem?_eq_getElem hi
  unfold insJ
  rw [e]
  dsimp only
  rw [if_neg (by rw [hj i _ rfl e]; decide)]
  simp
theorem zc9 {lt:Int->Int->Bool} {x y:Int} {S:List Int} {j:Nat} (h:S[j]? =some y) (hl:lt x y=true):insJ lt x S (j+1)=insJ lt x S j:=by
 conv=>lhs; unfold insJ
 rw [h]
 dsimp only
 rw [if_pos hl]
theorem yY {lt:Int->Int->Bool} {l:List Int} {i:Nat} {x:Int} (h:l[i]? =some x):sortN lt l (i+1)=insJ lt x (sortN lt l i) (sortN lt l i).length:=by
 conv=>lhs; unfold sortN
 rw [h]; rfl
theorem zbI {lt:Int->Int->Bool} {x:Int} {S:List Int}:∀ j,j<=S.length->∀ z,z∈insJ lt x S j↔z=x\/z∈S
 | 0,_,z=>by simp [insJ]
 | j+1,h,z=>by
  have e:S[j]? =some S[j]:=List.getElem?_eq_getElem oQ
  unfold insJ
  rw [e]
  dsimp only
  split
  ·exact zbI j oQ z
  ·rw [List.mem_append,List.mem_cons]
   have:z∈S↔z∈S.take (j+1)\/z∈S.drop (j+1):=by rw [<- List.mem_append,List.take_append_drop]
   rw [this]
   grind
theorem vg {lt:Int->Int->Bool} {l:List Int}:∀ i,i<=l.length->∀ z∈sortN lt l i,z∈l
 | 0,_,z,hz=>by simp [sortN] at hz
 | i+1,h,z,hz=>by
  have e:l[i]? =some l[i]:=List.getElem?_eq_getElem oQ
  rw [yY e,zbI _ (Nat.le_refl _)] at hz
  rcases hz with rfl | hz
  ·exact List.getElem_mem _
  ·exact vg i oQ z hz
theorem zgZ {n i:Nat} (h:i<n):(idxM i++List.replicate (n - i) 0).set i (i:Int)=idxM (i+1)++List.replicate (n - (i+1)) 0:=by
 have l1:(idxM i).length=i:=by simp [idxM]
 rw [List.set_append_right _ _ oQ,l1,Nat.sub_self,show n - i=(n - (i+1))+1 by omega,List.replicate_succ,List.set_cons_zero]
 unfold idxM
 rw [List.range_succ,List.map_append,List.append_assoc]
 rfl
theorem vA {n:Nat} {z:Int} (h:z∈idxM n):0<=z/\z<n:=by
 unfold idxM at h
 obtain ⟨k,hk,rfl⟩:=List.mem_map.1 h
 rw [List.mem_range] at hk
 omega
theorem yP {b:RBk} {l:List Int} {z:Int} (h:z∈ordM b l):0<=z/\z<l.length:=vA (vg _ (Nat.le_refl _) z h)
theorem zhm (b:RBk) (l:List Int):(ordM b l).length=l.length:=by
 unfold ordM sortR
 rw [wv _ _ (Nat.le_refl _)]
 simp [idxM]
theorem xh {b:RBk} (hb:ROk b) {l:List Int} (hl:CutsOk b l):∀ i,i<=l.length->0<=spoilM b l i/\spoilM b l i<=9*i
 | 0,_=>by simp [spoilM]
 | i+1,h=>by
  have h1:=xh hb hl i oQ
  have h2:=hb.sms.fld _ (hl.lt (k:=i) oQ).2.2
  unfold spoilM cutS
  omega
end Go.Vel
namespace Go.Vel
open Go Go.Conc Go.Proofs
instance:ApOf Tryz.prog 30 96 2 16:=⟨by kernel_rfl⟩
instance:BlOf Tryz.prog 96 [(0,1),(1,1)]:=⟨by kernel_rfl⟩
instance:Cal Tryz.prog 92:=⟨by kernel_rfl⟩
instance:EqG Tryz.prog 96:=⟨by kernel_rfl⟩
instance:FlatF Tryz.prog 96 [(3,0),(3,1)]:=⟨by kernel_rfl⟩
instance:FldOf Tryz.prog 94 4 4 false 1:=⟨by kernel_rfl⟩
instance:FldOf Tryz.prog 96 0 0 false 1:=⟨by kernel_rfl⟩
instance:FldOf Tryz.prog 96 1 1 false 1:=⟨by kernel_rfl⟩
instance {a0 a1 a2 a3 a4 a5 a6 a7 a8 a9 a10 a11 a12 a13 a14 a15 a16 a17 a18 a19 a20 a21 a22 a23 a24 a25 a26 a27 a28 a29:Oper}:RgL #[a0,a1,a2,a3,a4,a5,a6,a7,a8,a9,a10,a11,a12,a13,a14,a15,a16,a17,a18,a19,a20,a21,a22,a23,a24,a25,a26,a27,a28,a29] [0,1,2,3,4,5,6,7,8,9,10,11,12,13,14,15,16,17,18,19,20,21,22,23,24,25,26,27,28,29]:=⟨rfl⟩
instance:SlEl Tryz.prog 30 96 2:=⟨by kernel_rfl⟩
instance:TySz Tryz.prog 96 true 2:=⟨by kernel_rfl⟩
instance:TyZ Tryz.prog 96 [.int .i64 0,.int .i64 0]:=⟨by kernel_rfl⟩
instance:TyZA Tryz.prog 96 [.v (.int .i64 0),.v (.int .i64 0)]:=⟨by kernel_rfl⟩
instance:Und Tryz.prog 30 (.slice 96):=⟨by kernel_rfl⟩
theorem za1 {main:Bool} {T:Goroutine->Hp->Prop} (hT:Shut Tryz.prog main T) {gm:Nat->Option Nat} {b:RBk} {s h e j:Nat} {l:List Int} {et:TypeId} (hb:ROk b) (hl:CutsOk b l) :
  CallK Tryz.prog T gm 92 [.agg (rollC b s h e),.sl j 0 l.length] [(s,seamO b),(j,.cells (l.map intA) et false)] (fun r K'=>∃ jr,r=.row jr l.length/\K'=[(jr,.row ((stripsM b l).flatMap pairC) 96 2),(s,seamO b),(j,.cells (l.map intA) et false)]):=by
 refine zf 61 hT Tryz.func92 fun Y hret=>?_
 refine au [] ?_
 have hp0:=hl.pos
 have hs5:=hb.sms.len
 have hst:=hb.rnd.steps
 have hl5:=hl.len
 have q0:=hl.lt hl.pos
 have f0:=hb.sms.fld _ q0.2.2
 refine au [4,5,21] ?_
 intro jb hjb
 refine au [2,3,4,5,2] ?_
 refine TK.virt 5 96 2 rfl fun jr0 hjr0=>?_
 refine au [3,4,4,5,1,28,1,3,13] ?_
 refine TK.maskL [1,2,5,9,10,11] ?_
 refine TK.loopN (fun n env K=>∃ (i jr:Nat),n=l.length - i/\i<=l.length/\env=[.any,.sl j 0 l.length,.ptr jb 0,.any,.any,.row jr i,.any,.any,.any,.sl j 0 l.length,intA l.length,intA i,.any,.any,.any,.any,.any,.any,.any,.any,.any,.any,.any,.any,.any,.any,.any,.any,.any,.any,.any,.any,.any,.any,.any,.any,.any,.any,.any,.any,.any,.any,.any,.any,.any,.any,.any,.any,.any,.any,.any,.any,.any,.any,.any,.any,.any,.any,.any,.any,.any]/\K=[(jr,.row (((List.range i).map (stripM b l)).flatMap pairC) 96 2),(jb,.cells (rollC b s h e) 113 true),(s,seamO b),(j,.cells (l.map intA) et false)]) l.length ⟨0,jr0,rfl,Nat.zero_le _,rfl,rfl⟩ fun n env K hI hnext=>?_
 obtain ⟨i,jr,rfl,hi,rfl,rfl⟩:=hI
 have hpl:=zga b l i
 refine au [4,5,6,3,4,20] ?_
 refine ⟨fun hc0=>?_,fun hc0=>?_⟩
 ·have hil:i<l.length:=by simp at hc0; omega
  have qi:=hl.lt hil
  have fi:=hb.sms.fld _ qi.2.2
  refine au [12,4,13,4,5,1,36] ?_
  refine TK.a rfl (ze rfl rfl TySz.h mQ (zF (i:=i) (zy hil) rfl)) ?_
  refine au [2,2,3,4] ?_
  refine TK.draw [0,1,2,3,4,5,6,7,8,9,10,11,12,13] [0,1,2,3,4,5,6,7,8,9,10,11,12,13] (by kernel_rfl) (by kernel_rfl) ?_
  refine TD.z [2] rfl (zc rfl rfl FldOf.h dQ) ?_
  refine TD.z [16] rfl (zc rfl rfl FldOf.h dQ) ?_
  refine TD.y [17] rfl (hq:=ze rfl rfl TySz.h (List.Mem.head _) rfl) (h:=?_)
  refine TD.z [1] rfl (zd rfl rfl) ?_
  refine TD.z [19] rfl (zm rfl rfl rfl SlEl.h oQ oQ) ?_
  refine TD.y [20] rfl (hq:=ze rfl rfl TySz.h (List.Mem.head _) (zF (i:=0) (zy hl.pos) rfl)) (h:=?_)
  refine TD.z [18,21] rfl (zm rfl rfl rfl SlEl.h oQ oQ) ?_
  refine TD.z [22] rfl (zc rfl rfl FldOf.h dQ) ?_
  refine TD.y [23] rfl (hq:=ze rfl rfl TySz.h (List.Mem.head _) (zG (c:=0) (sm_at b (i:=(cutN l 0).toNat) q0.2.2 oQ) dQ rfl)) (h:=?_)
  refine TD.z [2] rfl (zc rfl rfl FldOf.h dQ) ?_
  refine TD.z [25] rfl (zc rfl rfl FldOf.h dQ) ?_
  refine TD.y [26] rfl (hq:=ze rfl rfl TySz.h (List.Mem.head _) rfl) (h:=?_)
  refine TD.z [24,27] rfl (q_add rfl rfl rfl oQ) ?_
  refine TD.as (pend':=[]) [28] rfl rfl (zj rfl rfl) ?_
  refine TD.fin ?_
  refine au [4,4,5,1,23,1,28,6,3,20] ?_
  refine ⟨fun hc1=>?_,fun hc1=>?_⟩
  ·have hlt:i+1<l.length:=by simp at hc1; omega
   have qn:=hl.lt hlt
   have fn:=hb.sms.fld _ qn.2.2
   refine TK.draw [0,1,2,3,4,5,6,7,8,9,10,11] [0,1,2,3,4,5,6,7,8,9,10,11] (by kernel_rfl) (by kernel_rfl) ?_
   refine TD.z [2] rfl (zc rfl rfl FldOf.h dQ) ?_
   refine TD.z [34] rfl (zc rfl rfl FldOf.h dQ) ?_
   refine TD.y [35] rfl (hq:=ze rfl rfl TySz.h (List.Mem.head _) rfl) (h:=?_)
   refine TD.z [1] rfl (zd rfl rfl) ?_
   refine TD.z [6] rfl (zd rfl rfl) ?_
   refine TD.z [38] rfl (q_add rfl rfl rfl oQ) ?_
   refine TD.z [37,39] rfl (zm rfl rfl rfl SlEl.h oQ oQ) ?_
   refine TD.y [40] rfl (hq:=ze rfl rfl TySz.h (List.Mem.head _) (zF (i:=i+1) (zy hlt) rfl)) (h:=?_)
   refine TD.z [36,41] rfl (zm rfl rfl rfl SlEl.h oQ oQ) ?_
   refine TD.z [42] rfl (zc rfl rfl FldOf.h dQ) ?_
   refine TD.y [43] rfl (hq:=ze rfl rfl TySz.h (List.Mem.head _) (zG (c:=0) (sm_at b (i:=(cutN l (i+1)).toNat) qn.2.2 oQ) dQ rfl)) (h:=?_)
   refine TD.as (pend':=[]) [44] rfl rfl (zj rfl rfl) ?_
   refine TD.fin ?_
   refine au [5,1,1,1,7,7,9,1,36,7] ?_
   refine TK.a rfl (ze rfl rfl TySz.h mQ (zG (c:=0) (sm_at b (i:=(cutN l i).toNat) qi.2.2 oQ) dQ rfl)) ?_
   refine au [24,39] ?_
   refine TK.newR rfl rfl rfl (zg (l:=[_,_]) rfl SlEl.h TyZ.h dQ dQ rfl) (fun _=>putS rfl (by simp only [List.set]; rfl)) fun j1 hj1=>?_
   refine TK.appR rfl rfl rfl (a_app rfl ApOf.h rfl mQ oQ rfl (zL (ln:=[_,_]) mQ dQ sQ rfl) oQ rfl (by unfold maxLen; omega) oQ) (fun _=>uQ) (fun _=>putS rfl (by simp only [List.set]; rfl)) fun jr2=>?_
   refine au [2,3,14,5,23,1,3] ?_
   refine TK.maskL [1,2,5,9,10,11] ?_
   refine TK.kp [(jr2,_),(jb,_),(s,_),(j,_)] ?_
   exact hnext _ _ _ oQ ⟨i+1,jr2,rfl,by omega,rfl,by rw [zaU]; simp only [stripM,endM,if_pos hlt]; rfl⟩
  have hlt:¬ i+1<l.length:=by simp at hc1; omega
  refine au [12,5,1,1,1,7,7,9,1,36,7] ?_
  refine TK.a rfl (ze rfl rfl TySz.h mQ (zG (c:=0) (sm_at b (i:=(cutN l i).toNat) qi.2.2 oQ) dQ rfl)) ?_
  refine au [24,39] ?_
  refine TK.newR rfl rfl rfl (zg (l:=[_,_]) rfl SlEl.h TyZ.h dQ dQ rfl) (fun _=>putS rfl (by simp only [List.set]; rfl)) fun j2 hj2=>?_
  refine TK.appR rfl rfl rfl (a_app rfl ApOf.h rfl mQ oQ rfl (zL (ln:=[_,_]) mQ dQ sQ rfl) oQ rfl (by unfold maxLen; omega) oQ) (fun _=>uQ) (fun _=>putS rfl (by simp only [List.set]; rfl)) fun jr2=>?_
  refine au [2,3,14,5,23,1,3] ?_
  refine TK.maskL [1,2,5,9,10,11] ?_
  refine TK.kp [(jr2,_),(jb,_),(s,_),(j,_)] ?_
  exact hnext _ _ _ oQ ⟨i+1,jr2,rfl,by omega,rfl,by rw [zaU]; simp only [stripM,endM,if_neg hlt]; rfl⟩
 obtain rfl:i=l.length:=by simp at hc0; omega
 refine au [16,4,5,1,2,3] ?_
 refine TK.rt hret [(jr,_),(s,_),(j,_)] ?_
 exact ⟨jr,rfl,rfl⟩
theorem zc3 {main:Bool} {T:Goroutine->Hp->Prop} (hT:Shut Tryz.prog main T) {gm:Nat->Option Nat} {b:RBk} {s h e j:Nat} {l:List Int} {et:TypeId} (hb:ROk b) (hl:CutsOk b l) :
  CallK Tryz.prog T gm 95 [.agg (rollC b s h e),.sl j 0 l.length] [(s,seamO b),(j,.cells (l.map intA) et false)] (fun r K'=>r=boolA (fitsM b l)/\K'=[(s,seamO b),(j,.cells (l.map intA) et false)]):=by
 refine zf 60 hT Tryz.func95 fun Y hret=>?_
 refine au [] ?_
 have hp0:=hl.pos
 have hs5:=hb.sms.len
 have hst:=hb.rnd.steps
 have hl5:=hl.len
 have q0:=hl.lt hl.pos
 have f0:=hb.sms.fld _ q0.2.2
 refine au [4,5,21] ?_
 intro jb hjb
 refine au [2,3,4,4,5,1,28,7,7,9,6,3,20] ?_
 refine ⟨fun hc0=>?_,fun hc0=>?_⟩
 ·refine au [4,5,2,3] ?_
  refine TK.rt hret [(s,_),(j,_)] ?_
  exact ⟨by rw [show fitsM b l=false by unfold fitsM; rw [show decide ((l.length:Int)<=b.rolls)=false by simp at hc0; simp; omega]; rfl],rfl⟩
 refine au [12,4] ?_
 refine TK.draw [0,1,2,3,4,5,6,7,8] [0,1,2,3,4,5,6,7,8] (by kernel_rfl) (by kernel_rfl) ?_
 refine TD.z [1] rfl (zd rfl rfl) ?_
 refine TD.z [14] rfl (zm rfl rfl rfl SlEl.h oQ oQ) ?_
 refine TD.y [15] rfl (hq:=ze rfl rfl TySz.h (List.Mem.head _) (zF (i:=0) (zy hl.pos) rfl)) (h:=?_)
 refine TD.z [2] rfl (zc rfl rfl FldOf.h dQ) ?_
 refine TD.z [17] rfl (zc rfl rfl FldOf.h dQ) ?_
 refine TD.y [18] rfl (hq:=ze rfl rfl TySz.h (List.Mem.head _) rfl) (h:=?_)
 refine TD.z [16,19] rfl (z5 (l:=[_,_]) rfl TyZ.h BlOf.h rfl) ?_
 refine TD.cnewP (pend':=[⟨6,[16,19],[]⟩,⟨5,[18],[(_,_)]⟩,⟨4,[17],[]⟩,⟨3,[2],[]⟩,⟨2,[15],[(_,_)]⟩,⟨1,[14],[]⟩,⟨0,[1],[]⟩]) [] rfl rfl rfl rfl rfl (zZ rfl TyZA.h) (fun _=>putS rfl (by simp only [List.set]; rfl)) sQ fun j5 hj5=>?_
 refine TD.s (pend':=[]) [5,20] rfl rfl (zt rfl rfl TySz.h rfl rfl mQ rfl) ?_
 refine TD.fin ?_
 refine au [4,4,5,8,1] ?_
 refine TK.cl rfl rfl rfl rfl (za1 hT hb hl) ?_
 rintro r1 K2 ⟨jr,rfl,rfl⟩
 refine au [28,1,3,13] ?_
 refine TK.maskL [2,4,5,23,24,25] ?_
 refine TK.loopN (fun n env K=>∃ (i:Nat),n=l.length - i/\i<=l.length/\((List.range i).all fun k => !(cutS b l k).whole&&decide ((stripM b l k).2<=b.roll))=true/\env=[.any,.any,.ptr jb 0,.any,boolA false,.ptr j5 0,.any,.any,.any,.any,.any,.any,.any,.any,.any,.any,.any,.any,.any,.any,.any,.any,.any,.row jr l.length,intA l.length,intA i,.any,.any,.any,.any,.any,.any,.any,.any,.any,.any,.any,.any,.any,.any,.any,.any,.any,.any,.any,.any,.any,.any,.any,.any,.any,.any,.any,.any,.any,.any,.any,.any,.any,.any]/\K=[(jr,.row ((stripsM b l).flatMap pairC) 96 2),(s,seamO b),(j,.cells (l.map intA) et false),(j5,.cells [intA (cutN l 0),intA b.steps] 96 true),(jb,.cells (rollC b s h e) 113 true)]) l.length ⟨0,rfl,Nat.zero_le _,rfl,rfl,rfl⟩ fun n env K hI hnext=>?_
 obtain ⟨i,rfl,hi,hall,rfl,rfl⟩:=hI
 refine au [4,5,6,3,4,20] ?_
 refine ⟨fun hc1=>?_,fun hc1=>?_⟩
 ·have hil:i<l.length:=by simp at hc1; omega
  have qi:=hl.lt hil
  have hsi:(stripM b l i).1=cutN l i:=rfl
  have fi:=hb.sms.fld _ qi.2.2
  refine au [12,4,13,4,5,37] ?_
  refine TK.a rfl (zx rfl rfl TySz.h mQ (zal (c:=2) (f:=pairC) (fun _=>rfl) (zfb hil) rfl dQ)) ?_
  refine au [22] ?_
  intro j7 hj7
  refine au [17,3,4,5,7,7,9,7,9,36,7] ?_
  refine TK.a rfl (ze rfl rfl TySz.h mQ (zG (c:=4) (sm_at b (i:=(cutN l i).toNat) qi.2.2 oQ) dQ rfl)) ?_
  refine au [1] ?_
  refine TK.sp 37 (fun g7_9=>?_) (fun g7_9=>?_)
  ·refine au [11,11,11,11,11,11,11,11,11,11,11,11,26,1,11,11,11,11,11,11,26,3,18,4,5,2,3] ?_
   refine TK.rt hret [(s,_),(j,_)] ?_
   exact ⟨by rw [xv hil (.inl g7_9)],rfl⟩
  have g7_9:(cutS b l i).whole=false:=g7_9
  refine au [8,8] ?_
  refine TK.a rfl (zb8 rfl rfl rfl rfl rfl FlatF.h EqG.h) ?_
  refine au [1] ?_
  refine TK.sp 41 (fun g7_13=>?_) (fun g7_13=>?_)
  ·refine au [7,7,9,7,7,9,6,26,25,1] ?_
   refine TK.sp 51 (fun g7_23=>?_) (fun g7_23=>?_)
   ·refine au [11,11,11,11,11,11,26,3,18,4,5,2,3] ?_
    refine TK.rt hret [(s,_),(j,_)] ?_
    exact ⟨by rw [xv hil (.inr (by simp [stripM] at g7_13 g7_23; show b.roll<_; simp only [stripM]; omega))],rfl⟩
   refine au [7,9,7,7,9,6,25,3,20] ?_
   refine ⟨fun hc2=>?_,fun hc2=>?_⟩
   ·refine au [4,5,2,3] ?_
    refine TK.rt hret [(s,_),(j,_)] ?_
    exact ⟨by rw [xv hil (.inr (of_decide_eq_true hc2))],rfl⟩
   refine au [12,14,5,23,1,3] ?_
   refine TK.maskL [2,4,5,23,24,25] ?_
   refine TK.kp [(jr,_),(s,_),(j,_),(j5,_),(jb,_)] ?_
   exact hnext _ _ _ oQ ⟨i+1,rfl,by omega,by rw [List.range_succ,List.all_append,hall]; simp [g7_9,show (stripM b l i).2<=b.roll from Int.not_lt.1 (of_decide_eq_false hc2)],rfl,rfl⟩
  refine au [11,11,11,11,11,11,11,25,25,1,7,9,7,7,9,6,25,3,20] ?_
  refine ⟨fun hc2=>?_,fun hc2=>?_⟩
  ·refine au [4,5,2,3] ?_
   refine TK.rt hret [(s,_),(j,_)] ?_
   exact ⟨by rw [xv hil (.inr (of_decide_eq_true hc2))],rfl⟩
  refine au [12,14,5,23,1,3] ?_
  refine TK.maskL [2,4,5,23,24,25] ?_
  refine TK.kp [(jr,_),(s,_),(j,_),(j5,_),(jb,_)] ?_
  exact hnext _ _ _ oQ ⟨i+1,rfl,by omega,by rw [List.range_succ,List.all_append,hall]; simp [g7_9,show (stripM b l i).2<=b.roll from Int.not_lt.1 (of_decide_eq_false hc2)],rfl,rfl⟩
 obtain rfl:i=l.length:=by simp at hc1; omega
 refine au [16,4,5,2,3] ?_
 refine TK.rt hret [(s,_),(j,_)] ?_
 exact ⟨by rw [show fitsM b l=true by unfold fitsM; rw [hall,show decide ((l.length:Int)<=b.rolls)=true by simp at hc0; simp; omega]; rfl],rfl⟩
theorem za6 {n:Nat} (h:n<256):IntKind.u64.wrap (n:Int)=n:=by
 have:∀ n:Nat,n<256->IntKind.u64.wrap (n:Int)=n:=by decide +kernel
 exact this n h
theorem zgv {n:Nat} (h:n<256):IntKind.u8.wrap (n:Int)=n:=by
 have:∀ n:Nat,n<256->IntKind.u8.wrap (n:Int)=n:=by decide +kernel
 exact this n h
theorem zhI {s:ByteArray} {n:Nat} (hn:n<256) (h:s.size=256):s[n]? =some (s[n]'oQ):=getElem?_pos s n oQ
theorem zfj (c:UInt8):IntKind.i64.wrap (c.toNat:Int)=c.toNat:=yu (by have:=c.toNat_lt; omega)
theorem zfr (c:UInt8) : -9223372036854775808<=0+(c.toNat:Int)/\0+(c.toNat:Int)<9223372036854775808:=by have:=c.toNat_lt; omega
theorem zcp {lt:Int->Int->Bool} {xs:List Int} (h:1<=xs.length):sortN lt xs 1++xs.drop 1=xs:=by
 cases xs with
 | nil=>simp at h
 | cons x r=>rfl
instance:Cal Tryz.prog 161:=⟨by kernel_rfl⟩
instance:Cal Tryz.prog 163:=⟨by kernel_rfl⟩
instance:Cal Tryz.prog 198:=⟨by kernel_rfl⟩
instance:Cal Tryz.prog 199:=⟨by kernel_rfl⟩
instance:TySz Tryz.prog 117 false 1:=⟨by kernel_rfl⟩
instance:Und Tryz.prog 211 (.int .u64):=⟨by kernel_rfl⟩
instance:Und Tryz.prog 5 (.int .u8):=⟨by kernel_rfl⟩
instance:Und Tryz.prog 9 .string:=⟨by kernel_rfl⟩
theorem zfP {main:Bool} {T:Goroutine->Hp->Prop} (hT:Shut Tryz.prog main T) {gm:Nat->Option Nat} {n:Nat} (hn:n<256) :
  CallK Tryz.prog T gm 198 [.v (.int .u64 n)] [] (fun r K'=>∃ m:Int,r=intA m/\K'=[]):=by
 refine zf 25 hT Tryz.func198 fun Y hret=>?_
 refine au [4,5,2,3,4,4,5,1,6,3,20] ?_
 refine ⟨fun hc0=>?_,fun hc0=>?_⟩
 ·simp at hc0; omega
 refine au [12,4,4,5,1,6,3,20] ?_
 refine ⟨fun hc1=>?_,fun hc1=>?_⟩
 ·simp at hc1; omega
 refine au [12,4,4,5,1,6,3,20] ?_
 refine ⟨fun hc2=>?_,fun hc2=>?_⟩
 ·simp at hc2; omega
 refine au [12,4,5,1,1] ?_
 refine TK.a rfl (zR rfl rfl Und.h Und.h (zgv hn)) ?_
 refine TK.a rfl (zdX rfl rfl rfl Und.h oQ (zhI hn rfl)) ?_
 refine TK.a rfl (zR rfl rfl Und.h Und.h (zfj _)) ?_
 refine TK.a rfl (q_add rfl rfl rfl (zfr _)) ?_
 refine au [2,3] ?_
 refine TK.rta hret ?_
 exact ⟨_,rfl,rfl⟩
theorem xn {main:Bool} {T:Goroutine->Hp->Prop} (hT:Shut Tryz.prog main T) {gm:Nat->Option Nat} {n:Nat} (hn:n<256) :
  CallK Tryz.prog T gm 161 [.v (.int .u64 n)] [] (fun r K'=>∃ m:Int,r=intA m/\K'=[]):=by
 refine zf 8 hT Tryz.func161 fun Y hret=>?_
 refine au [4,5,2,3,4,19,12,4,5,1] ?_
 refine TK.cl rfl rfl rfl rfl (zfP hT hn) ?_
 rintro r1 K2 ⟨m,rfl,rfl⟩
 refine au [2,3] ?_
 refine TK.rta hret ?_
 exact ⟨_,rfl,rfl⟩
theorem zdM {main:Bool} {T:Goroutine->Hp->Prop} (hT:Shut Tryz.prog main T) {gm:Nat->Option Nat} {j n:Nat} {xs:List Int} {et:TypeId} {f:AV} {Kc:KV} {lt:Int->Int->Bool} (hn:xs.length=n) (h12:1<=n/\n<=12) (hg:∀ x∈xs,∀ y∈xs,CallFK Tryz.prog T gm f [intA x,intA y] Kc (fun r K'=>(∃ c:Int,r=intA c/\decide (c<0)=lt x y)/\K'=Kc)) :
  CallK Tryz.prog T gm 199 [.sl j 0 n,intA 0,intA n,f] ((j,.cells (xs.map intA) et true)::Kc) (fun r K'=>K'=(j,.cells ((sortR lt xs).map intA) et true)::Kc):=by
 refine zf 53 hT Tryz.func199 fun Y hret=>?_
 refine au [4,5,1,23,2,3,13] ?_
 refine TK.maskL [0,1,2,3,8] ?_
 refine TK.loopN (fun n1 env K=>∃ (i:Nat),n1=n - i/\1<=i/\i<=n/\env=[.sl j 0 n,intA 0,intA n,f,.any,.any,.any,.any,intA i,.any,.any,.any,.any,.any,.any,.any,.any,.any,.any,.any,.any,.any,.any,.any,.any,.any,.any,.any,.any,.any,.any,.any,.any,.any,.any,.any,.any,.any,.any,.any,.any,.any,.any,.any,.any,.any,.any,.any,.any,.any,.any,.any,.any]/\K=(j,.cells ((sortN lt xs i++xs.drop i).map intA) et true)::Kc) (n - 1) ⟨1,rfl,Nat.le_refl _,h12.1,rfl,by rw [zcp oQ]⟩ fun n1 env K hI hnext=>?_
 obtain ⟨i,rfl,hi1,hi,rfl,rfl⟩:=hI
 refine au [4,4,5,1,1,6,3,20] ?_
 refine ⟨fun hc0=>?_,fun hc0=>?_⟩
 ·have hil:i<n:=by simp at hc0; omega
  obtain ⟨x,hx⟩:∃ x,xs[i]? =some x:=⟨_,List.getElem?_eq_getElem oQ⟩
  have hSl:=wv (lt:=lt) xs i oQ
  have hTl:(xs.drop (i+1)).length=n - (i+1):=by simp; omega
  have hxm:=List.mem_of_getElem? hx
  refine au [12,4,13,4,5,1,2,3,13] ?_
  refine TK.maskL [0,1,2,3,8,9] ?_
  refine TK.loopN (fun n1 env K=>∃ (p:Nat),n1=p/\p<=i/\insJ lt x (sortN lt xs i) p=insJ lt x (sortN lt xs i) (sortN lt xs i).length/\env=[.sl j 0 n,intA 0,intA n,f,.any,.any,.any,.any,intA i,intA p,.any,.any,.any,.any,.any,.any,.any,.any,.any,.any,.any,.any,.any,.any,.any,.any,.any,.any,.any,.any,.any,.any,.any,.any,.any,.any,.any,.any,.any,.any,.any,.any,.any,.any,.any,.any,.any,.any,.any,.any,.any,.any,.any]/\K=(j,.cells ((dataM (sortN lt xs i) (xs.drop (i+1)) x p).map intA) et true)::Kc) i ⟨i,rfl,Nat.le_refl _,by rw [hSl],rfl,by have:=zbr (sortN lt xs i) (xs.drop (i+1)) x; rw [hSl] at this; rw [this,<- zl hx]⟩ fun n1 env K hI hnext1=>?_
  obtain ⟨p,hnp,hp,hins,rfl,rfl⟩:=hI
  subst n1
  have hdl:=zbq (S:=sortN lt xs i) (T:=xs.drop (i+1)) (x:=x) (j:=p)
  refine au [4,4] ?_
  refine TK.draw [0,1,2,3,4,5,6,7,8,9,10,11,12,13,14,15,16] [0,1,2,3,4,5,6,7,8,9,10,11,12,13,14,15,16] (by kernel_rfl) (by kernel_rfl) ?_
  refine TD.z [9] rfl (zd rfl rfl) ?_
  refine TD.z [1] rfl (zd rfl rfl) ?_
  refine TD.z [18,19] rfl (q_cmp rfl rfl rfl rfl) ?_
  refine TD.z [20] rfl (zd rfl rfl) ?_
  refine TD.sp 21 (fun g4_4=>?_) (fun g4_4=>?_)
  ·have hp0:0<p:=by simp at g4_4; omega
   obtain ⟨q,rfl⟩:∃ q,p=q+1:=⟨p - 1,by omega⟩
   obtain ⟨y,hy⟩:∃ y,(sortN lt xs i)[q]? =some y:=⟨_,List.getElem?_eq_getElem oQ⟩
   have hym:=vg i oQ y (List.mem_of_getElem? hy)
   refine TD.z [3,21] rfl (zd rfl rfl) ?_
   refine TD.z [0,21] rfl (zd rfl rfl) ?_
   refine TD.z [9,21] rfl (zd rfl rfl) ?_
   refine TD.z [21,23,24] rfl (zm rfl rfl rfl SlEl.h oQ oQ) ?_
   refine TD.y [21,25] rfl (hq:=ze rfl rfl TySz.h (List.Mem.head _) (zF (i:=q+1) (uX oQ) rfl)) (h:=?_)
   refine TD.z [0,21] rfl (zd rfl rfl) ?_
   refine TD.z [9,21] rfl (zd rfl rfl) ?_
   refine TD.z [21,28] rfl (q_sub rfl rfl rfl oQ) ?_
   refine TD.z [21,27,29] rfl (zm rfl rfl rfl SlEl.h oQ oQ) ?_
   refine TD.y [21,30] rfl (hq:=ze rfl rfl TySz.h (List.Mem.head _) (zF (i:=q) ((w9 oQ).trans hy) oQ)) (h:=?_)
   refine TD.callF' (pend':=[⟨12,[21,27,29],[]⟩,⟨11,[21,28],[]⟩,⟨10,[9,21],[]⟩,⟨9,[0,21],[]⟩,⟨7,[21,23,24],[]⟩,⟨6,[9,21],[]⟩,⟨5,[0,21],[]⟩,⟨2,[18,19],[]⟩,⟨1,[1],[]⟩,⟨0,[9],[]⟩]) [21,22,26,31] rfl rfl rfl rfl rfl rfl rfl (hg x hxm y hym) (.right (.all _)) fun r1 K2 h3=>⟨?_,?_⟩
   ·rcases h3 with ⟨⟨c,rfl,hlc⟩,hK⟩
    all_goals (rw [hK]; simp)
   obtain ⟨⟨c,rfl,hlc⟩,hK⟩:=h3
   try simp only [List.cons_append,List.nil_append]
   refine TD.norm (putS rfl (by simp only [List.set]; rfl)) ?_
   rw [hK]
   refine TD.perm (K':=(j,_)::Kc) (List.perm_append_singleton _ _) ?_
   refine TD.z [21,32] rfl (q_cmp rfl rfl rfl rfl) ?_
   refine TD.z [21,33] rfl (z6 rfl rfl rfl) ?_
   refine TD.fin ?_
   refine au [20] ?_
   refine ⟨fun hc1=>?_,fun hc1=>?_⟩
   ·have hlt:lt x y=true:=by rw [<- hlc]; exact hc1
    have hsw:=zaB (T:=xs.drop (i+1)) (x:=x) hy
    refine au [12,4,13] ?_
    refine TK.draw [0,1,2,3,4,5,6,7,8,9,10,11,12,13,14,15,16,17] [0,1,5,6,7,8,9,10,11,12,13,14,15,2,3,4,16,17] (by kernel_rfl) (by kernel_rfl) ?_
    refine TD.z [0] rfl (zd rfl rfl) ?_
    refine TD.z [9] rfl (zd rfl rfl) ?_
    refine TD.z [0] rfl (zd rfl rfl) ?_
    refine TD.z [9] rfl (zd rfl rfl) ?_
    refine TD.z [40] rfl (q_sub rfl rfl rfl oQ) ?_
    refine TD.z [0] rfl (zd rfl rfl) ?_
    refine TD.z [9] rfl (zd rfl rfl) ?_
    refine TD.z [43] rfl (q_sub rfl rfl rfl oQ) ?_
    refine TD.z [42,44] rfl (zm rfl rfl rfl SlEl.h oQ oQ) ?_
    refine TD.y [45] rfl (hq:=ze rfl rfl TySz.h (List.Mem.head _) (zF (i:=q) ((w9 oQ).trans hy) oQ)) (h:=?_)
    refine TD.z [0] rfl (zd rfl rfl) ?_
    refine TD.z [9] rfl (zd rfl rfl) ?_
    refine TD.z [47,48] rfl (zm rfl rfl rfl SlEl.h oQ oQ) ?_
    refine TD.y [49] rfl (hq:=ze rfl rfl TySz.h (List.Mem.head _) (zF (i:=q+1) (uX oQ) rfl)) (h:=?_)
    refine TD.z [37,38] rfl (zm rfl rfl rfl SlEl.h oQ oQ) ?_
    refine TD.s (pend':=[⟨12,[47,48],[]⟩,⟨11,[9],[]⟩,⟨10,[0],[]⟩,⟨4,[40],[]⟩,⟨3,[9],[]⟩,⟨2,[0],[]⟩]) [46,51] rfl rfl (zt rfl rfl TySz.h rfl rfl mQ (vD (k:=q+1) oQ rfl)) ?_
    refine TD.z [39,41] rfl (zm rfl rfl rfl SlEl.h oQ oQ) ?_
    refine TD.s (pend':=[]) [50,52] rfl rfl (zt rfl rfl TySz.h rfl rfl mQ (vD (k:=q) (by rw [List.length_set]; omega) oQ)) ?_
    refine TD.fin ?_
    refine au [14,5,1,24,2,3] ?_
    refine TK.maskL [0,1,2,3,8,9] ?_
    refine TK.kp (((j,_)::Kc)) ?_
    exact hnext1 _ _ _ oQ ⟨q,rfl,by omega,by rw [<- hins,zc9 hy hlt],by rw [show ((q+1:Nat):Int) - 1=(q:Int) by omega]; rfl,by rw [hsw]⟩
   have hstop:=vb (lt:=lt) (x:=x) (S:=sortN lt xs i) (T:=xs.drop (i+1)) (j:=q+1) oQ (fun i1 y1 h1 h2=>by obtain rfl:q=i1:=oQ; rw [hy] at h2; cases h2; rw [<- hlc]; exact hc1)
   rw [hins] at hstop
   refine au [16,14,5,1,23,2,3] ?_
   refine TK.maskL [0,1,2,3,8] ?_
   refine TK.kp (((j,_)::Kc)) ?_
   exact hnext _ _ _ oQ ⟨i+1,rfl,by omega,by omega,rfl,by rw [yY hx,<- hstop]⟩
  obtain rfl:p=0:=by simp at g4_4; omega
  have hstop:=vb (lt:=lt) (x:=x) (S:=sortN lt xs i) (T:=xs.drop (i+1)) (j:=0) (Nat.zero_le _) (fun i y h=>by omega)
  rw [hins] at hstop
  refine TD.u [3,21] rfl ?_
  refine TD.u [0,21] rfl ?_
  refine TD.u [9,21] rfl ?_
  refine TD.u [21,23,24] rfl ?_
  refine TD.u [21,25] rfl ?_
  refine TD.u [0,21] rfl ?_
  refine TD.u [9,21] rfl ?_
  refine TD.u [21,28] rfl ?_
  refine TD.u [21,27,29] rfl ?_
  refine TD.u [21,30] rfl ?_
  refine TD.u [21,22,26,31] rfl ?_
  refine TD.u [21,32] rfl ?_
  refine TD.z [21,33] rfl (zE rfl rfl rfl) ?_
  refine TD.fin ?_
  refine au [19,16,14,5,1,23,2,3] ?_
  refine TK.maskL [0,1,2,3,8] ?_
  refine TK.kp (((j,_)::Kc)) ?_
  exact hnext _ _ _ oQ ⟨i+1,rfl,by omega,by omega,rfl,by rw [yY hx,<- hstop]⟩
 obtain rfl:i=n:=by simp at hc0; omega
 have hfin:(j,AObj.cells ((sortN lt xs i++xs.drop i).map intA) et true)::Kc=(j,.cells ((sortN lt xs xs.length).map intA) et true)::Kc:=by rw [hn,List.drop_eq_nil_of_le oQ,List.append_nil]
 refine au [16] ?_
 refine TK.rt0 hret (((j,_)::Kc)) ?_
 rw [show sortR lt xs=sortN lt xs xs.length from rfl]
 exact hfin
theorem ziu {main:Bool} {T:Goroutine->Hp->Prop} (hT:Shut Tryz.prog main T) {gm:Nat->Option Nat} {lim:Int} {j n:Nat} {xs:List Int} {et:TypeId} {f:AV} {Kc:KV} {lt:Int->Int->Bool} (hn:xs.length=n) (h12:1<=n/\n<=12) (hg:∀ x∈xs,∀ y∈xs,CallFK Tryz.prog T gm f [intA x,intA y] Kc (fun r K'=>(∃ c:Int,r=intA c/\decide (c<0)=lt x y)/\K'=Kc)) :
  CallK Tryz.prog T gm 163 [.sl j 0 n,intA 0,intA n,intA lim,f] ((j,.cells (xs.map intA) et true)::Kc) (fun r K'=>K'=(j,.cells ((sortR lt xs).map intA) et true)::Kc):=by
 refine zf 148 hT Tryz.func163 fun Y hret=>?_
 refine au [4,5,2,3,4,5,2,3,13] ?_
 refine TK.loop ?_
 refine au [13,4,5,1,1,24,2,3,4,4,5,1,6,3,20] ?_
 refine ⟨fun hc0=>?_,fun hc0=>?_⟩
 ·refine au [4,5,1,1,1,1] ?_
  refine TK.cl rfl rfl rfl rfl (zdM hT hn h12 hg) ?_ (hs:=(.all _))
  rintro r1 K2 rfl
  refine au [] ?_
  refine TK.perm (K':=(j,_)::Kc) (by rw [List.append_nil]) ?_
  refine au [3] ?_
  refine TK.rt hret (((j,_)::Kc)) ?_
  exact rfl
 simp at hc0; omega
theorem zcR {main:Bool} {T:Goroutine->Hp->Prop} (hT:Shut Tryz.prog main T) {gm:Nat->Option Nat} {j n:Nat} {xs:List Int} {et:TypeId} {f:AV} {Kc:KV} {lt:Int->Int->Bool} (hn:xs.length=n) (h12:1<=n/\n<=12) (hg:∀ x∈xs,∀ y∈xs,CallFK Tryz.prog T gm f [intA x,intA y] Kc (fun r K'=>(∃ c:Int,r=intA c/\decide (c<0)=lt x y)/\K'=Kc)) :
  CallK Tryz.prog T gm 145 [.sl j 0 n,f] ((j,.cells (xs.map intA) et true)::Kc) (fun r K'=>K'=(j,.cells ((sortR lt xs).map intA) et true)::Kc):=by
 refine zf 14 hT Tryz.func145 fun Y hret=>?_
 refine au [4,5,1,28,2,3,5,1,1,1] ?_
 refine TK.a rfl (zR rfl rfl Und.h Und.h (za6 (n:=n) oQ)) ?_
 refine TK.cl rfl rfl rfl rfl (xn hT (n:=n) oQ) ?_ (hs:=(.none _))
 rintro r1 K2 ⟨m,rfl,rfl⟩
 refine au [1] ?_
 refine TK.cl rfl rfl rfl rfl (ziu hT hn h12 hg) ?_ (hs:=(.all _))
 rintro r4 K5 rfl
 refine au [] ?_
 refine TK.perm (K':=(j,_)::Kc) (by rw [List.append_nil]) ?_
 refine au [3] ?_
 refine TK.rt0 hret (((j,_)::Kc)) ?_
 exact rfl
theorem zhJ {main:Bool} {T:Goroutine->Hp->Prop} (hT:Shut Tryz.prog main T) {gm:Nat->Option Nat} {b:RBk} {s h e j jb jl:Nat} {l:List Int} {et:TypeId} {x y:Int} (hb:ROk b) (hl:CutsOk b l) (hx:0<=x/\x<l.length) (hy:0<=y/\y<l.length) :
  CallK Tryz.prog T gm 146 [intA x,intA y,.ptr jb 0,.ptr jl 0] [(jb,.cells (rollC b s h e) 113 true),(jl,.cells [.sl j 0 l.length] 117 true),(s,seamO b),(j,.cells (l.map intA) et false)] (fun r K'=>(∃ c:Int,r=intA c/\decide (c<0)=busyLt b l x y)/\K'=[(jb,.cells (rollC b s h e) 113 true),(jl,.cells [.sl j 0 l.length] 117 true),(s,seamO b),(j,.cells (l.map intA) et false)]):=by
 refine zf 38 hT Tryz.func146 fun Y hret=>?_
 refine au [] ?_
 have hs5:=hb.sms.len
 have hl5:=hl.len
 obtain ⟨p,rfl⟩:∃ p:Nat,x=p:=⟨x.toNat,by omega⟩
 obtain ⟨q,rfl⟩:∃ q:Nat,y=q:=⟨y.toNat,by omega⟩
 have hp:p<l.length:=by omega
 have hq:q<l.length:=by omega
 have qp:=hl.lt hp
 have fp:=hb.sms.fld _ qp.2.2
 have qq:=hl.lt hq
 have fq:=hb.sms.fld _ qq.2.2
 refine au [4,5,2,3,4,4] ?_
 refine TK.draw [0,1,2,3,4,5,6,7,8,9,10,11,12,13,14,15,16,17,18,19,20,21] [0,1,2,3,4,5,6,7,8,9,20,10,11,12,13,14,15,16,17,18,19,21] (by kernel_rfl) (by kernel_rfl) ?_
 refine TD.z [2] rfl (zc rfl rfl FldOf.h dQ) ?_
 refine TD.z [9] rfl (zc rfl rfl FldOf.h dQ) ?_
 refine TD.y [10] rfl (hq:=ze rfl rfl TySz.h (List.Mem.head _) rfl) (h:=?_)
 refine TD.y [3] rfl (hq:=ze rfl rfl TySz.h (List.Mem.head _) rfl) (h:=?_)
 refine TD.z [0] rfl (zd rfl rfl) ?_
 refine TD.z [12,13] rfl (zm rfl rfl rfl SlEl.h oQ oQ) ?_
 refine TD.y [14] rfl (hq:=ze rfl rfl TySz.h (List.Mem.head _) (zF (i:=p) (zy hp) rfl)) (h:=?_)
 refine TD.z [11,15] rfl (zm rfl rfl rfl SlEl.h oQ oQ) ?_
 refine TD.z [16] rfl (zc rfl rfl FldOf.h dQ) ?_
 refine TD.y [17] rfl (hq:=ze rfl rfl TySz.h (List.Mem.head _) (zG (c:=2) (sm_at b (i:=(cutN l p).toNat) qp.2.2 oQ) dQ rfl)) (h:=?_)
 refine TD.z [2] rfl (zc rfl rfl FldOf.h dQ) ?_
 refine TD.z [19] rfl (zc rfl rfl FldOf.h dQ) ?_
 refine TD.y [20] rfl (hq:=ze rfl rfl TySz.h (List.Mem.head _) rfl) (h:=?_)
 refine TD.y [3] rfl (hq:=ze rfl rfl TySz.h (List.Mem.head _) rfl) (h:=?_)
 refine TD.z [1] rfl (zd rfl rfl) ?_
 refine TD.z [22,23] rfl (zm rfl rfl rfl SlEl.h oQ oQ) ?_
 refine TD.y [24] rfl (hq:=ze rfl rfl TySz.h (List.Mem.head _) (zF (i:=q) (zy hq) rfl)) (h:=?_)
 refine TD.z [21,25] rfl (zm rfl rfl rfl SlEl.h oQ oQ) ?_
 refine TD.z [26] rfl (zc rfl rfl FldOf.h dQ) ?_
 refine TD.y [27] rfl (hq:=ze rfl rfl TySz.h (List.Mem.head _) (zG (c:=2) (sm_at b (i:=(cutN l q).toNat) qq.2.2 oQ) dQ rfl)) (h:=?_)
 refine TD.as (pend':=[⟨19,[27],[(_,_)]⟩,⟨18,[26],[]⟩,⟨17,[21,25],[]⟩,⟨16,[24],[(_,_)]⟩,⟨15,[22,23],[]⟩,⟨14,[1],[]⟩,⟨13,[3],[(_,_)]⟩,⟨12,[20],[(_,_)]⟩,⟨11,[19],[]⟩,⟨10,[2],[]⟩]) [18] rfl rfl (zj rfl rfl) ?_
 refine TD.as (pend':=[]) [28] rfl rfl (zj rfl rfl) ?_
 refine TD.fin ?_
 refine au [4,5,1,1,6,3,20] ?_
 refine ⟨fun hc0=>?_,fun hc0=>?_⟩
 ·refine au [4,5,1,1,24,2,3] ?_
  refine TK.rt hret [(jb,_),(jl,_),(s,_),(j,_)] ?_
  exact ⟨⟨_,rfl,by simp at hc0; unfold busyLt; rw [Int.toNat_natCast,Int.toNat_natCast]; unfold cutS; rw [decide_eq_false hc0,Bool.false_and,Bool.or_false]; exact decide_eq_decide.2 oQ⟩,rfl⟩
 refine au [12,4,5,1,1,24,2,3] ?_
 refine TK.rt hret [(jb,_),(jl,_),(s,_),(j,_)] ?_
 exact ⟨⟨_,rfl,by simp at hc0; simp only [busyLt,cutS,Int.toNat_natCast,hc0,Int.lt_irrefl,decide_false,decide_true,Bool.true_and,Bool.false_or]; exact decide_eq_decide.2 oQ⟩,rfl⟩
def HangR (o:Option (List Int×Int)) (K:KV) (r:AV) (K':KV):Prop:=match o with
 | none=>r=.tup [.agg [.v (.slice none 0 0),intA 0],boolA false]/\K'=K
 | some (w,q)=>∃ jw,r=.tup [.agg [.sl jw 0 w.length,intA q],boolA true]/\K'=(jw,.cells (w.map intA) 3 false)::K
theorem zav {b:RBk} {l:List Int}:∀ (o:List Int) (z:Alloc),(o.foldl (allocM b l) z).steps.length=z.steps.length
 | [],_=>rfl
 | k::o,z=>by rw [List.foldl_cons,zav o]; simp [allocM]
theorem zhX {x y:Int} (hx:0<=x/\x<=65) (hy:0<=y/\y<=9):0<=x*y/\x*y<=585:=by
 refine ⟨Int.mul_nonneg hx.1 hy.1,?_⟩
 have h1:x*y<=65*y:=Int.mul_le_mul_of_nonneg_right hx.2 hy.1
 omega
section
variable {P:Program} {gm:Nat->Option Nat} {V:KV} {env:List AV} {o:Oper}
theorem wV {x y:Operand} {t u:TypeId} {k k':IntKind} {m n:Int} (ho:o.op=.call { callee:=.builtin .min,args:=#[x,y],argTypes:=#[t,u] }) (hx:opndO gm env x=some (.v (.int k m))) (hy:opndO gm env y=some (.v (.int k' n))):Qk P gm env V o (.v (.int k (min m n))):=by
 rw [show min m n=if n<m then n else m by split <;> omega]
 exact q_min ho hx hy
theorem zca {x y:Operand} {t u:TypeId} {k k':IntKind} {m n:Int} (ho:o.op=.call { callee:=.builtin .max,args:=#[x,y],argTypes:=#[t,u] }) (hx:opndO gm env x=some (.v (.int k m))) (hy:opndO gm env y=some (.v (.int k' n))):Qk P gm env V o (.v (.int k (max m n))):=by
 rw [show max m n=if m<n then n else m by split <;> omega]
 exact q_max ho hx hy
end
instance:BlOf Tryz.prog 125 [(0,1),(1,1)]:=⟨by kernel_rfl⟩
instance:Cal Tryz.prog 133:=⟨by kernel_rfl⟩
instance:Cal Tryz.prog 145:=⟨by kernel_rfl⟩
instance:Cal Tryz.prog 146:=⟨by kernel_rfl⟩
instance:Cal Tryz.prog 95:=⟨by kernel_rfl⟩
instance:FldOf Tryz.prog 125 0 0 false 1:=⟨by kernel_rfl⟩
instance:FldOf Tryz.prog 125 1 1 false 1:=⟨by kernel_rfl⟩
instance:TySz Tryz.prog 125 true 2:=⟨by kernel_rfl⟩
instance:TyZ Tryz.prog 125 [.slice none 0 0,.int .i64 0]:=⟨by kernel_rfl⟩
instance:TyZA Tryz.prog 125 [.v (.slice none 0 0),.v (.int .i64 0)]:=⟨by kernel_rfl⟩
theorem wG {main:Bool} {T:Goroutine->Hp->Prop} (hT:Shut Tryz.prog main T) {gm:Nat->Option Nat} {b:RBk} {s h e j:Nat} {l:List Int} {et:TypeId} (hb:ROk b) (hl:CutsOk b l) {st:List Int} (hs:StOk b st) :
  CallK Tryz.prog T gm 100 [.agg (rollC b s h e),.sl j 0 l.length,.agg (stC st)] [(s,seamO b),(j,.cells (l.map intA) et false)] (fun r K'=>HangR (hangM b l st) [(s,seamO b),(j,.cells (l.map intA) et false)] r K'):=by
 refine zf 110 hT Tryz.func100 fun Y hret=>?_
 refine au [] ?_
 have hp0:=hl.pos
 have hs5:=hb.sms.len
 have hst:=hb.rnd.steps
 have hl5:=hl.len
 have q0:=hl.lt hl.pos
 have f0:=hb.sms.fld _ q0.2.2
 have hfr:=wQ hb hs
 refine au [4,5,21] ?_
 intro jb hjb
 refine au [21] ?_
 intro jl hjl
 refine au [21] ?_
 intro js hjs
 refine au [22] ?_
 intro jr hjr
 refine au [2,3,4,4,5,8,9] ?_
 refine TK.cl rfl rfl rfl rfl (zc3 hT hb hl) ?_
 rintro r1 K2 ⟨rfl,rfl⟩
 refine au [30,3,20] ?_
 refine ⟨fun hc0=>?_,fun hc0=>?_⟩
 ·refine au [4,5,39,17,2,3] ?_
  refine TK.rt hret [(s,_),(j,_)] ?_
  rw [show hangM b l st=none by unfold hangM; rw [if_pos (by simpa using hc0)]]
  exact ⟨rfl,rfl⟩
 have hfit:fitsM b l=true:=by simpa using hc0
 refine au [12,4,5,9,28] ?_
 refine TK.newS rfl rfl rfl (zdg rfl rfl rfl ApOf.h TyZ.h hp0 oQ) (fun _=>putS rfl (by simp only [List.set]; rfl)) fun jw hjw=>?_
 refine au [39,22] ?_
 intro j8 hj8
 refine au [17,3,4,4,5,9,28,1,3,13] ?_
 refine TK.maskL [3,4,5,6,7,8,26,27,28] ?_
 refine TK.kp [(s,_),(j,_),(jb,_),(jl,_),(js,_),(jr,_),(jw,_),(j8,_)] ?_
 refine TK.loopN (fun n env K=>∃ (i:Nat),n=l.length - i/\i<=l.length/\env=[.any,.any,.any,.ptr jb 0,.ptr jl 0,.ptr js 0,.ptr jr 0,boolA false,.ptr j8 0,.any,.any,.any,.any,.any,.any,.any,.any,.any,.any,.any,.any,.any,.any,.any,.any,.any,.sl j 0 l.length,intA l.length,intA i,.any,.any,.any,.any,.any,.any,.any,.any,.any,.any,.any,.any,.any,.any,.any,.any,.any,.any,.any,.any,.any,.any,.any,.any,.any,.any,.any,.any,.any,.any,.any,.any,.any,.any,.any,.any,.any,.any,.any,.any,.any,.any,.any,.any,.any,.any,.any,.any,.any,.any,.any,.any,.any,.any,.any,.any,.any,.any,.any,.any,.any,.any,.any,.any,.any,.any,.any,.any,.any,.any,.any,.any,.any,.any,.any,.any,.any,.any,.any,.any,.any]/\K=[(s,seamO b),(j,.cells (l.map intA) et false),(jb,.cells (rollC b s h e) 113 true),(jl,.cells [.sl j 0 l.length] 117 true),(js,.cells (stC st) 129 true),(jr,.cells [.v (.slice none 0 0),intA 0] 125 true),(jw,.cells ((List.replicate l.length (0:Int)).map intA) 3 true),(j8,.cells [.sl jw 0 l.length,intA (spoilM b l i)] 125 true)]) l.length ⟨0,rfl,Nat.zero_le _,rfl,rfl⟩ fun n env K hI hnext=>?_
 obtain ⟨i,rfl,hi,rfl,rfl⟩:=hI
 have hsp:=xh hb hl i hi
 refine au [4,5,6,3,4,20] ?_
 refine ⟨fun hc1=>?_,fun hc1=>?_⟩
 ·have hil:i<l.length:=by simp at hc1; omega
  have qi:=hl.lt hil
  have fi:=hb.sms.fld _ qi.2.2
  refine au [12,4,13,4,5,36] ?_
  refine TK.a rfl (ze rfl rfl TySz.h mQ (zF (i:=i) (zy hil) rfl)) ?_
  refine au [2,3] ?_
  refine TK.draw [0,1,2,3,4,5,6,7,8,9,10,11] [0,1,2,3,4,5,6,7,8,9,10,11] (by kernel_rfl) (by kernel_rfl) ?_
  refine TD.z [8] rfl (zc rfl rfl FldOf.h dQ) ?_
  refine TD.y [32] rfl (hq:=ze rfl rfl TySz.h (List.Mem.head _) rfl) (h:=?_)
  refine TD.z [3] rfl (zc rfl rfl FldOf.h dQ) ?_
  refine TD.z [34] rfl (zc rfl rfl FldOf.h dQ) ?_
  refine TD.y [35] rfl (hq:=ze rfl rfl TySz.h (List.Mem.head _) rfl) (h:=?_)
  refine TD.z [10] rfl (zd rfl rfl) ?_
  refine TD.z [36,37] rfl (zm rfl rfl rfl SlEl.h oQ oQ) ?_
  refine TD.z [38] rfl (zc rfl rfl FldOf.h dQ) ?_
  refine TD.y [39] rfl (hq:=ze rfl rfl TySz.h (List.Mem.head _) (zG (c:=3) (sm_at b (i:=(cutN l i).toNat) qi.2.2 oQ) dQ rfl)) (h:=?_)
  refine TD.z [33,40] rfl (q_add rfl rfl rfl oQ) ?_
  refine TD.z [8] rfl (zc rfl rfl FldOf.h dQ) ?_
  refine TD.s (pend':=[]) [41,42] rfl rfl (zt rfl rfl TySz.h rfl rfl mQ rfl) ?_
  refine TD.fin ?_
  refine au [14,5,23,1,3] ?_
  refine TK.maskL [3,4,5,6,7,8,26,27,28] ?_
  refine TK.kp [(s,_),(j,_),(jb,_),(jl,_),(js,_),(jr,_),(jw,_),(j8,_)] ?_
  exact hnext _ _ _ oQ ⟨i+1,rfl,by omega,rfl,rfl⟩
 obtain rfl:i=l.length:=by simp at hc1; omega
 refine au [16,4,5,9,28] ?_
 refine TK.newS rfl rfl rfl (zdg rfl rfl rfl ApOf.h TyZ.h hp0 oQ) (fun _=>putS rfl (by simp only [List.set]; rfl)) fun jo hjo=>?_
 refine au [2,3,4,4,5,1,28,1,3,13] ?_
 refine TK.maskL [3,4,5,6,7,8,11,47,48,49] ?_
 refine TK.loopN (fun n env K=>∃ (i:Nat),n=l.length - i/\i<=l.length/\env=[.any,.any,.any,.ptr jb 0,.ptr jl 0,.ptr js 0,.ptr jr 0,boolA false,.ptr j8 0,.any,.any,.sl jo 0 l.length,.any,.any,.any,.any,.any,.any,.any,.any,.any,.any,.any,.any,.any,.any,.any,.any,.any,.any,.any,.any,.any,.any,.any,.any,.any,.any,.any,.any,.any,.any,.any,.any,.any,.any,.any,.sl jo 0 l.length,intA l.length,intA i,.any,.any,.any,.any,.any,.any,.any,.any,.any,.any,.any,.any,.any,.any,.any,.any,.any,.any,.any,.any,.any,.any,.any,.any,.any,.any,.any,.any,.any,.any,.any,.any,.any,.any,.any,.any,.any,.any,.any,.any,.any,.any,.any,.any,.any,.any,.any,.any,.any,.any,.any,.any,.any,.any,.any,.any,.any,.any,.any,.any]/\K=[(jo,.cells ((idxM i++List.replicate (l.length - i) 0).map intA) 3 true),(s,seamO b),(j,.cells (l.map intA) et false),(jb,.cells (rollC b s h e) 113 true),(jl,.cells [.sl j 0 l.length] 117 true),(js,.cells (stC st) 129 true),(jr,.cells [.v (.slice none 0 0),intA 0] 125 true),(jw,.cells ((List.replicate l.length (0:Int)).map intA) 3 true),(j8,.cells [.sl jw 0 l.length,intA (spoilM b l l.length)] 125 true)]) l.length ⟨0,rfl,Nat.zero_le _,rfl,rfl⟩ fun n env K hI hnext=>?_
 obtain ⟨i,rfl,hi,rfl,rfl⟩:=hI
 refine au [4,5,6,3,4,20] ?_
 refine ⟨fun hc2=>?_,fun hc2=>?_⟩
 ·have hil:i<l.length:=by simp at hc2; omega
  refine au [12,4,13,4,5,1,2,3,5,1,1,1,36] ?_
  refine TK.st rfl rfl rfl (zt rfl rfl TySz.h rfl rfl mQ (vD (k:=i) (by simp [idxM]; omega) rfl)) uQ (putN rfl) ?_
  refine au [3,14,5,23,1,3] ?_
  refine TK.maskL [3,4,5,6,7,8,11,47,48,49] ?_
  refine TK.kp [(jo,_),(s,_),(j,_),(jb,_),(jl,_),(js,_),(jr,_),(jw,_),(j8,_)] ?_
  exact hnext _ _ _ oQ ⟨i+1,rfl,by omega,rfl,by rw [<- zgZ hil]⟩
 obtain rfl:i=l.length:=by simp at hc2; omega
 refine au [16,4] ?_
 have hidx:idxM l.length++List.replicate (l.length - l.length) 0=idxM l.length:=by simp
 rw [hidx]
 refine au [5,1,32] ?_
 refine TK.cl rfl rfl rfl rfl (zcR hT (Kc:=[(jb,.cells (rollC b s h e) 113 true),(jl,.cells [.sl j 0 l.length] 117 true),(s,seamO b),(j,.cells (l.map intA) et false)]) (lt:=busyLt b l) (by simp [idxM]) ⟨hp0,by omega⟩ (fun x hx y hy=>zT Cal.h (zhJ hT hb hl (by have:=vA hx; omega) (by have:=vA hy; omega)))) ?_ (hs:=(.left (.rem (.tail (.tail .head)) (.rem (.tail (.tail .head)) (.left (.left (.none _)))))))
 rintro r4 K5 rfl
 refine au [3,4,5,8,8] ?_
 refine TK.cl rfl rfl rfl rfl (zbt hT hb hs) ?_ (hs:=(.none _))
 rintro r7 K8 ⟨rfl,rfl⟩
 refine au [2,3,4,4,5,1,28,1,3,13] ?_
 refine TK.maskL [3,4,5,6,7,8,13,63,64,65] ?_
 refine TK.loopN (fun n env K=>∃ (i:Nat) (z:Alloc),n=l.length - i/\i<=l.length/\z=((ordM b l).take i).foldl (allocM b l) (alloc0 b l (freshM b st))/\z.steps.length=l.length/\(0<=z.left/\z.left<=65)/\(0<=z.squares/\z.squares<=45+585*i)/\env=[.any,.any,.any,.ptr jb 0,.ptr jl 0,.ptr js 0,.ptr jr 0,boolA false,.ptr j8 0,.any,.any,.any,.any,intA z.left,.any,.any,.any,.any,.any,.any,.any,.any,.any,.any,.any,.any,.any,.any,.any,.any,.any,.any,.any,.any,.any,.any,.any,.any,.any,.any,.any,.any,.any,.any,.any,.any,.any,.any,.any,.any,.any,.any,.any,.any,.any,.any,.any,.any,.any,.any,.any,.any,.any,.sl jo 0 l.length,intA l.length,intA i,.any,.any,.any,.any,.any,.any,.any,.any,.any,.any,.any,.any,.any,.any,.any,.any,.any,.any,.any,.any,.any,.any,.any,.any,.any,.any,.any,.any,.any,.any,.any,.any,.any,.any,.any,.any,.any,.any,.any,.any,.any,.any,.any,.any]/\K=[(jo,.cells ((ordM b l).map intA) 3 true),(jb,.cells (rollC b s h e) 113 true),(jl,.cells [.sl j 0 l.length] 117 true),(s,seamO b),(j,.cells (l.map intA) et false),(js,.cells (stC st) 129 true),(jr,.cells [.v (.slice none 0 0),intA 0] 125 true),(jw,.cells (z.steps.map intA) 3 true),(j8,.cells [.sl jw 0 l.length,intA z.squares] 125 true)]) l.length ⟨0,alloc0 b l (freshM b st),rfl,Nat.zero_le _,rfl,by simp [alloc0],hfr,by have:=xh hb hl l.length (Nat.le_refl _); show 0<=spoilM b l l.length/\spoilM b l l.length<=_; omega,rfl,rfl⟩ fun n env K hI hnext=>?_
 obtain ⟨i,z,rfl,hi,hz,hzl,hzf,hzs,rfl,rfl⟩:=hI
 have hol:=zhm b l
 refine au [4,5,6,3,4,20] ?_
 refine ⟨fun hc3=>?_,fun hc3=>?_⟩
 ·have hil:i<l.length:=by simp at hc3; omega
  obtain ⟨k,hk⟩:∃ k,(ordM b l)[i]? =some k:=⟨_,List.getElem?_eq_getElem oQ⟩
  have hkm:=yP (List.mem_of_getElem? hk)
  have hkn:k.toNat<l.length:=by omega
  have qi:=hl.lt hkn
  have fi:=hb.sms.fld _ qi.2.2
  have hmul:0<=min z.left (sm b (cutN l k.toNat).toNat).most*(sm b (cutN l k.toNat).toNat).busy/\min z.left (sm b (cutN l k.toNat).toNat).most*(sm b (cutN l k.toNat).toNat).busy<=585:=zhX oQ oQ
  refine au [12,4,13,4,5,36] ?_
  refine TK.a rfl (ze rfl rfl TySz.h mQ (zF (i:=i) hk rfl)) ?_
  refine au [2,3,4] ?_
  refine TK.draw [0,1,2,3,4,5,6,7,8,9,10,11,12] [0,1,2,3,4,5,6,7,8,9,10,11,12] (by kernel_rfl) (by kernel_rfl) ?_
  refine TD.z [13] rfl (zd rfl rfl) ?_
  refine TD.z [3] rfl (zc rfl rfl FldOf.h dQ) ?_
  refine TD.z [70] rfl (zc rfl rfl FldOf.h dQ) ?_
  refine TD.y [71] rfl (hq:=ze rfl rfl TySz.h (List.Mem.head _) rfl) (h:=?_)
  refine TD.y [4] rfl (hq:=ze rfl rfl TySz.h (List.Mem.head _) rfl) (h:=?_)
  refine TD.z [15] rfl (zd rfl rfl) ?_
  refine TD.z [73,74] rfl (zm rfl rfl rfl SlEl.h oQ oQ) ?_
  refine TD.y [75] rfl (hq:=ze rfl rfl TySz.h (List.Mem.head _) (zF (i:=k.toNat) (zy hkn) oQ)) (h:=?_)
  refine TD.z [72,76] rfl (zm rfl rfl rfl SlEl.h oQ oQ) ?_
  refine TD.z [77] rfl (zc rfl rfl FldOf.h dQ) ?_
  refine TD.y [78] rfl (hq:=ze rfl rfl TySz.h (List.Mem.head _) (zG (c:=1) (sm_at b (i:=(cutN l k.toNat).toNat) qi.2.2 oQ) dQ rfl)) (h:=?_)
  refine TD.z [69,79] rfl (wV rfl rfl rfl) ?_
  refine TD.as (pend':=[]) [80] rfl rfl (zj rfl rfl) ?_
  refine TD.fin ?_
  refine au [4,5,7,9,1,1,36] ?_
  refine TK.st rfl rfl rfl (zt rfl rfl TySz.h rfl rfl mQ (vD (k:=k.toNat) oQ oQ)) uQ (putN rfl) ?_
  refine au [3,4] ?_
  refine TK.draw [0,1,2,3,4,5,6,7,8,9,10,11,12,13,14,15,16] [0,1,2,3,4,5,6,7,8,9,10,11,12,13,14,15,16] (by kernel_rfl) (by kernel_rfl) ?_
  refine TD.z [8] rfl (zc rfl rfl FldOf.h dQ) ?_
  refine TD.y [86] rfl (hq:=ze rfl rfl TySz.h (List.Mem.head _) rfl) (h:=?_)
  refine TD.z [16] rfl (zd rfl rfl) ?_
  refine TD.z [3] rfl (zc rfl rfl FldOf.h dQ) ?_
  refine TD.z [89] rfl (zc rfl rfl FldOf.h dQ) ?_
  refine TD.y [90] rfl (hq:=ze rfl rfl TySz.h (List.Mem.head _) rfl) (h:=?_)
  refine TD.y [4] rfl (hq:=ze rfl rfl TySz.h (List.Mem.head _) rfl) (h:=?_)
  refine TD.z [15] rfl (zd rfl rfl) ?_
  refine TD.z [92,93] rfl (zm rfl rfl rfl SlEl.h oQ oQ) ?_
  refine TD.y [94] rfl (hq:=ze rfl rfl TySz.h (List.Mem.head _) (zF (i:=k.toNat) (zy hkn) oQ)) (h:=?_)
  refine TD.z [91,95] rfl (zm rfl rfl rfl SlEl.h oQ oQ) ?_
  refine TD.z [96] rfl (zc rfl rfl FldOf.h dQ) ?_
  refine TD.y [97] rfl (hq:=ze rfl rfl TySz.h (List.Mem.head _) (zG (c:=2) (sm_at b (i:=(cutN l k.toNat).toNat) qi.2.2 oQ) dQ rfl)) (h:=?_)
  refine TD.z [88,98] rfl (q_mul rfl rfl rfl oQ) ?_
  refine TD.z [87,99] rfl (q_add rfl rfl rfl oQ) ?_
  refine TD.z [8] rfl (zc rfl rfl FldOf.h dQ) ?_
  refine TD.s (pend':=[]) [100,101] rfl rfl (zt rfl rfl TySz.h rfl rfl mQ rfl) ?_
  refine TD.fin ?_
  refine au [5,1,1,24,2,3,14,5,23,1,3] ?_
  refine TK.maskL [3,4,5,6,7,8,13,63,64,65] ?_
  refine TK.kp [(jo,_),(jb,_),(jl,_),(s,_),(j,_),(js,_),(jr,_),(jw,_),(j8,_)] ?_
  exact hnext _ _ _ oQ ⟨i+1,allocM b l z k,rfl,by omega,by rw [zM hk,List.foldl_append,<- hz]; rfl,by simp [allocM,hzl],by show 0<=z.left - min z.left (sm b (cutN l k.toNat).toNat).most/\z.left - min z.left (sm b (cutN l k.toNat).toNat).most<=65; omega,by show 0<=z.squares+min z.left (sm b (cutN l k.toNat).toNat).most*(sm b (cutN l k.toNat).toNat).busy/\z.squares+min z.left (sm b (cutN l k.toNat).toNat).most*(sm b (cutN l k.toNat).toNat).busy<=45+585*((i+1:Nat):Int); omega,rfl,rfl⟩
 obtain rfl:i=l.length:=by simp at hc3; omega
 rw [List.take_of_length_le oQ] at hz
 refine au [16,4,4,5,1,6,3,20] ?_
 refine ⟨fun hc4=>?_,fun hc4=>?_⟩
 ·refine au [4,5,39,17,2,3] ?_
  refine TK.rt hret [(s,_),(j,_)] ?_
  rw [show hangM b l st=none by unfold hangM; rw [if_neg (by rw [hfit]; decide)]; unfold allocA; rw [<- hz]; exact if_pos (of_decide_eq_true hc4)]
  exact ⟨rfl,rfl⟩
 refine au [12,4] ?_
 refine TK.frz (j:=jw) ?_
 refine au [5,8,17,2,3] ?_
 refine TK.rt hret [(jw,_),(s,_),(j,_)] ?_
 rw [show hangM b l st=some (z.steps,z.squares) by unfold hangM; rw [if_neg (by rw [hfit]; decide)]; unfold allocA; rw [<- hz]; exact if_neg (of_decide_eq_false hc4)]
 exact ⟨jw,by rw [hzl]; rfl,rfl⟩
theorem st_at {s:List Int} {i:Nat} {n:Int} {e:TypeId} {rw':Bool} (h:i<5) (hn:n=(i:Int)):takeO (.cells (stC s) e rw') (0+n.toNat*1) 1=some [intA (s.getD i 0)]:=by
 subst hn
 have:i=0\/i=1\/i=2\/i=3\/i=4:=by omega
 rcases this with rfl | rfl | rfl | rfl | rfl <;> rfl
theorem zer {c:List Int} {i k:Nat} (h:k<i):(c.take i).getD k 0=c.getD k 0:=by
 rw [List.getD_eq_getElem?_getD,List.getD_eq_getElem?_getD,List.getElem?_take,if_pos h]
theorem ziG {c p:List Int} {m:Nat} (h5:c.length=5) (hp:p.length=m) (ht:c.take m=p) (hz:∀ k,m<=k->c.getD k 0=0):c.map intA=stC p:=by
 have key:∀ k,c.getD k 0=p.getD k 0:=fun k=>by
  by_cases h:k<m
  ·rw [<- ht,zer h]
  ·rw [hz k oQ,List.getD_eq_getElem?_getD,List.getElem?_eq_none oQ]; rfl
 have e:c.map intA=stC c:=by
  rcases c with _ | ⟨a0,_ | ⟨a1,_ | ⟨a2,_ | ⟨a3,_ | ⟨a4,_ | ⟨a5,r⟩⟩⟩⟩⟩⟩ <;> simp at h5
  rfl
 rw [e]
 unfold stC slotR
 rw [key 0,key 1,key 2,key 3,key 4]
theorem xE {xs:List RMeas} {i:Nat} {x:RMeas} {n:Int} {e:TypeId} {rw':Bool} (h:xs[i]? =some x) (hn:n=(i:Int)):takeO (.cells (xs.flatMap measC) e rw') (0+n.toNat*3) 3=some (measC x):=wE (c:=3) (fun _=>rfl) h hn dQ
theorem zfm {xs:List RMeas} {p:RMeas->Bool} {i:Nat} {x:RMeas} (h:xs[i]? =some x) (hn:(xs.take i).any p=false) (he:p x=false):(xs.take (i+1)).any p=false:=by
 rw [zM h,List.any_append,hn]; simp [he]
theorem zhG {xs:List RMeas} {p:RMeas->Bool} {i:Nat} {x:RMeas} (h:xs[i]? =some x) (he:p x=true):xs.any p=true:=List.any_eq_true.2 ⟨x,List.mem_of_getElem? h,he⟩
theorem ze1 (b:RBk) (s:List Int):rightM b s = !(b.measures.any fun m => !decide (togM b s m.cloth.toNat m.many.toNat=m.wide)):=by
 unfold rightM
 induction b.measures with
 | nil=>rfl
 | cons x r ih=>rw [List.all_cons,List.any_cons,ih]; simp
instance:Cal Tryz.prog 104:=⟨by kernel_rfl⟩
instance:Cal Tryz.prog 147:=⟨by kernel_rfl⟩
instance:Cal Tryz.prog 186:=⟨by kernel_rfl⟩
instance:Cal Tryz.prog 187:=⟨by kernel_rfl⟩
instance:Cal Tryz.prog 217:=⟨by kernel_rfl⟩
theorem zim {main:Bool} {T:Goroutine->Hp->Prop} (hT:Shut Tryz.prog main T) {gm:Nat->Option Nat} {b:RBk} {s h e i:Nat} {st:List Int} (hb:ROk b) (hs:StOk b st) (hi:i<b.seams.length) :
  CallK Tryz.prog T gm 147 [.agg (rollC b s h e),intA i,.agg (stC st)] [(s,seamO b)] (fun r K'=>r=intA (nowM b st i)/\K'=[(s,seamO b)]):=by
 refine zf 14 hT Tryz.func147 fun Y hret=>?_
 refine au [] ?_
 have hs5:=hb.sms.len
 have hw:=hb.wide hi
 have hsi:=hs.bnd i hi
 refine au [4,5,21] ?_
 intro jb hjb
 refine au [21] ?_
 intro js hjs
 refine au [2,3,4] ?_
 refine TK.draw [0,1,3,4,5,2,6,7] [0,1,2,3,4,5,6,7] (by kernel_rfl) (by kernel_rfl) ?_
 refine TD.y [3] rfl (hq:=zx rfl rfl TySz.h (List.Mem.head _) rfl) (h:=?_)
 refine TD.z [1] rfl (zd rfl rfl) ?_
 refine TD.z [1] rfl (zd rfl rfl) ?_
 refine TD.z [5,10] rfl (kS rfl rfl rfl ArEl.h oQ oQ) ?_
 refine TD.y [11] rfl (hq:=ze rfl rfl TySz.h (List.Mem.head _) (st_at (i:=i) oQ rfl)) (h:=?_)
 refine TD.cl (pend':=[⟨5,[11],[(_,_)]⟩,⟨4,[5,10],[]⟩,⟨3,[1],[]⟩]) [7,8] rfl rfl rfl rfl rfl (zar hT (i:=i) hb.rnd hb.sms hi) (fun r1 K2 h3=>⟨?_,?_⟩)
 ·rcases h3 with ⟨rfl,rfl⟩
  all_goals simp
 obtain ⟨rfl,rfl⟩:=h3
 try simp only [List.cons_append,List.nil_append]
 refine TD.norm (by simp only [List.set]; rfl) ?_
 refine TD.z [9,12] rfl (q_sub rfl rfl rfl oQ) ?_
 refine TD.as (pend':=[]) [13] rfl rfl (zj rfl rfl) ?_
 refine TD.fin ?_
 refine au [] ?_
 refine TK.rt hret [(s,_)] ?_
 exact ⟨rfl,rfl⟩
theorem zfe {main:Bool} {T:Goroutine->Hp->Prop} (hT:Shut Tryz.prog main T) {gm:Nat->Option Nat} {b:RBk} {s h e:Nat} {c k:Int} {st:List Int} (hb:ROk b) (hs:StOk b st) (hc:0<=c/\c<=5) (hk:0<=k/\k<=5) :
  CallK Tryz.prog T gm 104 [.agg (rollC b s h e),intA c,intA k,.agg (stC st)] [(s,seamO b)] (fun r K'=>r=intA (togM b st c.toNat k.toNat)/\K'=[(s,seamO b)]):=by
 refine zf 30 hT Tryz.func104 fun Y hret=>?_
 refine au [] ?_
 obtain ⟨p,rfl⟩:∃ p:Nat,c=p:=⟨c.toNat,by omega⟩
 obtain ⟨q,rfl⟩:∃ q:Nat,k=q:=⟨k.toNat,by omega⟩
 have hs5:=hb.sms.len
 refine au [4,5,21] ?_
 intro jb hjb
 refine au [21] ?_
 intro js hjs
 refine au [2,3,4,5,2,3,4,4,5,1,1,3,13] ?_
 refine TK.maskL [1,4,7,9,11,12] ?_
 refine TK.kp [(s,_),(js,_),(jb,_)] ?_
 refine TK.loopN (fun n env K=>∃ (i:Nat),n=q - i/\i<=q/\env=[.any,intA p,.any,.any,.ptr jb 0,.any,.any,.ptr js 0,.any,intA (togM b st p i),.any,intA q,intA i,.any,.any,.any,.any,.any,.any,.any,.any,.any,.any,.any,.any,.any,.any,.any,.any,.any]/\K=[(s,seamO b),(js,.cells (stC st) 129 true),(jb,.cells (rollC b s h e) 113 true)]) q ⟨0,rfl,Nat.zero_le _,rfl,rfl⟩ fun n env K hI hnext=>?_
 obtain ⟨i,rfl,hi,rfl,rfl⟩:=hI
 have htb:=uR hb hs (c:=p) i
 refine au [4,5,6,3,4,20] ?_
 refine ⟨fun hc0=>?_,fun hc0=>?_⟩
 ·have hil:i<q:=by simp at hc0; omega
  have hmod:(p+i) % b.seams.length<b.seams.length:=Nat.mod_lt _ oQ
  have hcm:((p:Int)+(i:Int)) % (b.seams.length:Int)=(((p+i) % b.seams.length:Nat):Int):=by rw [Int.natCast_emod,Int.natCast_add]
  have hw:=hb.wide hmod
  have hsi:=hs.bnd _ hmod
  have hnow:nowM b st ((p+i) % b.seams.length)=wideM b ((p+i) % b.seams.length) - st.getD ((p+i) % b.seams.length) 0:=rfl
  refine au [12,4,13,4,5,1,2,3] ?_
  refine TK.draw [0,1,2,3,4,5,6,7,8,9,10,11,12,13] [0,1,2,3,4,5,6,7,8,9,10,11,12,13] (by kernel_rfl) (by kernel_rfl) ?_
  refine TD.z [9] rfl (zd rfl rfl) ?_
  refine TD.y [4] rfl (hq:=zx rfl rfl TySz.h (List.Mem.head _) rfl) (h:=?_)
  refine TD.z [1] rfl (zd rfl rfl) ?_
  refine TD.z [10] rfl (zd rfl rfl) ?_
  refine TD.z [17,18] rfl (q_add rfl rfl rfl oQ) ?_
  refine TD.z [4] rfl (zc rfl rfl FldOf.h dQ) ?_
  refine TD.z [20] rfl (zc rfl rfl FldOf.h dQ) ?_
  refine TD.y [21] rfl (hq:=ze rfl rfl TySz.h (List.Mem.head _) rfl) (h:=?_)
  refine TD.z [22] rfl (q_len rfl rfl rfl Und.h) ?_
  refine TD.z [19,23] rfl (q_rem rfl rfl rfl oQ oQ) ?_
  rw [hcm]
  refine TD.y [7] rfl (hq:=zx rfl rfl TySz.h (List.Mem.head _) rfl) (h:=?_)
  refine TD.cl (pend':=[⟨8,[22],[]⟩,⟨7,[21],[(_,_)]⟩,⟨6,[20],[]⟩,⟨5,[4],[]⟩,⟨4,[17,18],[]⟩,⟨3,[10],[]⟩,⟨2,[1],[]⟩,⟨0,[9],[]⟩]) [16,24,25] rfl rfl rfl rfl rfl (zim hT (i:=(p+i) % b.seams.length) hb hs hmod) (fun r1 K2 h3=>⟨?_,?_⟩)
  ·rcases h3 with ⟨rfl,rfl⟩
   all_goals simp
  obtain ⟨rfl,rfl⟩:=h3
  try simp only [List.cons_append,List.nil_append]
  refine TD.norm (by simp only [List.set]; rfl) ?_
  refine TD.z [15,26] rfl (q_add rfl rfl rfl oQ) ?_
  refine TD.as (pend':=[]) [27] rfl rfl (zj rfl rfl) ?_
  refine TD.fin ?_
  refine au [14,5,23,1,3] ?_
  refine TK.maskL [1,4,7,9,11,12] ?_
  refine TK.kp [(s,_),(js,_),(jb,_)] ?_
  exact hnext _ _ _ oQ ⟨i+1,rfl,by omega,rfl,rfl⟩
 obtain rfl:i=q:=by simp at hc0; omega
 refine au [16,4,5,1,2,3] ?_
 refine TK.rt hret [(s,_)] ?_
 exact ⟨rfl,rfl⟩
theorem zeZ {main:Bool} {T:Goroutine->Hp->Prop} (hT:Shut Tryz.prog main T) {gm:Nat->Option Nat} {b:RBk} {s h e jb js:Nat} {m:RMeas} {st:List Int} (hb:ROk b) (hs:StOk b st) (hm:m∈b.measures) :
  CallK Tryz.prog T gm 187 [.agg (measC m),.ptr jb 0,.ptr js 0] [(jb,.cells (rollC b s h e) 113 true),(js,.cells (stC st) 129 true),(s,seamO b)] (fun r K'=>r=boolA (!decide (togM b st m.cloth.toNat m.many.toNat=m.wide))/\K'=[(jb,.cells (rollC b s h e) 113 true),(js,.cells (stC st) 129 true),(s,seamO b)]):=by
 refine zf 15 hT Tryz.func187 fun Y hret=>?_
 refine au [] ?_
 have hs5:=hb.sms.len
 have hmm:=hb.mes.bnd m hm
 refine au [4,5,21] ?_
 intro jm hjm
 refine au [2,3,4] ?_
 refine TK.draw [0,1,2,3,4,5,7,8,6,9,10] [0,1,2,3,4,5,6,7,8,9,10] (by kernel_rfl) (by kernel_rfl) ?_
 refine TD.y [1] rfl (hq:=zx rfl rfl TySz.h (List.Mem.head _) rfl) (h:=?_)
 refine TD.z [3] rfl (zc rfl rfl FldOf.h dQ) ?_
 refine TD.y [6] rfl (hq:=ze rfl rfl TySz.h (List.Mem.head _) rfl) (h:=?_)
 refine TD.z [3] rfl (zc rfl rfl FldOf.h dQ) ?_
 refine TD.y [8] rfl (hq:=ze rfl rfl TySz.h (List.Mem.head _) rfl) (h:=?_)
 refine TD.y [2] rfl (hq:=zx rfl rfl TySz.h (List.Mem.head _) rfl) (h:=?_)
 refine TD.z [3] rfl (zc rfl rfl FldOf.h dQ) ?_
 refine TD.y [12] rfl (hq:=ze rfl rfl TySz.h (List.Mem.head _) rfl) (h:=?_)
 refine TD.cl (pend':=[⟨8,[12],[(_,_)]⟩,⟨7,[3],[]⟩,⟨3,[3],[]⟩,⟨1,[3],[]⟩]) [5,7,9,10] rfl rfl rfl rfl rfl (zfe hT (c:=m.cloth) (k:=m.many) hb hs oQ oQ) (fun r1 K2 h3=>⟨?_,?_⟩)
 ·rcases h3 with ⟨rfl,rfl⟩
  all_goals simp
 obtain ⟨rfl,rfl⟩:=h3
 try simp only [List.cons_append,List.nil_append]
 refine TD.norm (by simp only [List.set]; rfl) ?_
 refine TD.z [11,13] rfl (q_cmp rfl rfl rfl rfl) ?_
 refine TD.as (pend':=[]) [14] rfl rfl (zj rfl rfl) ?_
 refine TD.fin ?_
 refine au [] ?_
 refine TK.rt hret [(jb,_),(js,_),(s,_)] ?_
 exact ⟨by simp [bne]; rfl,rfl⟩
theorem zex {main:Bool} {T:Goroutine->Hp->Prop} (hT:Shut Tryz.prog main T) {gm:Nat->Option Nat} {j:Nat} {xs:List RMeas} {et:TypeId} {f:AV} {Kc:KV} {p:RMeas->Bool} (hp:∀ x∈xs,CallFK Tryz.prog T gm f [.agg (measC x)] Kc (fun r K'=>r=boolA (p x)/\K'=Kc)) (hl:xs.length<=1000) :
  CallK Tryz.prog T gm 217 [.sl j 0 xs.length,f] ((j,.cells (xs.flatMap measC) et false)::Kc) (fun r K'=>(∃ n:Int,r=intA n/\decide (n>=0)=xs.any p)/\K'=(j,.cells (xs.flatMap measC) et false)::Kc):=by
 refine zf 19 hT Tryz.func217 fun Y hret=>?_
 refine au [4,5,2,3,4,4,5,1,28,1,3,13] ?_
 refine TK.maskL [0,1,7,8] ?_
 refine TK.loopN (fun n env K=>∃ (i:Nat),n=xs.length - i/\i<=xs.length/\(xs.take i).any p=false/\env=[.sl j 0 xs.length,f,.any,.any,.any,.any,.any,intA xs.length,intA i,.any,.any,.any,.any,.any,.any,.any,.any,.any,.any]/\K=((j,.cells (xs.flatMap measC) et false)::Kc)) xs.length ⟨0,rfl,Nat.zero_le _,by simp,rfl,rfl⟩ fun n env K hI hnext=>?_
 obtain ⟨i,rfl,hi,hn,rfl,rfl⟩:=hI
 refine au [4,5,6,3,4,20] ?_
 refine ⟨fun hc=>?_,fun hc=>?_⟩
 ·simp only [decide_eq_true_eq] at hc
  have hil:i<xs.length:=by omega
  obtain ⟨x,hx⟩:∃ x,xs[i]? =some x:=⟨_,List.getElem?_eq_getElem hil⟩
  refine au [12,4,13,4,5,1,2,3,4,5,1,1,1,36] ?_
  refine TK.a rfl (zx rfl rfl TySz.h mQ (xE (i:=i) hx rfl)) ?_
  refine TK.callF' rfl rfl rfl rfl rfl (hp x (List.mem_of_getElem? hx)) (.right (.all _)) fun r1 K2 h3=>?_
  obtain ⟨rfl,hK⟩:=h3
  refine au [] ?_
  rw [hK]
  refine TK.perm (K':=(j,_)::Kc) (List.perm_append_singleton _ _) ?_
  refine au [3,20] ?_
  refine ⟨fun hc1=>?_,fun hc1=>?_⟩
  ·refine au [4,5,1,2,3] ?_
   refine TK.rt hret (((j,_)::Kc)) ?_
   exact ⟨⟨i,rfl,by rw [decide_eq_true (Int.natCast_nonneg i),zhG hx hc1]⟩,rfl⟩
  refine au [12,14,5,23,1,3] ?_
  refine TK.maskL [0,1,7,8] ?_
  refine TK.kp (((j,_)::Kc)) ?_
  exact hnext _ _ _ oQ ⟨i+1,rfl,by omega,zfm hx hn hc1,rfl,rfl⟩
 simp only [decide_eq_false_iff_not] at hc
 obtain rfl:i=xs.length:=by omega
 refine au [16,4,5,2,3] ?_
 refine TK.rt hret (((j,_)::Kc)) ?_
 rw [List.take_length] at hn
 exact ⟨⟨-1,rfl,by rw [hn]; rfl⟩,rfl⟩
theorem zbp {main:Bool} {T:Goroutine->Hp->Prop} (hT:Shut Tryz.prog main T) {gm:Nat->Option Nat} {j:Nat} {xs:List RMeas} {et:TypeId} {f:AV} {Kc:KV} {p:RMeas->Bool} (hp:∀ x∈xs,CallFK Tryz.prog T gm f [.agg (measC x)] Kc (fun r K'=>r=boolA (p x)/\K'=Kc)) (hl:xs.length<=1000) :
  CallK Tryz.prog T gm 186 [.sl j 0 xs.length,f] ((j,.cells (xs.flatMap measC) et false)::Kc) (fun r K'=>r=boolA (xs.any p)/\K'=(j,.cells (xs.flatMap measC) et false)::Kc):=by
 refine zf 9 hT Tryz.func186 fun Y hret=>?_
 refine au [4,5,2,3,4,5,1,1] ?_
 refine TK.cl rfl rfl rfl rfl (zex hT hp hl) ?_ (hs:=(.all _))
 rintro r1 K2 ⟨⟨m,rfl,hm⟩,rfl⟩
 refine au [] ?_
 refine TK.perm (K':=(j,_)::Kc) (by rw [List.append_nil]) ?_
 refine au [6,2,3] ?_
 refine TK.rt hret (((j,_)::Kc)) ?_
 exact ⟨by rw [<- hm],rfl⟩
theorem zgi {main:Bool} {T:Goroutine->Hp->Prop} (hT:Shut Tryz.prog main T) {gm:Nat->Option Nat} {b:RBk} {s h e:Nat} {st:List Int} (hb:ROk b) (hs:StOk b st) :
  CallK Tryz.prog T gm 159 [.agg (rollC b s h e),.agg (stC st)] [(s,seamO b),(e,measO b)] (fun r K'=>r=boolA (rightM b st)/\K'=[(s,seamO b),(e,measO b)]):=by
 refine zf 11 hT Tryz.func159 fun Y hret=>?_
 refine au [4,5,21] ?_
 intro jb hjb
 refine au [21] ?_
 intro js hjs
 refine au [2,3,4,5,7,7,9,32] ?_
 refine TK.cl rfl rfl rfl rfl (zbp hT (p:=fun m => !decide (togM b st m.cloth.toNat m.many.toNat=m.wide)) (Kc:=[(jb,.cells (rollC b s h e) 113 true),(js,.cells (stC st) 129 true),(s,seamO b)]) (fun x hx=>zT Cal.h (zeZ hT hb hs hx)) (by have:=hb.mes.len; omega)) ?_ (hs:=(.rem (.tail (.tail (.tail .head))) (.rem (.tail .head) (.rem .head (.rem .head (.none _))))))
 rintro r1 K2 ⟨rfl,rfl⟩
 refine au [30,2,3] ?_
 refine TK.rt hret [(s,_),(e,_)] ?_
 exact ⟨by rw [ze1],rfl⟩
def YieldR (P:Program) (T:Goroutine->Hp->Prop) (gm:Nat->Option Nat) (b:RBk) (s h e l:Nat) (J:List (List Int)->KV->Prop) (D:KV->Prop) (tot:List (List Int)):Prop:=∀ (pre:List (List Int)) (S:List Int) (K1:KV),pre++[S] <+: tot->J pre K1 ->
 CallFK P T gm (.yl l) [.agg (stC S)] ((s,seamO b)::(h,shrO b)::(e,measO b)::K1) fun r K'=>∃ K2,K'=(s,seamO b)::(h,shrO b)::(e,measO b)::K2/\((r=boolA true/\J (pre++[S]) K2)\/(r=boolA false/\D K2))
structure ArrOk (b:RBk) (c p:List Int):Prop where
 len:c.length=5
 tk:c.take p.length=p
 z:∀ k,b.shrinks.length<=k->c.getD k 0=0
theorem zgE {b:RBk} {c p:List Int} {n:Int} (h:ArrOk b c p) (hp:p.length<b.shrinks.length) (h5:b.shrinks.length<=5):ArrOk b (c.set p.length n) (p++[n]):=by
 have hl:=h.len
 refine ⟨by simp [hl],?_,fun k hk=>?_⟩
 ·rw [List.length_append,List.length_singleton,List.take_add_one,List.getElem?_set_self oQ,List.take_set_of_le (Nat.le_refl _),h.tk]
  rfl
 ·rw [List.getD_eq_getElem?_getD,List.getElem?_set_ne oQ,<- List.getD_eq_getElem?_getD]
  exact h.z k hk
theorem zbe {b:RBk} {c p:List Int} {n:Int} (h:ArrOk b c (p++[n])):ArrOk b c p:=⟨h.len,by
 have:=congrArg (List.take p.length) h.tk
 rw [List.take_take,List.length_append,List.take_append_of_le_length (Nat.le_refl _),List.take_length] at this
 rw [Nat.min_eq_left sQ] at this
 exact this,h.z⟩
theorem zfZ (n hi:Int) (h:n<=hi):numsF n (hi+1 - n).toNat=n::numsF (n+1) (hi+1 - (n+1)).toNat:=by
 rw [show (hi+1 - n).toNat=(hi+1 - (n+1)).toNat+1 by omega]; rfl
theorem zfX (n hi:Int) (h:¬ n<=hi):numsF n (hi+1 - n).toNat=[]:=by
 rw [show (hi+1 - n).toNat=0 by omega]; rfl
theorem zb0 {f:Int->List (List Int)} {n hi:Int} {pre x:List (List Int)} (hn:n<=hi) (h:pre++(numsF n (hi+1 - n).toNat).flatMap f=x):(pre++f n)++(numsF (n+1) (hi+1 - (n+1)).toNat).flatMap f=x:=by
 rw [<- h,zfZ n hi hn,List.flatMap_cons,List.append_assoc]
theorem ziv (a b c d f g h:Nat×AObj) {R:KV}:([f,h]++a::b::c::d::g::R).Perm (a::b::c::d::f::g::h::R):=by
 have q1:([f,h]++a::b::c::d::g::R).Perm (a::b::c::d::g::R++[f,h]):=List.perm_append_comm
 have q2:((a::b::c::d::g::R)++[f,h]).Perm (a::b::c::d::([f,g,h]++R)):=by
  have q3:((g::R)++[f,h]).Perm ([f,g,h]++R):=by
   have q4:((g::R)++[f,h]).Perm (g::([f,h]++R)):=List.Perm.cons _ List.perm_append_comm
   exact q4.trans (List.Perm.swap _ _ _)
  exact (((q3.cons d).cons c).cons b).cons a
 exact q1.trans q2
theorem ziw {a b c d:Nat×AObj} {R:KV}:(d::c::b::a::R).Perm (a::c::b::d::R):=by
 have q1:(d::c::b::a::R).Perm (c::b::a::d::R):=(List.perm_middle (l₁:=[c,b,a])).symm
 have q2:(c::b::a::d::R).Perm (a::c::b::d::R):=List.perm_middle (l₁:=[c,b])
 exact q1.trans q2
instance:Cal Tryz.prog 130:=⟨by kernel_rfl⟩
instance:Cal Tryz.prog 158:=⟨by kernel_rfl⟩
instance:Cal Tryz.prog 159:=⟨by kernel_rfl⟩
instance:TySz Tryz.prog 207 false 1:=⟨by kernel_rfl⟩
instance:TySz Tryz.prog 208 false 1:=⟨by kernel_rfl⟩
instance:TyZA Tryz.prog 208 [.v (.nilFunc)]:=⟨by kernel_rfl⟩
theorem zhf {main:Bool} {T:Goroutine->Hp->Prop} (hT:Shut Tryz.prog main T) {gm:Nat->Option Nat} {b:RBk} {s h e l jb js jy jn:Nat} (hb:ROk b) {J:List (List Int)->KV->Prop} {D:KV->Prop} {tot:List (List Int)} (hy:YieldR Tryz.prog T gm b s h e l J D tot) :
  ∀ (m:Nat) (p c:List Int) (pre:List (List Int)) (K1:KV),b.shrinks.length - p.length=m->ArrOk b c p->PreB b p->pre++fromM b p (b.shrinks.drop p.length) <+: tot->J pre K1 ->
  CallK Tryz.prog T gm 158 [intA p.length,.ptr jb 0,.ptr js 0,.ptr jy 0,.ptr jn 0] ((jb,.cells (rollC b s h e) 113 true)::(js,.cells (c.map intA) 129 true)::(jy,.cells [.yl l] 207 true)::(jn,.cells [.fn 158 [] [.ptr jb 0,.ptr js 0,.ptr jy 0,.ptr jn 0]] 208 true)::(s,seamO b)::(h,shrO b)::(e,measO b)::K1) (fun r K'=>∃ (c':List Int) (K2:KV),ArrOk b c' p/\K'=(jb,.cells (rollC b s h e) 113 true)::(js,.cells (c'.map intA) 129 true)::(jy,.cells [.yl l] 207 true)::(jn,.cells [.fn 158 [] [.ptr jb 0,.ptr js 0,.ptr jy 0,.ptr jn 0]] 208 true)::(s,seamO b)::(h,shrO b)::(e,measO b)::K2/\((r=boolA true/\J (pre++fromM b p (b.shrinks.drop p.length)) K2)\/(r=boolA false/\D K2))):=by
 refine fun m=>Nat.strongRecOn m fun m ih=>?_
 intro p c pre K1 hm hc hp hpre hJ
 refine zf 49 hT Tryz.func158 fun Y hret=>?_
 have hcl:=hc.len
 have hle:=hp.1
 have hsl:=hb.cls.len
 have hs5:=hb.sms.len
 refine au [4,5,2,3,4,4,5,1,7,7,9,28,6,3,20] ?_
 refine ⟨fun hc0=>?_,fun hc0=>?_⟩
 ·have hpl:p.length=b.shrinks.length:=by simp at hc0; omega
  have hcp:c.map intA=stC p:=ziG hcl hpl (by rw [<- hpl]; exact hc.tk) hc.z
  rw [hcp]
  have hdn:b.shrinks.drop p.length=[]:=List.drop_eq_nil_of_le oQ
  have hst:StOk b p:=zbG hb ⟨hpl,fun i hi=>hp.2 i oQ⟩
  refine au [4,5,8,8] ?_
  refine TK.cl rfl rfl rfl rfl (zgi hT hb hst) ?_ (hs:=(.right (.right (.right (.right (.left (.right (.left (.none _)))))))))
  rintro r1 K2 ⟨rfl,rfl⟩
  refine au [] ?_
  refine TK.perm (K':=(jb,_)::(js,_)::(jy,_)::(jn,_)::(s,_)::(h,_)::(e,_)::K1) (ziv _ _ _ _ _ _ _) ?_
  refine au [30,1] ?_
  refine TK.sp 18 (fun g2_5=>?_) (fun g2_5=>?_)
  ·have hfr:fromM b p (b.shrinks.drop p.length)=[]:=by rw [hdn]; unfold fromM; rw [if_neg (by simpa using g2_5)]
   refine au [11,11,11,26,2,3] ?_
   refine TK.rt hret (_) ?_ (hs:=(.all _))
   exact ⟨c,K1,hc,by rw [hcp],.inl ⟨rfl,by rw [hfr]; simpa using hJ⟩⟩
  have hfr:fromM b p (b.shrinks.drop p.length)=[p]:=by rw [hdn]; unfold fromM; rw [if_pos (by simpa using g2_5)]
  refine au [9,8] ?_
  refine TK.callF' rfl rfl rfl rfl rfl (hy pre p K1 (by rw [<- hfr]; exact hpre) hJ) (.right (.right (.right (.right (.all _))))) fun r4 K5 h6=>?_
  rcases h6 with ⟨K2,rfl,⟨rfl,hJ2⟩ | ⟨rfl,hD⟩⟩
  ·refine au [] ?_
   refine TK.perm (K':=(jb,_)::(js,_)::(jy,_)::(jn,_)::(s,_)::(h,_)::(e,_)::K2) (List.perm_append_comm (l₁:=(s,_)::(h,_)::(e,_)::K2)) ?_
   refine au [25,2,3] ?_
   refine TK.rt hret (_) ?_ (hs:=(.all _))
   exact ⟨c,K2,hc,by rw [hcp],.inl ⟨rfl,by rw [hfr]; exact hJ2⟩⟩
  ·refine au [] ?_
   refine TK.perm (K':=(jb,_)::(js,_)::(jy,_)::(jn,_)::(s,_)::(h,_)::(e,_)::K2) (List.perm_append_comm (l₁:=(s,_)::(h,_)::(e,_)::K2)) ?_
   refine au [25,2,3] ?_
   refine TK.rt hret (_) ?_ (hs:=(.all _))
   exact ⟨c,K2,hc,by rw [hcp],.inr ⟨rfl,hD⟩⟩
 have hlt:p.length<b.shrinks.length:=by simp at hc0; omega
 have hbd:=hb.cls.bnd p.length oQ
 have hdc:b.shrinks.drop p.length=bd b p.length::b.shrinks.drop (p.length+1):=zl (yA hlt)
 have hfr:fromM b p (b.shrinks.drop p.length)=(numsF (bd b p.length).low ((bd b p.length).high+1 - (bd b p.length).low).toNat).flatMap fun n=>fromM b (p++[n]) (b.shrinks.drop (p.length+1)):=by rw [hdc]; rfl
 refine au [12,4,4,5,7,7,9,1,36,7] ?_
 refine TK.a rfl (ze rfl rfl TySz.h mQ (zG (c:=0) (bd_at b hlt rfl) dQ rfl)) ?_
 refine au [2,3,13] ?_
 refine TK.maskL [0,1,2,3,4,6,7] ?_
 refine TK.loopN (fun n1 env K=>∃ (n:Int) (c1:List Int) (pre1:List (List Int)) (K2:KV),n1=((bd b p.length).high+1 - n).toNat/\((bd b p.length).low<=n/\n<=(bd b p.length).high+1)/\ArrOk b c1 p/\J pre1 K2/\pre1++(numsF n ((bd b p.length).high+1 - n).toNat).flatMap (fun n=>fromM b (p++[n]) (b.shrinks.drop (p.length+1)))=pre++fromM b p (b.shrinks.drop p.length)/\env=[intA p.length,.ptr jb 0,.ptr js 0,.ptr jy 0,.ptr jn 0,.any,boolA false,intA n,.any,.any,.any,.any,.any,.any,.any,.any,.any,.any,.any,.any,.any,.any,.any,.any,.any,.any,.any,.any,.any,.any,.any,.any,.any,.any,.any,.any,.any,.any,.any,.any,.any,.any,.any,.any,.any,.any,.any,.any,.any]/\K=(jb,.cells (rollC b s h e) 113 true)::(js,.cells (c1.map intA) 129 true)::(jy,.cells [.yl l] 207 true)::(jn,.cells [.fn 158 [] [.ptr jb 0,.ptr js 0,.ptr jy 0,.ptr jn 0]] 208 true)::(s,seamO b)::(h,shrO b)::(e,measO b)::K2) _ ⟨(bd b p.length).low,c,pre,K1,rfl,by omega,hc,hJ,by rw [hfr],rfl,rfl⟩ fun n1 env K hI hnext=>?_
 obtain ⟨n,c1,pre1,K2,rfl,hn,hc1a,hJ1,hEq,rfl,rfl⟩:=hI
 have hc1l:=hc1a.len
 refine au [4,4,5,1,7,7,9,1,36,7] ?_
 refine TK.a rfl (ze rfl rfl TySz.h mQ (zG (c:=1) (bd_at b hlt rfl) dQ rfl)) ?_
 refine au [6,3,20] ?_
 refine ⟨fun hc1=>?_,fun hc1=>?_⟩
 ·have hnh:n<=(bd b p.length).high:=of_decide_eq_true hc1
  refine au [12,4,13,4,5,1,1] ?_
  refine TK.a rfl (kS rfl rfl rfl ArEl.h oQ oQ) ?_
  refine TK.st rfl rfl rfl (zt rfl rfl TySz.h rfl rfl mQ (vD (k:=p.length) oQ rfl)) uQ (putN rfl) ?_
  refine au [3,4,5,9,1,23] ?_
  refine TK.cl rfl rfl rfl rfl ((by have:=ih (b.shrinks.length - (p.length+1)) oQ (p++[n]) (c1.set p.length n) pre1 K2 sQ (zgE hc1a hlt oQ) (xc hp hlt hn.1 hnh) (List.IsPrefix.trans ⟨_,by rw [List.length_append]; exact zb0 hnh hEq⟩ hpre) hJ1; rw [List.length_append] at this; exact this)) ?_ (hs:=(.all _))
  rintro r7 K8 h9
  rcases h9 with ⟨c2,K3,hc2,rfl,⟨rfl,hJ3⟩ | ⟨rfl,hD⟩⟩
  ·refine au [] ?_
   refine TK.perm (K':=(jb,.cells (rollC b s h e) 113 true)::(js,.cells (c2.map intA) 129 true)::(jy,.cells [.yl l] 207 true)::(jn,.cells [.fn 158 [] [.ptr jb 0,.ptr js 0,.ptr jy 0,.ptr jn 0]] 208 true)::(s,seamO b)::(h,shrO b)::(e,measO b)::K3) (by rw [List.append_nil]) ?_
   refine au [30,3,19,12,14,5,1,23,2,3] ?_
   refine TK.maskL [0,1,2,3,4,6,7] ?_
   exact hnext _ _ _ oQ ⟨n+1,c2,_,K3,rfl,by omega,zbe hc2,hJ3,zb0 hnh hEq,rfl,rfl⟩
  ·refine au [] ?_
   refine TK.perm (K':=(jb,.cells (rollC b s h e) 113 true)::(js,.cells (c2.map intA) 129 true)::(jy,.cells [.yl l] 207 true)::(jn,.cells [.fn 158 [] [.ptr jb 0,.ptr js 0,.ptr jy 0,.ptr jn 0]] 208 true)::(s,seamO b)::(h,shrO b)::(e,measO b)::K3) (by rw [List.append_nil]) ?_
   refine au [30,3,18,4,5,2,3] ?_
   refine TK.rt hret (_) ?_ (hs:=(.all _))
   exact ⟨c2,K3,zbe hc2,rfl,.inr ⟨rfl,hD⟩⟩
 refine au [16,4,5,2,3] ?_
 refine TK.rt hret (_) ?_ (hs:=(.all _))
 exact ⟨c1,K2,hc1a,rfl,.inl ⟨rfl,by rw [<- hEq,zfX _ _ (of_decide_eq_false hc1)]; simpa using hJ1⟩⟩
theorem zfa {main:Bool} {T:Goroutine->Hp->Prop} (hT:Shut Tryz.prog main T) {gm:Nat->Option Nat} {b:RBk} {s h e l:Nat} (hb:ROk b) {J:List (List Int)->KV->Prop} {D:KV->Prop} {K1:KV} (hy:YieldR Tryz.prog T gm b s h e l J D (statesM b)) (hJ:J [] K1) :
  CallK Tryz.prog T gm 130 [.agg (rollC b s h e),.yl l] ((s,seamO b)::(h,shrO b)::(e,measO b)::K1) (fun _ K'=>∃ K2,K'=(s,seamO b)::(h,shrO b)::(e,measO b)::K2/\(J (statesM b) K2\/D K2)):=by
 refine zf 9 hT Tryz.func130 fun Y hret=>?_
 refine au [] ?_
 have hs5:=hb.sms.len
 have hsl:=hb.cls.len
 refine au [4,5,21] ?_
 intro jb hjb
 refine au [21] ?_
 intro jy hjy
 refine au [3,4,5,22] ?_
 intro js hjs
 refine au [3,4,5,22] ?_
 intro jn hjn
 refine au [3,4,5,32,17,3] ?_
 refine TK.perm (K':=(jb,.cells (rollC b s h e) 113 true)::(js,.cells ([0,0,0,0,0].map intA) 129 true)::(jy,.cells [.yl l] 207 true)::(jn,.cells [.fn 158 [] [.ptr jb 0,.ptr js 0,.ptr jy 0,.ptr jn 0]] 208 true)::(s,seamO b)::(h,shrO b)::(e,measO b)::K1) ziw ?_
 refine au [5,9] ?_
 refine TK.cl rfl rfl rfl rfl (zhf hT hb hy _ [] [0,0,0,0,0] [] K1 rfl ⟨rfl,rfl,fun k hk=>by rw [List.getD_eq_getElem?_getD]; rcases k with _ | _ | _ | _ | _ | k <;> rfl⟩ (zae b) (List.prefix_refl _) hJ) ?_ (hs:=(.all _))
 rintro r1 K2 h3
 rcases h3 with ⟨c2,K2,hc2,rfl,⟨rfl,hJ2⟩ | ⟨rfl,hD⟩⟩
 ·refine au [] ?_
  refine TK.perm (K':=(jb,.cells (rollC b s h e) 113 true)::(js,.cells (c2.map intA) 129 true)::(jy,.cells [.yl l] 207 true)::(jn,.cells [.fn 158 [] [.ptr jb 0,.ptr js 0,.ptr jy 0,.ptr jn 0]] 208 true)::(s,seamO b)::(h,shrO b)::(e,measO b)::K2) (by rw [List.append_nil]) ?_
  refine au [3] ?_
  refine TK.rt0 hret (_) ?_ (hs:=(.right (.right (.right (.right (.all _))))))
  exact ⟨_,rfl,.inl hJ2⟩
 ·refine au [] ?_
  refine TK.perm (K':=(jb,.cells (rollC b s h e) 113 true)::(js,.cells (c2.map intA) 129 true)::(jy,.cells [.yl l] 207 true)::(jn,.cells [.fn 158 [] [.ptr jb 0,.ptr js 0,.ptr jy 0,.ptr jn 0]] 208 true)::(s,seamO b)::(h,shrO b)::(e,measO b)::K2) (by rw [List.append_nil]) ?_
  refine au [3] ?_
  refine TK.rt0 hret (_) ?_ (hs:=(.right (.right (.right (.right (.all _))))))
  exact ⟨_,rfl,.inr hD⟩
theorem zb1 (a b c d:Nat×AObj) {R:KV}:(a::b::c::d::R).Perm (b::c::d::a::R):=(List.perm_middle (l₁:=[b,c,d])).symm
theorem perm_4' (a b c d:Nat×AObj) {R:KV}:(b::c::d::a::R).Perm (a::b::c::d::R):=List.perm_middle (l₁:=[b,c,d])
theorem Kstep.perm {K K' K'':KV} {A A':List AObj} (h:Kstep K A K' A') (hp:K'.Perm K''):Kstep K A K'' A' :=
 ⟨h.view.sub fun x hx=>hp.symm.subset hx,(zr hp).nodup_iff.1 h.nd,fun i hi=>h.own i ((zr hp).symm.subset hi),h.kept,h.len⟩
theorem CallFK.perm {P:Program} {T:Goroutine->Hp->Prop} {gm:Nat->Option Nat} {yv:AV} {args:List AV} {K:KV} {Post Post':AV->KV->Prop} (h:CallFK P T gm yv args K Post) (hp:∀ r K',Post r K'->∃ K'',K'.Perm K''/\Post' r K''):CallFK P T gm yv args K Post' :=
 fun A hv hn=>(h A hv hn).mono fun r A' ⟨K',h1,h2⟩=>let ⟨K'',h3,h4⟩:=hp r K' h2; ⟨K'',h1.perm h3,h4⟩
section
variable {main:Bool} {T:Goroutine->Hp->Prop} {gm:Nat->Option Nat} {Y:KX Tryz.prog gm T} {ds:List Nat} {k:List Item} {env:List AV} {K K0 R:KV}
theorem TK.rangeStates (hT:Shut Tryz.prog main T) {fo:Operand} {ps:Array Tmp} {x y:Code} {b:RBk} {s h e:Nat} (hb:ROk b) {J:List (List Int)->KV->Prop} {D:Code->KV->Prop} (hps:ps.size=1) (hro:Y.X.ro=none) (hf:opndO gm env fo=some (.fn 130 [.agg (rollC b s h e)] [])) (hs:Split K ((s,seamO b)::(h,shrO b)::(e,measO b)::K0) R) (hJ0:J [] K0)
  (round:∀ (Y':KX Tryz.prog gm T) (l:Nat) (lo lb:AObj) (pre:List (List Int)) (S:List Int) (K1:KV),(∀ ds k env' K K',Upd K l lo l lb K'->TK Y' ds k env' K'->TK Y' ds (.beginRound::k) env' K) ->
   (∀ env' K' K2 D',Split K' ((l,lb)::(s,seamO b)::(h,shrO b)::(e,measO b)::K2) D'->J (pre++[S]) K2->TK Y' [] [] env' K') ->
   (∀ c k env' K' K2 D',Leave (some c) k->Split K' ((l,lb)::(s,seamO b)::(h,shrO b)::(e,measO b)::K2) D'->D c K2->TK Y' [] k env' K') ->
   pre++[S] <+: statesM b->J pre K1->TK Y' [] [.code x,.beginRound,.code y] (putAll env (ps.toList.zip [.agg (stC S)])) ((l,lo)::(s,seamO b)::(h,shrO b)::(e,measO b)::K1))
  (hend:∀ d K2,J (statesM b) K2->TK Y (d::ds) k env ((d,.raw (.deferred (some [])))::(s,seamO b)::(h,shrO b)::(e,measO b)::(K2++R)))
  (hstop:∀ d c K2,D c K2->TK Y (d::ds) (.code c::k) env ((d,.raw (.deferred (some [])))::(s,seamO b)::(h,shrO b)::(e,measO b)::(K2++R))):TK Y ds (.code (.rangeFunc fo ps x y)::k) env K:=by
 refine TK.rangeFunc (Post:=fun l _ K'=>∃ st pj K2,K'=(l,.loop Y.X.f env ps x y st pj)::(s,seamO b)::(h,shrO b)::(e,measO b)::K2/\((st=.ready/\pj=none/\J (statesM b) K2)\/∃ c,st=.done/\pj=some c/\D c K2))
  (Q:=fun pj K'=>∃ K2,K'=(s,seamO b)::(h,shrO b)::(e,measO b)::K2/\((pj=none/\J (statesM b) K2)\/∃ c,pj=some c/\D c K2)) hro hf Cal.h hs (fun l hl=>?_) ?_ ?_
 ·intro A hv hn
  have hp:((l,AObj.loop Y.X.f env ps x y .ready none)::(s,seamO b)::(h,shrO b)::(e,measO b)::K0).Perm ((s,seamO b)::(h,shrO b)::(e,measO b)::(l,.loop Y.X.f env ps x y .ready none)::K0):=zb1 _ _ _ _
  refine CallT.mono (zfa hT hb (l:=l) (J:=fun pre K=>∃ K3,K=(l,.loop Y.X.f env ps x y .ready none)::K3/\J pre K3) (D:=fun K=>∃ c K3,K=(l,.loop Y.X.f env ps x y .done (some c))::K3/\D c K3) ?_ ⟨K0,rfl,hJ0⟩ A (hv.sub fun x hx=>hp.symm.subset hx) ((zr hp).nodup_iff.1 hn)) ?_
  ·rintro pre S K1 hpre ⟨K3,rfl,hJ⟩
   refine CallFK.perm (Post:=fun r K'=>(r=boolA true/\∃ K2,K'=(l,.loop Y.X.f env ps x y .ready none)::(s,seamO b)::(h,shrO b)::(e,measO b)::K2/\J (pre++[S]) K2)\/(r=boolA false/\∃ c K2,K'=(l,.loop Y.X.f env ps x y .done (some c))::(s,seamO b)::(h,shrO b)::(e,measO b)::K2/\D c K2)) ?_ ?_
   ·refine zef hT (i:=l) (f:=Y.X.f) (env:=env) (ps:=ps) (x:=x) (y:=y) sQ hps.symm fun Y' hro' hl' hret=>?_
    refine TK.perm (perm_4' _ _ _ _) ?_
    refine round Y' l (.loop Y.X.f env ps x y .ready none) (.loop Y.X.f env ps x y .busy none) pre S K3 (fun ds k env' K K' hu h=>TK.beginRound hro' hl' hu h) (fun env' K' K2 D' hsp hJ'=>?_) (fun c k env' K' K2 D' hlv hsp hD=>?_) hpre hJ
    ·exact TK.leave .fin fun A hA=>hret none env' K' ((s,seamO b)::(h,shrO b)::(e,measO b)::K2) D' .busy none hsp (.inl ⟨rfl,K2,rfl,hJ'⟩) A hA
    ·exact TK.leave hlv fun A hA=>hret (some c) env' K' ((s,seamO b)::(h,shrO b)::(e,measO b)::K2) D' .busy none hsp (.inr ⟨rfl,c,K2,rfl,hD⟩) A hA
   ·rintro r K' (⟨rfl,K2,rfl,h⟩ | ⟨rfl,c,K2,rfl,h⟩)
    ·exact ⟨_,zb1 _ _ _ _,_,rfl,.inl ⟨rfl,K2,rfl,h⟩⟩
    ·exact ⟨_,zb1 _ _ _ _,_,rfl,.inr ⟨rfl,c,K2,rfl,h⟩⟩
  ·rintro r A' ⟨K',hk,K2,rfl,hx⟩
   have hk2:∀ K'',((s,seamO b)::(h,shrO b)::(e,measO b)::K2).Perm K''->Kstep ((l,AObj.loop Y.X.f env ps x y .ready none)::(s,seamO b)::(h,shrO b)::(e,measO b)::K0) A K'' A':=fun K'' hp2 =>
    Kstep.perm ⟨hk.view,hk.nd,fun i hi=>(hk.own i hi).imp_left fun h=>(zr hp).symm.subset h,fun j h1 h2=>hk.kept j h1 fun h=>h2 ((zr hp).symm.subset h),hk.len⟩ hp2
   rcases hx with ⟨K3,rfl,h⟩ | ⟨c,K3,rfl,h⟩
   ·exact ⟨_,hk2 _ (perm_4' _ _ _ _),.ready,none,K3,rfl,.inl ⟨rfl,rfl,h⟩⟩
   ·exact ⟨_,hk2 _ (perm_4' _ _ _ _),.done,some c,K3,rfl,.inr ⟨c,rfl,rfl,h⟩⟩
 ·rintro l r K' ⟨st,pj,K2,rfl,h⟩
  refine ⟨st,pj,_,rfl,?_,K2,rfl,?_⟩
  ·rcases h with ⟨rfl,_⟩ | ⟨c,rfl,_⟩ <;> rfl
  ·rcases h with ⟨_,rfl,h⟩ | ⟨c,_,rfl,h⟩
   ·exact .inl ⟨rfl,h⟩
   ·exact .inr ⟨c,rfl,h⟩
 ·rintro d pj K' ⟨K2,rfl,⟨rfl,h⟩ | ⟨c,rfl,h⟩⟩
  ·exact hend d K2 h
  ·exact hstop d c K2 h
end
theorem zbP (n:Int):∀ k,(numsF n k).length=k
 | 0=>rfl
 | k+1=>by unfold numsF; rw [List.length_cons,zbP (n+1) k]
theorem zbv {b:RBk}:∀ (r:List RBand) (p:List Int),(∀ x∈r,(numsM x).length<=3)->(fromM b p r).length<=3 ^ r.length
 | [],p,_=>by unfold fromM; split <;> simp
 | x::r,p,h=>by
  unfold fromM
  have h1:=h x sQ
  have key:∀ (l:List Int),(l.flatMap fun n=>fromM b (p++[n]) r).length<=l.length*3 ^ r.length:=fun l=>by
   induction l with
   | nil=>simp
   | cons a l ih =>
    rw [List.flatMap_cons,List.length_append,List.length_cons,Nat.succ_mul]
    have:=zbv (b:=b) r (p++[a]) fun y hy=>h y (by simp [hy])
    omega
  have h2:=key (numsM x)
  have h3:(numsM x).length*3 ^ r.length<=3*3 ^ r.length:=Nat.mul_le_mul_right _ h1
  rw [List.length_cons,Nat.pow_succ]
  omega
theorem yF {b:RBk} (hb:ROk b):(statesM b).length<=243:=by
 have h1:=zbv (b:=b) b.shrinks [] fun x hx=>by
  obtain ⟨i,hi,rfl⟩:=List.mem_iff_getElem.1 hx
  have hi2:i<b.seams.length:=by have:=hb.cls.len; omega
  have e:b.shrinks[i]=bd b i:=by have:=yA (b:=b) hi; rw [List.getElem?_eq_getElem hi] at this; exact Option.some.inj this
  have:=hb.cls.bnd i hi2
  unfold numsM
  rw [zbP,e]
  omega
 have h2:3 ^ b.shrinks.length<=3 ^ 5:=Nat.pow_le_pow_right dQ (by have:=hb.cls.len; have:=hb.sms.len; omega)
 exact Nat.le_trans h1 h2
theorem zhp {b:RBk} (hb:ROk b) {pre:List (List Int)} (h:pre <+: statesM b):pre.length<=243:=Nat.le_trans h.length_le (yF hb)
theorem ym {α:Type} (f:α->List AV) (xs:List α) (x:α):(xs++[x]).flatMap f=xs.flatMap f++f x:=by rw [List.flatMap_append]; simp
abbrev allO (all:List (List Int)):AObj:=.cells (all.flatMap stC) 129 false
def knownC (b:RBk) (s h e a n:Nat):List AV:=[intA b.steps,intA b.round,intA b.roll,intA b.rolls,.sl s 0 b.seams.length,.sl h 0 b.shrinks.length,.sl e 0 b.measures.length,.sl a 0 n]
def z8R:List AV:=[intA 0,intA 0,intA 0,intA 0,.v (.slice none 0 0),.v (.slice none 0 0),.v (.slice none 0 0),.v (.slice none 0 0)]
theorem yZ {x y:Int} (h:bar2 x y=0):x=0:=by
 unfold bar2 at h
 split at h
 ·rename_i h1; exact absurd h h1
 ·rename_i h1; simpa using h1
def KnownR (b:RBk) (s h e:Nat) (bar:Int) (K:KV) (r:AV) (K':KV):Prop :=
 (bar≠0/\r=.tup [.agg z8R,intA bar]/\K'=K)\/(bar=0/\statesM b=[]/\r=.tup [.agg z8R,intA 9]/\K'=K)\/(bar=0/\statesM b≠[]/\∃ a,r=.tup [.agg (knownC b s h e a (statesM b).length),intA 0]/\K'=(a,allO (statesM b))::K)
theorem zdi (a b c d e f:Nat×AObj) {R:KV}:((c::d::e::f::R)++[a,b]).Perm (c::d::e::f::a::b::R):=by
 have q:(R++[a,b]).Perm ([a,b]++R):=List.perm_append_comm
 exact (((q.cons f).cons e).cons d).cons c
theorem zdj (a b c d e f g:Nat×AObj) {R:KV}:((g::c::d::e::f::R)++[a,b]).Perm (g::c::d::e::f::a::b::R):=by
 have q:(R++[a,b]).Perm ([a,b]++R):=List.perm_append_comm
 exact ((((q.cons f).cons e).cons d).cons c).cons g
instance:ApOf Tryz.prog 137 129 5 40:=⟨by kernel_rfl⟩
instance:BlOf Tryz.prog 139 [(0,7),(7,1)]:=⟨by kernel_rfl⟩
instance:Cal Tryz.prog 148:=⟨by kernel_rfl⟩
instance:Cal Tryz.prog 164:=⟨by kernel_rfl⟩
instance:Cal Tryz.prog 90:=⟨by kernel_rfl⟩
instance:FldOf Tryz.prog 139 1 7 false 1:=⟨by kernel_rfl⟩
instance:SlEl Tryz.prog 137 129 5:=⟨by kernel_rfl⟩
instance:TySz Tryz.prog 137 false 1:=⟨by kernel_rfl⟩
instance:TyZ Tryz.prog 129 [.int .i64 0,.int .i64 0,.int .i64 0,.int .i64 0,.int .i64 0]:=⟨by kernel_rfl⟩
instance:TyZ Tryz.prog 139 [.int .i64 0,.int .i64 0,.int .i64 0,.int .i64 0,.slice none 0 0,.slice none 0 0,.slice none 0 0,.slice none 0 0]:=⟨by kernel_rfl⟩
instance:TyZA Tryz.prog 139 [.v (.int .i64 0),.v (.int .i64 0),.v (.int .i64 0),.v (.int .i64 0),.v (.slice none 0 0),.v (.slice none 0 0),.v (.slice none 0 0),.v (.slice none 0 0)]:=⟨by kernel_rfl⟩
instance:TyZA Tryz.prog 4 [.v (.bool false)]:=⟨by kernel_rfl⟩
instance:Und Tryz.prog 137 (.slice 129):=⟨by kernel_rfl⟩
theorem zdr {main:Bool} {T:Goroutine->Hp->Prop} (hT:Shut Tryz.prog main T) {gm:Nat->Option Nat} {b:RBk} {s h e:Nat} (hb:ROk b) :
  CallK Tryz.prog T gm 115 [.agg (rollC b s h e)] [(s,seamO b),(h,shrO b),(e,measO b)] (fun r K'=>r=boolA (!(statesM b).isEmpty)/\K'=[(s,seamO b),(h,shrO b),(e,measO b)]):=by
 refine w8 6 hT Tryz.func115 fun Y hro hret=>?_
 refine au [4,5,21] ?_
 intro jb hjb
 refine au [22] ?_
 intro jr hjr
 refine au [3,4,4,5,8,32,3,13] ?_
 refine TK.rangeStates hT hb (s:=s) (h:=h) (e:=e) (J:=fun pre K1=>K1=[(jr,.cells [boolA false] 4 true),(jb,.cells (rollC b s h e) 113 true)]/\pre=[]) (D:=fun c K1=>c=.ret/\statesM b≠[]/\K1=[(jr,.cells [boolA true] 4 true),(jb,.cells (rollC b s h e) 113 true)]) rfl hro rfl (by repeat (first | exact Split.none _ | exact Split.all _ | (apply Split.rem; repeat (first | exact Rem.head | apply Rem.tail)) | apply Split.right)) ⟨rfl,rfl⟩ (fun Y' l lo lb pre S K1 hbegin hfin hout hpre hJ=>?_) (fun d K2 hJ=>?_) (fun d c K2 hD=>?_)
 ·obtain ⟨rfl,rfl⟩:=hJ
  refine au [12] ?_
  refine hbegin _ _ _ _ _ uQ ?_
  refine au [13,4,5,17,3] ?_
  exact hout _ _ _ _ [(jr,_),(jb,_)] _ (.ret _) (by repeat (first | exact Split.none _ | exact Split.all _ | (apply Split.rem; repeat (first | exact Rem.head | apply Rem.tail)) | apply Split.right)) ⟨rfl,fun e=>by rw [e] at hpre; exact absurd hpre.length_le sQ,rfl⟩
 ·obtain ⟨rfl,hJ⟩:=hJ
  simp only [List.cons_append,List.nil_append]
  refine au [14,4,5,17,3] ?_
  refine TK.leave (.ret _) fun A hA=>hret _ _ _ _ ([(s,_),(h,_),(e,_),(jr,_)]) ([(s,_),(h,_),(e,_)]) _ _ _ (.inr rfl) (by repeat (first | exact Split.none _ | exact Split.all _ | (apply Split.rem; repeat (first | exact Rem.head | apply Rem.tail)) | apply Split.right)) sQ sQ (by repeat (first | exact Split.none _ | exact Split.all _ | (apply Split.rem; repeat (first | exact Rem.head | apply Rem.tail)) | apply Split.right)) (zX (yf rfl TySz.h mQ rfl)) ?_ A hA
  exact ⟨by rw [hJ]; rfl,rfl⟩
 ·obtain ⟨rfl,hD,rfl⟩:=hD
  simp only [List.cons_append,List.nil_append]
  refine au [] ?_
  refine TK.leave (.ret _) fun A hA=>hret _ _ _ _ ([(s,_),(h,_),(e,_),(jr,_)]) ([(s,_),(h,_),(e,_)]) _ _ _ (.inr rfl) (by repeat (first | exact Split.none _ | exact Split.all _ | (apply Split.rem; repeat (first | exact Rem.head | apply Rem.tail)) | apply Split.right)) sQ sQ (by repeat (first | exact Split.none _ | exact Split.all _ | (apply Split.rem; repeat (first | exact Rem.head | apply Rem.tail)) | apply Split.right)) (zX (yf rfl TySz.h mQ rfl)) ?_ A hA
  exact ⟨by cases hh:statesM b with | nil=>exact absurd hh hD | cons x r=>rfl,rfl⟩
theorem zbc {main:Bool} {T:Goroutine->Hp->Prop} (hT:Shut Tryz.prog main T) {gm:Nat->Option Nat} {b:RBk} {s h e:Nat} (hb:ROk b) :
  CallK Tryz.prog T gm 164 [.v (.slice none 0 0),.fn 130 [.agg (rollC b s h e)] []] [(s,seamO b),(h,shrO b),(e,measO b)] (fun r K'=>∃ j,r=.row j (statesM b).length/\K'=[(s,seamO b),(h,shrO b),(e,measO b),(j,.row ((statesM b).flatMap stC) 129 5)]):=by
 refine w8 13 hT Tryz.func164 fun Y hro hret=>?_
 refine au [4,5,21] ?_
 intro jl hjl
 refine TK.virtAt (i:=0) (e:=129) (size:=5) rfl (fun _=>uQ) fun j0 hj0=>?_
 refine au [2,3,4,4,5,1,3,13] ?_
 refine TK.rangeStates hT hb (s:=s) (h:=h) (e:=e) (J:=fun pre K1=>∃ j,K1=[(jl,.cells [.row j pre.length] 137 true),(j,.row (pre.flatMap stC) 129 5)]) (D:=fun _ _=>False) rfl hro rfl (by repeat (first | exact Split.none _ | exact Split.all _ | (apply Split.rem; repeat (first | exact Rem.head | apply Rem.tail)) | apply Split.right)) ⟨j0,rfl⟩ (fun Y' l lo lb pre S K1 hbegin hfin hout hpre hJ=>?_) (fun d K2 hJ=>?_) (fun d c K2 hD=>?_)
 ·obtain ⟨j,rfl⟩:=hJ
  have hpl:=zhp hb ((List.prefix_append _ _).trans hpre)
  have hfl:=zS stC 5 (fun _=>rfl) pre
  refine au [5,22] ?_
  intro j5 hj5
  refine au [17,3] ?_
  refine hbegin _ _ _ _ _ uQ ?_
  refine au [13,5,9,8] ?_
  refine TK.newR rfl rfl rfl (zg (l:=[_,_,_,_,_]) rfl SlEl.h TyZ.h dQ dQ rfl) (fun _=>putS rfl (by simp only [List.set]; rfl)) fun j1 hj1=>?_
  refine TK.appR rfl rfl rfl (a_app rfl ApOf.h rfl mQ oQ rfl (zL (ln:=[_,_,_,_,_]) mQ dQ sQ rfl) oQ rfl (by unfold maxLen; omega) oQ) (fun _=>uQ) (fun _=>putS rfl (by simp only [List.set]; rfl)) fun j2=>?_
  refine au [17,3,14] ?_
  exact hfin _ _ [(jl,_),(j2,_)] _ (by repeat (first | exact Split.none _ | exact Split.all _ | (apply Split.rem; repeat (first | exact Rem.head | apply Rem.tail)) | apply Split.right)) ⟨j2,by rw [ym,List.length_append] <;> rfl⟩
 ·obtain ⟨j,rfl⟩:=hJ
  simp only [List.cons_append,List.nil_append]
  refine au [14,4,5,9,2,3] ?_
  refine TK.leave (.ret _) fun A hA=>hret _ _ _ _ ([(s,_),(h,_),(e,_),(j,_)]) ([(s,_),(h,_),(e,_),(j,_)]) _ _ _ (.inr rfl) (by repeat (first | exact Split.none _ | exact Split.all _ | (apply Split.rem; repeat (first | exact Rem.head | apply Rem.tail)) | apply Split.right)) sQ sQ (by repeat (first | exact Split.none _ | exact Split.all _ | (apply Split.rem; repeat (first | exact Rem.head | apply Rem.tail)) | apply Split.right)) (zX (zu rfl)) ?_ A hA
  exact ⟨j,rfl,rfl⟩
 ·exact hD.elim
theorem wB {main:Bool} {T:Goroutine->Hp->Prop} (hT:Shut Tryz.prog main T) {gm:Nat->Option Nat} {b:RBk} {s h e:Nat} (hb:ROk b) :
  CallK Tryz.prog T gm 148 [.fn 130 [.agg (rollC b s h e)] []] [(s,seamO b),(h,shrO b),(e,measO b)] (fun r K'=>∃ j,r=.row j (statesM b).length/\K'=[(s,seamO b),(h,shrO b),(e,measO b),(j,.row ((statesM b).flatMap stC) 129 5)]):=by
 refine zf 5 hT Tryz.func148 fun Y hret=>?_
 refine au [4,5,2,3,4,5,1] ?_
 refine TK.cl rfl rfl rfl rfl (zbc hT hb) ?_
 rintro r1 K2 ⟨j,rfl,rfl⟩
 refine au [2,3] ?_
 refine TK.rt hret [(s,_),(h,_),(e,_),(j,_)] ?_
 exact ⟨j,rfl,rfl⟩
theorem kJ {main:Bool} {T:Goroutine->Hp->Prop} (hT:Shut Tryz.prog main T)  {b:RBk} {s h e:Nat} {Kx:KV}  (hl:b.seams.length<=100) (hm:b.measures.length<=100) :
  CallK Tryz.prog T gmR 107 [.agg (rollC b s h e),.v (.slice none 0 0)] ((0,checksG)::(s,seamO b)::(h,shrO b)::(e,measO b)::Kx) (fun r K'=>KnownR b s h e (checkM b) ((0,checksG)::(s,seamO b)::(h,shrO b)::(e,measO b)::Kx) r K'):=by
 refine zf 30 hT Tryz.func107 fun Y hret=>?_
 refine au [4,5,21] ?_
 intro jb hjb
 refine au [22] ?_
 intro jr hjr
 refine au [2,3,4,5,8,1] ?_
 refine TK.cl rfl rfl rfl rfl (vT hT hl hm) ?_ (hs:=(.right (.right (.all _))))
 rintro r1 K2 h3
 rcases h3 with ⟨⟨hbar,rfl⟩ | ⟨hbar,rfl⟩,rfl⟩
 ·refine au [] ?_
  refine TK.perm (K':=(0,_)::(s,_)::(h,_)::(e,_)::(jr,_)::(jb,_)::Kx) (zdi _ _ _ _ _ _ ) ?_
  refine au [1,10,10,22] ?_
  intro j6 hj6
  refine au [17,2,3,4,4,5,1,6,3,20] ?_
  refine ⟨fun hc0=>?_,fun hc0=>?_⟩
  ·exact absurd hc0 sQ
  have hbb:=zp (hbar)
  refine au [12,4] ?_
  refine TK.draw [0,1,2,3,4,5,6] [0,1,2,3,4,5,6] (by kernel_rfl) (by kernel_rfl) ?_
  refine TD.y [6] rfl (hq:=zx rfl rfl TySz.h (List.Mem.head _) rfl) (h:=?_)
  refine TD.y [6] rfl (hq:=zx rfl rfl TySz.h (List.Mem.head _) rfl) (h:=?_)
  refine TD.z [20] rfl (vU rfl rfl rfl) ?_
  refine TD.c2 (i1:=3) (i2:=5) (pend1:=[⟨1,[6],[(_,_)]⟩,⟨0,[6],[(_,_)]⟩]) (pend2:=[⟨2,[20],[]⟩,⟨1,[6],[(_,_)]⟩,⟨0,[6],[(_,_)]⟩]) (L1:=[4,5,6]) (L2:=[3,4,6]) [21] [] rfl rfl rfl rfl rfl rfl rfl ?_ ?_
  ·refine kb rfl rfl Cal.h rfl (wB hT hbb) (.right (.right (.left (.left (.left (.none _)))))) fun r4 K5 h6=>⟨?_,?_⟩
   ·rcases h6 with ⟨a,rfl,rfl⟩
    all_goals simp
   obtain ⟨a,rfl,rfl⟩:=h6
   try simp only [List.cons_append,List.nil_append]
   refine TD.norm (env':=[_,_,_,_,_,_,_,_,_,_,_,_,_,_,_,_,_,_,_,_,_,_,_,_,_,_,_,_,_,_]) rfl ?_
   refine TD.z [19,22] rfl (z5 (l:=[_,_,_,_,_,_,_,_]) rfl TyZ.h BlOf.h rfl) ?_
   refine TD.cnewP (pend':=[⟨4,[19,22],[]⟩,⟨1,[6],[(_,_)]⟩,⟨0,[6],[(_,_)]⟩]) [] rfl rfl rfl rfl rfl (zZ rfl TyZA.h) (fun _=>putS rfl (by simp only [List.set]; rfl)) sQ fun j8 hj8=>?_
   refine TD.s (pend':=[]) [8,23] rfl rfl (zt rfl rfl TySz.h rfl rfl mQ rfl) ?_
   refine TD.fin ?_
   refine au [4,4] ?_
   refine TK.unrowAt (c:=j8) (i:=7) (j:=a) rfl mQ uQ ?_
   refine TK.frzRow (j:=a) ?_
   refine au [5,7,9,28,6,3,20] ?_
   refine ⟨fun hc1=>?_,fun hc1=>?_⟩
   ·have hnil:statesM b=[]:=List.length_eq_zero_iff.1 (by have:=eq_of_beq hc1; omega)
    refine au [4,5,45,17,2,3] ?_
    refine TK.rt hret ((0,_)::(s,_)::(h,_)::(e,_)::Kx) ?_
    exact .inr (.inl ⟨hbar,hnil,rfl,rfl⟩)
   have hne:statesM b≠[]:=fun e=>by rw [e] at hc1; simp at hc1
   refine au [12,4,5,8,17,2,3] ?_
   refine TK.rt hret ((a,_)::(0,_)::(s,_)::(h,_)::(e,_)::Kx) ?_
   exact .inr (.inr ⟨hbar,hne,a,rfl,rfl⟩)
  ·refine kX rfl (zZ rfl TyZA.h) (fun _=>putS rfl (by simp only [List.set]; rfl)) sQ fun j8 hj8=>?_
   refine TD.cl (pend':=[⟨1,[6],[(_,_)]⟩,⟨0,[6],[(_,_)]⟩]) [21] rfl rfl rfl rfl rfl (wB hT hbb) (fun r7 K8 h9=>⟨?_,?_⟩) (hs:=(.right (.right (.right (.left (.left (.left (.none _))))))))
   ·rcases h9 with ⟨a,rfl,rfl⟩
    all_goals simp
   obtain ⟨a,rfl,rfl⟩:=h9
   try simp only [List.cons_append,List.nil_append]
   refine TD.norm (by simp only [List.set]; rfl) ?_
   refine TD.z [19,22] rfl (z5 (l:=[_,_,_,_,_,_,_,_]) rfl TyZ.h BlOf.h rfl) ?_
   refine TD.s (pend':=[]) [8,23] rfl rfl (zt rfl rfl TySz.h rfl rfl mQ rfl) ?_
   refine TD.fin ?_
   refine au [4,4] ?_
   refine TK.unrowAt (c:=j8) (i:=7) (j:=a) rfl mQ uQ ?_
   refine TK.frzRow (j:=a) ?_
   refine au [5,7,9,28,6,3,20] ?_
   refine ⟨fun hc1=>?_,fun hc1=>?_⟩
   ·have hnil:statesM b=[]:=List.length_eq_zero_iff.1 (by have:=eq_of_beq hc1; omega)
    refine au [4,5,45,17,2,3] ?_
    refine TK.rt hret ((0,_)::(s,_)::(h,_)::(e,_)::Kx) ?_
    exact .inr (.inl ⟨hbar,hnil,rfl,rfl⟩)
   have hne:statesM b≠[]:=fun e=>by rw [e] at hc1; simp at hc1
   refine au [12,4,5,8,17,2,3] ?_
   refine TK.rt hret ((a,_)::(0,_)::(s,_)::(h,_)::(e,_)::Kx) ?_
   exact .inr (.inr ⟨hbar,hne,a,rfl,rfl⟩)
 ·refine au [] ?_
  refine TK.perm (K':=(0,_)::(s,_)::(h,_)::(e,_)::(jr,_)::(jb,_)::Kx) (zdi _ _ _ _ _ _ ) ?_
  refine au [1,10,10,22] ?_
  intro j6 hj6
  refine au [17,2,3,4,4,5,1,6,3,20] ?_
  refine ⟨fun hc0=>?_,fun hc0=>?_⟩
  ·
   refine au [4,5,45,1,17,2,3] ?_
   refine TK.rt hret ((0,_)::(s,_)::(h,_)::(e,_)::Kx) ?_
   exact .inl ⟨hbar,rfl,rfl⟩
  exact absurd hbar (by simpa using hc0)
theorem uv {main:Bool} {T:Goroutine->Hp->Prop} (hT:Shut Tryz.prog main T)  {b:RBk} {s h e:Nat} {Kx:KV} {ja:Nat} {f1:AV} {p1:Int} (hf1:checkM b=0->CallFK Tryz.prog T gmR f1 [.agg (rollC b s h e)] ((s,seamO b)::Kx) (fun r K'=>r=intA p1/\K'=(s,seamO b)::Kx)) (hl:b.seams.length<=100) (hm:b.measures.length<=100) :
  CallK Tryz.prog T gmR 107 [.agg (rollC b s h e),.row ja 1] ((ja,.row [f1] 116 1)::(0,checksG)::(s,seamO b)::(h,shrO b)::(e,measO b)::Kx) (fun r K'=>KnownR b s h e (bar2 (checkM b) p1) ((ja,.row [f1] 116 1)::(0,checksG)::(s,seamO b)::(h,shrO b)::(e,measO b)::Kx) r K'):=by
 refine zf 30 hT Tryz.func107 fun Y hret=>?_
 refine au [4,5,21] ?_
 intro jb hjb
 refine au [22] ?_
 intro jr hjr
 refine au [2,3,4,5,8,1] ?_
 refine TK.cl rfl rfl rfl rfl (wC hT hl hm hf1) ?_ (hs:=(.right (.right (.all _))))
 rintro r1 K2 h3
 rcases h3 with ⟨⟨hbar,rfl⟩ | ⟨hbar,rfl⟩,rfl⟩
 ·refine au [] ?_
  refine TK.perm (K':=(ja,_)::(0,_)::(s,_)::(h,_)::(e,_)::(jr,_)::(jb,_)::Kx) (zdj _ _ _ _ _ _ _) ?_
  refine au [1,10,10,22] ?_
  intro j6 hj6
  refine au [17,2,3,4,4,5,1,6,3,20] ?_
  refine ⟨fun hc0=>?_,fun hc0=>?_⟩
  ·exact absurd hc0 sQ
  have hbb:=zp (yZ hbar)
  refine au [12,4] ?_
  refine TK.draw [0,1,2,3,4,5,6] [0,1,2,3,4,5,6] (by kernel_rfl) (by kernel_rfl) ?_
  refine TD.y [6] rfl (hq:=zx rfl rfl TySz.h (List.Mem.head _) rfl) (h:=?_)
  refine TD.y [6] rfl (hq:=zx rfl rfl TySz.h (List.Mem.head _) rfl) (h:=?_)
  refine TD.z [20] rfl (vU rfl rfl rfl) ?_
  refine TD.c2 (i1:=3) (i2:=5) (pend1:=[⟨1,[6],[(_,_)]⟩,⟨0,[6],[(_,_)]⟩]) (pend2:=[⟨2,[20],[]⟩,⟨1,[6],[(_,_)]⟩,⟨0,[6],[(_,_)]⟩]) (L1:=[4,5,6]) (L2:=[3,4,6]) [21] [] rfl rfl rfl rfl rfl rfl rfl ?_ ?_
  ·refine kb rfl rfl Cal.h rfl (wB hT hbb) (.right (.right (.right (.left (.left (.left (.none _))))))) fun r4 K5 h6=>⟨?_,?_⟩
   ·rcases h6 with ⟨a,rfl,rfl⟩
    all_goals simp
   obtain ⟨a,rfl,rfl⟩:=h6
   try simp only [List.cons_append,List.nil_append]
   refine TD.norm (env':=[_,_,_,_,_,_,_,_,_,_,_,_,_,_,_,_,_,_,_,_,_,_,_,_,_,_,_,_,_,_]) rfl ?_
   refine TD.z [19,22] rfl (z5 (l:=[_,_,_,_,_,_,_,_]) rfl TyZ.h BlOf.h rfl) ?_
   refine TD.cnewP (pend':=[⟨4,[19,22],[]⟩,⟨1,[6],[(_,_)]⟩,⟨0,[6],[(_,_)]⟩]) [] rfl rfl rfl rfl rfl (zZ rfl TyZA.h) (fun _=>putS rfl (by simp only [List.set]; rfl)) sQ fun j8 hj8=>?_
   refine TD.s (pend':=[]) [8,23] rfl rfl (zt rfl rfl TySz.h rfl rfl mQ rfl) ?_
   refine TD.fin ?_
   refine au [4,4] ?_
   refine TK.unrowAt (c:=j8) (i:=7) (j:=a) rfl mQ uQ ?_
   refine TK.frzRow (j:=a) ?_
   refine au [5,7,9,28,6,3,20] ?_
   refine ⟨fun hc1=>?_,fun hc1=>?_⟩
   ·have hnil:statesM b=[]:=List.length_eq_zero_iff.1 (by have:=eq_of_beq hc1; omega)
    refine au [4,5,45,17,2,3] ?_
    refine TK.rt hret ((ja,_)::(0,_)::(s,_)::(h,_)::(e,_)::Kx) ?_
    exact .inr (.inl ⟨hbar,hnil,rfl,rfl⟩)
   have hne:statesM b≠[]:=fun e=>by rw [e] at hc1; simp at hc1
   refine au [12,4,5,8,17,2,3] ?_
   refine TK.rt hret ((a,_)::(ja,_)::(0,_)::(s,_)::(h,_)::(e,_)::Kx) ?_
   exact .inr (.inr ⟨hbar,hne,a,rfl,rfl⟩)
  ·refine kX rfl (zZ rfl TyZA.h) (fun _=>putS rfl (by simp only [List.set]; rfl)) sQ fun j8 hj8=>?_
   refine TD.cl (pend':=[⟨1,[6],[(_,_)]⟩,⟨0,[6],[(_,_)]⟩]) [21] rfl rfl rfl rfl rfl (wB hT hbb) (fun r7 K8 h9=>⟨?_,?_⟩) (hs:=(.right (.right (.right (.right (.left (.left (.left (.none _)))))))))
   ·rcases h9 with ⟨a,rfl,rfl⟩
    all_goals simp
   obtain ⟨a,rfl,rfl⟩:=h9
   try simp only [List.cons_append,List.nil_append]
   refine TD.norm (by simp only [List.set]; rfl) ?_
   refine TD.z [19,22] rfl (z5 (l:=[_,_,_,_,_,_,_,_]) rfl TyZ.h BlOf.h rfl) ?_
   refine TD.s (pend':=[]) [8,23] rfl rfl (zt rfl rfl TySz.h rfl rfl mQ rfl) ?_
   refine TD.fin ?_
   refine au [4,4] ?_
   refine TK.unrowAt (c:=j8) (i:=7) (j:=a) rfl mQ uQ ?_
   refine TK.frzRow (j:=a) ?_
   refine au [5,7,9,28,6,3,20] ?_
   refine ⟨fun hc1=>?_,fun hc1=>?_⟩
   ·have hnil:statesM b=[]:=List.length_eq_zero_iff.1 (by have:=eq_of_beq hc1; omega)
    refine au [4,5,45,17,2,3] ?_
    refine TK.rt hret ((ja,_)::(0,_)::(s,_)::(h,_)::(e,_)::Kx) ?_
    exact .inr (.inl ⟨hbar,hnil,rfl,rfl⟩)
   have hne:statesM b≠[]:=fun e=>by rw [e] at hc1; simp at hc1
   refine au [12,4,5,8,17,2,3] ?_
   refine TK.rt hret ((a,_)::(ja,_)::(0,_)::(s,_)::(h,_)::(e,_)::Kx) ?_
   exact .inr (.inr ⟨hbar,hne,a,rfl,rfl⟩)
 ·refine au [] ?_
  refine TK.perm (K':=(ja,_)::(0,_)::(s,_)::(h,_)::(e,_)::(jr,_)::(jb,_)::Kx) (zdj _ _ _ _ _ _ _) ?_
  refine au [1,10,10,22] ?_
  intro j6 hj6
  refine au [17,2,3,4,4,5,1,6,3,20] ?_
  refine ⟨fun hc0=>?_,fun hc0=>?_⟩
  ·
   refine au [4,5,45,1,17,2,3] ?_
   refine TK.rt hret ((ja,_)::(0,_)::(s,_)::(h,_)::(e,_)::Kx) ?_
   exact .inl ⟨hbar,rfl,rfl⟩
  exact absurd hbar (by simpa using hc0)
section
variable {P:Program} {main:Bool} {k:List Item}
theorem zgo {kd:CallKind} {f:FuncId} {ro:Option Nat} {ts:Array Value} {ds:List Deferred} {cs:List Frame} {w:World} {c:Code}:stepG P main (G (fr kd f ro ts ds (.code (.scope c)::k)) cs) w=.go (G (fr kd f ro ts ds (.code c::.inScope c::k)) cs) w #[]:=by simp [G,stepG,stepG.exec,fr]
theorem zd3 {kd:CallKind} {f:FuncId} {ro:Option Nat} {ts:Array Value} {ds:List Deferred} {cs:List Frame} {w:World} {c:Code}:stepG P main (G (fr kd f ro ts ds (.inScope c::k)) cs) w=.go (G (fr kd f ro ts ds k) cs) w #[]:=by simp [G,stepG,stepG.exec,fr]
end
section
variable {P:Program} {gm:Nat->Option Nat} {T:Goroutine->Hp->Prop} {Y:KX P gm T} {ds:List Nat} {k:List Item} {env:List AV} {K:KV}
theorem TK.scope {c:Code} (h:TK Y ds (.code c::.inScope c::k) env K):TK Y ds (.code (.scope c)::k) env K:=fun A hA φ H ts h1 h2 h3 h4 h5 h6=>Y.X.hT.ctlF rfl (fun _=>zgo) rfl (h A hA φ H ts h1 h2 h3 h4 h5 h6)
theorem TK.inScope {c:Code} (h:TK Y ds k env K):TK Y ds (.inScope c::k) env K:=fun A hA φ H ts h1 h2 h3 h4 h5 h6=>Y.X.hT.ctlF rfl (fun _=>zd3) rfl (h A hA φ H ts h1 h2 h3 h4 h5 h6)
end
theorem kZ {o:Option (List Int×Int)} {K:KV} {r:AV} {K':KV} (h:HangR o K r K'):(o=none/\r=.tup [.agg [.v (.slice none 0 0),intA 0],boolA false]/\K'=K)\/∃ w q jw,o=some (w,q)/\r=.tup [.agg [.sl jw 0 w.length,intA q],boolA true]/\K'=(jw,.cells (w.map intA) 3 false)::K:=by
 cases o with
 | none=>exact .inl ⟨rfl,h⟩
 | some z=>obtain ⟨jw,h1,h2⟩:=h; exact .inr ⟨z.1,z.2,jw,rfl,h1,h2⟩
def wayC (p:Nat×Nat×Int):List AV:=[.sl p.1 0 p.2.1,intA p.2.2]
theorem xj {all:List (List Int)} {i:Nat} {st:List Int} {n:Int} {e:TypeId} {rw':Bool} (h:all[i]? =some st) (hn:n=(i:Int)):takeO (.cells (all.flatMap stC) e rw') (0+n.toNat*5) 5=some (stC st):=wE (c:=5) (fun _=>rfl) h hn dQ
theorem za3 {b:RBk} {all:List (List Int)} {l st:List Int} {i:Nat} (h:all[i]? =some st) (hh:hangM b l st=none):waysM b (all.take (i+1)) l=waysM b (all.take i) l:=by
 unfold waysM
 rw [zM h,List.filterMap_append]
 simp [hh]
theorem za4 {b:RBk} {all:List (List Int)} {l st w:List Int} {q:Int} {i:Nat} (h:all[i]? =some st) (hh:hangM b l st=some (w,q)):waysM b (all.take (i+1)) l=waysM b (all.take i) l++[(w,q)]:=by
 unfold waysM
 rw [zM h,List.filterMap_append]
 simp [hh]
theorem zaq (b:RBk) (all:List (List Int)) (l:List Int):(waysM b all l).length<=all.length:=List.length_filterMap_le _ _
theorem zcS (x:Int) (r:List Int) (y:Int):spreadM (x::(r++[y]))=(min (spreadM (x::r)).1 y,max (spreadM (x::r)).2 y):=by
 unfold spreadM
 dsimp only
 rw [List.foldl_append,List.foldl_append]
 rfl
def sqOk (b:RBk) (all:List (List Int)) (l:List Int):Bool:=(squaresM b all l).isSome
def sqLo (b:RBk) (all:List (List Int)) (l:List Int):Int:=((squaresM b all l).getD (0,0)).1
def sqHi (b:RBk) (all:List (List Int)) (l:List Int):Int:=((squaresM b all l).getD (0,0)).2
theorem yX {l:List Int} {i p:Nat} {x:Int} {e:TypeId} {s:Nat} (h:l[i]? =some x) (hp:p=i):takeO (.row (l.map intA) e s) p 1=some [intA x]:=by
 subst hp
 have:=jB (e:=e) (s:=s) h rfl
 simpa using this
instance:ApOf Tryz.prog 175 125 2 32:=⟨by kernel_rfl⟩
instance:BlOf Tryz.prog 51 [(0,1),(1,1)]:=⟨by kernel_rfl⟩
instance:Cal Tryz.prog 100:=⟨by kernel_rfl⟩
instance:Cal Tryz.prog 118:=⟨by kernel_rfl⟩
instance:Cal Tryz.prog 134:=⟨by kernel_rfl⟩
instance:Cal Tryz.prog 138:=⟨by kernel_rfl⟩
instance:Cal Tryz.prog 156:=⟨by kernel_rfl⟩
instance:Cal Tryz.prog 185:=⟨by kernel_rfl⟩
instance:Cal Tryz.prog 216:=⟨by kernel_rfl⟩
instance:FldOf Tryz.prog 143 0 0 false 1:=⟨by kernel_rfl⟩
instance:FldOf Tryz.prog 143 1 1 false 1:=⟨by kernel_rfl⟩
instance:SlEl Tryz.prog 175 125 2:=⟨by kernel_rfl⟩
instance:TyZ Tryz.prog 51 [.int .i64 0,.int .i64 0]:=⟨by kernel_rfl⟩
instance:Und Tryz.prog 175 (.slice 125):=⟨by kernel_rfl⟩
theorem zdu {main:Bool} {T:Goroutine->Hp->Prop} (hT:Shut Tryz.prog main T) {gm:Nat->Option Nat} {b:RBk} {s h e a j:Nat} {l:List Int} {all:List (List Int)} {et:TypeId} (hb:ROk b) (hl:CutsOk b l) (ha:okAll b all) (hn:all.length<=243) :
  CallK Tryz.prog T gm 138 [.agg (knownC b s h e a all.length),.sl j 0 l.length] [(s,seamO b),(a,allO all),(j,.cells (l.map intA) et false)] (fun r K'=>∃ (jr:Nat) (ps:List (Nat×Nat×Int)),ps.map (·.2.2)=(waysM b all l).map (·.2)/\r=.row jr ps.length/\K'=[(jr,.row (ps.flatMap wayC) 125 2),(s,seamO b),(a,allO all),(j,.cells (l.map intA) et false)]):=by
 refine zf 35 hT Tryz.func138 fun Y hret=>?_
 refine au [4,5,21] ?_
 intro jb hjb
 refine au [2,3] ?_
 refine TK.scope ?_
 refine au [4,5,2] ?_
 refine TK.virt 5 125 2 rfl fun jr0 hjr0=>?_
 refine au [3,4,15,4,4,5,7,9,28,1,3,13] ?_
 refine TK.maskL [1,2,4,5,11,12] ?_
 refine TK.kp [(s,_),(a,_),(j,_),(jr0,_),(jb,_)] ?_
 refine TK.loopN (fun n env K=>∃ (i jr:Nat) (ps:List (Nat×Nat×Int)),n=all.length - i/\i<=all.length/\ps.map (·.2.2)=(waysM b (all.take i) l).map (·.2)/\env=[.any,.sl j 0 l.length,.ptr jb 0,.any,.v (.slice none 0 0),.row jr ps.length,.any,.any,.any,.any,.any,intA all.length,intA i,.any,.any,.any,.any,.any,.any,.any,.any,.any,.any,.any,.any,.any,.any,.any,.any,.any,.any,.any,.any,.any,.any]/\K=[(s,seamO b),(a,allO all),(j,.cells (l.map intA) et false),(jr,.row (ps.flatMap wayC) 125 2),(jb,.cells (knownC b s h e a all.length) 139 true)]) all.length ⟨0,jr0,[],rfl,Nat.zero_le _,rfl,rfl,rfl⟩ fun n env K hI hnext=>?_
 obtain ⟨i,jr,ps,rfl,hi,hps,rfl,rfl⟩:=hI
 have hpl:ps.length<=i:=by have:=congrArg List.length hps; rw [List.length_map,List.length_map] at this; have h2:=zaq b (all.take i) l; rw [List.length_take] at h2; omega
 have hfl:=zS wayC 2 (fun _=>rfl) ps
 refine au [4,5,6,3,4,20] ?_
 refine ⟨fun hc0=>?_,fun hc0=>?_⟩
 ·have hil:i<all.length:=by simp at hc0; omega
  obtain ⟨st,hst⟩:∃ st,all[i]? =some st:=⟨_,List.getElem?_eq_getElem hil⟩
  have hsk:=ha st (List.mem_of_getElem? hst)
  refine au [12,4,13,4,5,1,2,3,4] ?_
  refine TK.draw [0,1,2,3,4,5,6,7,8,9,10,11,12,13,14] [0,1,2,3,4,5,6,7,8,9,10,12,13,11,14] (by kernel_rfl) (by kernel_rfl) ?_
  refine TD.z [2] rfl (zc rfl rfl FldOf.h dQ) ?_
  refine TD.y [16] rfl (hq:=zx rfl rfl TySz.h (List.Mem.head _) rfl) (h:=?_)
  refine TD.z [1] rfl (zd rfl rfl) ?_
  refine TD.z [2] rfl (zc rfl rfl FldOf.h dQ) ?_
  refine TD.y [19] rfl (hq:=ze rfl rfl TySz.h (List.Mem.head _) rfl) (h:=?_)
  refine TD.z [6] rfl (zd rfl rfl) ?_
  refine TD.z [20,21] rfl (zm rfl rfl rfl SlEl.h oQ oQ) ?_
  refine TD.y [22] rfl (hq:=zx rfl rfl TySz.h (List.Mem.head _) (xj (i:=i) hst rfl)) (h:=?_)
  refine TD.c2 (i1:=8) (i2:=12) (pend1:=[⟨6,[20,21],[]⟩,⟨5,[6],[]⟩,⟨4,[19],[(_,_)]⟩,⟨3,[2],[]⟩,⟨0,[2],[]⟩]) (pend2:=[⟨7,[22],[(_,_)]⟩,⟨6,[20,21],[]⟩,⟨5,[6],[]⟩,⟨4,[19],[(_,_)]⟩,⟨3,[2],[]⟩,⟨2,[1],[]⟩,⟨1,[16],[(_,_)]⟩,⟨0,[2],[]⟩]) (L1:=[9,10,11,12,13,14]) (L2:=[8,9,10,11,13,14]) [17,18,23] [] rfl rfl rfl rfl rfl rfl rfl ?_ ?_
  ·refine kb rfl rfl Cal.h rfl ((wG hT hb hl hsk).mono (fun _ _ h=>kZ h)) (by repeat (first | exact Split.none _ | exact Split.all _ | (apply Split.rem; repeat (first | exact Rem.head | apply Rem.tail)) | apply Split.right)) fun r1 K2 h3=>⟨?_,?_⟩
   ·rcases h3 with ⟨hno,rfl,rfl⟩ | ⟨w,q,jw,hso,rfl,rfl⟩
    all_goals simp
   rcases h3 with ⟨hno,rfl,rfl⟩ | ⟨w,q,jw,hso,rfl,rfl⟩
   ·try simp only [List.cons_append,List.nil_append]
    refine TD.norm (env':=[_,_,_,_,_,_,_,_,_,_,_,_,_,_,_,_,_,_,_,_,_,_,_,_,_,_,_,_,_,_,_,_,_,_,_]) rfl ?_
    refine TD.z [24] rfl (zd rfl rfl) ?_
    refine TD.z [15] rfl (zD rfl rfl rfl) ?_
    refine TD.z [15] rfl (zD rfl rfl rfl) ?_
    refine TD.cnewP (pend':=[⟨11,[15],[]⟩,⟨10,[15],[]⟩,⟨9,[24],[]⟩,⟨6,[20,21],[]⟩,⟨5,[6],[]⟩,⟨4,[19],[(_,_)]⟩,⟨3,[2],[]⟩,⟨0,[2],[]⟩]) [] rfl rfl rfl rfl rfl (zZ rfl TyZA.h) (fun _=>putS rfl (by simp only [List.set]; rfl)) sQ fun j7 hj7=>?_
    refine TD.s (pend':=[⟨11,[15],[]⟩]) [7,25] rfl rfl (zt rfl rfl TySz.h rfl rfl mQ rfl) ?_
    refine TD.as (pend':=[]) [26] rfl rfl (zj rfl rfl) ?_
    refine TD.fin ?_
    refine au [4,4,5,1,30,3,20] ?_
    refine ⟨fun hc1=>?_,fun hc1=>?_⟩
    ·
     refine au [16,5,23,1,3] ?_
     refine TK.maskL [1,2,4,5,11,12] ?_
     refine TK.kp [(s,_),(a,_),(j,_),(jr,_),(jb,_)] ?_
     exact hnext _ _ _ oQ ⟨i+1,jr,ps,rfl,by omega,by rw [za3 hst hno]; exact hps,rfl,rfl⟩
    exact absurd hc1 dQ
   ·try simp only [List.cons_append,List.nil_append]
    refine TD.norm (env':=[_,_,_,_,_,_,_,_,_,_,_,_,_,_,_,_,_,_,_,_,_,_,_,_,_,_,_,_,_,_,_,_,_,_,_]) rfl ?_
    refine TD.z [24] rfl (zd rfl rfl) ?_
    refine TD.z [15] rfl (zD rfl rfl rfl) ?_
    refine TD.z [15] rfl (zD rfl rfl rfl) ?_
    refine TD.cnewP (pend':=[⟨11,[15],[]⟩,⟨10,[15],[]⟩,⟨9,[24],[]⟩,⟨6,[20,21],[]⟩,⟨5,[6],[]⟩,⟨4,[19],[(_,_)]⟩,⟨3,[2],[]⟩,⟨0,[2],[]⟩]) [] rfl rfl rfl rfl rfl (zZ rfl TyZA.h) (fun _=>putS rfl (by simp only [List.set]; rfl)) sQ fun j7 hj7=>?_
    refine TD.s (pend':=[⟨11,[15],[]⟩]) [7,25] rfl rfl (zt rfl rfl TySz.h rfl rfl mQ rfl) ?_
    refine TD.as (pend':=[]) [26] rfl rfl (zj rfl rfl) ?_
    refine TD.fin ?_
    refine au [4,4,5,1,30,3,20] ?_
    refine ⟨fun hc1=>?_,fun hc1=>?_⟩
    ·exact absurd hc1 dQ
    refine au [12,5,1,8] ?_
    refine TK.newR rfl rfl rfl (zg (l:=[_,_]) rfl SlEl.h TyZ.h dQ dQ rfl) (fun _=>putS rfl (by simp only [List.set]; rfl)) fun j4 hj4=>?_
    refine TK.appR rfl rfl rfl (a_app rfl ApOf.h rfl mQ oQ rfl (zL (ln:=[_,_]) mQ dQ sQ rfl) oQ rfl (by unfold maxLen; omega) oQ) (fun _=>uQ) (fun _=>putS rfl (by simp only [List.set]; rfl)) fun jr2=>?_
    refine au [2,3,14,5,23,1,3] ?_
    refine TK.maskL [1,2,4,5,11,12] ?_
    refine TK.kp [(s,_),(a,_),(j,_),(jr2,_),(jb,_)] ?_
    exact hnext _ _ _ oQ ⟨i+1,jr2,ps++[(jw,w.length,q)],rfl,by omega,by rw [za4 hst hso,List.map_append,List.map_append,hps]; rfl,by rw [List.length_append]; rfl,by rw [ym]; rfl⟩
  ·refine kX rfl (zZ rfl TyZA.h) (fun _=>putS rfl (by simp only [List.set]; rfl)) sQ fun j7 hj7=>?_
   refine TD.cl (pend':=[⟨6,[20,21],[]⟩,⟨5,[6],[]⟩,⟨4,[19],[(_,_)]⟩,⟨3,[2],[]⟩,⟨0,[2],[]⟩]) [17,18,23] rfl rfl rfl rfl rfl ((wG hT hb hl hsk).mono (fun _ _ h=>kZ h)) (fun r5 K6 h7=>⟨?_,?_⟩)
   ·rcases h7 with ⟨hno,rfl,rfl⟩ | ⟨w,q,jw,hso,rfl,rfl⟩
    all_goals simp
   rcases h7 with ⟨hno,rfl,rfl⟩ | ⟨w,q,jw,hso,rfl,rfl⟩
   ·try simp only [List.cons_append,List.nil_append]
    refine TD.norm (by simp only [List.set]; rfl) ?_
    refine TD.z [24] rfl (zd rfl rfl) ?_
    refine TD.z [15] rfl (zD rfl rfl rfl) ?_
    refine TD.z [15] rfl (zD rfl rfl rfl) ?_
    refine TD.s (pend':=[⟨11,[15],[]⟩]) [7,25] rfl rfl (zt rfl rfl TySz.h rfl rfl mQ rfl) ?_
    refine TD.as (pend':=[]) [26] rfl rfl (zj rfl rfl) ?_
    refine TD.fin ?_
    refine au [4,4,5,1,30,3,20] ?_
    refine ⟨fun hc1=>?_,fun hc1=>?_⟩
    ·
     refine au [16,5,23,1,3] ?_
     refine TK.maskL [1,2,4,5,11,12] ?_
     refine TK.kp [(s,_),(a,_),(j,_),(jr,_),(jb,_)] ?_
     exact hnext _ _ _ oQ ⟨i+1,jr,ps,rfl,by omega,by rw [za3 hst hno]; exact hps,rfl,rfl⟩
    exact absurd hc1 dQ
   ·try simp only [List.cons_append,List.nil_append]
    refine TD.norm (by simp only [List.set]; rfl) ?_
    refine TD.z [24] rfl (zd rfl rfl) ?_
    refine TD.z [15] rfl (zD rfl rfl rfl) ?_
    refine TD.z [15] rfl (zD rfl rfl rfl) ?_
    refine TD.s (pend':=[⟨11,[15],[]⟩]) [7,25] rfl rfl (zt rfl rfl TySz.h rfl rfl mQ rfl) ?_
    refine TD.as (pend':=[]) [26] rfl rfl (zj rfl rfl) ?_
    refine TD.fin ?_
    refine au [4,4,5,1,30,3,20] ?_
    refine ⟨fun hc1=>?_,fun hc1=>?_⟩
    ·exact absurd hc1 dQ
    refine au [12,5,1,8] ?_
    refine TK.newR rfl rfl rfl (zg (l:=[_,_]) rfl SlEl.h TyZ.h dQ dQ rfl) (fun _=>putS rfl (by simp only [List.set]; rfl)) fun j8 hj8=>?_
    refine TK.appR rfl rfl rfl (a_app rfl ApOf.h rfl mQ oQ rfl (zL (ln:=[_,_]) mQ dQ sQ rfl) oQ rfl (by unfold maxLen; omega) oQ) (fun _=>uQ) (fun _=>putS rfl (by simp only [List.set]; rfl)) fun jr2=>?_
    refine au [2,3,14,5,23,1,3] ?_
    refine TK.maskL [1,2,4,5,11,12] ?_
    refine TK.kp [(s,_),(a,_),(j,_),(jr2,_),(jb,_)] ?_
    exact hnext _ _ _ oQ ⟨i+1,jr2,ps++[(jw,w.length,q)],rfl,by omega,by rw [za4 hst hso,List.map_append,List.map_append,hps]; rfl,by rw [List.length_append]; rfl,by rw [ym]; rfl⟩
 obtain rfl:i=all.length:=by simp at hc0; omega
 refine au [16,4,5,1,2,3] ?_
 refine TK.rt hret [(jr,_),(s,_),(a,_),(j,_)] ?_
 exact ⟨jr,ps,by rw [hps,List.take_length],rfl,rfl⟩
theorem za0 {main:Bool} {T:Goroutine->Hp->Prop} (hT:Shut Tryz.prog main T) {gm:Nat->Option Nat} {j off:Nat} {ob:AObj} {x:Int} {xs:List Int} (hI:∀ (i:Nat) (y:Int),xs[i]? =some y->takeO ob (off+(i:Int).toNat*1) 1=some [intA y]) (hl:xs.length<=1000) :
  CallK Tryz.prog T gm 134 [intA x,.sl j off xs.length] [(j,ob)] (fun r K'=>r=.agg [intA (spreadM (x::xs)).1,intA (spreadM (x::xs)).2]/\K'=[(j,ob)]):=by
 refine zf 27 hT Tryz.func134 fun Y hret=>?_
 refine au [4,5,22] ?_
 intro jr hjr
 refine au [3,4,5,1,1,2,2,3,4,4,5,1,28,1,3,13] ?_
 refine TK.maskL [4,5,6,11,12,13] ?_
 refine TK.kp [(j,_),(jr,_)] ?_
 refine TK.loopN (fun n env K=>∃ (i:Nat),n=xs.length - i/\i<=xs.length/\env=[.any,.any,.any,.any,.ptr jr 0,intA (spreadM (x::xs.take i)).1,intA (spreadM (x::xs.take i)).2,.any,.any,.any,.any,.sl j off xs.length,intA xs.length,intA i,.any,.any,.any,.any,.any,.any,.any,.any,.any,.any,.any,.any,.any]/\K=[(j,ob),(jr,.cells [intA 0,intA 0] 51 true)]) xs.length ⟨0,rfl,Nat.zero_le _,rfl,rfl⟩ fun n env K hI' hnext=>?_
 obtain ⟨i,rfl,hi,rfl,rfl⟩:=hI'
 refine au [4,5,6,3,4,20] ?_
 refine ⟨fun hc0=>?_,fun hc0=>?_⟩
 ·have hil:i<xs.length:=by simp at hc0; omega
  obtain ⟨y,hy⟩:∃ y,xs[i]? =some y:=⟨_,List.getElem?_eq_getElem hil⟩
  refine au [12,4,13,4,5,36] ?_
  refine TK.a rfl (ze rfl rfl TySz.h mQ (hI i y hy)) ?_
  refine au [2,3,5,1,1] ?_
  refine TK.a rfl (wV rfl rfl rfl) ?_
  refine au [1,1] ?_
  refine TK.a rfl (zca rfl rfl rfl) ?_
  refine au [2,2,3,14,5,23,1,3] ?_
  refine TK.maskL [4,5,6,11,12,13] ?_
  refine TK.kp [(j,_),(jr,_)] ?_
  exact hnext _ _ _ oQ ⟨i+1,rfl,by omega,by rw [zM hy,zcS]; rfl,rfl⟩
 obtain rfl:i=xs.length:=by simp at hc0; omega
 refine au [16,4,5,1,1,39,17,3] ?_
 refine TK.rt hret [(j,_)] ?_
 exact ⟨by rw [List.take_length]; rfl,rfl⟩
theorem xV {main:Bool} {T:Goroutine->Hp->Prop} (hT:Shut Tryz.prog main T) {gm:Nat->Option Nat} {b:RBk} {s h e a j:Nat} {l:List Int} {all:List (List Int)} {et:TypeId} (hb:ROk b) (hl:CutsOk b l) (ha:okAll b all) (hn:all.length<=243) (h0:0<all.length) :
  CallK Tryz.prog T gm 135 [.agg (knownC b s h e a all.length),.sl j 0 l.length] [(j,.cells (l.map intA) et false),(s,seamO b),(a,allO all)] (fun r K'=>r=.tup [.agg [intA (sqLo b all l),intA (sqHi b all l)],boolA (sqOk b all l)]/\K'=[(j,.cells (l.map intA) et false),(s,seamO b),(a,allO all)]):=by
 refine zf 38 hT Tryz.func135 fun Y hret=>?_
 refine au [4,5,21] ?_
 intro jb hjb
 refine au [22] ?_
 intro jr0 hjr0
 refine au [2,3,4,5,8,1] ?_
 refine TK.cl rfl rfl rfl rfl (zdu hT hb hl ha hn) ?_
 rintro r1 K2 ⟨jr,ps,hps,rfl,rfl⟩
 refine au [] ?_
 have hpl:ps.length=(waysM b all l).length:=by have:=congrArg List.length hps; rwa [List.length_map,List.length_map] at this
 have hwl:=zaq b all l
 refine au [2,3,4,4,5,1,28,7,9,28,6,3,20] ?_
 refine ⟨fun hc0=>?_,fun hc0=>?_⟩
 ·refine au [4,5,39,17,2,3] ?_
  refine TK.rt hret [(j,_),(s,_),(a,_)] ?_
  have hlt:(waysM b all l).length<all.length:=by rw [<- hpl]; simp at hc0; omega
  exact ⟨by unfold sqLo sqHi sqOk squaresM; rw [if_pos hlt]; rfl,rfl⟩
 have hge:¬ ps.length<all.length:=by simp at hc0; omega
 refine au [12,4,5,2] ?_
 refine TK.virt 7 3 1 rfl fun jt0 hjt0=>?_
 refine au [3,4,4,5,1,28,1,3,13] ?_
 refine TK.maskL [2,4,5,7,20,21,22] ?_
 refine TK.kp [(jr,_),(s,_),(a,_),(j,_),(jt0,_),(jb,_),(jr0,_)] ?_
 refine TK.loopN (fun n env K=>∃ (i jt:Nat),n=ps.length - i/\i<=ps.length/\env=[.any,.any,.ptr jb 0,.any,.ptr jr0 0,boolA false,.any,.row jt i,.any,.any,.any,.any,.any,.any,.any,.any,.any,.any,.any,.any,.row jr ps.length,intA ps.length,intA i,.any,.any,.any,.any,.any,.any,.any,.any,.any,.any,.any,.any,.any,.any,.any]/\K=[(jr,.row (ps.flatMap wayC) 125 2),(s,seamO b),(a,allO all),(j,.cells (l.map intA) et false),(jt,.row (((ps.map (·.2.2)).take i).map intA) 3 1),(jb,.cells (knownC b s h e a all.length) 139 true),(jr0,.cells [intA 0,intA 0] 51 true)]) ps.length ⟨0,jt0,rfl,Nat.zero_le _,rfl,rfl⟩ fun n env K hI hnext=>?_
 obtain ⟨i,jt,rfl,hi,rfl,rfl⟩:=hI
 refine au [4,5,6,3,4,20] ?_
 refine ⟨fun hc1=>?_,fun hc1=>?_⟩
 ·have hil:i<ps.length:=by simp at hc1; omega
  obtain ⟨p,hp⟩:∃ p,ps[i]? =some p:=⟨_,List.getElem?_eq_getElem hil⟩
  refine au [12,4,13,4,5,37] ?_
  refine TK.a rfl (zx rfl rfl TySz.h mQ (zal (c:=2) (f:=wayC) (fun _=>rfl) hp rfl dQ)) ?_
  refine au [22] ?_
  intro j9 hj9
  refine au [17,3,5,1,7,9] ?_
  refine TK.newR rfl rfl rfl (zg (l:=[_]) rfl SlEl.h TyZ.h dQ dQ rfl) (fun _=>putS rfl (by simp only [List.set]; rfl)) fun j4 hj4=>?_
  refine TK.appR rfl rfl rfl (a_app rfl ApOf.h rfl mQ (by simp; omega) rfl (zL (ln:=[_]) mQ dQ sQ rfl) oQ rfl (by unfold maxLen; omega) oQ) (fun _=>uQ) (fun _=>putS rfl (by simp only [List.set]; rfl)) fun jt2=>?_
  refine au [2,3,14,5,23,1,3] ?_
  refine TK.maskL [2,4,5,7,20,21,22] ?_
  refine TK.kp [(jr,_),(s,_),(a,_),(j,_),(jt2,_),(jb,_),(jr0,_)] ?_
  exact hnext _ _ _ oQ ⟨i+1,jt2,rfl,by omega,rfl,by rw [zM (x:=p.2.2) (by rw [List.getElem?_map,hp]; rfl),List.map_append]; rfl⟩
 obtain rfl:i=ps.length:=by simp at hc1; omega
 obtain ⟨x,xs,hxs⟩:∃ x xs,ps.map (·.2.2)=x::xs:=by
  cases hh:ps with
  | nil=>rw [hh] at hge; exact absurd h0 hge
  | cons y r=>exact ⟨_,_,rfl⟩
 have hxl:ps.length=xs.length+1:=by have:=congrArg List.length hxs; simpa using this
 rw [List.take_of_length_le sQ,hxs,hxl]
 refine au [16,4] ?_
 refine TK.draw [0,1,2,3,4,5,6,7] [0,1,2,3,4,5,6,7] (by kernel_rfl) (by kernel_rfl) ?_
 refine TD.z [7] rfl (zd rfl rfl) ?_
 refine TD.y [32] rfl (hq:=yw rfl rfl rfl SlEl.h (List.Mem.head _) oQ oQ) (h:=?_)
 refine TD.y [33] rfl (hq:=ze rfl rfl TySz.h (List.Mem.head _) rfl) (h:=?_)
 refine TD.z [7] rfl (zd rfl rfl) ?_
 refine TD.y [35] rfl (hq:=kT rfl rfl SlEl.h (List.Mem.head _) rfl rfl oQ oQ rfl) (h:=?_)
 refine TD.cl (pend':=[⟨3,[7],[]⟩,⟨1,[32],[(_,_)]⟩,⟨0,[7],[]⟩]) [34,36] rfl rfl rfl rfl rfl (za0 hT (x:=x) (xs:=xs) (off:=1) (ob:=.row ((x::xs).map intA) 3 1) (fun i y hy=>yX (l:=x::xs) (i:=i+1) (by simpa using hy) oQ) oQ) (fun r5 K6 h7=>⟨?_,?_⟩)
 ·rcases h7 with ⟨rfl,rfl⟩
  all_goals simp
 obtain ⟨rfl,rfl⟩:=h7
 try simp only [List.cons_append,List.nil_append]
 refine TD.norm (by simp only [List.set]; rfl) ?_
 refine TD.s (pend':=[]) [4,37] rfl rfl (zt rfl rfl TySz.h rfl rfl mQ rfl) ?_
 refine TD.as (pend':=[]) [] rfl rfl (zj rfl rfl) ?_
 refine TD.fin ?_
 refine au [] ?_
 refine TK.rt hret [(j,_),(s,_),(a,_)] ?_
 have hlt:¬ (waysM b all l).length<all.length:=by rw [<- hpl]; exact hge
 exact ⟨by unfold sqLo sqHi sqOk squaresM; rw [if_neg hlt,<- hps,hxs]; rfl,rfl⟩
theorem jZ {main:Bool} {T:Goroutine->Hp->Prop} (hT:Shut Tryz.prog main T) {gm:Nat->Option Nat} {x:Int} :
  CallK Tryz.prog T gm 216 [intA x] [] (fun r K'=>r=boolA false/\K'=[]):=by
 refine zf 6 hT Tryz.func216 fun Y hret=>?_
 refine au [4,5,2,3,4,5,1,1,6,2,3] ?_
 refine TK.rta hret ?_
 exact ⟨by simp,rfl⟩
theorem zek {main:Bool} {T:Goroutine->Hp->Prop} (hT:Shut Tryz.prog main T) {gm:Nat->Option Nat} {x y:Int} :
  CallK Tryz.prog T gm 185 [intA x,intA y] [] (fun r K'=>r=intA (if x<y then -1 else if y<x then 1 else 0)/\K'=[]):=by
 refine zf 20 hT Tryz.func185 fun Y hret=>?_
 refine au [4,5,2,3,4,5,1] ?_
 refine TK.cl rfl rfl rfl rfl (jZ hT) ?_
 rintro r1 K2 ⟨rfl,rfl⟩
 refine au [2,3,4,5,1] ?_
 refine TK.cl rfl rfl rfl rfl (jZ hT) ?_
 rintro r4 K5 ⟨rfl,rfl⟩
 refine au [2,3,4,4,5,1,3,20] ?_
 refine ⟨fun hc0=>?_,fun hc0=>?_⟩
 ·cases hc0
 skip
 refine au [12,4,4,5,1,3,20] ?_
 refine ⟨fun hc2=>?_,fun hc2=>?_⟩
 ·cases hc2
 refine au [12,4,4,5,1,1,6,3,20] ?_
 refine ⟨fun hc3=>?_,fun hc3=>?_⟩
 ·refine au [4,5,2,3] ?_
  refine TK.rta hret ?_
  exact ⟨by rw [if_pos (of_decide_eq_true hc3)],rfl⟩
 refine au [12,4,4,5,1,1,6,3,20] ?_
 refine ⟨fun hc4=>?_,fun hc4=>?_⟩
 ·refine au [4,5,2,3] ?_
  refine TK.rta hret ?_
  exact ⟨by rw [if_neg (of_decide_eq_false hc3),if_pos (of_decide_eq_true hc4)],rfl⟩
 refine au [12,4,5,2,3] ?_
 refine TK.rta hret ?_
 exact ⟨by rw [if_neg (of_decide_eq_false hc3),if_neg (of_decide_eq_false hc4)],rfl⟩
theorem zdI {main:Bool} {T:Goroutine->Hp->Prop} (hT:Shut Tryz.prog main T) {gm:Nat->Option Nat} {j j2:Nat} {xs ys:List Int} {e1 e2:TypeId} (hl:xs.length<=1000) :
  CallK Tryz.prog T gm 156 [.sl j 0 xs.length,.sl j2 0 ys.length] [(j,.cells (xs.map intA) e1 false),(j2,.cells (ys.map intA) e2 false)] (fun r K'=>r=intA (lexM xs ys)/\K'=[(j,.cells (xs.map intA) e1 false),(j2,.cells (ys.map intA) e2 false)]):=by
 refine zf 36 hT Tryz.func156 fun Y hret=>?_
 refine au [4,5,2,3,4,4,5,1,28,1,3,13] ?_
 refine TK.maskL [0,1,4,9,10,11] ?_
 refine TK.loopN (fun n env K=>∃ (i:Nat),n=xs.length - i/\i<=xs.length/\lexM (xs.drop i) (ys.drop i)=lexM xs ys/\env=[.sl j 0 xs.length,.sl j2 0 ys.length,.any,.any,intA 0,.any,.any,.any,.any,.sl j 0 xs.length,intA xs.length,intA i,.any,.any,.any,.any,.any,.any,.any,.any,.any,.any,.any,.any,.any,.any,.any,.any,.any,.any,.any,.any,.any,.any,.any,.any]/\K=[(j,.cells (xs.map intA) e1 false),(j2,.cells (ys.map intA) e2 false)]) xs.length ⟨0,rfl,Nat.zero_le _,rfl,rfl,rfl⟩ fun n env K hI hnext=>?_
 obtain ⟨i,rfl,hi,hinv,rfl,rfl⟩:=hI
 refine au [4,5,6,3,4,20] ?_
 refine ⟨fun hc0=>?_,fun hc0=>?_⟩
 ·have hil:i<xs.length:=by simp at hc0; omega
  refine au [12,4,13,4,5,1,36] ?_
  refine TK.a rfl (ze rfl rfl TySz.h mQ (zF (i:=i) (zy hil) rfl)) ?_
  refine au [2,2,3,4,4,5,1,1,28,6,3,20] ?_
  refine ⟨fun hc1=>?_,fun hc1=>?_⟩
  ·refine au [4,5,2,3] ?_
   refine TK.rt hret [(j,_),(j2,_)] ?_
   exact ⟨by rw [<- hinv,zl (zy hil),show ys.drop i=[] from List.drop_eq_nil_of_le (by simp at hc1; omega)]; rfl,rfl⟩
  have hjl:i<ys.length:=by simp at hc1; omega
  refine au [12,4,5,1,1,36] ?_
  refine TK.a rfl (ze rfl rfl TySz.h mQ (zF (i:=i) (zy hjl) rfl)) ?_
  refine au [2,3,4,5,1,1] ?_
  refine TK.cl rfl rfl rfl rfl (zek hT) ?_
  rintro r1 K2 ⟨rfl,rfl⟩
  refine au [2,3,4,5,1,6,3,20] ?_
  refine ⟨fun hc2=>?_,fun hc2=>?_⟩
  ·refine au [4,5,1,2,3] ?_
   refine TK.rt hret [(j,_),(j2,_)] ?_
   exact ⟨by rw [<- hinv,zl (zy hil),zl (zy hjl)]; simp only [lexM]; split <;> (try rfl); split <;> (try rfl); simp_all,rfl⟩
  have hnl:¬ cutN xs i<cutN ys i:=fun hh=>by rw [if_pos hh] at hc2; simp at hc2
  have hng:¬ cutN ys i<cutN xs i:=fun hh=>by rw [if_neg hnl,if_pos hh] at hc2; simp at hc2
  refine au [12,14,5,23,1,3] ?_
  refine TK.maskL [0,1,4,9,10,11] ?_
  refine TK.kp [(j,_),(j2,_)] ?_
  exact hnext _ _ _ oQ ⟨i+1,rfl,by omega,by rw [<- hinv,zl (zy hil),zl (zy hjl)]; simp only [lexM]; rw [if_neg hnl,if_neg hng],rfl,rfl⟩
 obtain rfl:i=xs.length:=by simp at hc0; omega
 refine au [16,4,4,5,1,28,1,28,6,3,20] ?_
 refine ⟨fun hc3=>?_,fun hc3=>?_⟩
 ·refine au [4,5,2,3] ?_
  refine TK.rt hret [(j,_),(j2,_)] ?_
  exact ⟨by rw [<- hinv,List.drop_length]; simp at hc3; rw [zl (zy (l:=ys) (k:=xs.length) oQ)]; rfl,rfl⟩
 refine au [12,4,5,2,3] ?_
 refine TK.rt hret [(j,_),(j2,_)] ?_
 exact ⟨by rw [<- hinv,List.drop_length]; simp at hc3; rw [List.drop_eq_nil_of_le oQ]; rfl,rfl⟩
theorem vX {main:Bool} {T:Goroutine->Hp->Prop} (hT:Shut Tryz.prog main T) {gm:Nat->Option Nat} {j j2:Nat} {xs ys:List Int} {e1 e2:TypeId} (hl:xs.length<=1000) :
  CallK Tryz.prog T gm 118 [.sl j 0 xs.length,.sl j2 0 ys.length] [(j,.cells (xs.map intA) e1 false),(j2,.cells (ys.map intA) e2 false)] (fun r K'=>r=boolA (smallerM xs ys)/\K'=[(j,.cells (xs.map intA) e1 false),(j2,.cells (ys.map intA) e2 false)]):=by
 refine zf 23 hT Tryz.func118 fun Y hret=>?_
 refine au [4,5,2,3,4,5,1,28,1,28,6,1] ?_
 refine TK.sp 10 (fun g1_6=>?_) (fun g1_6=>?_)
 ·refine au [11,11,11,11,11,11,11,11,11,11,11,26,2,3] ?_
  refine TK.rt hret [(j,_),(j2,_)] ?_
  exact ⟨by simp at g1_6; simp [smallerM,g1_6],rfl⟩
 refine au [1,28,1,28,6,1] ?_
 refine TK.sp 16 (fun g1_12=>?_) (fun g1_12=>?_)
 ·refine au [1,1] ?_
  refine TK.cl rfl rfl rfl rfl (zdI hT hl) ?_
  rintro r1 K2 ⟨rfl,rfl⟩
  refine au [6,26,25,2,3] ?_
  refine TK.rt hret [(j,_),(j2,_)] ?_
  exact ⟨by simp at g1_6 g1_12; unfold smallerM; rw [decide_eq_false (show ¬ xs.length<ys.length by omega),decide_eq_true (show xs.length=ys.length by omega)]; rfl,rfl⟩
 refine au [11,11,11,11,25,25,2,3] ?_
 refine TK.rt hret [(j,_),(j2,_)] ?_
 exact ⟨by simp at g1_6 g1_12; unfold smallerM; rw [decide_eq_false (show ¬ xs.length<ys.length by omega),decide_eq_false (show ¬ xs.length=ys.length by omega)]; rfl,rfl⟩
theorem zdD {main:Bool} {T:Goroutine->Hp->Prop} (hT:Shut Tryz.prog main T) {gm:Nat->Option Nat} {j j2:Nat} {xs ys:List Int} {e1 e2:TypeId} {p q:Int} (hl:xs.length<=1000) :
  CallK Tryz.prog T gm 109 [.agg [.sl j 0 xs.length,intA p],.agg [.sl j2 0 ys.length,intA q]] [(j,.cells (xs.map intA) e1 false),(j2,.cells (ys.map intA) e2 false)] (fun r K'=>r=boolA (cheaperM (xs,p) (ys,q))/\K'=[(j,.cells (xs.map intA) e1 false),(j2,.cells (ys.map intA) e2 false)]):=by
 refine zf 24 hT Tryz.func109 fun Y hret=>?_
 refine au [4,5,21] ?_
 intro jx1 hjx1
 refine au [21] ?_
 intro jx2 hjx2
 refine au [2,3,4,5,7,9,7,9,6,1] ?_
 refine TK.sp 10 (fun g1_6=>?_) (fun g1_6=>?_)
 ·refine au [11,11,11,11,11,11,11,11,11,11,11,11,26,2,3] ?_
  refine TK.rt hret [(j,_),(j2,_)] ?_
  exact ⟨by simp at g1_6; simp [cheaperM,g1_6],rfl⟩
 refine au [7,9,7,9,6,1] ?_
 refine TK.sp 16 (fun g1_12=>?_) (fun g1_12=>?_)
 ·refine au [7,9,7,9] ?_
  refine TK.cl rfl rfl rfl rfl (vX hT hl) ?_
  rintro r1 K2 ⟨rfl,rfl⟩
  refine au [26,25,2,3] ?_
  refine TK.rt hret [(j,_),(j2,_)] ?_
  exact ⟨by simp at g1_6 g1_12; simp [cheaperM,g1_12],rfl⟩
 refine au [11,11,11,11,11,25,25,2,3] ?_
 refine TK.rt hret [(j,_),(j2,_)] ?_
 exact ⟨by simp at g1_6 g1_12; simp [cheaperM,g1_12]; omega,rfl⟩
theorem xT {main:Bool} {T:Goroutine->Hp->Prop} (hT:Shut Tryz.prog main T) {gm:Nat->Option Nat} {j j2:Nat} {xs ys:List Int} {e1 e2:TypeId} {p q:Int} (hl:xs.length<=1000) :
  CallK Tryz.prog T gm 113 [.agg [.sl j 0 xs.length,intA p],.agg [.sl j2 0 ys.length,intA q]] [(j,.cells (xs.map intA) e1 false),(j2,.cells (ys.map intA) e2 false)] (fun r K'=>r=boolA (shorterM (xs,p) (ys,q))/\K'=[(j,.cells (xs.map intA) e1 false),(j2,.cells (ys.map intA) e2 false)]):=by
 refine zf 10 hT Tryz.func113 fun Y hret=>?_
 refine au [4,5,21] ?_
 intro jx1 hjx1
 refine au [21] ?_
 intro jx2 hjx2
 refine au [2,3,4,5,7,9,7,9] ?_
 refine TK.cl rfl rfl rfl rfl (vX hT hl) ?_
 rintro r1 K2 ⟨rfl,rfl⟩
 refine au [2,3] ?_
 refine TK.rt hret [(j,_),(j2,_)] ?_
 exact ⟨rfl,rfl⟩
end Go.Vel
end
