/- The law RollAsked: once the cloth of Ask was measured by itself no more states are left than it says, and for one width just as many; no other cloth leaves fewer, none before it as few. It holds of every program, tape and world that the statements name, as each theorem says. -/
import Derived.Test.YtamcohjpanjdiaaGreatDoorK7
import Derived.Test.YtamcohjpanjdiaaGreatDoorK8
import Derived.Test.YtamcohjpanjdiaaGreatDoorK10
section
set_option linter.all false
set_option maxRecDepth 20000
set_option maxHeartbeats 60000000
open Go.Proofs.Tryz renaming prog -> tp
open List renaming getElem?_eq_getElem -> lA, nil_append -> lC, append_nil -> lR
open Nat renaming le_refl -> mL, zero_add -> mO
open Bool renaming and_eq_true -> mX
open Int renaming toNat_natCast -> mZ
namespace Go.Vel
open Go Go.Conc Go.Proofs
instance:EqG tp 49:={}
instance:EqG tp 94:={}
instance:FlatF tp 49 [(3,0),(3,1),(3,2)]:={}
instance:FlatF tp 94 [(3,0),(3,1),(3,2),(3,3),(4,4)]:={}
instance:Und tp 4 .bool:={}
end Go.Vel
namespace Go.Vel
open Go Go.Conc
end Go.Vel
namespace Go.Vel
open Go Go.Conc Go.Proofs
instance:Cal tp 19:={}
instance:Cal tp 44:={}
instance:Cal tp 49:={}
end Go.Vel
namespace Go.Vel
open Go Go.Conc
def otherM (c n:Nat):List Int:=if zw c n=[] then [((c % n:Nat):Int)] else zw c n
theorem jP {b:RBk}:∀ (l:List RSeam) (last:Int),(∀ s∈l,seamB b s=true/\last<s.step)->(l.Pairwise fun s t=>s.step<t.step)->seamsL b last l=0
 | [],_,_,_=>rfl
 | s::r,last,h,hp=>by
  obtain ⟨p1,p2⟩:=List.pairwise_cons.1 hp
  have h1:=h s sQ
  unfold seamsL
  rw [if_neg (by rw [h1.1]; decide),if_neg oQ]
  exact jP r _ (fun t ht=>⟨(h t (by simp [ht])).1,p1 t ht⟩) p2
theorem jH {b:RBk}:∀ (l:List RBand) (i:Nat),(∀ k x,l[k]? =some x->bandB x=true/\x.high<wideM b (i+k))->clothsL b i l=0
 | [],_,_=>rfl
 | x::r,i,h=>by
  have h1:=h 0 x rfl
  unfold clothsL
  rw [if_neg (by rw [h1.1]; decide),if_neg (by have:=h1.2; rw [Nat.add_zero] at this; omega)]
  exact jH r _ fun k y hy=>by
   have:=h (k+1) y (by simpa using hy)
   rwa [show i+(k+1)=i+1+k by omega] at this
theorem jU {b:RBk}:∀ (l:List RMeas),(∀ m∈l,0<=m.cloth/\m.cloth<b.seams.length/\1<=m.many/\m.many<=b.seams.length/\0<=m.wide/\m.wide<=24)->measL b l=0
 | [],_=>rfl
 | m::r,h=>by
  have h1:=h m sQ
  have h2:thereM b m.cloth=0:=by unfold thereM; rw [if_pos (by simp [betw]; omega)]
  have h3:measB b m=true:=by simp only [measB,betw,mX,decide_eq_true_eq]; omega
  unfold measL
  rw [if_neg (by rw [h2]; decide),if_neg (by rw [h3]; decide)]
  exact jU r fun y hy=>h y (by simp [hy])
theorem jZ {b:RBk} (h:ROk b):zr b=0:=by
 have hr:=h.rnd
 have h1:roundsM b=0:=by
  unfold roundsM
  rw [if_pos]
  simp only [betw,mX,decide_eq_true_eq]
  exact ⟨⟨⟨hr.steps,hr.round⟩,hr.roll⟩,hr.rolls⟩
 have hs:=h.sms
 have sat:∀ i,(hi:i<b.seams.length)->b.seams[i]=sm b i:=fun i hi=>by
  have:=yV hi
  rw [lA hi] at this
  exact Option.some.inj this
 have h2:seamsM b=0:=by
  have hbl:betw b.seams.length 1 5=true:=by
   have:=hs.len
   simp only [betw,mX,decide_eq_true_eq]
   omega
  unfold seamsM
  rw [if_neg (by rw [hbl]; decide)]
  refine jP _ _ (fun s hm=>?_) (List.pairwise_iff_getElem.2 fun i j hi hj hij=>by rw [sat i hi,sat j hj]; exact hs.asc i j hij hj)
  obtain ⟨i,hi,rfl⟩:=List.getElem_of_mem hm
  rw [sat i hi]
  have:=hs.fld i hi
  exact ⟨by simp only [seamB,betw,mX,decide_eq_true_eq]; omega,by omega⟩
 have h3:clothsM b=0:=by
  unfold clothsM
  rw [if_neg (by rw [h.cls.len]; simp)]
  refine jH _ _ fun k x hx=>?_
  have hk:k<b.shrinks.length:=by
   rcases Nat.lt_or_ge k b.shrinks.length with h | h
   ·exact h
   ·rw [List.getElem?_eq_none h] at hx; cases hx
  rw [ko hk] at hx
  cases hx
  have:=h.cls.bnd k (by have:=h.cls.len; omega)
  exact ⟨by simp only [bandB,isBd,mX,decide_eq_true_eq]; omega,by rw [mO]; exact this.2.2.2.2⟩
 have h4:measM b=0:=by
  unfold measM
  have:=h.mes.len
  rw [if_neg oQ]
  exact jU _ h.mes.bnd
 unfold zr
 rw [if_neg (by rw [h1]; decide),if_neg (by rw [h2]; decide),if_neg (by rw [h3]; decide)]
 exact h4
end Go.Vel
namespace Go.Vel
open Go Go.Conc Go.Proofs
section
variable {P:Program} {gm:Nat->Option Nat} {V:KV} {env:List AV} {o:Oper}
end
instance:Cal tp 62:={}
instance:Cal tp 75:={}
end Go.Vel
namespace Go.Vel
open Go Go.Conc
theorem jK (b:RBk) (i:Nat) (x:RBand) (s:List Int) (c:Nat):∀ k,togM (driedB b i x) s c k=togM b s c k
 | 0=>rfl
 | k+1=>by
  unfold togM
  rw [jK b i x s c k]
  rfl
theorem jS (b:RBk) (i:Nat) (x:RBand) (s:List Int):rightM (driedB b i x) s=rightM b s:=by
 unfold rightM
 congr 1
 funext m
 rw [jK]
theorem jE (b:RBk) (i:Nat) (x:RBand):∀ (r:List RBand) (p:List Int),fromM (driedB b i x) p r=fromM b p r
 | [],p=>by unfold fromM; rw [jS]
 | y::r,p=>by
  unfold fromM
  congr 1
  funext n
  exact jE b i x r _
theorem jX {p:List Int} {n:Int} {i:Nat} (h:i<p.length):zN (p++[n]) i=zN p i:=zeh h
theorem jT {b:RBk} {i:Nat}:∀ (r:List RBand) (p:List Int),i<p.length->∀ s∈fromM b p r,zN s i=zN p i
 | [],p,hi,s,hs=>by
  unfold fromM at hs
  split at hs
  ·rw [List.mem_singleton.1 hs]
  ·cases hs
 | x::r,p,hi,s,hs=>by
  unfold fromM at hs
  obtain ⟨n,_,hs1⟩:=List.mem_flatMap.1 hs
  rw [jT r (p++[n]) (by simp; omega) s hs1,jX hi]
theorem jJ {α:Type} (g:Int->List α):∀ (k:Nat) (a n:Int),a<=n->n<a+k->(numsF a k).flatMap (fun v=>if v=n then g v else [])=g n
 | 0,a,n,h1,h2=>by omega
 | k+1,a,n,h1,h2=>by
  unfold numsF
  rw [List.flatMap_cons]
  by_cases e:a=n
  ·subst e
   rw [if_pos rfl]
   have:(numsF (a+1) k).flatMap (fun v=>if v=a then g v else [])=[]:=by
    rw [List.flatMap_eq_nil_iff]
    intro v hv
    have:=(uJ k (a+1) v).1 hv
    rw [if_neg oQ]
   rw [this,lR]
  ·rw [if_neg e,lC]
   exact jJ g k (a+1) n oQ oQ
theorem jN {b:RBk} {n:Int}:∀ (r:List RBand) (p:List Int) (k:Nat) (x:RBand),r[k]? =some x->x.low<=n->n<=x.high->fromM b p (r.set k ⟨n,n⟩)=(fromM b p r).filter fun s=>decide (zN s (p.length+k)=n)
 | [],p,k,x,h,_,_=>by simp at h
 | y::r,p,0,x,h,h1,h2=>by
  cases h
  rw [List.set_cons_zero]
  unfold fromM
  rw [List.filter_flatMap]
  have e1:numsM ⟨n,n⟩=[n]:=by
   unfold numsM
   dsimp only
   rw [show (n+1 - n).toNat=1 by omega]
   rfl
  rw [e1,List.flatMap_cons,List.flatMap_nil,lR]
  have e2:∀ v,(fromM b (p++[v]) r).filter (fun s=>decide (zN s (p.length+0)=n))=if v=n then fromM b (p++[v]) r else []:=fun v=>by
   have hc:∀ s∈fromM b (p++[v]) r,zN s (p.length+0)=v:=fun s hs=>by
    rw [jT r (p++[v]) sQ s hs]
    exact zdo
   by_cases e:v=n
   ·rw [if_pos e,List.filter_eq_self]
    intro s hs
    rw [hc s hs,e]
    simp
   ·rw [if_neg e,List.filter_eq_nil_iff]
    intro s hs
    rw [hc s hs]
    simpa using e
  rw [show (fun v=>(fromM b (p++[v]) r).filter (fun s=>decide (zN s (p.length+0)=n)))=fun v=>if v=n then (fun v=>fromM b (p++[v]) r) v else [] from funext e2]
  unfold numsM
  rw [jJ (fun v=>fromM b (p++[v]) r) _ _ _ h1 oQ]
 | y::r,p,k+1,x,h,h1,h2=>by
  rw [List.set_cons_succ]
  unfold fromM
  rw [List.filter_flatMap]
  congr 1
  funext v
  rw [jN r (p++[v]) k x (by simpa using h) h1 h2]
  rw [List.length_append,List.length_singleton,show p.length+1+k=p.length+(k+1) by omega]
theorem jQ {b:RBk} {i:Nat} {n:Int} (hi:i<b.shrinks.length) (h1:(bd b i).low<=n) (h2:n<=(bd b i).high):(zf (driedB b i ⟨n,n⟩)).length=cntM (zf b) i n:=by
 unfold zf cntM
 rw [jE]
 show (fromM b [] (b.shrinks.set i ⟨n,n⟩)).length=_
 rw [jN b.shrinks [] i (bd b i) (ko hi) h1 h2,List.length_nil,mO]
def leavesL (all:List (List Int)) (i:Nat) (low:Int):Nat->Int
 | 0=>0
 | k+1=>max (leavesL all i low k) (cntM all i (low+k))
def leavesM (b:RBk) (i:Nat):Int:=leavesL (zf b) i (bd b i).low ((bd b i).high+1 - (bd b i).low).toNat
theorem jB (all:List (List Int)) (i:Nat) (low:Int):∀ k,0<=leavesL all i low k/\∀ j,j<k->(cntM all i (low+j):Int)<=leavesL all i low k
 | 0=>⟨Int.le_refl _,fun j h=>by omega⟩
 | k+1=>by
  obtain ⟨h1,h2⟩:=jB all i low k
  unfold leavesL
  refine ⟨by omega,fun j hj=>?_⟩
  by_cases e:j=k
  ·subst e; omega
  ·have:=h2 j oQ; omega
theorem jI (all:List (List Int)) (i:Nat) (low M:Int) (h0:0<=M):∀ k,(∀ j,j<k->(cntM all i (low+(j:Nat)):Int)<=M)->leavesL all i low k<=M
 | 0,_=>h0
 | k+1,h=>by
  have h1:=jI all i low M h0 k (fun j hj=>h j oQ)
  have h2:=h k oQ
  unfold leavesL
  omega
theorem jG (all:List (List Int)) (n:Nat):∀ k,k<=all.length->0<=mostL all n k/\∀ v,(cntM (all.take k) n v:Int)<=mostL all n k
 | 0,_=>⟨Int.le_refl _,fun v=>by simp [cntM,mostL]⟩
 | k+1,h=>by
  obtain ⟨h1,h2⟩:=jG all n k oQ
  have hg:all[k]? =some all[k]:=lA oQ
  rw [zhd hg]
  refine ⟨by omega,fun v=>?_⟩
  rw [zfK hg n v]
  by_cases e:v=zN all[k] n
  ·have:=zfK hg n v
   rw [if_pos e] at this
   rw [if_pos e,<- this,e]
   omega
  ·rw [if_neg e]
   have:=h2 v
   omega
theorem jR (all:List (List Int)) (n k:Nat) (v:Int):cntM (all.take k) n v<=cntM all n v:=by
 unfold cntM
 exact ((List.take_sublist k all).filter _).length_le
theorem jV (all:List (List Int)) (n:Nat) (M:Int) (h0:0<=M) (hv:∀ s∈all,(cntM all n (zN s n):Int)<=M):∀ k,k<=all.length->mostL all n k<=M
 | 0,_=>h0
 | k+1,h=>by
  have h1:=jV all n M h0 hv k oQ
  have hg:all[k]? =some all[k]:=lA oQ
  rw [zhd hg]
  have h2:=hv all[k] (List.getElem_mem _)
  have h3:=jR all n (k+1) (zN all[k] n)
  omega
theorem ji {b:RBk} (hb:ROk b) {i:Nat} (hi:i<b.shrinks.length):leavesM b i=mostL (zf b) i (zf b).length:=by
 have hbd:=hb.cls.bnd i (by have:=hb.cls.len; omega)
 refine Int.le_antisymm ?_ ?_
 ·refine jI _ _ _ _ (jG _ _ _ (mL _)).1 _ fun j _=>?_
  have:=(jG (zf b) i _ (mL _)).2 ((bd b i).low+j)
  rwa [List.take_length] at this
 ·refine jV _ _ _ (jB _ _ _ _).1 (fun s hs=>?_) _ (mL _)
  obtain ⟨hin,_⟩:=zco hb _ [] (zdR b) rfl s hs
  have hv:=hin.2 i hi
  have:=(jB (zf b) i (bd b i).low ((bd b i).high+1 - (bd b i).low).toNat).2 (s.getD i 0 - (bd b i).low).toNat oQ
  rwa [show (bd b i).low+((s.getD i 0 - (bd b i).low).toNat:Int)=s.getD i 0 by omega] at this
theorem jM (b:RBk) (all:List (List Int)):∀ k,-1<=(askL b all k).1/\(askL b all k).1<k/\(askL b all k).2<=all.length/\((askL b all k).1<0->(askL b all k).2=all.length)/\(0<=(askL b all k).1->(askL b all k).2<all.length/\mostL all (askL b all k).1.toNat all.length=(askL b all k).2)/\∀ j,j<k->(askL b all k).2<=mostL all j all.length/\(0<=(askL b all k).1->(j:Int)<(askL b all k).1->(askL b all k).2<mostL all j all.length)
 | 0=>⟨by show (-1:Int) <= -1; omega,by show (-1:Int)<((0:Nat):Int); omega,Int.le_refl _,fun _=>rfl,fun h=>absurd (show (0:Int) <= -1 from h) dQ,fun j h=>by omega⟩
 | k+1=>by
  obtain ⟨h1,h2,h3,h4,h5,h6⟩:=jM b all k
  unfold askL
  by_cases h:mostL all k all.length<(askL b all k).2
  ·rw [if_pos h]
   dsimp only
   refine ⟨by omega,by omega,by omega,fun h=>by omega,fun _=>⟨by omega,by rw [mZ]⟩,fun j hj=>?_⟩
   by_cases e:j=k
   ·subst e; exact ⟨Int.le_refl _,fun _ h=>by omega⟩
   ·have:=h6 j oQ; exact ⟨by omega,fun _ _=>by omega⟩
  ·rw [if_neg h]
   refine ⟨h1,by omega,h3,h4,h5,fun j hj=>?_⟩
   by_cases e:j=k
   ·subst e; exact ⟨by omega,fun _ h=>by omega⟩
   ·exact h6 j oQ
theorem jY {b:RBk} (hb:ROk b) {i:Nat} {n:Int} (hi:i<b.shrinks.length) (h1:(bd b i).low<=n) (h2:n<=(bd b i).high):ROk (driedB b i ⟨n,n⟩):=by
 refine ⟨⟨hb.rnd.steps,hb.rnd.round,hb.rnd.roll,hb.rnd.rolls⟩,⟨hb.sms.len,hb.sms.fld,hb.sms.asc⟩,⟨?_,fun k hk=>?_⟩,⟨hb.mes.len,hb.mes.bnd⟩⟩
 ·show (b.shrinks.set i ⟨n,n⟩).length=_
  rw [List.length_set]; exact hb.cls.len
 ·have hk':k<b.seams.length:=hk
  have hq:=hb.cls.bnd k hk'
  have hqi:=hb.cls.bnd i (by have:=hb.cls.len; omega)
  show 0<=(bd (driedB b i ⟨n,n⟩) k).low/\(bd (driedB b i ⟨n,n⟩) k).low<=(bd (driedB b i ⟨n,n⟩) k).high/\(bd (driedB b i ⟨n,n⟩) k).high<=5/\(bd (driedB b i ⟨n,n⟩) k).high - (bd (driedB b i ⟨n,n⟩) k).low<3/\(bd (driedB b i ⟨n,n⟩) k).high<wideM b k
  have e:bd (driedB b i ⟨n,n⟩) k=if i=k then ⟨n,n⟩ else bd b k:=by
   have h3:=ko (b:=driedB b i ⟨n,n⟩) (i:=k) (by show k<(b.shrinks.set i ⟨n,n⟩).length; rw [List.length_set,hb.cls.len]; exact hk')
   have h4:(b.shrinks.set i ⟨n,n⟩)[k]? =some (bd (driedB b i ⟨n,n⟩) k):=h3
   rw [List.getElem?_set] at h4
   by_cases e:i=k
   ·rw [if_pos e] at h4 ⊢
    rw [if_pos hi] at h4
    exact (Option.some.inj h4).symm
   ·rw [if_neg e] at h4 ⊢
    rw [ko (by rw [hb.cls.len]; exact hk')] at h4
    exact (Option.some.inj h4).symm
  rw [e]
  by_cases e:i=k
  ·subst e
   rw [if_pos rfl]
   dsimp only
   omega
  ·rw [if_neg e]
   omega
end Go.Vel
namespace Go.Vel
open Go Go.Conc Go.Proofs
instance:Cal tp 57:={}
instance:Cal tp 66:={}
theorem jW {main T} (hT:zo tp main T) {gm} {b:RBk} {s h e i:Nat} {x:RBand} (hi:i<b.shrinks.length) (hl:b.shrinks.length<=100) :
  zA tp T gm 57 [.agg (zE b s h e),intA i,.agg (bandC x)] [(h,zB b)] (fun r K'=>∃ h2,r=.agg (zE (driedB b i x) s h2 e)/\K'=[(h2,zB (driedB b i x)),(h,zB b)]):=by
 refine zp 18 hT Tryz.func57 fun Y hret=>?_
 refine au [] ?_
 have hfl:=yy bandC 2 (fun _=>rfl) b.shrinks
 refine au [4,5,21] ?_
 intro jb hjb
 refine au [21] ?_
 intro jx hjx
 refine au [22] ?_
 intro jr hjr
 refine au [3,4,5] ?_
 refine TK.newR Z Z Z (zt (l:=[]) Z zF.h TyZ.h dQ dQ Z) (fun _=>zu rfl tQ) fun j1 hj1=>?_
 refine au [7,9] ?_
 refine TK.appG (ln:=b.shrinks.flatMap bandC) Z Z Z ApOf.h Z mQ Z Z Z (fun hp=>vu mQ oQ (wl hfl oQ)) (fun h=>List.eq_nil_of_length_eq_zero oQ) (kz bandC (fun _=>rfl) _) (by unfold maxLen; omega) oQ (fun _=>uQ) (fun _=>zu rfl tQ) fun h2=>?_
 simp only [lC,mO]
 refine au [7,17,3,4,5,7,9,1,8,37] ?_
 refine TK.st Z Z Z (zX Z Z zi.h Z Z mQ (zgn (x:=x) hi Z)) uQ (putN Z) ?_
 refine au [3,4] ?_
 refine TK.unrowAt (c:=jb) (i:=5) (j:=h2) Z mQ uQ ?_
 refine TK.frzRow (j:=h2) ?_
 rw [show b.shrinks.length=(driedB b i x).shrinks.length by simp [driedB]]
 refine au [5,8,17,3] ?_
 refine TK.rt hret [(h2,_),(h,_)] ?_
 exact ⟨h2,rfl,rfl⟩
theorem jA {main:Bool} {T:Goroutine->Hp->Prop} (hT:zo tp main T)  {b:RBk} {s h e i:Nat} (hbb:ROk b) (hi:i<b.shrinks.length) :
  zA tp T gmR 66 [.agg (zE b s h e),intA i] [(0,zy),(s,zk b),(h,zB b),(e,zq b)] (fun r K'=>r=.tup [intA (leavesM b i),zP true]/\K'=[(0,zy),(s,zk b),(h,zB b),(e,zq b)]):=by
 refine zp 41 hT Tryz.func66 fun Y hret=>?_
 refine au [] ?_
 have hsl:=hbb.sms.len
 have hml:=hbb.mes.len
 have hcl:=hbb.cls.len
 have hbd:=hbb.cls.bnd i oQ
 refine au [4,5,21] ?_
 intro jb hjb
 refine au [2,2,3,4,5,2,3,4,4,5,7,9,1,36,7] ?_
 refine TK.a Z (zm Z Z zi.h mQ (ym (c:=0) (bd_at b (i:=i) hi Z) dQ Z)) ?_
 refine au [2,3,13] ?_
 refine TK.maskL [1,2,6,7] ?_
 refine TK.kp [(0,_),(s,_),(h,_),(e,_),(jb,_)] ?_
 refine TK.loopN (fun n env K=>∃ (k:Nat),n=((bd b i).high+1 - (bd b i).low).toNat - k/\k<=((bd b i).high+1 - (bd b i).low).toNat/\env=.any::intA i::.ptr jb 0::naL 3 (intA (leavesL (zf b) i (bd b i).low k)::intA ((bd b i).low+(k:Int))::naL 33 [])/\K=[(0,zy),(s,zk b),(h,zB b),(e,zq b),(jb,.cells (zE b s h e) 26 true)]) ((bd b i).high+1 - (bd b i).low).toNat ⟨0,rfl,Nat.zero_le _,by rw [show (bd b i).low+((0:Nat):Int)=(bd b i).low by omega]; rfl,rfl⟩ fun n env K hI hnext=>?_
 obtain ⟨k,rfl,hk,rfl,rfl⟩:=hI
 refine TK.na nQ ?_
 refine au [4,4,5,1,7,9,1,36,7] ?_
 refine TK.a Z (zm Z Z zi.h mQ (ym (c:=1) (bd_at b (i:=i) hi Z) dQ Z)) ?_
 refine au [6,3,20] ?_
 refine ⟨fun hc0=>?_,fun hc0=>?_⟩
 ·have hkl:(bd b i).low+(k:Int)<=(bd b i).high:=by simpa using hc0
  have hdo:=jY hbb hi (n:=(bd b i).low+(k:Int)) oQ hkl
  have hsd:=jQ (b:=b) hi (n:=(bd b i).low+(k:Int)) oQ hkl
  refine au [12,4,13,4] ?_
  refine TK.draw [0,1,2,3,4,5,6,7,8,9,10] [0,1,2,3,4,5,6,7,9,8,10] (by kernel_rfl) (by kernel_rfl) ?_
  refine TD.y [2] Z (hq:=z8 Z Z zi.h (List.Mem.head _) Z) (h:=?_)
  refine TD.z [1] Z (zh Z Z) ?_
  refine TD.z [7] Z (zh Z Z) ?_
  refine TD.cl (pend':=[⟨1,[1],[]⟩,⟨0,[2],[(_,_)]⟩]) [29] Z Z Z Z Z (ziu hT) (fun r1 K2 h3=>⟨?_,?_⟩)
  ·rcases h3 with ⟨rfl,rfl⟩
   all_goals simp
  obtain ⟨rfl,rfl⟩:=h3
  try simp only [cA]
  refine TD.norm tQ ?_
  refine TD.cl (pend':=[]) [27,28,30] Z Z Z Z Z (jW hT (b:=b) (s:=s) (h:=h) (e:=e) (i:=i) (x:=⟨(bd b i).low+(k:Int),(bd b i).low+(k:Int)⟩) hi oQ) (fun r4 K5 h6=>⟨?_,?_⟩)
  ·rcases h6 with ⟨h2,rfl,rfl⟩
   all_goals simp
  obtain ⟨h2,rfl,rfl⟩:=h6
  try simp only [cA]
  refine TD.norm tQ ?_
  refine TD.cl (pend':=[]) [31] Z Z Z Z Z (uS hT (b:=driedB b i ⟨(bd b i).low+(k:Int),(bd b i).low+(k:Int)⟩) (s:=s) (h:=h2) (e:=e) (show b.seams.length<=100 by omega) (show b.measures.length<=100 by omega)) (fun r7 K8 h9=>⟨?_,?_⟩)
  ·rcases h9 with ⟨rfl,rfl⟩
   all_goals simp
  obtain ⟨rfl,rfl⟩:=h9
  try simp only [cA]
  refine TD.norm tQ ?_
  rw [jZ hdo,if_pos rfl,hsd]
  refine TD.z [32] Z (zh Z Z) ?_
  refine TD.z [26] Z (ye Z Z Z) ?_
  refine TD.z [26] Z (ye Z Z Z) ?_
  refine TD.as (pend':=[⟨8,[26],[]⟩]) [33] Z Z (zD Z Z) ?_
  refine TD.as (pend':=[]) [34] Z Z (zD Z Z) ?_
  refine TD.fin ?_
  refine au [4,4,5,1,6,3,20] ?_
  refine ⟨fun hc1=>?_,fun hc1=>?_⟩
  ·exact absurd hc1 dQ
  refine au [12,5,1,1] ?_
  refine TK.a Z (zcY Z Z Z) ?_
  refine au [2,3,14,5,1,23,2,3] ?_
  refine TK.maskL [1,2,6,7] ?_
  refine TK.kp [(0,_),(s,_),(h,_),(e,_),(jb,_)] ?_
  exact hnext _ _ _ oQ ⟨k+1,rfl,by omega,by rw [show (bd b i).low+(k:Int)+1=(bd b i).low+((k+1:Nat):Int) by omega]; rfl,rfl⟩
 obtain rfl:k=((bd b i).high+1 - (bd b i).low).toNat:=by simp at hc0; omega
 refine au [16,4,5,1,2,2,3] ?_
 refine TK.rt hret [(0,_),(s,_),(h,_),(e,_)] ?_
 exact ⟨rfl,rfl⟩
theorem jO {b:RBk} {s h e:Nat} {k:Int} (hk:0<=k/\k<256):Top tp gmR 9 [.agg (zE b s h e),.v (.int .u8 k)] [(0,zy),(s,zk b),(h,zB b),(e,zq b)] (fun r _=>r=zP true):=by
 refine topI 128 Tryz.func9 fun R Y hret=>?_
 have hT:=kH (P:=tp) (AtRet tp 9 R)
 refine au [4,5,21] ?_
 intro jb hjb
 refine au [2,3,4,4,5,8] ?_
 refine TK.cl Z Z Z Z (zja hT) ?_
 rintro r1 K2 ⟨rfl,rfl⟩
 refine au [30,3,20] ?_
 refine ⟨fun hc0=>?_,fun hc0=>?_⟩
 ·refine au [4,5] ?_
  refine TK.cl Z Z Z Z (zi5) ?_
  rintro r4 K5 ⟨rfl,rfl⟩
  refine au [2,3] ?_
  refine TK.rt hret [] ?_
  rfl
 have hgr:greatM b=false/\zr b=0:=by cases hq:greatM b <;> simp [hq] at hc0; exact ⟨rfl,hc0⟩
 obtain ⟨hgr,hck⟩:=hgr
 have hbb:=zZ hck
 have hl:b.seams.length<=100:=by have:=hbb.sms.len; omega
 have hm:b.measures.length<=100:=by have:=hbb.mes.len; omega
 have hl2:b.shrinks.length<=100:=by have:=hbb.cls.len; omega
 have hst:=hbb.rnd.steps
 obtain ⟨kn,rfl⟩:=Int.eq_ofNat_of_zero_le hk.1
 have hsl:=hbb.sms.len
 have hcl:=hbb.cls.len
 refine au [12,4,5,8] ?_
 refine TK.cl Z Z Z Z (zhJ hT hl hm) ?_
 rintro r7 K8 h9
 rcases h9 with ⟨hbar,rfl,rfl⟩ | ⟨hbar,hnil,rfl,rfl⟩ | ⟨hbar,hne,rfl,rfl⟩
 ·refine au [] ?_
  exact absurd hck hbar
 ·refine au [1,10,10,10,2,2,2,3,4,5,8] ?_
  refine TK.cl Z Z Z Z (uS hT hl hm) ?_
  rintro r10 K11 ⟨rfl,rfl⟩
  refine au [] ?_
  rw [hck,if_pos rfl]
  rw [hnil]
  refine au [1,10,10,2,2,3,4,4,5,1,6,1,1,6,1,6,34,25,3,20] ?_
  refine ⟨fun hc1=>?_,fun hc1=>?_⟩
  ·exact absurd hc1 dQ
  refine au [12,4,4,5,1,6,3,20] ?_
  refine ⟨fun hc2=>?_,fun hc2=>?_⟩
  ·
   refine au [4,5,1,6,1,1,6,26,1,1,6,26,1] ?_
   refine TK.cl Z Z Z Z (zi5) ?_
   rintro r13 K14 ⟨rfl,rfl⟩
   refine au [26,2,3] ?_
   refine TK.rt hret [] ?_
   rfl
  exact absurd hc2 dQ
 ·refine au [] ?_
  have hpos:0<(zf b).length:=List.length_pos_iff.2 hne
  have hsp:=jM b (zf b) b.seams.length
  rw [show askL b (zf b) b.seams.length=askM b (zf b) from rfl] at hsp
  generalize (askM b (zf b)).1=ca at hsp ⊢
  generalize (askM b (zf b)).2=la at hsp ⊢
  obtain ⟨q1,q2,q3,q4,q5,q6⟩:=hsp
  have hcn:0<=ca->ca.toNat<b.seams.length:=fun h=>by omega
  refine au [1,10,10,10,2,2,2,3,4,5,8] ?_
  refine TK.cl Z Z Z Z (uS hT hl hm) ?_
  rintro r16 K17 ⟨rfl,rfl⟩
  refine au [] ?_
  rw [hck,if_pos rfl]
  refine au [1,10,10,2,2,3,4,4,5,1,6,1,1,6,1,6,34,25,3,20] ?_
  refine ⟨fun hc1=>?_,fun hc1=>?_⟩
  ·first | (simp at hc1; omega) | (simp at hc1; exact (hne hc1).elim)
  refine au [12,4,4,5,1,6,3,20] ?_
  refine ⟨fun hc2=>?_,fun hc2=>?_⟩
  ·exact absurd hc2 dQ
  refine au [12,4,5,1] ?_
  refine TK.a Z (yU Z Z Und.h Und.h (wK oQ)) ?_
  refine au [7,9,28] ?_
  refine TK.a Z (q_rem Z Z Z oQ oQ) ?_
  refine au [2,3,4] ?_
  have hil:=Nat.mod_lt kn (show 0<b.seams.length by omega)
  rw [show (kn:Int) % (b.seams.length:Int)=((kn % b.seams.length:Nat):Int) from rfl]
  generalize kn % b.seams.length=i at hil ⊢
  have hq6:=q6 i hil
  rw [<- ji hbb (show i<b.shrinks.length by omega)] at hq6
  refine au [5,8,1] ?_
  refine TK.cl Z Z Z Z (jA hT (i:=i) hbb oQ) ?_
  rintro r19 K20 ⟨rfl,rfl⟩
  refine au [1,10,10,2,2,3,4,4,5,1,30,1,1,7,9,28,24] ?_
  refine TK.cl Z Z Z Z (yz hT) ?_
  rintro r22 K23 ⟨rfl,rfl⟩
  refine au [30,25,1] ?_
  refine TK.sp 75 (fun g11_12=>?_) (fun g11_12=>?_)
  ·simp [betw] at g11_12; omega
  refine au [1,6,1,1,6,34,25,1] ?_
  refine TK.sp 83 (fun g11_20=>?_) (fun g11_20=>?_)
  ·by_cases hca:ca<0
   ·have:=q4 hca; simp [hca,this] at g11_20
   ·have:=(q5 oQ).1; simp [hca] at g11_20; omega
  refine au [1,1,6,25,1] ?_
  refine TK.sp 88 (fun g11_25=>?_) (fun g11_25=>?_)
  ·simp at g11_25; omega
  refine au [1,1,6,25,1] ?_
  refine TK.sp 93 (fun g11_30=>?_) (fun g11_30=>?_)
  ·simp at g11_30; omega
  refine au [1,1,6,1] ?_
  refine TK.sp 97 (fun g11_34=>?_) (fun g11_34=>?_)
  ·refine au [1,6,26,1] ?_
   refine TK.sp 101 (fun g11_38=>?_) (fun g11_38=>?_)
   ·refine au [1,1,6,26,25,3,20] ?_
    refine ⟨fun hc3=>?_,fun hc3=>?_⟩
    ·first | exact absurd hc3 dQ | (simp at *; omega)
    refine au [12,4,4,5,1,6,3,20] ?_
    refine ⟨fun hc4=>?_,fun hc4=>?_⟩
    ·obtain ⟨cn,rfl⟩:=Int.eq_ofNat_of_zero_le (show 0<=ca from of_decide_eq_true hc4)
     have hc5:=q5 oQ
     rw [mZ,<- ji hbb (show cn<b.shrinks.length by omega)] at hc5
     refine au [5,8,1] ?_
     refine TK.cl Z Z Z Z (jA hT (i:=cn) hbb oQ) ?_
     rintro r25 K26 ⟨rfl,rfl⟩
     refine au [1,10,10,2,2,3,4,5,1,1,1,6,1] ?_
     refine TK.sp 119 (fun g15_5=>?_) (fun g15_5=>?_)
     ·have:=of_decide_eq_true g15_5; omega
     refine au [1,1,6,25,26,1] ?_
     refine TK.sp 125 (fun g15_11=>?_) (fun g15_11=>?_)
     ·refine TK.cl Z Z Z Z (zi5) ?_
      rintro r28 K29 ⟨rfl,rfl⟩
      refine au [26,2,3] ?_
      refine TK.rt hret [] ?_
      rfl
     first | exact absurd g15_11 dQ | (simp at g15_11; omega)
    refine au [12,4,5,1,1,1,6,1] ?_
    refine TK.sp 119 (fun g15_5=>?_) (fun g15_5=>?_)
    ·
     refine au [11,11,11,26,26,1] ?_
     refine TK.cl Z Z Z Z (zi5) ?_
     rintro r31 K32 ⟨rfl,rfl⟩
     refine au [26,2,3] ?_
     refine TK.rt hret [] ?_
     rfl
    have h1:=of_decide_eq_false g15_5; have h2:=of_decide_eq_false hc4; omega
   refine au [11,11,11,25,25,3,19,12,4,4,5,1,6,3,20] ?_
   refine ⟨fun hc4=>?_,fun hc4=>?_⟩
   ·obtain ⟨cn,rfl⟩:=Int.eq_ofNat_of_zero_le (show 0<=ca from of_decide_eq_true hc4)
    have hc5:=q5 oQ
    rw [mZ,<- ji hbb (show cn<b.shrinks.length by omega)] at hc5
    refine au [5,8,1] ?_
    refine TK.cl Z Z Z Z (jA hT (i:=cn) hbb oQ) ?_
    rintro r34 K35 ⟨rfl,rfl⟩
    refine au [1,10,10,2,2,3,4,5,1,1,1,6,1] ?_
    refine TK.sp 119 (fun g15_5=>?_) (fun g15_5=>?_)
    ·have:=of_decide_eq_true g15_5; omega
    refine au [1,1,6,25,26,1] ?_
    refine TK.sp 125 (fun g15_11=>?_) (fun g15_11=>?_)
    ·refine TK.cl Z Z Z Z (zi5) ?_
     rintro r37 K38 ⟨rfl,rfl⟩
     refine au [26,2,3] ?_
     refine TK.rt hret [] ?_
     rfl
    first | exact absurd g15_11 dQ | (simp at g15_11; omega)
   refine au [12,4,5,1,1,1,6,1] ?_
   refine TK.sp 119 (fun g15_5=>?_) (fun g15_5=>?_)
   ·
    refine au [11,11,11,26,26,1] ?_
    refine TK.cl Z Z Z Z (zi5) ?_
    rintro r40 K41 ⟨rfl,rfl⟩
    refine au [26,2,3] ?_
    refine TK.rt hret [] ?_
    rfl
   have h1:=of_decide_eq_false g15_5; have h2:=of_decide_eq_false hc4; omega
  refine au [11,11,25,1,11,11,11,25,25,3,19,12,4,4,5,1,6,3,20] ?_
  refine ⟨fun hc4=>?_,fun hc4=>?_⟩
  ·obtain ⟨cn,rfl⟩:=Int.eq_ofNat_of_zero_le (show 0<=ca from of_decide_eq_true hc4)
   have hc5:=q5 oQ
   rw [mZ,<- ji hbb (show cn<b.shrinks.length by omega)] at hc5
   refine au [5,8,1] ?_
   refine TK.cl Z Z Z Z (jA hT (i:=cn) hbb oQ) ?_
   rintro r43 K44 ⟨rfl,rfl⟩
   refine au [1,10,10,2,2,3,4,5,1,1,1,6,1] ?_
   refine TK.sp 119 (fun g15_5=>?_) (fun g15_5=>?_)
   ·have:=of_decide_eq_true g15_5; omega
   refine au [1,1,6,25,26,1] ?_
   refine TK.sp 125 (fun g15_11=>?_) (fun g15_11=>?_)
   ·refine TK.cl Z Z Z Z (zi5) ?_
    rintro r46 K47 ⟨rfl,rfl⟩
    refine au [26,2,3] ?_
    refine TK.rt hret [] ?_
    rfl
   first | exact absurd g15_11 dQ | (simp at g15_11; omega)
  refine au [12,4,5,1,1,1,6,1] ?_
  refine TK.sp 119 (fun g15_5=>?_) (fun g15_5=>?_)
  ·
   refine au [11,11,11,26,26,1] ?_
   refine TK.cl Z Z Z Z (zi5) ?_
   rintro r49 K50 ⟨rfl,rfl⟩
   refine au [26,2,3] ?_
   refine TK.rt hret [] ?_
   rfl
  have h1:=of_decide_eq_false g15_5; have h2:=of_decide_eq_false hc4; omega
end Go.Vel
end
