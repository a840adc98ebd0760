/- The law RollCuts: CheckBook, Cut, Fits, Hang and Places agree with the specification for every book, cuts and state. It holds of every program, tape and world that the statements name, as each theorem says. -/
import Derived.Test.YtamcohjpanjdiaaGreatDoorK5
import Derived.Test.YtamcohjpanjdiaaGreatDoorK7
import Derived.Test.YtamcohjpanjdiaaGreatDoorK8
import Derived.Test.YtamcohjpanjdiaaGreatDoorK10
section
set_option linter.all false
set_option maxRecDepth 20000
set_option maxHeartbeats 60000000
open Go.Proofs.Tryz renaming prog -> tp
open List renaming getElem?_eq_getElem -> lA, getD_eq_getElem?_getD -> lE, mem_cons -> lI, length_map -> lJ, map_append -> lM, getElem?_map -> lQ, mem_singleton -> lS, mem_append -> lT, getElem?_eq_none -> lU, take_length -> lW, getElem?_set -> lX, replicate -> mB
open List.Mem renaming head -> mC
open Nat renaming le_refl -> mL, zero_le -> mN, lt_or_ge -> mR
open Int renaming toNat_natCast -> mZ
namespace Go.Vel
open Go Go.Conc Go.Proofs
instance:EqG tp 49:={}
instance:EqG tp 94:={}
instance:FlatF tp 49 [(3,0),(3,1),(3,2)]:={}
instance:FlatF tp 94 [(3,0),(3,1),(3,2),(3,3),(4,4)]:={}
instance:Und tp 4 .bool:={}
end Go.Vel
namespace Go.Vel
open Go Go.Conc
end Go.Vel
namespace Go.Vel
open Go Go.Conc Go.Proofs
instance:Cal tp 19:={}
instance:Cal tp 44:={}
instance:Cal tp 49:={}
end Go.Vel
namespace Go.Vel
open Go Go.Conc
def otherM (c n:Nat):List Int:=if zw c n=[] then [((c % n:Nat):Int)] else zw c n
end Go.Vel
namespace Go.Vel
open Go Go.Conc Go.Proofs
section
variable {P:Program} {gm:Nat->Option Nat} {V:KV} {env:List AV} {o:Oper}
end
instance:Cal tp 62:={}
instance:Cal tp 75:={}
section
variable {main:Bool} {T:Goroutine->Hp->Prop} {b:RBk} {s h e j:Nat} {l:List Int} {et:TypeId}
end
instance:Cal tp 50:={}
instance:Cal tp 65:={}
instance:Cal tp 76:={}
end Go.Vel
namespace Go.Vel
open Go Go.Conc
def sumF (f:Nat->Int):Nat->Int
 | 0=>0
 | k+1=>sumF f k+f k
theorem xa {f g:Nat->Int}:∀ n,(∀ i,i<n->f i=g i)->sumF f n=sumF g n
 | 0,_=>rfl
 | n+1,h=>by
  unfold sumF
  rw [xa n (fun i hi=>h i oQ),h n oQ]
theorem xl {f:Nat->Int} {n:Nat} (h:∀ i,n<=i->f i=0):∀ k,sumF f (n+k)=sumF f n
 | 0=>rfl
 | k+1=>by
  show sumF f (n+k)+f (n+k)=_
  rw [xl h k,h _ oQ,Int.add_zero]
theorem xj {lt:Int->Int->Bool} {x:Int} {S:List Int}:∀ j,j<=S.length->(insJ lt x S j).Perm (x::S)
 | 0,_=>List.Perm.refl _
 | j+1,h=>by
  unfold insJ
  rw [lA oQ]
  dsimp only
  split
  ·exact xj j oQ
  ·have h1:=List.perm_middle (a:=x) (l₁:=S.take (j+1)) (l₂:=S.drop (j+1))
   rwa [List.take_append_drop] at h1
theorem jB {lt:Int->Int->Bool} {l:List Int}:∀ i,i<=l.length->(sortN lt l i).Perm (l.take i)
 | 0,_=>by rw [List.take_zero]; exact List.Perm.refl _
 | i+1,h=>by
  have hg:l[i]? =some l[i]:=lA oQ
  rw [wA hg,yP hg]
  exact (xj _ (mL _)).trans ((List.Perm.cons _ (jB i oQ)).trans (List.perm_append_singleton _ _).symm)
theorem xO (b:RBk) (l:List Int):(ordM b l).Nodup:=by
 unfold ordM sortR
 refine (jB _ (mL _)).nodup_iff.2 ?_
 rw [lW]
 unfold idxM
 exact List.Pairwise.map _ (fun a b hab=>by intro h; exact hab oQ) List.nodup_range
theorem jH {L:List Int} {k i:Nat} {v:Int} (h:k<L.length):(L.set k v).getD i 0=if i=k then v else L.getD i 0:=by
 rw [lE,lX,lE]
 by_cases e:k=i
 ·rw [if_pos e,if_pos h,if_pos e.symm]; rfl
 ·rw [if_neg e,if_neg (fun hh=>e hh.symm)]
def needM (b:RBk) (l w:List Int) (k:Nat):Int:=sumF (fun i=>(cutS b l i).spoil+w.getD i 0*(cutS b l i).busy) k
theorem xK {b:RBk} (hb:ROk b) {s:List Int} (hs:StOk b s):freshM b s=b.round - b.steps+sumF (fun i=>s.getD i 0) b.seams.length:=by
 have hl:=hb.sms.len
 have h5:sumF (fun i=>s.getD i 0) 5=sumF (fun i=>s.getD i 0) b.seams.length:=by
  have:=xl (f:=fun i=>s.getD i 0) (n:=b.seams.length) (fun i hi=>by
   show s.getD i 0=0
   rw [lE,lU (by rw [hs.len]; exact hi)]
   rfl) (5 - b.seams.length)
  rwa [show b.seams.length+(5 - b.seams.length)=5 by omega] at this
 rw [<- h5]
 show freshM b s=b.round - b.steps+(0+s.getD 0 0+s.getD 1 0+s.getD 2 0+s.getD 3 0+s.getD 4 0)
 unfold freshM
 omega
def manyM (b:RBk) (l:List Int) (i:Nat):Int:=if i+1<l.length then zN l (i+1) - zN l i else zN l 0 - zN l i+b.seams.length
theorem jP {b:RBk} {l:List Int} (hl:CutsOk b l) {i:Nat} (hi:i<l.length):1<=manyM b l i/\manyM b l i<=b.seams.length:=by
 have h1:=hl.lt hi
 have h0:=hl.lt hl.pos
 unfold manyM
 split
 ·rename_i h
  have h2:=hl.lt h
  have hlt:=zhN hl h
  omega
 ·have:zN l 0<=zN l i:=by
   by_cases e:i=0
   ·subst e; omega
   ·have e1:=z5 hl.pos
    have e2:=z5 hi
    have:=List.pairwise_iff_getElem.1 hl.asc 0 i hl.pos hi oQ
    rw [lA hl.pos] at e1
    rw [lA hi] at e2
    rw [Option.some.inj e1,Option.some.inj e2] at this
    omega
  omega
def nowS (b:RBk) (s:List Int) (x:Nat):Int:=sumF (nowM b s) x
theorem xx (b:RBk) (s:List Int) (c:Nat):∀ k,c+k<=b.seams.length->togM b s c k=nowS b s (c+k) - nowS b s c
 | 0,_=>by show (0:Int)=_; rw [Nat.add_zero]; omega
 | k+1,h=>by
  unfold togM
  rw [xx b s c k oQ,Nat.mod_eq_of_lt oQ]
  show _=nowS b s (c+k)+nowM b s (c+k) - _
  omega
theorem xb (b:RBk) (s:List Int) {c:Nat} (hc:c<=b.seams.length):∀ r,r<=b.seams.length->togM b s c (b.seams.length - c+r)=nowS b s b.seams.length - nowS b s c+nowS b s r
 | 0,_=>by
  rw [Nat.add_zero,xx b s c _ oQ,show c+(b.seams.length - c)=b.seams.length by omega]
  show _=_+(0:Int)
  omega
 | r+1,h=>by
  rw [<- Nat.add_assoc]
  unfold togM
  rw [xb b s hc r oQ,show c+(b.seams.length - c+r)=b.seams.length+r by omega,Nat.add_mod_left,Nat.mod_eq_of_lt oQ]
  show _=_+(nowS b s r+nowM b s r)
  omega
theorem jA {b:RBk}:∀ k,k<b.seams.length->sumF (wideM b) k=(sm b k).step - (sm b 0).step
 | 0,_=>by show (0:Int)=_; omega
 | k+1,h=>by
  show sumF _ k+wideM b k=_
  rw [jA k oQ]
  unfold wideM
  rw [if_pos h]
  omega
theorem xW {b:RBk} (h:0<b.seams.length):sumF (wideM b) b.seams.length=b.steps:=by
 obtain ⟨k,hk⟩:∃ k,b.seams.length=k+1:=⟨b.seams.length - 1,by omega⟩
 rw [hk]
 show sumF _ k+wideM b k=_
 rw [jA k oQ]
 unfold wideM
 rw [if_neg oQ]
 omega
theorem xX {b:RBk} {l s w:List Int} {i:Nat} (h:i+1<l.length):atM b l s w (i+1)=atM b l s w i+togM b s (zN l i).toNat (manyM b l i).toNat+w.getD (i+1) 0:=by
 unfold manyM
 rw [if_pos h]
 show _+(_+_)=_
 omega
end Go.Vel
namespace Go.Vel
open Go Go.Conc Go.Proofs
def u16A (x:Fin 65536):AV:=.v (.int .u16 (x.1:Int))
def u16O (l:List (Fin 65536)):AObj:=.cells (l.flatMap fun x=>[u16A x]) 212 false
def choM (l:List (Fin 65536)) (i:Nat):Int:=match l[i]? with | some x=>x.1 | none=>0
def chosenM (x:RBand) (n:Int):Int:=x.low+n % (x.high - x.low+1)
def realM (b:RBk) (ps:List (Fin 65536)):Nat->List Int
 | 0=>[]
 | i+1=>realM b ps i++[chosenM (bd b i) (choM ps i)]
instance:Cal tp 139:={}
instance:Cal tp 140:={}
instance:zF tp 91 212 1:={}
instance:zi tp 212 false 1:={}
instance:Und tp 212 (.int .u16):={}
instance:Und tp 91 (.slice 212):={}
end Go.Vel
namespace Go.Vel
open Go Go.Conc
def lastM (l:List Int):Nat->Option Int
 | 0=>none
 | i+1=>some (zN l i)
theorem qb {b:RBk} {n:Int} (h:betw n 0 (b.seams.length - 1)=true):thereM b n=0:=if_pos h
theorem qa {b:RBk} {n:Int} (h:betw n 0 (b.seams.length - 1)=false):thereM b n=6:=by unfold thereM; rw [if_neg (by rw [h]; decide)]
theorem xI {b:RBk} {last:Option Int} {x:Int} {r:List Int} (h:thereM b x=6):cutsL b last (x::r)=6:=by
 unfold cutsL
 rw [if_pos (by rw [h]; decide),h]
theorem xy {b:RBk} {last:Option Int} {x:Int} {r:List Int} (h:thereM b x=0) (h2:notAft last x=true):cutsL b last (x::r)=7:=by
 unfold cutsL
 rw [if_neg (by rw [h]; decide),if_pos h2]
theorem jW {b:RBk} {last:Option Int} {x:Int} {r:List Int} (h:thereM b x=0) (h2:notAft last x=false):cutsL b last (x::r)=cutsL b (some x) r:=by
 conv=>lhs; unfold cutsL
 rw [if_neg (by rw [h]; decide),if_neg (by rw [h2]; decide)]
theorem x9 {b:RBk} {i:Nat} {x:Int} {r:List Int} (h:betw x 0 5=false):shL b i (x::r)=1:=by
 unfold shL
 rw [if_pos h]
theorem xP {b:RBk} {i:Nat} {x:Int} {r:List Int} (h:betw x 0 5=true) (h2:wideM b i<=x):shL b i (x::r)=8:=by
 unfold shL
 rw [if_neg (by rw [h]; decide),if_pos h2]
theorem xV {b:RBk} {i:Nat} {x:Int} {r:List Int} (h:betw x 0 5=true) (h2:¬ wideM b i<=x):shL b i (x::r)=shL b (i+1) r:=by
 conv=>lhs; unfold shL
 rw [if_neg (by rw [h]; decide),if_neg h2]
def clM (b:RBk) (c:Nat) (m:Nat):List Int:=(List.range m).map fun i=>(((c+i) % b.seams.length:Nat):Int)
theorem xS (b:RBk) (c m:Nat):clM b c (m+1)=clM b c m++[(((c+m) % b.seams.length:Nat):Int)]:=by
 unfold clM
 rw [List.range_succ,lM]
 rfl
theorem xY (b:RBk) (c m:Nat):(clM b c m).length=m:=by unfold clM; rw [lJ,List.length_range]
theorem jF {b:RBk} {c m i:Nat} (h:i<m):(clM b c m)[i]? =some (((c+i) % b.seams.length:Nat):Int):=by
 unfold clM
 rw [lQ,List.getElem?_range h]
 rfl
theorem jE {l:List Int} (hp:l.Pairwise (· < ·)) {i j:Nat} (hij:i<=j) (hj:j<l.length):zN l i<=zN l j:=by
 rcases mR i j with h | h
 ·have e1:=z5 (l:=l) (k:=i) oQ
  have e2:=z5 hj
  rw [lA oQ] at e1
  rw [lA hj] at e2
  have:=List.pairwise_iff_getElem.1 hp i j oQ hj h
  rw [Option.some.inj e1,Option.some.inj e2] at this
  omega
 ·have:i=j:=by omega
  subst this
  exact Int.le_refl _
theorem xZ {l:List Int} {x:Int} (h:x∈l):∃ t,t<l.length/\zN l t=x:=by
 obtain ⟨t,ht,rfl⟩:=List.getElem_of_mem h
 refine ⟨t,ht,?_⟩
 unfold zN
 rw [lE,lA ht]
 rfl
theorem qd {b:RBk} {l:List Int} (hl:CutsOk b l) {k:Nat} (hk:k<l.length) {i:Nat} (h1:1<=i) (h2:(i:Int)<manyM b l k):¬ ((((zN l k).toNat+i) % b.seams.length:Nat):Int)∈l:=fun hm=>by
 obtain ⟨t,ht,he⟩:=xZ hm
 have hc:=hl.lt hk
 have h0:=hl.lt hl.pos
 have hct:=hl.lt ht
 unfold manyM at h2
 by_cases e:k+1<l.length
 ·rw [if_pos e] at h2
  have hn:=hl.lt e
  rw [Nat.mod_eq_of_lt oQ] at he
  rcases mR k t with h | h
  ·have:=jE hl.asc (i:=k+1) (j:=t) oQ ht
   omega
  ·have:=jE hl.asc h hk
   omega
 ·rw [if_neg e] at h2
  have ha:=jE hl.asc (mN t) ht
  have hb:=jE hl.asc (i:=t) (j:=k) oQ hk
  rcases mR ((zN l k).toNat+i) b.seams.length with h | h
  ·rw [Nat.mod_eq_of_lt h] at he
   omega
  ·rw [Nat.mod_eq_sub_mod h,Nat.mod_eq_of_lt oQ] at he
   omega
theorem cl_at {b:RBk} {l:List Int} (hl:CutsOk b l) {k:Nat} (hk:k<l.length):((((zN l k).toNat+(manyM b l k).toNat) % b.seams.length:Nat):Int)∈l:=by
 have hc:=hl.lt hk
 have h0:=hl.lt hl.pos
 unfold manyM
 by_cases e:k+1<l.length
 ·rw [if_pos e]
  have hn:=hl.lt e
  have hlt:=zhN hl e
  rw [Nat.mod_eq_of_lt oQ,show (((zN l k).toNat+(zN l (k+1) - zN l k).toNat:Nat):Int)=zN l (k+1) by omega]
  exact zgU e
 ·rw [if_neg e]
  have hb:=jE hl.asc (i:=0) (j:=k) (mN _) hk
  rw [show (zN l k).toNat+(zN l 0 - zN l k+(b.seams.length:Int)).toNat=b.seams.length+(zN l 0).toNat by omega,Nat.add_mod_left,Nat.mod_eq_of_lt oQ,show (((zN l 0).toNat:Nat):Int)=zN l 0 by omega]
  exact zgU hl.pos
theorem jG (b:RBk) (x:Nat):nowS b [] x=sumF (wideM b) x:=by
 unfold nowS
 refine xa x fun i _=>?_
 unfold nowM
 show wideM b i - 0=_
 omega
theorem xR {b:RBk} {l:List Int} (hl:CutsOk b l) {k:Nat} (hk:k<l.length):(stripM b l k).2=togM b [] (zN l k).toNat (manyM b l k).toNat:=by
 have hc:=hl.lt hk
 have h0:=hl.lt hl.pos
 have hmb:=jP hl hk
 unfold stripM endM cutS
 dsimp only
 by_cases e:k+1<l.length
 ·have hn:=hl.lt e
  have hlt:=zhN hl e
  rw [if_pos e]
  unfold manyM
  rw [if_pos e,xx b [] _ _ oQ,jG,jG,show (zN l k).toNat+(zN l (k+1) - zN l k).toNat=(zN l (k+1)).toNat by omega,jA _ hn.2.2,jA _ hc.2.2]
  omega
 ·rw [if_neg e]
  have hm:(manyM b l k).toNat=b.seams.length - (zN l k).toNat+(zN l 0).toNat:=by
   have hb:=jE hl.asc (i:=0) (j:=k) (mN _) hk
   unfold manyM
   rw [if_neg e]
   omega
  rw [hm,xb b [] oQ _ oQ,jG,jG,jG,jA _ hc.2.2,jA _ h0.2.2,xW oQ]
  omega
theorem xD {b:RBk} (hb:ROk b) (c:Nat):∀ k,0<=togM b [] c k/\togM b [] c k<=24*k
 | 0=>by show (0:Int)<=0/\(0:Int)<=_; omega
 | k+1=>by
  have h1:=xD hb c k
  have h2:=hb.wide (i:=(c+k) % b.seams.length) (Nat.mod_lt _ (by have:=hb.sms.len; omega))
  show 0<=togM b [] c k+(wideM b _ - 0)/\togM b [] c k+(wideM b _ - 0)<=_
  omega
end Go.Vel
namespace Go.Vel
open Go Go.Conc Go.Proofs
instance:Cal tp 142:={}
instance:Cal tp 58:={}
instance:Cal tp 93:={}
theorem xE {main T} (hT:zo tp main T) {gm} {b:RBk} {j:Nat} {et:TypeId} {l:List Int} (hl:l.length<=1000) (hn:b.seams.length<=100) :
  zA tp T gm 62 [.sl j 0 l.length,intA b.seams.length] [(j,.cells (l.map intA) et false)] (fun r K'=>r=intA (cutsL b none l)/\K'=[(j,.cells (l.map intA) et false)]):=by
 refine zp 34 hT Tryz.func62 fun Y hret=>?_
 refine au [4,5,2,3,4,4,5,2,3,13] ?_
 refine TK.maskL [0,1,5] ?_
 refine TK.loopN (fun n0 env K=>∃ (i:Nat),n0=l.length - i/\i<=l.length/\cutsL b (lastM l i) (l.drop i)=cutsL b none l/\env=[.sl j 0 l.length,intA b.seams.length,.any,.any,.any,intA i,.any,.any,.any,.any,.any,.any,.any,.any,.any,.any,.any,.any,.any,.any,.any,.any,.any,.any,.any,.any,.any,.any,.any,.any,.any,.any,.any,.any]/\K=[(j,.cells (l.map intA) et false)]) l.length ⟨0,rfl,mN _,rfl,rfl,rfl⟩ fun n0 env K hI hnext=>?_
 obtain ⟨i,rfl,hi,hinv,rfl,rfl⟩:=hI
 refine au [4,4,5,1,1,28,6,3,20] ?_
 refine ⟨fun hc0=>?_,fun hc0=>?_⟩
 ·have hil:i<l.length:=by simp at hc0; omega
  refine au [12,4,13,4,4,5,1,1,36] ?_
  refine TK.a Z (zm Z Z zi.h mQ (yh (i:=i) (z5 hil) Z)) ?_
  refine au [1,24] ?_
  refine TK.cl Z Z Z Z (yz hT) ?_
  rintro r1 K2 ⟨rfl,rfl⟩
  refine au [30,3,20] ?_
  refine ⟨fun hc1=>?_,fun hc1=>?_⟩
  ·refine au [4,5,2,3] ?_
   refine TK.rt hret [(j,_)] ?_
   exact ⟨by rw [<- hinv,zH (z5 hil),xI (qa (by simpa using hc1))],rfl⟩
  have hth:thereM b (zN l i)=0:=qb (by simpa using hc1)
  refine au [12,4] ?_
  refine TK.draw [0,1,2,3,4,5,6,7,8,9,10,11,12,13] [0,1,2,3,4,5,6,7,8,9,10,11,12,13] (by kernel_rfl) (by kernel_rfl) ?_
  refine TD.z [5] Z (zh Z Z) ?_
  refine TD.z [20] Z (q_cmp Z Z Z Z) ?_
  refine TD.z [21] Z (zh Z Z) ?_
  refine TD.sp 22 (fun g6_3=>?_) (fun g6_3=>?_)
  ·have hgi:0<i:=by have:=of_decide_eq_true g6_3; omega
   have hla:notAft (lastM l i) (zN l i)=decide (zN l i<=zN l (i - 1)):=by obtain ⟨p,rfl⟩:∃ p,i=p+1:=⟨i - 1,by omega⟩; rfl
   refine TD.z [0,22] Z (zh Z Z) ?_
   refine TD.z [5,22] Z (zh Z Z) ?_
   refine TD.z [22,23,24] Z (zQ Z Z Z zF.h oQ oQ) ?_
   refine TD.y [22,25] Z (hq:=zm Z Z zi.h (mC _) (yh (i:=i) (z5 hil) Z)) (h:=?_)
   refine TD.z [0,22] Z (zh Z Z) ?_
   refine TD.z [5,22] Z (zh Z Z) ?_
   refine TD.z [22,28] Z (q_sub Z Z Z oQ) ?_
   refine TD.z [22,27,29] Z (zQ Z Z Z zF.h oQ oQ) ?_
   refine TD.y [22,30] Z (hq:=zm Z Z zi.h (mC _) (yh (i:=i - 1) (z5 oQ) oQ)) (h:=?_)
   refine TD.z [22,26,31] Z (q_cmp Z Z Z Z) ?_
   refine TD.z [22,32] Z (yE Z Z Z) ?_
   refine TD.fin ?_
   refine au [20] ?_
   refine ⟨fun hc2=>?_,fun hc2=>?_⟩
   ·refine au [4,5,2,3] ?_
    refine TK.rt hret [(j,_)] ?_
    exact ⟨by rw [<- hinv,zH (z5 hil),xy hth (by rw [hla]; exact hc2)],rfl⟩
   refine au [12,14,5,1,23,2,3] ?_
   refine TK.maskL [0,1,5] ?_
   exact hnext _ _ _ oQ ⟨i+1,rfl,by omega,by rw [<- hinv,zH (z5 hil),jW hth (by first | (rw [hla]; exact hc2) | exact hla)]; rfl,rfl,rfl⟩
  have hla:notAft (lastM l i) (zN l i)=false:=by
   have:=of_decide_eq_false g6_3
   obtain rfl:i=0:=oQ
   rfl
  refine TD.u [0,22] Z ?_
  refine TD.u [5,22] Z ?_
  refine TD.u [22,23,24] Z ?_
  refine TD.u [22,25] Z ?_
  refine TD.u [0,22] Z ?_
  refine TD.u [5,22] Z ?_
  refine TD.u [22,28] Z ?_
  refine TD.u [22,27,29] Z ?_
  refine TD.u [22,30] Z ?_
  refine TD.u [22,26,31] Z ?_
  refine TD.z [22,32] Z (yf Z Z Z) ?_
  refine TD.fin ?_
  refine au [19,12,14,5,1,23,2,3] ?_
  refine TK.maskL [0,1,5] ?_
  exact hnext _ _ _ oQ ⟨i+1,rfl,by omega,by rw [<- hinv,zH (z5 hil),jW hth (by first | (rw [hla]; exact hc2) | exact hla)]; rfl,rfl,rfl⟩
 obtain rfl:i=l.length:=by simp at hc0; omega
 refine au [16,4,5,2,3] ?_
 refine TK.rt hret [(j,_)] ?_
 exact ⟨by rw [<- hinv,List.drop_length]; rfl,rfl⟩
theorem xo {main T} (hT:zo tp main T) {gm} {b:RBk} {s h e j:Nat} {et:TypeId} {l:List Int} (hl:l.length<=1000) (hn:b.seams.length<=100) :
  zA tp T gm 76 [.agg (zE b s h e),.sl j 0 l.length] [(j,.cells (l.map intA) et false)] (fun r K'=>r=intA (cutsM b l)/\K'=[(j,.cells (l.map intA) et false)]):=by
 refine zp 13 hT Tryz.func76 fun Y hret=>?_
 refine au [4,5,21] ?_
 intro jb hjb
 refine au [2,3,4,4,5,1,28,6,3,20] ?_
 refine ⟨fun hc0=>?_,fun hc0=>?_⟩
 ·refine au [4,5,2,3] ?_
  refine TK.rt hret [(j,_)] ?_
  exact ⟨by unfold cutsM; rw [if_pos (by have:=eq_of_beq hc0; omega)],rfl⟩
 refine au [12,4,5,1,7,9,28] ?_
 refine TK.cl Z Z Z Z (xE hT hl hn) ?_
 rintro r1 K2 ⟨rfl,rfl⟩
 refine au [2,3] ?_
 refine TK.rt hret [(j,_)] ?_
 exact ⟨by unfold cutsM; rw [if_neg (fun hh=>by rw [hh] at hc0; simp at hc0)],rfl⟩
theorem xp {main T} (hT:zo tp main T) {gm} {b:RBk} {s h e j:Nat} {et:TypeId} {l:List Int} (hr:RndOk b) (hs:SmOk b) (hl:l.length<=1000) :
  zA tp T gm 142 [.agg (zE b s h e),.sl j 0 l.length] [(s,zk b),(j,.cells (l.map intA) et false)] (fun r K'=>r=intA (shM b l)/\K'=[(s,zk b),(j,.cells (l.map intA) et false)]):=by
 refine zp 32 hT Tryz.func142 fun Y hret=>?_
 refine au [] ?_
 have hsl:=hs.len
 refine au [4,5,21] ?_
 intro jb hjb
 refine au [2,3,4,4,5,1,28,7,9,28,6,3,20] ?_
 refine ⟨fun hc0=>?_,fun hc0=>?_⟩
 ·refine au [4,5,2,3] ?_
  refine TK.rt hret [(s,_),(j,_)] ?_
  exact ⟨by unfold shM; rw [if_pos (fun hh=>by rw [hh] at hc0; simp at hc0)],rfl⟩
 have hlen:l.length=b.seams.length:=by simp at hc0; omega
 have hsm:shM b l=shL b 0 l:=by unfold shM; rw [if_neg (by simp [hlen])]
 refine au [12,4,4,5,2,3,13] ?_
 refine TK.maskL [1,2,5] ?_
 refine TK.kp [(s,_),(j,_),(jb,_)] ?_
 refine TK.loopN (fun n0 env K=>∃ (i:Nat),n0=l.length - i/\i<=l.length/\shL b i (l.drop i)=shL b 0 l/\env=[.any,.sl j 0 l.length,.ptr jb 0,.any,.any,intA i,.any,.any,.any,.any,.any,.any,.any,.any,.any,.any,.any,.any,.any,.any,.any,.any,.any,.any,.any,.any,.any,.any,.any,.any,.any,.any]/\K=[(s,zk b),(j,.cells (l.map intA) et false),(jb,.cells (zE b s h e) 26 true)]) l.length ⟨0,rfl,mN _,rfl,rfl,rfl⟩ fun n0 env K hI hnext=>?_
 obtain ⟨i,rfl,hi,hinv,rfl,rfl⟩:=hI
 refine au [4,4,5,1,1,28,6,3,20] ?_
 refine ⟨fun hc1=>?_,fun hc1=>?_⟩
 ·have hil:i<l.length:=by simp at hc1; omega
  refine au [12,4,13,4,4,5,1,1,36] ?_
  refine TK.a Z (zm Z Z zi.h mQ (yh (i:=i) (z5 hil) Z)) ?_
  refine TK.cl Z Z Z Z (yz hT) ?_
  rintro r1 K2 ⟨rfl,rfl⟩
  refine au [30,3,20] ?_
  refine ⟨fun hc2=>?_,fun hc2=>?_⟩
  ·refine au [4,5,2,3] ?_
   refine TK.rt hret [(s,_),(j,_)] ?_
   exact ⟨by rw [hsm,<- hinv,zH (z5 hil),x9 (by simpa using hc2)],rfl⟩
  refine au [12,4] ?_
  refine TK.draw [0,1,2,3,4,5,6,7] [0,1,2,3,4,5,6,7] (by kernel_rfl) (by kernel_rfl) ?_
  refine TD.z [1] Z (zh Z Z) ?_
  refine TD.z [5] Z (zh Z Z) ?_
  refine TD.z [24,25] Z (zQ Z Z Z zF.h oQ oQ) ?_
  refine TD.y [26] Z (hq:=zm Z Z zi.h (mC _) (yh (i:=i) (z5 hil) Z)) (h:=?_)
  refine TD.y [2] Z (hq:=z8 Z Z zi.h (mC _) Z) (h:=?_)
  refine TD.z [5] Z (zh Z Z) ?_
  refine TD.cl (pend':=[⟨3,[26],[(_,_)]⟩,⟨2,[24,25],[]⟩,⟨1,[5],[]⟩,⟨0,[1],[]⟩]) [28,29] Z Z Z Z Z (zfx hT (i:=i) hr hs oQ) (fun r4 K5 h6=>⟨?_,?_⟩)
  ·rcases h6 with ⟨rfl,rfl⟩
   all_goals simp
  obtain ⟨rfl,rfl⟩:=h6
  try simp only [cA]
  refine TD.norm tQ ?_
  refine TD.z [27,30] Z (q_cmp Z Z Z Z) ?_
  refine TD.fin ?_
  refine au [20] ?_
  refine ⟨fun hc3=>?_,fun hc3=>?_⟩
  ·refine au [4,5,2,3] ?_
   refine TK.rt hret [(s,_),(j,_)] ?_
   exact ⟨by rw [hsm,<- hinv,zH (z5 hil),xP (by simpa using hc2) (of_decide_eq_true hc3)],rfl⟩
  refine au [12,14,5,1,23,2,3] ?_
  refine TK.maskL [1,2,5] ?_
  refine TK.kp [(s,_),(j,_),(jb,_)] ?_
  exact hnext _ _ _ oQ ⟨i+1,rfl,by omega,by rw [<- hinv,zH (z5 hil),xV (by simpa using hc2) (of_decide_eq_false hc3)],rfl,rfl⟩
 obtain rfl:i=l.length:=by simp at hc1; omega
 refine au [16,4,5,2,3] ?_
 refine TK.rt hret [(s,_),(j,_)] ?_
 exact ⟨by rw [hsm,<- hinv,List.drop_length]; rfl,rfl⟩
theorem jM {main T} (hT:zo tp main T) {gm} {b:RBk} {s h e j:Nat} {l:List Int} {et:TypeId} (hl:b.seams.length<=100) (hm:b.measures.length<=100) (hll:l.length<=1000) :
  zA tp T gm 93 [.agg (zE b s h e),.sl j 0 l.length] [(s,zk b),(h,zB b),(e,zq b),(j,.cells (l.map intA) et false)] (fun r K'=>r=intA (bar2 (zr b) (cutsM b l))/\K'=[(s,zk b),(h,zB b),(e,zq b),(j,.cells (l.map intA) et false)]):=by
 refine zp 14 hT Tryz.func93 fun Y hret=>?_
 refine au [4,5,21] ?_
 intro jb hjb
 refine au [2,3,4,4,5,8] ?_
 refine TK.cl Z Z Z Z (zeH hT hl hm) ?_
 rintro r1 K2 ⟨rfl,rfl⟩
 refine au [2,3,4,5,1,6,3,20] ?_
 refine ⟨fun hc0=>?_,fun hc0=>?_⟩
 ·refine au [4,5,1,2,3] ?_
  refine TK.rt hret [(s,_),(h,_),(e,_),(j,_)] ?_
  exact ⟨by rw [vK (by simpa using hc0)],rfl⟩
 refine au [12,4,5,8,1] ?_
 refine TK.cl Z Z Z Z (xo hT hll hl) ?_
 rintro r4 K5 ⟨rfl,rfl⟩
 refine au [2,3] ?_
 refine TK.rt hret [(s,_),(h,_),(e,_),(j,_)] ?_
 exact ⟨by rw [kF (by simpa using hc0)],rfl⟩
theorem xu {main T} (hT:zo tp main T) {gm} {b:RBk} {s h e j j2:Nat} {l st:List Int} {et et2:TypeId} (hl:b.seams.length<=100) (hm:b.measures.length<=100) (hll:l.length<=1000) (hst:st.length<=1000) :
  zA tp T gm 102 [.agg (zE b s h e),.sl j 0 l.length,.sl j2 0 st.length] [(s,zk b),(h,zB b),(e,zq b),(j,.cells (l.map intA) et false),(j2,.cells (st.map intA) et2 false)] (fun r K'=>r=intA (bar2 (bar2 (zr b) (cutsM b l)) (shM b st))/\K'=[(s,zk b),(h,zB b),(e,zq b),(j,.cells (l.map intA) et false),(j2,.cells (st.map intA) et2 false)]):=by
 refine zp 17 hT Tryz.func102 fun Y hret=>?_
 refine au [4,5,21] ?_
 intro jb hjb
 refine au [2,3,4,4,5,8,1] ?_
 refine TK.cl Z Z Z Z (jM hT hl hm hll) ?_
 rintro r1 K2 ⟨rfl,rfl⟩
 refine au [2,3,4,5,1,6,3,20] ?_
 refine ⟨fun hc0=>?_,fun hc0=>?_⟩
 ·refine au [4,5,1,2,3] ?_
  refine TK.rt hret [(s,_),(h,_),(e,_),(j,_),(j2,_)] ?_
  exact ⟨by rw [vK (x:=bar2 (zr b) (cutsM b l)) (by simpa using hc0)],rfl⟩
 have hb0:bar2 (zr b) (cutsM b l)=0:=by simpa using hc0
 have hbb:=zZ (kE hb0)
 refine au [12,4,5,8,1] ?_
 refine TK.cl Z Z Z Z (xp hT hbb.rnd hbb.sms hst) ?_
 rintro r4 K5 ⟨rfl,rfl⟩
 refine au [2,3] ?_
 refine TK.rt hret [(s,_),(h,_),(e,_),(j,_),(j2,_)] ?_
 exact ⟨by rw [kF hb0],rfl⟩
theorem xM {main T} (hT:zo tp main T) {gm} {j:Nat} {et:TypeId} {l:List Int} {v:Int} (hl:l.length<=1000) :
  zA tp T gm 58 [.sl j 0 l.length,intA v] [(j,.cells (l.map intA) et false)] (fun r K'=>r=zP (decide (v∈l))/\K'=[(j,.cells (l.map intA) et false)]):=by
 refine zp 18 hT Tryz.func58 fun Y hret=>?_
 refine au [4,5,2,3,4,4,5,2,3,13] ?_
 refine TK.maskL [0,1,5] ?_
 refine TK.loopN (fun n0 env K=>∃ (i:Nat),n0=l.length - i/\i<=l.length/\¬ v∈l.take i/\env=[.sl j 0 l.length,intA v,.any,.any,.any,intA i,.any,.any,.any,.any,.any,.any,.any,.any,.any,.any,.any,.any]/\K=[(j,.cells (l.map intA) et false)]) l.length ⟨0,rfl,mN _,by simp,rfl,rfl⟩ fun n0 env K hI hnext=>?_
 obtain ⟨i,rfl,hi,hn,rfl,rfl⟩:=hI
 refine au [4,4,5,1,1,28,6,3,20] ?_
 refine ⟨fun hc0=>?_,fun hc0=>?_⟩
 ·have hil:i<l.length:=by simp at hc0; omega
  refine au [12,4,13,4,5,1,1,36] ?_
  refine TK.a Z (zm Z Z zi.h mQ (yh (i:=i) (z5 hil) Z)) ?_
  refine au [1,6,3,20] ?_
  refine ⟨fun hc1=>?_,fun hc1=>?_⟩
  ·refine au [4,5,2,3] ?_
   refine TK.rt hret [(j,_)] ?_
   exact ⟨by rw [decide_eq_true (show v∈l by have h:zN l i=v:=eq_of_beq hc1; rw [<- h]; exact zgU hil)],rfl⟩
  refine au [12,14,5,1,23,2,3] ?_
  refine TK.maskL [0,1,5] ?_
  exact hnext _ _ _ oQ ⟨i+1,rfl,by omega,fun hh=>by
   rw [yP (z5 hil)] at hh
   rcases lT.1 hh with hh | hh
   ·exact hn hh
   ·rw [lS.1 hh] at hc1; simp at hc1,rfl,rfl⟩
 obtain rfl:i=l.length:=by simp at hc0; omega
 refine au [16,4,5,2,3] ?_
 refine TK.rt hret [(j,_)] ?_
 exact ⟨by rw [decide_eq_false (by rwa [lW] at hn)],rfl⟩
theorem jD {main T} (hT:zo tp main T) {gm} {b:RBk} {s h e j k:Nat} {et:TypeId} {l:List Int} (hb:ROk b) (hl:CutsOk b l) (hk:k<l.length) :
  zA tp T gm 105 [.agg (zE b s h e),.sl j 0 l.length,intA k] [(j,.cells (l.map intA) et false)] (fun r K'=>∃ jr,r=.row jr (manyM b l k).toNat/\K'=(jr,.row ((clM b (zN l k).toNat (manyM b l k).toNat).map intA) 3 1)::[(j,.cells (l.map intA) et false)]):=by
 refine zp 38 hT Tryz.func105 fun Y hret=>?_
 refine au [] ?_
 have hsl:=hb.sms.len
 have hll:=hl.len
 have hq:=hl.lt hk
 have hmb:=jP hl hk
 obtain ⟨c,hcn⟩:∃ c:Nat,zN l k=(c:Int):=⟨(zN l k).toNat,by omega⟩
 have hck:l[k]? =some (c:Int):=by rw [z5 hk,hcn]
 have hct:(zN l k).toNat=c:=by omega
 refine au [4,5,21] ?_
 intro jb hjb
 refine au [2,3,4,5,1,1,36] ?_
 refine TK.a Z (zm Z Z zi.h mQ (yh (i:=k) hck Z)) ?_
 refine TK.newR Z Z Z (zt (l:=[_]) Z zF.h TyZ.h dQ dQ Z) (fun _=>zu rfl tQ) fun jr0 hjr0=>?_
 refine au [2,3,4,4] ?_
 refine TK.draw [0,1,2,3,4,5,6,7,8,9] [0,1,2,3,4,5,6,7,8,9] (by kernel_rfl) (by kernel_rfl) ?_
 refine TD.z [1] Z (zh Z Z) ?_
 refine TD.z [2] Z (zh Z Z) ?_
 refine TD.z [14,15] Z (zQ Z Z Z zF.h oQ oQ) ?_
 refine TD.y [16] Z (hq:=zm Z Z zi.h (mC _) (yh (i:=k) hck Z)) (h:=?_)
 refine TD.z [17] Z (q_add Z Z Z oQ) ?_
 refine TD.z [3] Z (zg Z Z zl.h dQ) ?_
 refine TD.y [19] Z (hq:=zm Z Z zi.h (mC _) Z) (h:=?_)
 refine TD.z [20] Z (q_len Z Z Z Und.h) ?_
 refine TD.z [18,21] Z (q_rem Z Z Z oQ oQ) ?_
 refine TD.as (pend':=[]) [22] Z Z (zD Z Z) ?_
 refine TD.fin ?_
 refine au [13] ?_
 refine TK.maskL [1,3,7,8] ?_
 refine TK.kp [(j,_),(jr0,_),(jb,_)] ?_
 refine TK.loopN (fun n0 env K=>∃ (i jr:Nat),n0=(manyM b l k).toNat - i/\1<=i/\i<=(manyM b l k).toNat/\env=[.any,.sl j 0 l.length,.any,.ptr jb 0,.any,.any,.any,.row jr i,intA ((c+i) % b.seams.length:Nat),.any,.any,.any,.any,.any,.any,.any,.any,.any,.any,.any,.any,.any,.any,.any,.any,.any,.any,.any,.any,.any,.any,.any,.any,.any,.any,.any,.any,.any]/\K=[(j,.cells (l.map intA) et false),(jr,.row ((clM b c i).map intA) 3 1),(jb,.cells (zE b s h e) 26 true)]) ((manyM b l k).toNat - 1) ⟨1,jr0,rfl,mL _,by omega,by rw [show ((c:Int)+1) % (b.seams.length:Int)=(((c+1) % b.seams.length:Nat):Int) from rfl]; rfl,by rw [show clM b c 1=[(c:Int)] by show [(((c+0) % b.seams.length:Nat):Int)]=_; rw [Nat.add_zero,Nat.mod_eq_of_lt oQ]]; rfl⟩ fun n0 env K hI hnext=>?_
 obtain ⟨i,jr,rfl,hi1,hi,rfl,rfl⟩:=hI
 have hml:(c+i) % b.seams.length<b.seams.length:=Nat.mod_lt _ oQ
 have hcl:=xY b c i
 refine au [4,4,5,1,1] ?_
 refine TK.cl Z Z Z Z (xM hT oQ) ?_
 rintro r1 K2 ⟨rfl,rfl⟩
 refine au [30,3,20] ?_
 refine ⟨fun hc0=>?_,fun hc0=>?_⟩
 ·have hlt:i<(manyM b l k).toNat:=by
   rcases mR i (manyM b l k).toNat with h | h
   ·exact h
   ·have e:i=(manyM b l k).toNat:=by omega
    have:=cl_at hl hk
    rw [hct,<- e] at this
    rw [decide_eq_true this] at hc0
    cases hc0
  refine au [12,4,13,5,1,1] ?_
  refine TK.newR Z Z Z (zt (l:=[_]) Z zF.h TyZ.h dQ dQ Z) (fun _=>zu rfl tQ) fun j4 hj4=>?_
  refine TK.appR Z Z Z (a_app Z ApOf.h Z mQ (by simp; omega) Z (yu (ln:=[_]) mQ dQ sQ Z) oQ Z (by unfold maxLen; omega) oQ) (fun _=>uQ) (fun _=>zu rfl tQ) fun jr2=>?_
  refine au [2,3,14,5,1,23,7,9,28] ?_
  refine TK.a Z (q_rem Z Z Z oQ oQ) ?_
  refine au [2,3] ?_
  refine TK.maskL [1,3,7,8] ?_
  refine TK.kp [(j,_),(jr2,_),(jb,_)] ?_
  exact hnext _ _ _ oQ ⟨i+1,jr2,rfl,by omega,by omega,by rw [show ((((c+i) % b.seams.length:Nat):Int)+1) % (b.seams.length:Int)=(((c+(i+1)) % b.seams.length:Nat):Int) by rw [show ((((c+i) % b.seams.length:Nat):Int)+1) % (b.seams.length:Int)=((((c+i) % b.seams.length+1) % b.seams.length:Nat):Int) from rfl,Nat.mod_add_mod]; rfl]; rfl,by rw [xS,lM]; rfl⟩
 have hie:i=(manyM b l k).toNat:=by
  rcases mR i (manyM b l k).toNat with h | h
  ·have:=qd hl hk hi1 oQ
   rw [hct] at this
   rw [decide_eq_false this] at hc0
   cases hc0
  ·omega
 refine au [16,4,5,1,2,3] ?_
 refine TK.rt hret [(jr,_),(j,_)] ?_
 exact ⟨jr,by rw [hie] <;> rfl,by rw [hct,hie] <;> rfl⟩
theorem or2r {x:Int} {A B:Prop} (h:(x≠0/\A)\/(x=0/\B)) (hx:x=0):B:=by
 rcases h with ⟨h,_⟩ | ⟨_,h⟩
 ·exact absurd hx h
 ·exact h
theorem or3x {x:Int} {A B C P:Prop} (h:(x≠0/\A)\/(x=0/\P/\B)\/(x=0/\C)) (hx:x=0):(P/\B)\/C:=by
 rcases h with ⟨h,_⟩ | ⟨_,h⟩ | ⟨_,h⟩
 ·exact absurd hx h
 ·exact .inl h
 ·exact .inr h
theorem jZ {b:RBk} {l:List Int} {i:Nat} (h:i<l.length):(stripsM b l)[i]? =some (stripM b l i):=by
 unfold stripsM
 rw [lQ,List.getElem?_range h]
 rfl
instance:Cal tp 71:={}
instance:Cal tp 72:={}
instance:Cal tp 73:={}
theorem xB {b:RBk} {l:List Int} {i:Nat} (hi:i<l.length) (h:¬ (stripM b l i).2<=b.roll\/(cutS b l i).whole=true):fitsM b l=false:=by
 unfold fitsM
 rw [show ((List.range l.length).all fun k => !(cutS b l k).whole&&decide ((stripM b l k).2<=b.roll))=false from List.all_eq_false.2 ⟨i,List.mem_range.2 hi,by
  rcases h with h | h
  ·rw [decide_eq_false h]; simp
  ·rw [h]; simp⟩]
 exact Bool.and_false _
instance:Cal tp 105:={}
instance:Cal tp 94:={}
theorem jS {main T} (hT:zo tp main T) {gm} {b:RBk} {s h e j:Nat} {et:TypeId} {l:List Int} (hb:ROk b) (hl:CutsOk b l) :
  zA tp T gm 94 [.agg (zE b s h e),.sl j 0 l.length] [(s,zk b),(j,.cells (l.map intA) et false)] (fun r K'=>∃ jr,r=.row jr l.length/\K'=(jr,.row ((stripsM b l).flatMap pairC) 96 2)::[(s,zk b),(j,.cells (l.map intA) et false)]):=by
 refine zp 44 hT Tryz.func94 fun Y hret=>?_
 refine au [] ?_
 have hsl:=hb.sms.len
 have hll:=hl.len
 refine au [4,5,21] ?_
 intro jb hjb
 refine au [2,3,4,5,2] ?_
 refine TK.virt 5 96 2 Z fun jr0 hjr0=>?_
 refine au [3,4,4,5,2,3,13] ?_
 refine TK.maskL [1,2,5,6] ?_
 refine TK.kp [(s,_),(j,_),(jr0,_),(jb,_)] ?_
 refine TK.loopN (fun n env K=>∃ (i jr:Nat),n=l.length - i/\i<=l.length/\env=.any::.sl j 0 l.length::.ptr jb 0::naL 2 (.row jr i::intA i::naL 37 [])/\K=[(s,zk b),(j,.cells (l.map intA) et false),(jr,.row (((List.range i).map (stripM b l)).flatMap pairC) 96 2),(jb,.cells (zE b s h e) 26 true)]) l.length ⟨0,jr0,rfl,mN _,rfl,rfl⟩ fun n env K hI hnext=>?_
 obtain ⟨i,jr,rfl,hi,rfl,rfl⟩:=hI
 have hfl:=yy pairC 2 (fun _=>rfl) ((List.range i).map (stripM b l))
 rw [lJ,List.length_range] at hfl
 refine TK.na nQ ?_
 refine au [4,4,5,1,1,28,6,3,20] ?_
 refine ⟨fun hc0=>?_,fun hc0=>?_⟩
 ·have hil:i<l.length:=by simp at hc0; omega
  have hmb:=jP hl hil
  refine au [12,4,13,4,5,8,1,1] ?_
  refine TK.cl Z Z Z Z (jD hT hb hl hil) ?_
  rintro r1 K2 ⟨jc,rfl,rfl⟩
  refine au [2,2,3,4,4,5,2,3,13] ?_
  refine TK.maskL [1,2,5,6,7,8,9] ?_
  refine TK.kp [(s,_),(j,_),(jr,_),(jb,_),(jc,_)] ?_
  refine TK.loopN (fun n env K=>∃ (t:Nat),n=(manyM b l i).toNat - t/\t<=(manyM b l i).toNat/\env=.any::.sl j 0 l.length::.ptr jb 0::naL 2 (.row jr i::intA i::.row jc (manyM b l i).toNat::intA (togM b [] (zN l i).toNat t)::intA t::naL 34 [])/\K=[(s,zk b),(j,.cells (l.map intA) et false),(jr,.row (((List.range i).map (stripM b l)).flatMap pairC) 96 2),(jb,.cells (zE b s h e) 26 true),(jc,.row ((clM b (zN l i).toNat (manyM b l i).toNat).map intA) 3 1)]) (manyM b l i).toNat ⟨0,rfl,mN _,rfl,rfl⟩ fun n env K hI2 hnext2=>?_
  obtain ⟨t,rfl,ht,rfl,rfl⟩:=hI2
  have htb:=xD hb (zN l i).toNat t
  have hml:((zN l i).toNat+t) % b.seams.length<b.seams.length:=Nat.mod_lt _ oQ
  have hwb:=hb.wide hml
  refine TK.na nQ ?_
  refine au [4,4,5,1,1,28,6,3,20] ?_
  refine ⟨fun hc1=>?_,fun hc1=>?_⟩
  ·have htl:t<(manyM b l i).toNat:=by simp at hc1; omega
   refine au [12,4,13] ?_
   refine TK.draw [0,1,2,3,4,5,6,7,8] [0,1,2,3,4,5,6,7,8] (by kernel_rfl) (by kernel_rfl) ?_
   refine TD.z [8] Z (zh Z Z) ?_
   refine TD.y [2] Z (hq:=z8 Z Z zi.h (mC _) Z) (h:=?_)
   refine TD.z [7] Z (zh Z Z) ?_
   refine TD.z [9] Z (zh Z Z) ?_
   refine TD.y [28,29] Z (hq:=kA Z Z Z zF.h (mC _) oQ oQ) (h:=?_)
   refine TD.y [30] Z (hq:=zm Z Z zi.h (mC _) (zag (i:=t) (jF htl) Z)) (h:=?_)
   refine TD.cl (pend':=[⟨4,[28,29],[(_,_)]⟩,⟨3,[9],[]⟩,⟨2,[7],[]⟩,⟨0,[8],[]⟩]) [27,31] Z Z Z Z Z (zfx hT (i:=((zN l i).toNat+t) % b.seams.length) hb.rnd hb.sms hml) (fun r4 K5 h6=>⟨?_,?_⟩)
   ·rcases h6 with ⟨rfl,rfl⟩
    all_goals simp
   obtain ⟨rfl,rfl⟩:=h6
   try simp only [cA]
   refine TD.norm tQ ?_
   refine TD.z [26,32] Z (q_add Z Z Z oQ) ?_
   refine TD.as (pend':=[]) [33] Z Z (zD Z Z) ?_
   refine TD.fin ?_
   refine au [14,5,1,23,2,3] ?_
   refine TK.maskL [1,2,5,6,7,8,9] ?_
   refine TK.kp [(s,_),(j,_),(jr,_),(jb,_),(jc,_)] ?_
   exact hnext2 _ _ _ oQ ⟨t+1,rfl,by omega,by rw [show togM b [] (zN l i).toNat t+wideM b (((zN l i).toNat+t) % b.seams.length)=togM b [] (zN l i).toNat (t+1) by show _=_+(wideM b _ - 0); omega]; rfl,rfl⟩
  obtain rfl:t=(manyM b l i).toNat:=by simp at hc1; omega
  refine au [16,5,1,1,1,36] ?_
  refine TK.a Z (zm Z Z zi.h mQ (yh (i:=i) (z5 hil) Z)) ?_
  refine au [1,39] ?_
  refine TK.newR Z Z Z (zt (l:=[_,_]) Z zF.h TyZ.h dQ dQ Z) (fun _=>zu rfl tQ) fun j7 hj7=>?_
  refine TK.appR Z Z Z (a_app Z ApOf.h Z mQ (by rw [hfl]) Z (yu (ln:=[_,_]) mQ dQ sQ Z) oQ Z (by unfold maxLen; omega) oQ) (fun _=>uQ) (fun _=>zu rfl tQ) fun jr2=>?_
  refine au [2,3,14,5,1,23,2,3] ?_
  refine TK.maskL [1,2,5,6] ?_
  refine TK.kp [(s,_),(j,_),(jr2,_),(jb,_)] ?_
  exact hnext _ _ _ oQ ⟨i+1,jr2,rfl,by omega,rfl,by rw [zbP]; unfold pairC; rw [xR hl hil]; rfl⟩
 obtain rfl:i=l.length:=by simp at hc0; omega
 refine au [16,4,5,1,2,3] ?_
 refine TK.rt hret [(jr,_),(s,_),(j,_)] ?_
 exact ⟨jr,rfl,rfl⟩
theorem xg {main T} (hT:zo tp main T) {gm} {b:RBk} {s h e j:Nat} {et:TypeId} {l:List Int} (hb:ROk b) (hl:CutsOk b l) :
  zA tp T gm 96 [.agg (zE b s h e),.sl j 0 l.length] [(s,zk b),(j,.cells (l.map intA) et false)] (fun r K'=>r=zP (fitsM b l)/\K'=[(s,zk b),(j,.cells (l.map intA) et false)]):=by
 refine zp 41 hT Tryz.func96 fun Y hret=>?_
 refine au [] ?_
 have hsl:=hb.sms.len
 have hll:=hl.len
 refine au [4,5,21] ?_
 intro jb hjb
 refine au [2,3,4,5,8,1] ?_
 refine TK.cl Z Z Z Z (jS hT hb hl) ?_
 rintro r1 K2 ⟨jr,rfl,rfl⟩
 refine au [2,3,4,4,5,1,28,7,9,6,3,20] ?_
 refine ⟨fun hc0=>?_,fun hc0=>?_⟩
 ·refine au [4,5,2,3] ?_
  refine TK.rt hret [(s,_),(j,_)] ?_
  exact ⟨by unfold fitsM; rw [decide_eq_false (by have:=of_decide_eq_true hc0; omega)]; rfl,rfl⟩
 have hle:(l.length:Int)<=b.rolls:=by have:=of_decide_eq_false hc0; omega
 refine au [12,4,4,5,2,3,13] ?_
 refine TK.maskL [2,5,6] ?_
 refine TK.kp [(s,_),(j,_),(jr,_),(jb,_)] ?_
 refine TK.loopN (fun n env K=>∃ (i:Nat),n=l.length - i/\i<=l.length/\(List.range i).all (fun k => !(cutS b l k).whole&&decide ((stripM b l k).2<=b.roll))=true/\env=naL 2 (.ptr jb 0::naL 2 (.row jr l.length::intA i::naL 34 []))/\K=[(s,zk b),(j,.cells (l.map intA) et false),(jr,.row ((stripsM b l).flatMap pairC) 96 2),(jb,.cells (zE b s h e) 26 true)]) l.length ⟨0,rfl,mN _,rfl,rfl,rfl⟩ fun n env K hI hnext=>?_
 obtain ⟨i,rfl,hi,hal,rfl,rfl⟩:=hI
 refine TK.na nQ ?_
 refine au [4,4,5,1,1,28,6,3,20] ?_
 refine ⟨fun hc1=>?_,fun hc1=>?_⟩
 ·have hil:i<l.length:=by simp at hc1; omega
  have hq:=hl.lt hil
  refine au [12,4,13,4] ?_
  have hs1:(stripM b l i).1=zN l i:=rfl
  refine TK.draw [0,1,2,3,4,5,6,7,8,9,10,11,12,13,14,15,16,17,18,19] [0,1,2,3,4,5,6,7,8,9,10,11,12,13,14,15,16,17,18,19] (by kernel_rfl) (by kernel_rfl) ?_
  refine TD.z [5] Z (zh Z Z) ?_
  refine TD.z [6] Z (zh Z Z) ?_
  refine TD.y [21,22] Z (hq:=kA Z Z Z zF.h (mC _) oQ oQ) (h:=?_)
  refine TD.z [23] Z (zg Z Z zl.h dQ) ?_
  refine TD.y [24] Z (hq:=zm Z Z zi.h (mC _) (ym (c:=1) (zbo (c:=2) (f:=pairC) (fun _=>rfl) (jZ (b:=b) hil) rfl dQ) dQ rfl)) (h:=?_)
  refine TD.z [2] Z (zg Z Z zl.h dQ) ?_
  refine TD.y [26] Z (hq:=zm Z Z zi.h (mC _) Z) (h:=?_)
  refine TD.z [25,27] Z (q_cmp Z Z Z Z) ?_
  refine TD.z [28] Z (zh Z Z) ?_
  refine TD.sp 29 (fun g7_9=>?_) (fun g7_9=>?_)
  ·have hbad:¬ (stripM b l i).2<=b.roll\/(cutS b l i).whole=true:=.inl (by have:=of_decide_eq_true g7_9; omega)
   refine TD.u [2,29] Z ?_
   refine TD.u [29,30] Z ?_
   refine TD.u [5,29] Z ?_
   refine TD.u [6,29] Z ?_
   refine TD.u [29,32,33] Z ?_
   refine TD.u [29,34] Z ?_
   refine TD.u [29,35] Z ?_
   refine TD.u [29,31,36] Z ?_
   refine TD.u [29,37] Z ?_
   refine TD.u [29,38] Z ?_
   refine TD.z [29,39] Z (yE Z Z Z) ?_
   refine TD.fin ?_
   refine au [18,4,5,2,3] ?_
   refine TK.rt hret [(s,_),(j,_)] ?_
   exact ⟨by rw [xB hil hbad],rfl⟩
  refine TD.z [2,29] Z (zg Z Z zl.h dQ) ?_
  refine TD.y [29,30] Z (hq:=zm Z Z zi.h (mC _) Z) (h:=?_)
  refine TD.z [5,29] Z (zh Z Z) ?_
  refine TD.z [6,29] Z (zh Z Z) ?_
  refine TD.y [29,32,33] Z (hq:=kA Z Z Z zF.h (mC _) oQ oQ) (h:=?_)
  refine TD.z [29,34] Z (zg Z Z zl.h dQ) ?_
  refine TD.y [29,35] Z (hq:=zm Z Z zi.h (mC _) (ym (c:=0) (zbo (c:=2) (f:=pairC) (fun _=>rfl) (jZ (b:=b) hil) rfl dQ) dQ rfl)) (h:=?_)
  refine TD.z [29,31,36] Z (zQ Z Z Z zF.h oQ oQ) ?_
  refine TD.z [29,37] Z (zg Z Z zl.h dQ) ?_
  refine TD.y [29,38] Z (hq:=zm Z Z zi.h (mC _) (ym (c:=4) (sm_at b (i:=(zN l i).toNat) hq.2.2 oQ) dQ Z)) (h:=?_)
  refine TD.z [29,39] Z (yf Z Z Z) ?_
  refine TD.fin ?_
  refine au [20] ?_
  refine ⟨fun hc2=>?_,fun hc2=>?_⟩
  ·have hbad:¬ (stripM b l i).2<=b.roll\/(cutS b l i).whole=true:=.inr hc2
   refine au [4,5,2,3] ?_
   refine TK.rt hret [(s,_),(j,_)] ?_
   exact ⟨by rw [xB hil hbad],rfl⟩
  have hok:(!(cutS b l i).whole&&decide ((stripM b l i).2<=b.roll))=true:=by have h1:=of_decide_eq_false g7_9; rw [show (cutS b l i).whole=false from hc2,decide_eq_true (show (stripM b l i).2<=b.roll by omega)]; rfl
  refine au [12,14,5,1,23,2,3] ?_
  refine TK.maskL [2,5,6] ?_
  refine TK.kp [(s,_),(j,_),(jr,_),(jb,_)] ?_
  exact hnext _ _ _ oQ ⟨i+1,rfl,by omega,by rw [List.range_succ,List.all_append,hal]; simp [hok],rfl,rfl⟩
 obtain rfl:i=l.length:=by simp at hc1; omega
 refine au [16,4,5,2,3] ?_
 refine TK.rt hret [(s,_),(j,_)] ?_
 exact ⟨by unfold fitsM; rw [decide_eq_true hle,hal]; rfl,rfl⟩
end Go.Vel
namespace Go.Vel
open Go Go.Conc
def fS (f:Int->Int):List Int->Int
 | []=>0
 | k::o=>f k+fS f o
theorem xf (f:Int->Int):∀ a c,fS f (a++c)=fS f a+fS f c
 | [],c=>by show fS f c=0+fS f c; omega
 | k::a,c=>by show f k+fS f (a++c)=f k+fS f a+fS f c; rw [xf f a c]; omega
theorem x6 (f:Int->Int) {a c:List Int} (h:a.Perm c):fS f a=fS f c:=by
 induction h with
 | nil=>rfl
 | cons x _ ih=>show f x+_=f x+_; rw [ih]
 | swap x y l=>show f y+(f x+fS f l)=f x+(f y+fS f l); omega
 | trans _ _ h1 h2=>exact h1.trans h2
theorem xJ (f:Int->Int):∀ n,fS f (idxM n)=sumF (fun i=>f i) n
 | 0=>rfl
 | n+1=>by
  have e:idxM (n+1)=idxM n++[(n:Int)]:=by unfold idxM; rw [List.range_succ,lM]; rfl
  rw [e,xf,xJ f n]
  show _+(f n+0)=_+f n
  omega
theorem xr (f:Int->Int) (b:RBk) (l:List Int):fS f (ordM b l)=sumF (fun i=>f i) l.length:=by
 rw [<- xJ]
 unfold ordM sortR
 refine x6 f ?_
 have h:=jB (lt:=busyLt b l) (l:=idxM l.length) (idxM l.length).length (mL _)
 rwa [lW] at h
theorem fS_nn {f:Int->Int}:∀ o:List Int,(∀ k∈o,0<=f k)->0<=fS f o
 | [],_=>Int.le_refl _
 | k::o,h=>by
  have h1:=h k sQ
  have h2:=fS_nn o (fun x hx=>h x (by simp [hx]))
  show 0<=f k+_
  omega
def gC (m c:Int->Int):List Int->Int->Int
 | [],_=>0
 | k::o,n=>min n (m k)*c k+gC m c o (n - min n (m k))
theorem jR {lt:Int->Int->Bool} {K:Int->Int} {x:Int} {S:List Int} (hlt:∀ y∈S,lt x y=decide (K x<K y)) (hS:S.Pairwise fun a c=>K a<=K c):∀ j,j<=S.length->(∀ i y,j<=i->S[i]? =some y->K x<K y)->(insJ lt x S j).Pairwise fun a c=>K a<=K c
 | 0,_,h=>by
  refine List.pairwise_cons.2 ⟨fun y hy=>?_,hS⟩
  obtain ⟨i,hi,rfl⟩:=List.getElem_of_mem hy
  have:=h i _ (mN _) (lA hi)
  omega
 | j+1,hj,h=>by
  have hg:S[j]? =some S[j]:=lA oQ
  have hm:S[j]∈S:=List.getElem_mem _
  unfold insJ
  rw [hg]
  dsimp only
  by_cases hl:lt x S[j]=true
  ·rw [if_pos hl]
   rw [hlt _ hm] at hl
   refine jR hlt hS j oQ fun i y hi hy=>?_
   by_cases e:i=j
   ·subst e
    rw [hg] at hy
    cases hy
    exact of_decide_eq_true hl
   ·exact h i y oQ hy
  ·rw [if_neg hl]
   rw [hlt _ hm] at hl
   have hl:¬ K x<K S[j]:=by simpa using hl
   have hS':=hS
   rw [<- List.take_append_drop (j+1) S] at hS'
   obtain ⟨p1,p2,p3⟩:=List.pairwise_append.1 hS'
   have hd:∀ y∈S.drop (j+1),K x<=K y:=fun y hy=>by
    obtain ⟨i,hi,rfl⟩:=List.getElem_of_mem hy
    rw [List.getElem_drop]
    have:=h (j+1+i) _ oQ (lA (by rw [List.length_drop] at hi; omega))
    omega
   have ht:∀ a∈S.take (j+1),K a<=K x:=fun a ha=>by
    have p1':=p1
    rw [yP hg] at ha p1'
    rcases lT.1 ha with ha | ha
    ·have:=(List.pairwise_append.1 p1').2.2 a ha S[j] sQ
     omega
    ·rw [lS.1 ha]; omega
   refine List.pairwise_append.2 ⟨p1,List.pairwise_cons.2 ⟨hd,p2⟩,fun a ha c hc=>?_⟩
   rcases lI.1 hc with rfl | hc
   ·exact ht a ha
   ·exact p3 a ha c hc
theorem jO {lt:Int->Int->Bool} {K:Int->Int} {l:List Int} (hlt:∀ x∈l,∀ y∈l,lt x y=decide (K x<K y)):∀ i,i<=l.length->(sortN lt l i).Pairwise fun a c=>K a<=K c
 | 0,_=>.nil
 | i+1,h=>by
  have hg:l[i]? =some l[i]:=lA oQ
  rw [wA hg]
  refine jR (fun y hy=>hlt _ (List.getElem_mem _) y (uR i oQ y hy)) (jO hlt i oQ) _ (mL _) fun k y hk hy=>?_
  rw [lU hk] at hy
  cases hy
def pw:Nat->Int
 | 0=>10000
 | 1=>1000
 | 2=>100
 | 3=>10
 | _=>1
def wgt (b:RBk) (l:List Int) (k:Int):Int:=(cutS b l k.toNat).busy*1000000+pw k.toNat
theorem jU {b:RBk} {l:List Int}:∀ (o:List Int) (z:Alloc),(∀ k∈o,0<=(cutS b l k.toNat).most)->0<=z.left->(o.foldl (allocM b l) z).left=max 0 (z.left - fS (fun k=>(cutS b l k.toNat).most) o)
 | [],z,_,h=>by show z.left=max 0 (z.left - 0); omega
 | k::o,z,hm,h=>by
  have hk:=hm k sQ
  rw [List.foldl_cons,jU o _ (fun x hx=>hm x (by simp [hx])) (by show 0<=z.left - min z.left (cutS b l k.toNat).most; omega)]
  show max 0 (z.left - min z.left (cutS b l k.toNat).most - _)=max 0 (z.left - ((cutS b l k.toNat).most+_))
  have h0:=fS_nn (f:=fun k=>(cutS b l k.toNat).most) o (fun x hx=>hm x (by simp [hx]))
  omega
def mostS (b:RBk) (l:List Int) (k:Nat):Int:=sumF (fun i=>(cutS b l i).most) k
theorem jQ {b:RBk} (hb:ROk b) {l:List Int} (hl:CutsOk b l):∀ k∈ordM b l,0<=(cutS b l k.toNat).most:=fun k hk=>by
 have:=zdO hk
 exact (hb.sms.fld _ (hl.lt (k:=k.toNat) oQ).2.2).2.2.1
theorem xG {b:RBk} (hb:ROk b) {l s:List Int} (hl:CutsOk b l) (hs:StOk b s):(hangM b l s).isSome=(fitsM b l&&decide (freshM b s<=mostS b l l.length)):=by
 have hleft:=jU (b:=b) (l:=l) (ordM b l) (alloc0 b l (freshM b s)) (jQ hb hl) (zcl hb hs).1
 rw [xr] at hleft
 simp only [mZ] at hleft
 have e:(alloc0 b l (freshM b s)).left=freshM b s:=rfl
 unfold hangM
 by_cases hf:fitsM b l=false
 ·rw [if_pos hf,hf]; rfl
 ·rw [if_neg hf,show fitsM b l=true by simpa using hf,Bool.true_and]
  dsimp only
  unfold allocA mostS
  by_cases h:0<((ordM b l).foldl (allocM b l) (alloc0 b l (freshM b s))).left
  ·rw [if_pos h,decide_eq_false oQ]; rfl
  ·rw [if_neg h,decide_eq_true oQ]; rfl
def numW (x:List Int) (n:Nat):Int:=sumF (fun i=>x.getD i 0*pw i) n
end Go.Vel
namespace Go.Vel
open Go Go.Conc Go.Proofs
def u8A (x:Fin 256):AV:=.v (.int .u8 (x.1:Int))
def u8O (l:List (Fin 256)):AObj:=.cells (l.flatMap fun x=>[u8A x]) 5 false
def Feas (b:RBk) (l x:List Int):Prop:=x.length=l.length/\∀ i,0<=x.getD i 0/\(i<l.length->x.getD i 0<=(cutS b l i).most)
theorem xF {b:RBk} (hb:ROk b) {s:List Int} (hs:StOk b s):b.round - b.steps+sumF (fun i=>s.getD i 0) s.length=freshM b s:=by
 rw [xK hb hs,hs.len]
theorem xQ {b:RBk} {s:List Int} (hs:StOk b s):∀ k,k<=s.length->0<=sumF (fun i=>s.getD i 0) k/\sumF (fun i=>s.getD i 0) k<=5*k
 | 0,_=>by show (0:Int)<=0/\(0:Int)<=_; omega
 | k+1,h=>by
  have h1:=xQ hs k oQ
  have h2:=hs.bnd k (by rw [<- hs.len]; omega)
  show 0<=_+s.getD k 0/\_+s.getD k 0<=_
  omega
instance:Cal tp 74:={}
instance:zF tp 100 5 1:={}
instance:zi tp 5 false 1:={}
instance:Und tp 100 (.slice 5):={}
theorem xT {main T} (hT:zo tp main T) {gm} {b:RBk} {s h e j:Nat} {st:List Int} {et:TypeId} (hb:ROk b) (hs:StOk b st) :
  zA tp T gm 74 [.agg (zE b s h e),.sl j 0 st.length] [(j,.cells (st.map intA) et false)] (fun r K'=>r=intA (freshM b st)/\K'=[(j,.cells (st.map intA) et false)]):=by
 refine zp 25 hT Tryz.func74 fun Y hret=>?_
 refine au [] ?_
 have hsl:=hb.sms.len
 have hst:=hs.len
 have hrd:=hb.rnd.round
 have hrs:=hb.rnd.steps
 refine au [4,5,21] ?_
 intro jb hjb
 refine au [2,3,4,5,7,9,7,9,24,2,3,4,4,5,2,3,13] ?_
 refine TK.maskL [1,5,6] ?_
 refine TK.kp [(j,_)] ?_
 refine TK.loopN (fun n env K=>∃ (i:Nat),n=st.length - i/\i<=st.length/\env=.any::.sl j 0 st.length::naL 3 ((intA (b.round - b.steps+sumF (fun i=>st.getD i 0) i))::intA i::naL 18 [])/\K=[(j,.cells (st.map intA) et false)]) st.length ⟨0,rfl,mN _,by rw [show b.round - b.steps+sumF (fun i=>st.getD i 0) 0=b.round - b.steps from Int.add_zero _]; rfl,rfl⟩ fun n env K hI hnext=>?_
 obtain ⟨i,rfl,hi,rfl,rfl⟩:=hI
 have hsb:=xQ hs i hi
 refine TK.na nQ ?_
 refine au [4,4,5,1,1,28,6,3,20] ?_
 refine ⟨fun hc0=>?_,fun hc0=>?_⟩
 ·have hil:i<st.length:=by simp at hc0; omega
  have hq:=hs.bnd i oQ
  have hq2:0<=zN st i/\zN st i<=5:=⟨hq.1,hq.2.1⟩
  refine au [12,4,13,5,1,1,1,36] ?_
  refine TK.a Z (zm Z Z zi.h mQ (yh (i:=i) (z5 hil) Z)) ?_
  refine au [23,2,3,14,5,1,23,2,3] ?_
  refine TK.maskL [1,5,6] ?_
  refine TK.kp [(j,_)] ?_
  exact hnext _ _ _ oQ ⟨i+1,rfl,by omega,by rw [show b.round - b.steps+sumF (fun i=>st.getD i 0) i+zN st i=b.round - b.steps+sumF (fun i=>st.getD i 0) (i+1) by rw [Int.add_assoc]; rfl]; rfl,rfl⟩
 obtain rfl:i=st.length:=by simp at hc0; omega
 refine au [16,4,5,1,2,3] ?_
 refine TK.rt hret [(j,_)] ?_
 exact ⟨by rw [xF hb hs] <;> rfl,rfl⟩
end Go.Vel
namespace Go.Vel
open Go Go.Conc
theorem xU {L:List Int} {k:Nat} (h:k<L.length) {v:Int} (hv:L.getD k 0=v):L.set k v=L:=by
 refine List.ext_getElem? fun i=>?_
 rw [lX]
 by_cases e:k=i
 ·rw [if_pos e,if_pos h,<- e,lA h]
  rw [lE,lA h] at hv
  exact congrArg some hv.symm
 ·rw [if_neg e]
theorem jL {b:RBk} {l:List Int}:∀ (o:List Int) (z:Alloc),z.left=0->(∀ k∈o,0<=(cutS b l k.toNat).most/\k.toNat<z.steps.length/\z.steps.getD k.toNat 0=0)->o.foldl (allocM b l) z=z
 | [],z,_,_=>rfl
 | k::o,z,h0,h=>by
  have hk:=h k sQ
  have e:allocM b l z k=z:=by
   obtain ⟨st,sq,lf⟩:=z
   have h0:lf=0:=h0
   subst h0
   show (⟨st.set k.toNat (min 0 _),sq+min 0 _*_,0 - min 0 _⟩:Alloc)=_
   rw [Int.min_eq_left hk.1,xU hk.2.1 hk.2.2,Int.zero_mul,Int.add_zero,Int.sub_zero]
  rw [List.foldl_cons,e]
  exact jL o z h0 fun x hx=>h x (by simp [hx])
theorem xh {b:RBk} {l:List Int} {p:Nat}:∀ (o:List Int) (z:Alloc),(∀ k∈o,k.toNat≠p/\k.toNat<z.steps.length)->(o.foldl (allocM b l) z).steps.getD p 0=z.steps.getD p 0
 | [],z,_=>rfl
 | k::o,z,h=>by
  have hk:=h k sQ
  rw [List.foldl_cons,xh o (allocM b l z k) (fun x hx=>⟨(h x (by simp [hx])).1,by show x.toNat<(z.steps.set _ _).length; rw [List.length_set]; exact (h x (by simp [hx])).2⟩)]
  show (z.steps.set k.toNat _).getD p 0=_
  rw [jH hk.2,if_neg (fun e=>hk.1 e.symm)]
def keyK (b:RBk) (l:List Int) (k:Int):Int:=(cutS b l k.toNat).busy*10 - k
def mostK (b:RBk) (l:List Int) (k:Int):Int:=(cutS b l k.toNat).most
def gO (b:RBk) (l:List Int) (o:List Int) (st:List Int) (sq u:Int):Alloc:=o.foldl (allocM b l) ⟨st,sq,u⟩
theorem xn {b:RBk} {l:List Int}:∀ (o:List Int) (st:List Int) (sq u:Int),o.Nodup->(∀ k∈o,0<=k/\k.toNat<st.length/\st.getD k.toNat 0=0/\0<=mostK b l k)->(o.Pairwise fun a c=>keyK b l a<=keyK b l c)->0<=u ->
  (u<fS (mostK b l) o/\∃ k∈o,(gO b l o st sq u).steps.getD k.toNat 0<mostK b l k/\(gO b l o st sq (u+1)).steps=(gO b l o st sq u).steps.set k.toNat ((gO b l o st sq u).steps.getD k.toNat 0+1)/\(gO b l o st sq (u+1)).squares=(gO b l o st sq u).squares+(cutS b l k.toNat).busy/\∀ x∈o,(gO b l o st sq u).steps.getD x.toNat 0<mostK b l x->keyK b l k<=keyK b l x) \/
  (fS (mostK b l) o<=u/\∀ x∈o,(gO b l o st sq u).steps.getD x.toNat 0=mostK b l x)
 | [],st,sq,u,_,_,_,hu=>.inr ⟨hu,fun x hx=>by cases hx⟩
 | k::o,st,sq,u,hn,h,hp,hu=>by
  obtain ⟨n1,n2⟩:=List.nodup_cons.1 hn
  obtain ⟨p1,p2⟩:=List.pairwise_cons.1 hp
  have hk:=h k sQ
  have hne:∀ x∈o,x.toNat≠k.toNat:=fun x hx e=>n1 (by have h9:=h x (by simp [hx]); have h8:x=k:=oQ; exact h8 ▸ hx)
  have hcap:=fS_nn (f:=mostK b l) o (fun x hx=>(h x (by simp [hx])).2.2.2)
  have hnext:∀ (v lf:Int),(∀ x∈o,0<=x/\x.toNat<(st.set k.toNat v).length/\(st.set k.toNat v).getD x.toNat 0=0/\0<=mostK b l x):=fun v lf x hx=>by
   have hx':=h x (by simp [hx])
   rw [List.length_set,jH hk.2.1,if_neg (hne x hx)]
   exact hx'
  have hg:∀ w,gO b l (k::o) st sq w=gO b l o (st.set k.toNat (min w (mostK b l k))) (sq+min w (mostK b l k)*(cutS b l k.toNat).busy) (w - min w (mostK b l k)):=fun w=>rfl
  by_cases hc:u<mostK b l k
  ·left
   refine ⟨by show u<mostK b l k+_; omega,k,by simp,?_⟩
   rw [hg,hg,Int.min_eq_left (show u<=mostK b l k by omega),Int.min_eq_left (show u+1<=mostK b l k by omega),Int.sub_self,Int.sub_self]
   have e1:∀ v q,gO b l o (st.set k.toNat v) q 0=⟨st.set k.toNat v,q,0⟩:=fun v q=>jL o _ rfl fun x hx=>by
    have:=hnext v 0 x hx
    exact ⟨this.2.2.2,this.2.1,this.2.2.1⟩
   rw [e1,e1]
   dsimp only
   rw [jH hk.2.1,if_pos rfl,List.set_set]
   refine ⟨hc,rfl,by rw [Int.add_mul,Int.one_mul]; omega,fun x hx _=>?_⟩
   rcases lI.1 hx with rfl | hx
   ·exact Int.le_refl _
   ·exact p1 x hx
  ·rw [hg,hg,Int.min_eq_right (show mostK b l k<=u by omega),Int.min_eq_right (show mostK b l k<=u+1 by omega)]
   have hkeep:∀ q w,(gO b l o (st.set k.toNat (mostK b l k)) q w).steps.getD k.toNat 0=mostK b l k:=fun q w=>by
    unfold gO
    rw [xh o _ (fun x hx=>⟨hne x hx,(hnext _ 0 x hx).2.1⟩)]
    show (st.set _ _).getD _ 0=_
    rw [jH hk.2.1,if_pos rfl]
   rcases xn o (st.set k.toNat (mostK b l k)) (sq+mostK b l k*(cutS b l k.toNat).busy) (u - mostK b l k) n2 (hnext _ 0) p2 oQ with ⟨h1,x,hx,h2,h3,h4,h5⟩ | ⟨h1,h2⟩
   ·left
    rw [show u - mostK b l k+1=u+1 - mostK b l k by omega] at h3 h4
    refine ⟨by show u<mostK b l k+_; omega,x,by simp [hx],h2,h3,h4,fun y hy hlt=>?_⟩
    rcases lI.1 hy with rfl | hy
    ·rw [hkeep] at hlt; omega
    ·exact h5 y hy hlt
   ·right
    refine ⟨by show mostK b l k+_<=u; omega,fun y hy=>?_⟩
    rcases lI.1 hy with rfl | hy
    ·exact hkeep _ _
    ·exact h2 y hy
def gA (b:RBk) (l:List Int) (u:Int):Alloc:=gO b l (ordM b l) (mB l.length 0) (spoilM b l l.length) u
theorem rep0 (n i:Nat):(mB n (0:Int)).getD i 0=0:=by
 rw [lE,List.getElem?_replicate]
 split <;> rfl
theorem x8 {b:RBk} {l:List Int} (hl:l.length<=5):(ordM b l).Pairwise fun a c=>keyK b l a<=keyK b l c:=by
 unfold ordM sortR
 refine jO (K:=keyK b l) (fun x hx y hy=>?_) _ (mL _)
 have h1:=zbi hx
 have h2:=zbi hy
 unfold busyLt keyK
 rw [Bool.eq_iff_iff]
 simp only [Bool.or_eq_true,Bool.and_eq_true,decide_eq_true_eq]
 omega
theorem xN {b:RBk} {l:List Int} {i:Nat} (h:i<l.length):(i:Int)∈ordM b l:=by
 unfold ordM sortR
 have hp:=jB (lt:=busyLt b l) (l:=idxM l.length) (idxM l.length).length (mL _)
 rw [lW] at hp
 refine hp.symm.subset ?_
 unfold idxM
 exact List.mem_map.2 ⟨i,List.mem_range.2 h,rfl⟩
theorem xc {b:RBk} (hb:ROk b) {l:List Int} (hl:CutsOk b l):gA b l 0=⟨mB l.length 0,spoilM b l l.length,0⟩:=jL _ _ rfl fun k hk=>by
 have:=zdO hk
 exact ⟨jQ hb hl k hk,by show k.toNat<(mB _ _).length; rw [List.length_replicate]; omega,rep0 _ _⟩
theorem xL (b:RBk) (l:List Int) (u:Int):(gA b l u).steps.length=l.length:=by
 unfold gA gO
 rw [zbx]
 exact List.length_replicate
def bestI (b:RBk) (l x:List Int):Nat->Int
 | 0 => -1
 | i+1=>if x.getD i 0<(cutS b l i).most/\(bestI b l x i<0\/(cutS b l i).busy<=(cutS b l (bestI b l x i).toNat).busy) then i else bestI b l x i
theorem jC (b:RBk) (l x:List Int):∀ n,n<=10->(bestI b l x n = -1/\∀ j,j<n->¬ x.getD j 0<(cutS b l j).most)\/(0<=bestI b l x n/\bestI b l x n<n/\x.getD (bestI b l x n).toNat 0<(cutS b l (bestI b l x n).toNat).most/\∀ j,j<n->x.getD j 0<(cutS b l j).most->keyK b l (bestI b l x n)<=keyK b l j)
 | 0,_=>.inl ⟨rfl,fun j h=>by omega⟩
 | n+1,hn=>by
  have ih:=jC b l x n oQ
  unfold bestI
  by_cases hc:x.getD n 0<(cutS b l n).most/\(bestI b l x n<0\/(cutS b l n).busy<=(cutS b l (bestI b l x n).toNat).busy)
  ·rw [if_pos hc]
   right
   refine ⟨by omega,by omega,by rw [mZ]; exact hc.1,fun j hj hlt=>?_⟩
   by_cases e:j=n
   ·rw [e]; exact Int.le_refl _
   ·rcases ih with ⟨_,h2⟩ | ⟨h1,h2,_,h4⟩
    ·exact absurd hlt (h2 j oQ)
    ·have h5:=h4 j oQ hlt
     have h6:=hc.2.resolve_left oQ
     unfold keyK at h5 ⊢
     rw [mZ] at h5 ⊢
     rw [mZ]
     omega
  ·rw [if_neg hc]
   rcases ih with ⟨h1,h2⟩ | ⟨h1,h2,h3,h4⟩
   ·left
    refine ⟨h1,fun j hj hlt=>?_⟩
    by_cases e:j=n
    ·rw [e] at hlt; exact hc ⟨hlt,.inl oQ⟩
    ·exact h2 j oQ hlt
   ·right
    refine ⟨h1,by omega,h3,fun j hj hlt=>?_⟩
    by_cases e:j=n
    ·rw [e] at hlt ⊢
     have h6:¬ (cutS b l n).busy<=(cutS b l (bestI b l x n).toNat).busy:=fun hh=>hc ⟨hlt,.inr hh⟩
     unfold keyK
     rw [mZ]
     omega
    ·exact h4 j oQ hlt
theorem x7 {b:RBk} (hb:ROk b) {l:List Int} (hl:CutsOk b l) {u:Int} (hu:0<=u):(u<mostS b l l.length/\0<=bestI b l (gA b l u).steps l.length/\bestI b l (gA b l u).steps l.length<l.length/\(gA b l (u+1)).steps=(gA b l u).steps.set (bestI b l (gA b l u).steps l.length).toNat ((gA b l u).steps.getD (bestI b l (gA b l u).steps l.length).toNat 0+1)/\(gA b l (u+1)).squares=(gA b l u).squares+(cutS b l (bestI b l (gA b l u).steps l.length).toNat).busy)\/(mostS b l l.length<=u/\bestI b l (gA b l u).steps l.length = -1):=by
 have hn5:l.length<=5:=by have:=hl.len; have:=hb.sms.len; omega
 have hfs:fS (mostK b l) (ordM b l)=mostS b l l.length:=by rw [xr]; rfl
 have hst:=xn (b:=b) (l:=l) (ordM b l) (mB l.length 0) (spoilM b l l.length) u (xO b l) (fun k hk=>by
  have:=zdO hk
  exact ⟨this.1,by rw [List.length_replicate]; omega,rep0 _ _,jQ hb hl k hk⟩) (x8 hn5) hu
 rw [hfs] at hst
 have hbs:=jC b l (gA b l u).steps l.length oQ
 rcases hst with ⟨h1,k,hk,h2,h3,h4,h5⟩ | ⟨h1,h2⟩
 ·left
  have hkm:=zdO hk
  rcases hbs with ⟨_,g2⟩ | ⟨g1,g2,g3,g4⟩
  ·exact absurd h2 (g2 k.toNat oQ)
  ·have e1:=g4 k.toNat oQ h2
   have hin:bestI b l (gA b l u).steps l.length∈ordM b l:=by
    have:=xN (b:=b) (l:=l) (i:=(bestI b l (gA b l u).steps l.length).toNat) oQ
    rwa [show (((bestI b l (gA b l u).steps l.length).toNat:Nat):Int)=bestI b l (gA b l u).steps l.length by omega] at this
   have e2:=h5 _ hin g3
   have e:bestI b l (gA b l u).steps l.length=k:=by
    rw [show ((k.toNat:Nat):Int)=k by omega] at e1
    unfold keyK at e1 e2
    omega
   rw [e]
   exact ⟨h1,by omega,by omega,h3,h4⟩
 ·right
  refine ⟨h1,?_⟩
  rcases hbs with ⟨g1,_⟩ | ⟨g1,g2,g3,_⟩
  ·exact g1
  ·exfalso
   have hin:=xN (b:=b) (l:=l) (i:=(bestI b l (gA b l u).steps l.length).toNat) oQ
   have:=h2 _ hin
   rw [mZ] at this
   unfold mostK at this
   rw [mZ] at this
   have h6:(gA b l u).steps.getD (bestI b l (gA b l u).steps l.length).toNat 0=(cutS b l (bestI b l (gA b l u).steps l.length).toNat).most:=this
   omega
theorem xC {b:RBk} (hb:ROk b) {l s:List Int} (hl:CutsOk b l) (hs:StOk b s) (hf:fitsM b l=true):hangM b l s=if freshM b s<=mostS b l l.length then some ((gA b l (freshM b s)).steps,(gA b l (freshM b s)).squares) else none:=by
 have hfo:=xG hb hl hs
 rw [hf,Bool.true_and] at hfo
 by_cases h:freshM b s<=mostS b l l.length
 ·rw [if_pos h]
  rw [decide_eq_true h] at hfo
  unfold hangM at hfo ⊢
  rw [if_neg (by rw [hf]; decide)] at hfo ⊢
  dsimp only at hfo ⊢
  split at hfo
  ·cases hfo
  ·rename_i h2
   rw [if_neg h2]
   rfl
 ·rw [if_neg h]
  rw [decide_eq_false h] at hfo
  cases hz:hangM b l s with
  | none=>rfl
  | some z=>rw [hz] at hfo; cases hfo
end Go.Vel
namespace Go.Vel
open Go Go.Conc Go.Proofs
theorem xH {b:RBk} {l s:List Int} (h:fitsM b l=false):hangM b l s=none:=by unfold hangM; rw [if_pos h]
theorem gA_nn {b:RBk} (hb:ROk b) {l:List Int} (hl:CutsOk b l) {u:Int} (hu:0<=u) (i:Nat):0<=(gA b l u).steps.getD i 0 :=
 (zb4 hb hl (ordM b l) ⟨mB l.length 0,spoilM b l l.length,u⟩ (fun k hk=>zdO hk) hu (fun k=>by
  show 0<=(mB l.length (0:Int)).getD k 0/\(mB l.length (0:Int)).getD k 0<=9
  rw [rep0]
  decide) i).1
instance:Cal tp 96:={}
theorem xi {main T} (hT:zo tp main T) {gm} {b:RBk} {s h e j j2:Nat} {l st:List Int} {et et2:TypeId} (hb:ROk b) (hl:CutsOk b l) (hs:StOk b st) :
  zA tp T gm 103 [.agg (zE b s h e),.sl j 0 l.length,.sl j2 0 st.length] [(s,zk b),(j,.cells (l.map intA) et false),(j2,.cells (st.map intA) et2 false)] (fun r K'=>(hangM b l st=none/\r=.tup [.v (.slice none 0 0),intA 0,zP false]/\K'=[(s,zk b),(j,.cells (l.map intA) et false),(j2,.cells (st.map intA) et2 false)])\/(∃ w q jw,hangM b l st=some (w,q)/\r=.tup [.sl jw 0 w.length,intA q,zP true]/\K'=(jw,.cells (w.map intA) 3 false)::[(s,zk b),(j,.cells (l.map intA) et false),(j2,.cells (st.map intA) et2 false)])):=by
 refine zp 108 hT Tryz.func103 fun Y hret=>?_
 refine au [] ?_
 have hsl:=hb.sms.len
 have hll:=hl.len
 have hlp:=hl.pos
 have hfb:=zcl hb hs
 refine au [4,5,21] ?_
 intro jb hjb
 refine au [2,2,2,3,4,4,5,8,1] ?_
 refine TK.cl Z Z Z Z (xg hT hb hl) ?_
 rintro r1 K2 ⟨rfl,rfl⟩
 refine au [30,3,20] ?_
 refine ⟨fun hc0=>?_,fun hc0=>?_⟩
 ·refine au [4,5,2,2,2,3] ?_
  refine TK.rt hret [(s,_),(j,_),(j2,_)] ?_
  exact .inl ⟨xH (by simpa using hc0),rfl,rfl⟩
 have hfit:fitsM b l=true:=by simpa using hc0
 refine au [12,4,5,1,28] ?_
 refine TK.newS Z Z Z (zdM Z Z Z ApOf.h TyZ.h hlp oQ) (fun _=>zu rfl tQ) fun jw hjw=>?_
 refine au [2,2,3,4,4,5,2,3,13] ?_
 refine TK.maskL [1,2,3,9,10,11] ?_
 refine TK.kp [(jw,_),(s,_),(j,_),(j2,_),(jb,_)] ?_
 refine TK.loopN (fun n env K=>∃ (i:Nat),n=l.length - i/\i<=l.length/\env=.any::.sl j 0 l.length::.sl j2 0 st.length::.ptr jb 0::naL 5 (.sl jw 0 l.length::intA (spoilM b l i)::intA i::naL 96 [])/\K=[(jw,.cells ((mB l.length (0:Int)).map intA) 3 true),(s,zk b),(j,.cells (l.map intA) et false),(j2,.cells (st.map intA) et2 false),(jb,.cells (zE b s h e) 26 true)]) l.length ⟨0,rfl,mN _,rfl,rfl⟩ fun n env K hI hnext=>?_
 obtain ⟨i,rfl,hi,rfl,rfl⟩:=hI
 have hsb:=zaG hb hl i hi
 refine TK.na nQ ?_
 refine au [4,4,5,1,1,28,6,3,20] ?_
 refine ⟨fun hc1=>?_,fun hc1=>?_⟩
 ·have hil:i<l.length:=by simp at hc1; omega
  have hcu:=hl.lt hil
  have hf1:=hb.sms.fld _ hcu.2.2
  refine au [12,4,13] ?_
  refine TK.draw [0,1,2,3,4,5,6,7,8,9,10,11] [0,1,2,3,4,5,6,7,8,9,10,11] (by kernel_rfl) (by kernel_rfl) ?_
  refine TD.z [10] Z (zh Z Z) ?_
  refine TD.z [3] Z (zg Z Z zl.h dQ) ?_
  refine TD.y [30] Z (hq:=zm Z Z zi.h (mC _) Z) (h:=?_)
  refine TD.z [1] Z (zh Z Z) ?_
  refine TD.z [11] Z (zh Z Z) ?_
  refine TD.z [32,33] Z (zQ Z Z Z zF.h oQ oQ) ?_
  refine TD.y [34] Z (hq:=zm Z Z zi.h (mC _) (yh (i:=i) (z5 hil) Z)) (h:=?_)
  refine TD.z [31,35] Z (zQ Z Z Z zF.h oQ oQ) ?_
  refine TD.z [36] Z (zg Z Z zl.h dQ) ?_
  refine TD.y [37] Z (hq:=zm Z Z zi.h (mC _) (ym (c:=3) (sm_at b (i:=(zN l i).toNat) hcu.2.2 oQ) dQ Z)) (h:=?_)
  refine TD.z [29,38] Z (q_add Z Z Z oQ) ?_
  refine TD.as (pend':=[]) [39] Z Z (zD Z Z) ?_
  refine TD.fin ?_
  refine au [14,5,1,23,2,3] ?_
  refine TK.maskL [1,2,3,9,10,11] ?_
  refine TK.kp [(jw,_),(s,_),(j,_),(j2,_),(jb,_)] ?_
  exact hnext _ _ _ oQ ⟨i+1,rfl,by omega,rfl,rfl⟩
 obtain rfl:i=l.length:=by simp at hc1; omega
 refine au [16,4,4,5,8,1] ?_
 refine TK.cl Z Z Z Z (xT hT hb hs) ?_
 rintro r4 K5 ⟨rfl,rfl⟩
 refine au [2,3,13] ?_
 refine TK.maskL [1,3,9,10,12] ?_
 refine TK.kp [(jw,_),(s,_),(j,_),(j2,_),(jb,_)] ?_
 refine TK.loopN (fun n env K=>∃ (u:Int),n=(freshM b st - u).toNat/\0<=u/\u<=freshM b st/\(u=0\/u<=mostS b l l.length)/\(0<=(gA b l u).squares/\(gA b l u).squares<=45+9*u)/\env=.any::.sl j 0 l.length::.any::.ptr jb 0::naL 5 (.sl jw 0 l.length::intA (gA b l u).squares::.any::intA (freshM b st - u)::naL 95 [])/\K=[(jw,.cells ((gA b l u).steps.map intA) 3 true),(s,zk b),(j,.cells (l.map intA) et false),(j2,.cells (st.map intA) et2 false),(jb,.cells (zE b s h e) 26 true)]) (freshM b st).toNat ⟨0,by omega,Int.le_refl _,hfb.1,.inl rfl,by rw [xc hb hl]; dsimp only; omega,by rw [xc hb hl,Int.sub_zero]; rfl,by rw [xc hb hl]⟩ fun n env K hI hnext=>?_
 obtain ⟨u,rfl,hu0,hu1,hum,hsq,rfl,rfl⟩:=hI
 have hgl:=xL b l u
 refine TK.na nQ ?_
 refine au [4,4,5,1,6,3,20] ?_
 refine ⟨fun hc2=>?_,fun hc2=>?_⟩
 ·have hlt:u<freshM b st:=by simp at hc2; omega
  refine au [12,4,13,4,5,2,3,4,4,5,2,3,13] ?_
  refine TK.maskL [1,3,9,10,12,13,14] ?_
  refine TK.loopN (fun n env K=>∃ (i:Nat),n=l.length - i/\i<=l.length/\env=.any::.sl j 0 l.length::.any::.ptr jb 0::naL 5 (.sl jw 0 l.length::intA (gA b l u).squares::.any::intA (freshM b st - u)::intA (bestI b l (gA b l u).steps i)::intA i::naL 93 [])/\K=[(jw,.cells ((gA b l u).steps.map intA) 3 true),(s,zk b),(j,.cells (l.map intA) et false),(j2,.cells (st.map intA) et2 false),(jb,.cells (zE b s h e) 26 true)]) l.length ⟨0,rfl,mN _,rfl,rfl⟩ fun n env K hI2 hnext2=>?_
  obtain ⟨i,rfl,hi,rfl,rfl⟩:=hI2
  have hbs:=jC b l (gA b l u).steps i oQ
  refine TK.na nQ ?_
  refine au [4,4,5,1,1,28,6,3,20] ?_
  refine ⟨fun hc3=>?_,fun hc3=>?_⟩
  ·have hil:i<l.length:=by simp at hc3; omega
   have hcu:=hl.lt hil
   have hf1:=hb.sms.fld _ hcu.2.2
   refine au [12,4,13,4] ?_
   refine TK.draw [0,1,2,3,4,5,6,7,8,9] [0,1,2,3,4,5,6,7,8,9] (by kernel_rfl) (by kernel_rfl) ?_
   refine TD.z [3] Z (zg Z Z zl.h dQ) ?_
   refine TD.y [53] Z (hq:=zm Z Z zi.h (mC _) Z) (h:=?_)
   refine TD.z [1] Z (zh Z Z) ?_
   refine TD.z [14] Z (zh Z Z) ?_
   refine TD.z [55,56] Z (zQ Z Z Z zF.h oQ oQ) ?_
   refine TD.y [57] Z (hq:=zm Z Z zi.h (mC _) (yh (i:=i) (z5 hil) Z)) (h:=?_)
   refine TD.z [54,58] Z (zQ Z Z Z zF.h oQ oQ) ?_
   refine TD.y [59] Z (hq:=z8 Z Z zi.h (mC _) (sm_at b (i:=(zN l i).toNat) hcu.2.2 oQ)) (h:=?_)
   refine TD.cnewP (pend':=[⟨7,[59],[(_,_)]⟩,⟨6,[54,58],[]⟩,⟨5,[57],[(_,_)]⟩,⟨4,[55,56],[]⟩,⟨3,[14],[]⟩,⟨2,[1],[]⟩,⟨1,[53],[(_,_)]⟩,⟨0,[3],[]⟩]) [] Z Z Z Z Z (yK Z TyZA.h) (fun _=>zu rfl tQ) sQ fun jm hjm=>?_
   refine TD.s (pend':=[]) [15,60] Z Z (zX Z Z zi.h Z Z mQ Z) ?_
   refine TD.fin ?_
   refine au [4] ?_
   refine TK.draw [0,1,2,3,4,5,6,7,8,9,10,11,12,13,14,15,16,17,18,19,20,21,22,23,24] [0,1,2,3,4,5,6,7,8,9,10,11,12,13,14,15,16,17,18,19,20,21,22,23,24] (by kernel_rfl) (by kernel_rfl) ?_
   refine TD.z [9] Z (zh Z Z) ?_
   refine TD.z [14] Z (zh Z Z) ?_
   refine TD.z [61,62] Z (zQ Z Z Z zF.h oQ oQ) ?_
   refine TD.y [63] Z (hq:=zm Z Z zi.h (mC _) (yh (i:=i) (z5 (l:=(gA b l u).steps) oQ) Z)) (h:=?_)
   refine TD.z [15] Z (zg Z Z zl.h dQ) ?_
   refine TD.y [65] Z (hq:=zm Z Z zi.h (mC _) Z) (h:=?_)
   refine TD.z [64,66] Z (q_cmp Z Z Z Z) ?_
   refine TD.z [67] Z (zh Z Z) ?_
   refine TD.sp 68 (fun g16_8=>?_) (fun g16_8=>?_)
   ·have h8:(gA b l u).steps.getD i 0<(cutS b l i).most:=of_decide_eq_true g16_8
    refine TD.z [13,68] Z (zh Z Z) ?_
    refine TD.z [68,69] Z (q_cmp Z Z Z Z) ?_
    refine TD.z [68,70] Z (zh Z Z) ?_
    refine TD.sp 71 (fun g16_11=>?_) (fun g16_11=>?_)
    ·have h11:bestI b l (gA b l u).steps i<0:=of_decide_eq_true g16_11
     refine TD.u [15,71] Z ?_
     refine TD.u [71,72] Z ?_
     refine TD.u [3,71] Z ?_
     refine TD.u [71,74] Z ?_
     refine TD.u [1,71] Z ?_
     refine TD.u [13,71] Z ?_
     refine TD.u [71,76,77] Z ?_
     refine TD.u [71,78] Z ?_
     refine TD.u [71,75,79] Z ?_
     refine TD.u [71,80] Z ?_
     refine TD.u [71,81] Z ?_
     refine TD.u [71,73,82] Z ?_
     refine TD.z [68,71,83] Z (yE Z Z Z) ?_
     refine TD.z [68,84] Z (yE Z Z Z) ?_
     refine TD.fin ?_
     refine au [18,5,1,2,3,14,5,1,23,2,3] ?_
     refine TK.maskL [1,3,9,10,12,13,14] ?_
     refine TK.kp [(jw,_),(s,_),(j,_),(j2,_),(jb,_)] ?_
     exact hnext2 _ _ _ oQ ⟨i+1,rfl,by omega,by rw [show bestI b l (gA b l u).steps (i+1)=(i:Int) from if_pos ⟨h8,.inl h11⟩]; rfl,rfl⟩
    have h11:¬ bestI b l (gA b l u).steps i<0:=of_decide_eq_false g16_11
    obtain ⟨bt,hbt⟩:∃ bt:Nat,bestI b l (gA b l u).steps i=(bt:Int):=⟨(bestI b l (gA b l u).steps i).toNat,by omega⟩
    have hbl:bt<l.length:=by omega
    have hcb:=hl.lt hbl
    rw [hbt]
    refine TD.z [15,71] Z (zg Z Z zl.h dQ) ?_
    refine TD.y [71,72] Z (hq:=zm Z Z zi.h (mC _) Z) (h:=?_)
    refine TD.z [3,71] Z (zg Z Z zl.h dQ) ?_
    refine TD.y [71,74] Z (hq:=zm Z Z zi.h (mC _) Z) (h:=?_)
    refine TD.z [1,71] Z (zh Z Z) ?_
    refine TD.z [13,71] Z (zh Z Z) ?_
    refine TD.z [71,76,77] Z (zQ Z Z Z zF.h oQ oQ) ?_
    refine TD.y [71,78] Z (hq:=zm Z Z zi.h (mC _) (yh (i:=bt) (z5 hbl) Z)) (h:=?_)
    refine TD.z [71,75,79] Z (zQ Z Z Z zF.h oQ oQ) ?_
    refine TD.z [71,80] Z (zg Z Z zl.h dQ) ?_
    refine TD.y [71,81] Z (hq:=zm Z Z zi.h (mC _) (ym (c:=2) (sm_at b (i:=(zN l bt).toNat) hcb.2.2 oQ) dQ Z)) (h:=?_)
    refine TD.z [71,73,82] Z (q_cmp Z Z Z Z) ?_
    refine TD.z [68,71,83] Z (yf Z Z Z) ?_
    refine TD.z [68,84] Z (yE Z Z Z) ?_
    refine TD.fin ?_
    refine au [20] ?_
    refine ⟨fun hc4=>?_,fun hc4=>?_⟩
    ·refine au [5,1,2,3,14,5,1,23,2,3] ?_
     refine TK.maskL [1,3,9,10,12,13,14] ?_
     refine TK.kp [(jw,_),(s,_),(j,_),(j2,_),(jb,_)] ?_
     exact hnext2 _ _ _ oQ ⟨i+1,rfl,by omega,by rw [show bestI b l (gA b l u).steps (i+1)=(i:Int) from if_pos ⟨h8,.inr (by rw [hbt,mZ]; exact of_decide_eq_true hc4)⟩]; rfl,rfl⟩
    have hno:bestI b l (gA b l u).steps (i+1)=bestI b l (gA b l u).steps i:=if_neg (fun hh=>by
     rcases hh.2 with h | h
     ·omega
     ·rw [hbt,mZ] at h
      exact absurd h (of_decide_eq_false hc4))
    refine au [12,14,5,1,23,2,3] ?_
    refine TK.maskL [1,3,9,10,12,13,14] ?_
    refine TK.kp [(jw,_),(s,_),(j,_),(j2,_),(jb,_)] ?_
    exact hnext2 _ _ _ oQ ⟨i+1,rfl,by omega,by rw [hno,hbt]; rfl,rfl⟩
   have h8:¬ (gA b l u).steps.getD i 0<(cutS b l i).most:=of_decide_eq_false g16_8
   refine TD.u [13,68] Z ?_
   refine TD.u [68,69] Z ?_
   refine TD.u [68,70] Z ?_
   refine TD.u [15,71] Z ?_
   refine TD.u [71,72] Z ?_
   refine TD.u [3,71] Z ?_
   refine TD.u [71,74] Z ?_
   refine TD.u [1,71] Z ?_
   refine TD.u [13,71] Z ?_
   refine TD.u [71,76,77] Z ?_
   refine TD.u [71,78] Z ?_
   refine TD.u [71,75,79] Z ?_
   refine TD.u [71,80] Z ?_
   refine TD.u [71,81] Z ?_
   refine TD.u [71,73,82] Z ?_
   refine TD.u [68,71,83] Z ?_
   refine TD.z [68,84] Z (yf Z Z Z) ?_
   refine TD.fin ?_
   refine au [19,12,14,5,1,23,2,3] ?_
   refine TK.maskL [1,3,9,10,12,13,14] ?_
   refine TK.kp [(jw,_),(s,_),(j,_),(j2,_),(jb,_)] ?_
   exact hnext2 _ _ _ oQ ⟨i+1,rfl,by omega,by rw [show bestI b l (gA b l u).steps (i+1)=(bestI b l (gA b l u).steps i) from if_neg (fun hh=>absurd hh.1 h8)]; rfl,rfl⟩
  obtain rfl:i=l.length:=by simp at hc3; omega
  have hgs:=x7 hb hl hu0
  refine au [16,4,4,5,1,6,3,20] ?_
  refine ⟨fun hc5=>?_,fun hc5=>?_⟩
  ·have hneg:bestI b l (gA b l u).steps l.length<0:=of_decide_eq_true hc5
   have hmu:mostS b l l.length<=u:=by
    rcases hgs with ⟨_,h,_⟩ | ⟨h,_⟩
    ·omega
    ·exact h
   refine au [4,5,2,2,2,3] ?_
   refine TK.rt hret [(s,_),(j,_),(j2,_)] ?_
   exact .inl ⟨by rw [xC hb hl hs hfit,if_neg oQ],rfl,rfl⟩
  have hpos:¬ bestI b l (gA b l u).steps l.length<0:=of_decide_eq_false hc5
  obtain ⟨q1,q2,q2b,q3,q4⟩:=hgs.resolve_right (fun h=>hpos (by rw [h.2]; decide))
  obtain ⟨bt,hbt⟩:∃ bt:Nat,bestI b l (gA b l u).steps l.length=(bt:Int):=⟨(bestI b l (gA b l u).steps l.length).toNat,by omega⟩
  have hbl:bt<l.length:=by omega
  have hcb:=hl.lt hbl
  have hfb2:=hb.sms.fld _ hcb.2.2
  have hsp:=jC b l (gA b l u).steps l.length oQ
  have hstp:zN (gA b l u).steps bt<9:=by
   rcases hsp with ⟨h,_⟩ | ⟨_,_,h,_⟩
   ·omega
   ·rw [hbt,mZ] at h
    unfold cutS at h
    show (gA b l u).steps.getD bt 0<9
    omega
  have hbus:0<=(cutS b l (bestI b l (gA b l u).steps l.length).toNat).busy/\(cutS b l (bestI b l (gA b l u).steps l.length).toNat).busy<=9:=by rw [hbt,mZ]; unfold cutS; omega
  have hst0:0<=zN (gA b l u).steps bt:=gA_nn hb hl hu0 bt
  rw [hbt]
  refine au [12,4,5,1,1,36] ?_
  refine TK.a Z (zm Z Z zi.h mQ (yh (i:=bt) (z5 (l:=(gA b l u).steps) oQ) Z)) ?_
  refine au [23,36] ?_
  refine TK.st Z Z Z (zX Z Z zi.h Z Z mQ (vS (k:=bt) oQ Z)) uQ (putN Z) ?_
  refine au [3] ?_
  refine TK.draw [0,1,2,3,4,5,6,7,8,9,10,11] [0,1,2,3,4,5,6,7,8,9,10,11] (by kernel_rfl) (by kernel_rfl) ?_
  refine TD.z [10] Z (zh Z Z) ?_
  refine TD.z [3] Z (zg Z Z zl.h dQ) ?_
  refine TD.y [96] Z (hq:=zm Z Z zi.h (mC _) Z) (h:=?_)
  refine TD.z [1] Z (zh Z Z) ?_
  refine TD.z [13] Z (zh Z Z) ?_
  refine TD.z [98,99] Z (zQ Z Z Z zF.h oQ oQ) ?_
  refine TD.y [100] Z (hq:=zm Z Z zi.h (mC _) (yh (i:=bt) (z5 hbl) Z)) (h:=?_)
  refine TD.z [97,101] Z (zQ Z Z Z zF.h oQ oQ) ?_
  refine TD.z [102] Z (zg Z Z zl.h dQ) ?_
  refine TD.y [103] Z (hq:=zm Z Z zi.h (mC _) (ym (c:=2) (sm_at b (i:=(zN l bt).toNat) hcb.2.2 oQ) dQ Z)) (h:=?_)
  refine TD.z [95,104] Z (q_add Z Z Z oQ) ?_
  refine TD.as (pend':=[]) [105] Z Z (zD Z Z) ?_
  refine TD.fin ?_
  refine au [14,5,1,24,2,3] ?_
  refine TK.maskL [1,3,9,10,12] ?_
  refine TK.kp [(jw,_),(s,_),(j,_),(j2,_),(jb,_)] ?_
  exact hnext _ _ _ oQ ⟨u+1,rfl,by omega,by omega,.inr oQ,by rw [q4]; omega,by rw [q4,hbt,mZ,show freshM b st - u - 1=freshM b st - (u+1) by omega]; rfl,by rw [q3,hbt,mZ] <;> rfl⟩
 have hue:freshM b st=u:=by simp at hc2; omega
 have hm0:0<=mostS b l l.length:=fS_nn (f:=mostK b l) (ordM b l) (jQ hb hl)|>fun h=>by rw [xr] at h; exact h
 refine au [16,4] ?_
 refine TK.frz (j:=jw) ?_
 rw [hue]
 refine au [5,1,1,2,2,2,3] ?_
 refine TK.rt hret [(jw,_),(s,_),(j,_),(j2,_)] ?_
 exact .inr ⟨(gA b l u).steps,(gA b l u).squares,jw,by rw [xC hb hl hs hfit,if_pos oQ,hue],by rw [xL] <;> rfl,rfl⟩
theorem jV (x y z:Int):bar2 (bar2 x y) z=bar2 x (bar2 y z):=by
 unfold bar2
 by_cases h:x=0
 ·subst h; simp
 ·simp [h]
def posM (b:RBk) (l s w:List Int):Nat->Int
 | 0=>0
 | i+1=>atM b l s w i+togM b s (zN l i).toNat (manyM b l i).toNat
theorem qe {b:RBk} {l s w:List Int} {i:Nat} (h0:0<i) (h:i<l.length):posM b l s w i+zN w i=atM b l s w i:=by
 obtain ⟨p,rfl⟩:∃ p,i=p+1:=⟨i - 1,by omega⟩
 exact (xX h).symm
instance:Cal tp 102:={}
instance:Cal tp 103:={}
theorem xA {main T} (hT:zo tp main T) {gm} {b:RBk} {s h e j:Nat} {l:List Int} {et:TypeId} (hl:b.seams.length<=100) (hm:b.measures.length<=100) (hll:l.length<=1000) :
  zA tp T gm 21 [.agg (zE b s h e),.sl j 0 l.length] [(s,zk b),(h,zB b),(e,zq b),(j,.cells (l.map intA) et false)] (fun r K'=>(bar2 (zr b) (cutsM b l)≠0/\r=.tup [.v (.slice none 0 0),intA (bar2 (zr b) (cutsM b l))]/\K'=[(s,zk b),(h,zB b),(e,zq b),(j,.cells (l.map intA) et false)])\/(bar2 (zr b) (cutsM b l)=0/\∃ jr,r=.tup [.row jr l.length,intA 0]/\K'=(jr,.row ((stripsM b l).flatMap pairC) 96 2)::[(s,zk b),(h,zB b),(e,zq b),(j,.cells (l.map intA) et false)])):=by
 refine zp 16 hT Tryz.func21 fun Y hret=>?_
 refine au [4,5,21] ?_
 intro jb hjb
 refine au [2,2,3,4,4,5,8,1] ?_
 refine TK.cl Z Z Z Z (jM hT hl hm hll) ?_
 rintro r1 K2 ⟨rfl,rfl⟩
 refine au [2,3,4,5,1,6,3,20] ?_
 refine ⟨fun hc0=>?_,fun hc0=>?_⟩
 ·refine au [4,5,1,2,2,3] ?_
  refine TK.rt hret [(s,_),(h,_),(e,_),(j,_)] ?_
  exact .inl ⟨by simpa using hc0,rfl,rfl⟩
 have hbar:bar2 (zr b) (cutsM b l)=0:=by simpa using hc0
 have hbb:=zZ (kE hbar)
 have hcc:=wD (kb hbar)
 refine au [12,4,5,8,1] ?_
 refine TK.cl Z Z Z Z (jS hT hbb hcc) ?_
 rintro r4 K5 ⟨jr,rfl,rfl⟩
 refine au [2,2,3] ?_
 refine TK.rt hret [(jr,_),(s,_),(h,_),(e,_),(j,_)] ?_
 exact .inr ⟨hbar,jr,rfl,rfl⟩
theorem xt {main T} (hT:zo tp main T) {gm} {b:RBk} {s h e j:Nat} {l:List Int} {et:TypeId} (hl:b.seams.length<=100) (hm:b.measures.length<=100) (hll:l.length<=1000) :
  zA tp T gm 23 [.agg (zE b s h e),.sl j 0 l.length] [(s,zk b),(h,zB b),(e,zq b),(j,.cells (l.map intA) et false)] (fun r K'=>r=.tup [zP (decide (bar2 (zr b) (cutsM b l)=0)&&fitsM b l),intA (bar2 (zr b) (cutsM b l))]/\K'=[(s,zk b),(h,zB b),(e,zq b),(j,.cells (l.map intA) et false)]):=by
 refine zp 16 hT Tryz.func23 fun Y hret=>?_
 refine au [4,5,21] ?_
 intro jb hjb
 refine au [2,2,3,4,4,5,8,1] ?_
 refine TK.cl Z Z Z Z (jM hT hl hm hll) ?_
 rintro r1 K2 ⟨rfl,rfl⟩
 refine au [2,3,4,5,1,6,3,20] ?_
 refine ⟨fun hc0=>?_,fun hc0=>?_⟩
 ·refine au [4,5,1,2,2,3] ?_
  refine TK.rt hret [(s,_),(h,_),(e,_),(j,_)] ?_
  exact ⟨by rw [decide_eq_false (show ¬ bar2 (zr b) (cutsM b l)=0 by simpa using hc0)]; rfl,rfl⟩
 have hbar:bar2 (zr b) (cutsM b l)=0:=by simpa using hc0
 have hbb:=zZ (kE hbar)
 have hcc:=wD (kb hbar)
 refine au [12,4,5,8,1] ?_
 refine TK.cl Z Z Z Z (xg hT hbb hcc) ?_
 rintro r4 K5 ⟨rfl,rfl⟩
 refine au [2,2,3] ?_
 refine TK.rt hret [(s,_),(h,_),(e,_),(j,_)] ?_
 exact ⟨by rw [hbar,decide_eq_true rfl,Bool.true_and],rfl⟩
theorem jT {main T} (hT:zo tp main T) {gm} {b:RBk} {s h e j j2:Nat} {l st:List Int} {et et2:TypeId} (hl:b.seams.length<=100) (hm:b.measures.length<=100) (hll:l.length<=1000) (hst:st.length<=1000) :
  zA tp T gm 28 [.agg (zE b s h e),.sl j 0 l.length,.sl j2 0 st.length] [(s,zk b),(h,zB b),(e,zq b),(j,.cells (l.map intA) et false),(j2,.cells (st.map intA) et2 false)] (fun r K'=>(bar2 (zr b) (bar2 (cutsM b l) (shM b st))≠0/\r=.tup [.v (.slice none 0 0),intA 0,zP false,intA (bar2 (zr b) (bar2 (cutsM b l) (shM b st)))]/\K'=[(s,zk b),(h,zB b),(e,zq b),(j,.cells (l.map intA) et false),(j2,.cells (st.map intA) et2 false)])\/(bar2 (zr b) (bar2 (cutsM b l) (shM b st))=0/\hangM b l st=none/\r=.tup [.v (.slice none 0 0),intA 0,zP false,intA 0]/\K'=[(s,zk b),(h,zB b),(e,zq b),(j,.cells (l.map intA) et false),(j2,.cells (st.map intA) et2 false)])\/(bar2 (zr b) (bar2 (cutsM b l) (shM b st))=0/\∃ w q jw,hangM b l st=some (w,q)/\r=.tup [.sl jw 0 w.length,intA q,zP true,intA 0]/\K'=(jw,.cells (w.map intA) 3 false)::[(s,zk b),(h,zB b),(e,zq b),(j,.cells (l.map intA) et false),(j2,.cells (st.map intA) et2 false)])):=by
 refine zp 32 hT Tryz.func28 fun Y hret=>?_
 refine au [4,5,21] ?_
 intro jb hjb
 refine au [2,2,2,2,3,4,4,5,8,1,1] ?_
 refine TK.cl Z Z Z Z (xu hT hl hm hll hst) ?_
 rintro r1 K2 ⟨rfl,rfl⟩
 refine au [] ?_
 rw [jV]
 refine au [2,3,4,5,1,6,3,20] ?_
 refine ⟨fun hc0=>?_,fun hc0=>?_⟩
 ·refine au [4,5,1,2,2,2,2,3] ?_
  refine TK.rt hret [(s,_),(h,_),(e,_),(j,_),(j2,_)] ?_
  exact .inl ⟨by simpa using hc0,rfl,rfl⟩
 have hbar:bar2 (zr b) (bar2 (cutsM b l) (shM b st))=0:=by simpa using hc0
 have hbb:=zZ (kE hbar)
 have hb1:=kb hbar
 have hcc:=wD (kE hb1)
 have hss:=zfq (kb hb1)
 refine au [12,4,5,8,1,1] ?_
 refine TK.cl Z Z Z Z (xi hT hbb hcc hss) ?_
 rintro r4 K5 h6
 rcases h6 with ⟨hno,rfl,rfl⟩ | ⟨w,q,jw,hso,rfl,rfl⟩
 ·refine au [1,10,10,10,2,2,2,3,4,5,1,1,1,2,2,2,2,3] ?_
  refine TK.rt hret [(s,_),(h,_),(e,_),(j,_),(j2,_)] ?_
  exact .inr (.inl ⟨hbar,hno,rfl,rfl⟩)
 ·refine au [1,10,10,10,2,2,2,3,4,5,1,1,1,2,2,2,2,3] ?_
  refine TK.rt hret [(jw,_),(s,_),(h,_),(e,_),(j,_),(j2,_)] ?_
  exact .inr (.inr ⟨hbar,w,q,jw,hso,rfl,rfl⟩)
theorem jI {main T} (hT:zo tp main T) {gm} {b:RBk} {s h e j j2:Nat} {l st:List Int} {et et2:TypeId} (hl:b.seams.length<=100) (hm:b.measures.length<=100) (hll:l.length<=1000) (hst:st.length<=1000) :
  zA tp T gm 31 [.agg (zE b s h e),.sl j 0 l.length,.sl j2 0 st.length] [(s,zk b),(h,zB b),(e,zq b),(j,.cells (l.map intA) et false),(j2,.cells (st.map intA) et2 false)] (fun r K'=>(bar2 (zr b) (bar2 (cutsM b l) (shM b st))≠0/\r=.tup [.v (.slice none 0 0),zP false,intA (bar2 (zr b) (bar2 (cutsM b l) (shM b st)))]/\K'=[(s,zk b),(h,zB b),(e,zq b),(j,.cells (l.map intA) et false),(j2,.cells (st.map intA) et2 false)])\/(bar2 (zr b) (bar2 (cutsM b l) (shM b st))=0/\hangM b l st=none/\r=.tup [.v (.slice none 0 0),zP false,intA 0]/\K'=[(s,zk b),(h,zB b),(e,zq b),(j,.cells (l.map intA) et false),(j2,.cells (st.map intA) et2 false)])\/(bar2 (zr b) (bar2 (cutsM b l) (shM b st))=0/\∃ w q jr,hangM b l st=some (w,q)/\r=.tup [.row jr l.length,zP true,intA 0]/\K'=(jr,.row ((placesM b l st w).map intA) 3 1)::[(s,zk b),(h,zB b),(e,zq b),(j,.cells (l.map intA) et false),(j2,.cells (st.map intA) et2 false)])):=by
 refine zp 80 hT Tryz.func31 fun Y hret=>?_
 refine au [4,5,21] ?_
 intro jb hjb
 refine au [2,2,2,3,4,4,5,8,1,1] ?_
 refine TK.cl Z Z Z Z (xu hT hl hm hll hst) ?_
 rintro r1 K2 ⟨rfl,rfl⟩
 refine au [] ?_
 rw [jV]
 refine au [2,3,4,5,1,6,3,20] ?_
 refine ⟨fun hc0=>?_,fun hc0=>?_⟩
 ·refine au [4,5,1,2,2,2,3] ?_
  refine TK.rt hret [(s,_),(h,_),(e,_),(j,_),(j2,_)] ?_
  exact .inl ⟨by simpa using hc0,rfl,rfl⟩
 have hbar:bar2 (zr b) (bar2 (cutsM b l) (shM b st))=0:=by simpa using hc0
 have hbb:=zZ (kE hbar)
 have hb1:=kb hbar
 have hcc:=wD (kE hb1)
 have hss:=zfq (kb hb1)
 refine au [12,4,5,8,1,1] ?_
 refine TK.cl Z Z Z Z (xi hT hbb hcc hss) ?_
 rintro r4 K5 h6
 rcases h6 with ⟨hno,rfl,rfl⟩ | ⟨w,q,jw,hso,rfl,rfl⟩
 ·refine au [1,10,10,10,2,2,2,3,4,4,5,1,30,3,20] ?_
  refine ⟨fun hc1=>?_,fun hc1=>?_⟩
  ·
   refine au [4,5,2,2,2,3] ?_
   refine TK.rt hret [(s,_),(h,_),(e,_),(j,_),(j2,_)] ?_
   exact .inr (.inl ⟨hbar,hno,rfl,rfl⟩)
  exact absurd hc1 dQ
 ·refine au [1,10,10,10,2,2,2,3,4,4,5,1,30,3,20] ?_
  refine ⟨fun hc1=>?_,fun hc1=>?_⟩
  ·exact absurd hc1 dQ
  have hwl:=(zhT hbb hcc hss hso).1
  have hw9:=(zhT hbb hcc hss hso).2
  have hsl:=hbb.sms.len
  have hlc:=hcc.len
  have hsk:=hss.len
  refine au [12,4,5,2] ?_
  refine TK.virt 13 3 1 Z fun jr0 hjr0=>?_
  refine au [3,4,5,2,3,4,4,5,2,3,13] ?_
  refine TK.maskL [1,2,3,10,13,14,15] ?_
  refine TK.kp [(s,_),(h,_),(e,_),(j,_),(j2,_),(jw,_),(jb,_),(jr0,_)] ?_
  refine TK.loopN (fun n env K=>∃ (i jr:Nat),n=l.length - i/\i<=l.length/\env=.any::.sl j 0 l.length::.sl j2 0 st.length::.ptr jb 0::naL 6 (.sl jw 0 w.length::naL 2 (.row jr i::intA (posM b l st w i)::intA i::naL 64 []))/\K=[(s,zk b),(h,zB b),(e,zq b),(j,.cells (l.map intA) et false),(j2,.cells (st.map intA) et2 false),(jw,.cells (w.map intA) 3 false),(jb,.cells (zE b s h e) 26 true),(jr,.row (((List.range i).map (atM b l st w)).map intA) 3 1)]) l.length ⟨0,jr0,rfl,mN _,rfl,rfl⟩ fun n env K hI hnext=>?_
  obtain ⟨i,jr,rfl,hi,rfl,rfl⟩:=hI
  refine TK.na nQ ?_
  refine au [4,4,5,1,1,28,6,3,20] ?_
  refine ⟨fun hc2=>?_,fun hc2=>?_⟩
  ·have hil:i<l.length:=by simp at hc2; omega
   have hcu:=hcc.lt hil
   have hmb:=jP hcc hil
   have hab:=at_bd hbb hcc hss hw9 i hil
   have hwi:0<=zN w i/\zN w i<=9:=hw9 i
   refine au [12,4,13,4,4,5,1,6,3,20] ?_
   refine ⟨fun hc3=>?_,fun hc3=>?_⟩
   ·have hi0:0<i:=by simp at hc3; omega
    have hpa:=qe (b:=b) (s:=st) (w:=w) hi0 hil
    have hpb : -9<=posM b l st w i/\posM b l st w i<=1000:=by omega
    refine au [5,1,1,1,36] ?_
    refine TK.a Z (zm Z Z zi.h mQ (yh (i:=i) (z5 (l:=w) oQ) Z)) ?_
    refine au [23,2,3,4] ?_
    rw [hpa]
    refine au [5,1,1] ?_
    refine TK.newR Z Z Z (zt (l:=[_]) Z zF.h TyZ.h dQ dQ Z) (fun _=>zu rfl tQ) fun j7 hj7=>?_
    refine TK.appR Z Z Z (a_app Z ApOf.h Z mQ sQ Z (yu (ln:=[_]) mQ dQ sQ Z) oQ Z (by unfold maxLen; omega) oQ) (fun _=>uQ) (fun _=>zu rfl tQ) fun jr2=>?_
    refine au [2,3,4,5,8,1,1] ?_
    refine TK.cl Z Z Z Z (jD hT hbb hcc hil) ?_
    rintro r8 K9 ⟨jc,rfl,rfl⟩
    refine au [2,3,4,5,2,3,13] ?_
    refine TK.maskL [1,2,3,10,13,14,15,16,17] ?_
    refine TK.kp [(s,_),(h,_),(e,_),(j,_),(j2,_),(jw,_),(jb,_),(jr2,_),(jc,_)] ?_
    refine TK.loopN (fun n env K=>∃ (t:Nat),n=(manyM b l i).toNat - t/\t<=(manyM b l i).toNat/\env=.any::.sl j 0 l.length::.sl j2 0 st.length::.ptr jb 0::naL 6 (.sl jw 0 w.length::naL 2 (.row jr2 (i+1)::intA (atM b l st w i+togM b st (zN l i).toNat t)::intA i::.row jc (manyM b l i).toNat::intA t::naL 62 []))/\K=[(s,zk b),(h,zB b),(e,zq b),(j,.cells (l.map intA) et false),(j2,.cells (st.map intA) et2 false),(jw,.cells (w.map intA) 3 false),(jb,.cells (zE b s h e) 26 true),(jr2,.row ((((List.range i).map (atM b l st w)).map intA)++[intA (atM b l st w i)]) 3 1),(jc,.row ((clM b (zN l i).toNat (manyM b l i).toNat).map intA) 3 1)]) (manyM b l i).toNat ⟨0,rfl,mN _,by rw [show atM b l st w i+togM b st (zN l i).toNat 0=atM b l st w i from Int.add_zero _]; rfl,rfl⟩ fun n env K hI2 hnext2=>?_
    obtain ⟨t,rfl,ht,rfl,rfl⟩:=hI2
    have htb:=za8 hbb hss (c:=(zN l i).toNat) t
    have hml:((zN l i).toNat+t) % b.seams.length<b.seams.length:=Nat.mod_lt _ oQ
    have hwb:=hbb.wide hml
    have hsb:=hss.bnd _ hml
    have hsb2:0<=zN st (((zN l i).toNat+t) % b.seams.length)/\zN st (((zN l i).toNat+t) % b.seams.length)<=5:=⟨hsb.1,hsb.2.1⟩
    refine TK.na nQ ?_
    refine au [4,4,5,1,1,28,6,3,20] ?_
    refine ⟨fun hc4=>?_,fun hc4=>?_⟩
    ·have htl:t<(manyM b l i).toNat:=by simp at hc4; omega
     refine au [12,4,13] ?_
     refine TK.draw [0,1,2,3,4,5,8,9,10,11,12,13,14,6,7,15,16] [0,1,2,3,4,5,6,7,8,9,10,11,12,13,14,15,16] (by kernel_rfl) (by kernel_rfl) ?_
     refine TD.z [14] Z (zh Z Z) ?_
     refine TD.y [3] Z (hq:=z8 Z Z zi.h (mC _) Z) (h:=?_)
     refine TD.z [16] Z (zh Z Z) ?_
     refine TD.z [17] Z (zh Z Z) ?_
     refine TD.y [65,66] Z (hq:=kA Z Z Z zF.h (mC _) oQ oQ) (h:=?_)
     refine TD.y [67] Z (hq:=zm Z Z zi.h (mC _) (zag (i:=t) (jF htl) Z)) (h:=?_)
     refine TD.z [2] Z (zh Z Z) ?_
     refine TD.z [16] Z (zh Z Z) ?_
     refine TD.z [17] Z (zh Z Z) ?_
     refine TD.y [72,73] Z (hq:=kA Z Z Z zF.h (mC _) oQ oQ) (h:=?_)
     refine TD.y [74] Z (hq:=zm Z Z zi.h (mC _) (zag (i:=t) (jF htl) Z)) (h:=?_)
     refine TD.z [71,75] Z (zQ Z Z Z zF.h oQ oQ) ?_
     refine TD.y [76] Z (hq:=zm Z Z zi.h (mC _) (yh (i:=((zN l i).toNat+t) % b.seams.length) (z5 oQ) Z)) (h:=?_)
     refine TD.cl (pend':=[⟨14,[76],[(_,_)]⟩,⟨13,[71,75],[]⟩,⟨12,[74],[(_,_)]⟩,⟨11,[72,73],[(_,_)]⟩,⟨10,[17],[]⟩,⟨9,[16],[]⟩,⟨8,[2],[]⟩,⟨4,[65,66],[(_,_)]⟩,⟨3,[17],[]⟩,⟨2,[16],[]⟩,⟨0,[14],[]⟩]) [64,68] Z Z Z Z Z (zfx hT (i:=((zN l i).toNat+t) % b.seams.length) hbb.rnd hbb.sms hml) (fun r11 K12 h13=>⟨?_,?_⟩)
     ·rcases h13 with ⟨rfl,rfl⟩
      all_goals simp
     obtain ⟨rfl,rfl⟩:=h13
     try simp only [cA]
     refine TD.norm tQ ?_
     refine TD.z [63,69] Z (q_add Z Z Z oQ) ?_
     refine TD.z [70,77] Z (q_sub Z Z Z oQ) ?_
     refine TD.as (pend':=[]) [78] Z Z (zD Z Z) ?_
     refine TD.fin ?_
     refine au [14,5,1,23,2,3] ?_
     refine TK.maskL [1,2,3,10,13,14,15,16,17] ?_
     refine TK.kp [(s,_),(h,_),(e,_),(j,_),(j2,_),(jw,_),(jb,_),(jr2,_),(jc,_)] ?_
     exact hnext2 _ _ _ oQ ⟨t+1,rfl,by omega,by rw [show atM b l st w i+togM b st (zN l i).toNat t+wideM b (((zN l i).toNat+t) % b.seams.length) - zN st (((zN l i).toNat+t) % b.seams.length)=atM b l st w i+togM b st (zN l i).toNat (t+1) by show _=_+(_+(wideM b _ - st.getD _ 0)); unfold zN; omega]; rfl,rfl⟩
    obtain rfl:t=(manyM b l i).toNat:=by simp at hc4; omega
    refine au [16,14,5,1,23,2,3] ?_
    refine TK.maskL [1,2,3,10,13,14,15] ?_
    refine TK.kp [(s,_),(h,_),(e,_),(j,_),(j2,_),(jw,_),(jb,_),(jr2,_)] ?_
    exact hnext _ _ _ oQ ⟨i+1,jr2,rfl,by omega,rfl,by rw [List.range_succ,lM,lM]; rfl⟩
   have hie:i=0:=by simp at hc3; omega
   have hpa:posM b l st w i=atM b l st w i:=by rw [hie]; rfl
   refine au [12,4] ?_
   rw [hpa]
   refine au [5,1,1] ?_
   refine TK.newR Z Z Z (zt (l:=[_]) Z zF.h TyZ.h dQ dQ Z) (fun _=>zu rfl tQ) fun j14 hj14=>?_
   refine TK.appR Z Z Z (a_app Z ApOf.h Z mQ sQ Z (yu (ln:=[_]) mQ dQ sQ Z) oQ Z (by unfold maxLen; omega) oQ) (fun _=>uQ) (fun _=>zu rfl tQ) fun jr2=>?_
   refine au [2,3,4,5,8,1,1] ?_
   refine TK.cl Z Z Z Z (jD hT hbb hcc hil) ?_
   rintro r15 K16 ⟨jc,rfl,rfl⟩
   refine au [2,3,4,5,2,3,13] ?_
   refine TK.maskL [1,2,3,10,13,14,15,16,17] ?_
   refine TK.kp [(s,_),(h,_),(e,_),(j,_),(j2,_),(jw,_),(jb,_),(jr2,_),(jc,_)] ?_
   refine TK.loopN (fun n env K=>∃ (t:Nat),n=(manyM b l i).toNat - t/\t<=(manyM b l i).toNat/\env=.any::.sl j 0 l.length::.sl j2 0 st.length::.ptr jb 0::naL 6 (.sl jw 0 w.length::naL 2 (.row jr2 (i+1)::intA (atM b l st w i+togM b st (zN l i).toNat t)::intA i::.row jc (manyM b l i).toNat::intA t::naL 62 []))/\K=[(s,zk b),(h,zB b),(e,zq b),(j,.cells (l.map intA) et false),(j2,.cells (st.map intA) et2 false),(jw,.cells (w.map intA) 3 false),(jb,.cells (zE b s h e) 26 true),(jr2,.row ((((List.range i).map (atM b l st w)).map intA)++[intA (atM b l st w i)]) 3 1),(jc,.row ((clM b (zN l i).toNat (manyM b l i).toNat).map intA) 3 1)]) (manyM b l i).toNat ⟨0,rfl,mN _,by rw [show atM b l st w i+togM b st (zN l i).toNat 0=atM b l st w i from Int.add_zero _]; rfl,rfl⟩ fun n env K hI2 hnext2=>?_
   obtain ⟨t,rfl,ht,rfl,rfl⟩:=hI2
   have htb:=za8 hbb hss (c:=(zN l i).toNat) t
   have hml:((zN l i).toNat+t) % b.seams.length<b.seams.length:=Nat.mod_lt _ oQ
   have hwb:=hbb.wide hml
   have hsb:=hss.bnd _ hml
   have hsb2:0<=zN st (((zN l i).toNat+t) % b.seams.length)/\zN st (((zN l i).toNat+t) % b.seams.length)<=5:=⟨hsb.1,hsb.2.1⟩
   refine TK.na nQ ?_
   refine au [4,4,5,1,1,28,6,3,20] ?_
   refine ⟨fun hc4=>?_,fun hc4=>?_⟩
   ·have htl:t<(manyM b l i).toNat:=by simp at hc4; omega
    refine au [12,4,13] ?_
    refine TK.draw [0,1,2,3,4,5,8,9,10,11,12,13,14,6,7,15,16] [0,1,2,3,4,5,6,7,8,9,10,11,12,13,14,15,16] (by kernel_rfl) (by kernel_rfl) ?_
    refine TD.z [14] Z (zh Z Z) ?_
    refine TD.y [3] Z (hq:=z8 Z Z zi.h (mC _) Z) (h:=?_)
    refine TD.z [16] Z (zh Z Z) ?_
    refine TD.z [17] Z (zh Z Z) ?_
    refine TD.y [65,66] Z (hq:=kA Z Z Z zF.h (mC _) oQ oQ) (h:=?_)
    refine TD.y [67] Z (hq:=zm Z Z zi.h (mC _) (zag (i:=t) (jF htl) Z)) (h:=?_)
    refine TD.z [2] Z (zh Z Z) ?_
    refine TD.z [16] Z (zh Z Z) ?_
    refine TD.z [17] Z (zh Z Z) ?_
    refine TD.y [72,73] Z (hq:=kA Z Z Z zF.h (mC _) oQ oQ) (h:=?_)
    refine TD.y [74] Z (hq:=zm Z Z zi.h (mC _) (zag (i:=t) (jF htl) Z)) (h:=?_)
    refine TD.z [71,75] Z (zQ Z Z Z zF.h oQ oQ) ?_
    refine TD.y [76] Z (hq:=zm Z Z zi.h (mC _) (yh (i:=((zN l i).toNat+t) % b.seams.length) (z5 oQ) Z)) (h:=?_)
    refine TD.cl (pend':=[⟨14,[76],[(_,_)]⟩,⟨13,[71,75],[]⟩,⟨12,[74],[(_,_)]⟩,⟨11,[72,73],[(_,_)]⟩,⟨10,[17],[]⟩,⟨9,[16],[]⟩,⟨8,[2],[]⟩,⟨4,[65,66],[(_,_)]⟩,⟨3,[17],[]⟩,⟨2,[16],[]⟩,⟨0,[14],[]⟩]) [64,68] Z Z Z Z Z (zfx hT (i:=((zN l i).toNat+t) % b.seams.length) hbb.rnd hbb.sms hml) (fun r18 K19 h20=>⟨?_,?_⟩)
    ·rcases h20 with ⟨rfl,rfl⟩
     all_goals simp
    obtain ⟨rfl,rfl⟩:=h20
    try simp only [cA]
    refine TD.norm tQ ?_
    refine TD.z [63,69] Z (q_add Z Z Z oQ) ?_
    refine TD.z [70,77] Z (q_sub Z Z Z oQ) ?_
    refine TD.as (pend':=[]) [78] Z Z (zD Z Z) ?_
    refine TD.fin ?_
    refine au [14,5,1,23,2,3] ?_
    refine TK.maskL [1,2,3,10,13,14,15,16,17] ?_
    refine TK.kp [(s,_),(h,_),(e,_),(j,_),(j2,_),(jw,_),(jb,_),(jr2,_),(jc,_)] ?_
    exact hnext2 _ _ _ oQ ⟨t+1,rfl,by omega,by rw [show atM b l st w i+togM b st (zN l i).toNat t+wideM b (((zN l i).toNat+t) % b.seams.length) - zN st (((zN l i).toNat+t) % b.seams.length)=atM b l st w i+togM b st (zN l i).toNat (t+1) by show _=_+(_+(wideM b _ - st.getD _ 0)); unfold zN; omega]; rfl,rfl⟩
   obtain rfl:t=(manyM b l i).toNat:=by simp at hc4; omega
   refine au [16,14,5,1,23,2,3] ?_
   refine TK.maskL [1,2,3,10,13,14,15] ?_
   refine TK.kp [(s,_),(h,_),(e,_),(j,_),(j2,_),(jw,_),(jb,_),(jr2,_)] ?_
   exact hnext _ _ _ oQ ⟨i+1,jr2,rfl,by omega,rfl,by rw [List.range_succ,lM,lM]; rfl⟩
  obtain rfl:i=l.length:=by simp at hc2; omega
  refine au [16,4,5,1,2,2,2,3] ?_
  refine TK.rt hret [(jr,_),(s,_),(h,_),(e,_),(j,_),(j2,_)] ?_
  exact .inr (.inr ⟨hbar,w,q,jr,hso,rfl,rfl⟩)
theorem or2l {x:Int} {A B:Prop} (h:(x≠0/\A)\/(x=0/\B)) (hx:x≠0):A:=by
 rcases h with ⟨_,h⟩ | ⟨h,_⟩
 ·exact h
 ·exact absurd h hx
theorem or3l {x:Int} {A B C P:Prop} (h:(x≠0/\A)\/(x=0/\P/\B)\/(x=0/\C)) (hx:x≠0):A:=by
 rcases h with ⟨_,h⟩ | ⟨h,_⟩ | ⟨h,_⟩
 ·exact h
 ·exact absurd h hx
 ·exact absurd h hx
theorem jK (b:RBk) (l:List Int):(stripsM b l).length=l.length:=by unfold stripsM; rw [lJ,List.length_range]
theorem jJ (b:RBk) (l s w:List Int):(placesM b l s w).length=l.length:=by unfold placesM; rw [lJ,List.length_range]
theorem TK.share {P:Program} {gm:Nat->Option Nat} {T:Goroutine->Hp->Prop} {Y:KX P gm T} {ds:List Nat} {k k':List Item} {env:List AV} {K:KV} {X:Type} {D:X->Prop} {E:X->List AV} {KK:X->KV} (main:(∀ x,D x->TK Y ds k' (E x) (KK x))->TK Y ds k env K) (tail:∀ x,D x->TK Y ds k' (E x) (KK x)):TK Y ds k env K:=main tail
theorem jN {main T} (hT:zo tp main T) {gm} {j j2:Nat} {xs ys:List Int} {e1 e2:TypeId} (hl:xs.length<=1000) :
  zA tp T gm 29 [.sl j 0 xs.length,.sl j2 0 ys.length] [(j,.cells (xs.map intA) e1 false),(j2,.cells (ys.map intA) e2 false)] (fun r K'=>r=zP (decide (xs=ys))/\K'=[(j,.cells (xs.map intA) e1 false),(j2,.cells (ys.map intA) e2 false)]):=by
 refine zp 26 hT Tryz.func29 fun Y hret=>?_
 refine au [4,5,2,3,4,4,5,1,28,1,28,6,3,20] ?_
 refine ⟨fun hc0=>?_,fun hc0=>?_⟩
 ·refine au [4,5,2,3] ?_
  refine TK.rt hret [(j,_),(j2,_)] ?_
  exact ⟨by rw [decide_eq_false (fun h=>by rw [h] at hc0; simp at hc0)],rfl⟩
 have hll:xs.length=ys.length:=by simp at hc0; omega
 refine au [12,4,4,5,2,3,13] ?_
 refine TK.maskL [0,1,4,5] ?_
 refine TK.loopN (fun n env K=>∃ (i:Nat),n=xs.length - i/\i<=xs.length/\xs.take i=ys.take i/\env=.sl j 0 xs.length::.sl j2 0 ys.length::naL 2 (zP false::intA i::naL 20 [])/\K=[(j,.cells (xs.map intA) e1 false),(j2,.cells (ys.map intA) e2 false)]) xs.length ⟨0,rfl,mN _,by simp,rfl,rfl⟩ fun n env K hI2 hnext=>?_
 obtain ⟨i,rfl,hi,hta,rfl,rfl⟩:=hI2
 refine TK.na nQ ?_
 refine au [4,4,5,1,1,28,6,3,20] ?_
 refine ⟨fun hc1=>?_,fun hc1=>?_⟩
 ·have hil:i<xs.length:=by simp at hc1; omega
  obtain ⟨x,hx⟩:∃ x,xs[i]? =some x:=⟨_,lA hil⟩
  obtain ⟨y,hy⟩:∃ y,ys[i]? =some y:=⟨_,lA oQ⟩
  refine au [12,4,13,4] ?_
  refine TK.draw [0,1,2,3,4,5,6,7,8] [0,1,2,3,4,5,6,7,8] (by kernel_rfl) (by kernel_rfl) ?_
  refine TD.z [0] Z (zh Z Z) ?_
  refine TD.z [5] Z (zh Z Z) ?_
  refine TD.z [17,18] Z (zQ Z Z Z zF.h oQ oQ) ?_
  refine TD.y [19] Z (hq:=zm Z Z zi.h (mC _) (yh hx Z)) (h:=?_)
  refine TD.z [1] Z (zh Z Z) ?_
  refine TD.z [5] Z (zh Z Z) ?_
  refine TD.z [21,22] Z (zQ Z Z Z zF.h oQ oQ) ?_
  refine TD.y [23] Z (hq:=zm Z Z zi.h (mC _) (yh hy Z)) (h:=?_)
  refine TD.z [20,24] Z (q_cmp Z Z Z Z) ?_
  refine TD.fin ?_
  refine au [20] ?_
  refine ⟨fun hc2=>?_,fun hc2=>?_⟩
  ·refine au [4,5,2,3] ?_
   refine TK.rt hret [(j,_),(j2,_)] ?_
   exact ⟨by rw [decide_eq_false (ne_at hx hy (fun h=>by rw [h] at hc2; simp at hc2))],rfl⟩
  refine au [12,14,5,1,23,2,3] ?_
  refine TK.maskL [0,1,4,5] ?_
  refine TK.kp [(j,_),(j2,_)] ?_
  exact hnext _ _ _ oQ ⟨i+1,rfl,by omega,uU hx hy hta (by simp at hc2; exact hc2),rfl,rfl⟩
 obtain rfl:i=xs.length:=by simp at hc1; omega
 refine au [16,4,5,2,3] ?_
 refine TK.rt hret [(j,_),(j2,_)] ?_
 exact ⟨by rw [decide_eq_true (zak hll hta)],rfl⟩
theorem ji {main T} (hT:zo tp main T) {gm}  :
  zA tp T gm 29 [.v (.slice none 0 0),.v (.slice none 0 0)] [] (fun r K'=>r=zP true/\K'=[]):=by
 refine zp 26 hT Tryz.func29 fun Y hret=>?_
 refine au [4,5,2,3,4,4,5,1,28,1,28,6,3,20] ?_
 refine ⟨fun hc0=>?_,fun hc0=>?_⟩
 ·exact absurd hc0 dQ
 refine au [12,4,4,5,2,3,13] ?_
 refine TK.maskL [0,1,4,5] ?_
 refine TK.loopN (fun n env K=>n=0/\env=.v (.slice none 0 0)::.v (.slice none 0 0)::naL 2 (zP false::intA 0::naL 20 [])/\K=[]) 0 ⟨rfl,rfl,rfl⟩ fun n env K hI hnext=>?_
 obtain ⟨rfl,rfl,rfl⟩:=hI
 refine TK.na nQ ?_
 refine au [4,4,5,1,1,28,6,3,20] ?_
 refine ⟨fun hc1=>?_,fun hc1=>?_⟩
 ·exact absurd hc1 dQ
 refine au [16,4,5,2,3] ?_
 refine TK.rt hret [] ?_
 exact ⟨rfl,rfl⟩
theorem xe {main T} (hT:zo tp main T) {gm}  :
  zA tp T gm 26 [.v (.slice none 0 0),.v (.slice none 0 0)] [] (fun r K'=>r=zP true/\K'=[]):=by
 refine zp 26 hT Tryz.func26 fun Y hret=>?_
 refine au [4,5,2,3,4,4,5,1,28,1,28,6,3,20] ?_
 refine ⟨fun hc0=>?_,fun hc0=>?_⟩
 ·exact absurd hc0 dQ
 refine au [12,4,4,5,2,3,13] ?_
 refine TK.maskL [0,1,4,5] ?_
 refine TK.loopN (fun n env K=>n=0/\env=.v (.slice none 0 0)::.v (.slice none 0 0)::naL 2 (zP false::intA 0::naL 20 [])/\K=[]) 0 ⟨rfl,rfl,rfl⟩ fun n env K hI hnext=>?_
 obtain ⟨rfl,rfl,rfl⟩:=hI
 refine TK.na nQ ?_
 refine au [4,4,5,1,1,28,6,3,20] ?_
 refine ⟨fun hc1=>?_,fun hc1=>?_⟩
 ·exact absurd hc1 dQ
 refine au [16,4,5,2,3] ?_
 refine TK.rt hret [] ?_
 exact ⟨rfl,rfl⟩
instance:Cal tp 21:={}
instance:Cal tp 23:={}
instance:Cal tp 28:={}
instance:Cal tp 31:={}
theorem xz {b:RBk} {s h e:Nat} {j j2:Nat} {l st:List Int}:Top tp gmR 3 [.agg (zE b s h e),.sl j 0 l.length,.sl j2 0 st.length] [(0,zy),(s,zk b),(h,zB b),(e,zq b),(j,.cells (l.map intA) 3 false),(j2,.cells (st.map intA) 3 false)] (fun r _=>r=zP true):=by
 refine topI 151 Tryz.func3 fun R Y hret=>?_
 have hT:=kH (P:=tp) (AtRet tp 3 R)
 refine au [4,5,21] ?_
 intro jb hjb
 refine au [2,3,4,4,5,8] ?_
 refine TK.cl Z Z Z Z (zfZ hT) ?_
 rintro r1 K2 ⟨rfl,rfl⟩
 refine au [1] ?_
 refine TK.sp 21 (fun g1_3=>?_) (fun g1_3=>?_)
 ·refine au [11,11,11,26,1,11,11,11,26,3,18,4,5] ?_
  refine TK.cl Z Z Z Z (zi5) ?_
  rintro r4 K5 ⟨rfl,rfl⟩
  refine au [2,3] ?_
  refine TK.rt hret [] ?_
  rfl
 refine au [1,28,6,25,1] ?_
 refine TK.sp 26 (fun g1_8=>?_) (fun g1_8=>?_)
 ·refine au [11,11,11,26,3,18,4,5] ?_
  refine TK.cl Z Z Z Z (zi5) ?_
  rintro r7 K8 ⟨rfl,rfl⟩
  refine au [2,3] ?_
  refine TK.rt hret [] ?_
  rfl
 refine au [1,28,6,25,3,20] ?_
 refine ⟨fun hc0=>?_,fun hc0=>?_⟩
 ·refine au [4,5] ?_
  refine TK.cl Z Z Z Z (zi5) ?_
  rintro r10 K11 ⟨rfl,rfl⟩
  refine au [2,3] ?_
  refine TK.rt hret [] ?_
  rfl
 have hg:greatM b=false:=g1_3
 have hll:l.length<=1000:=by have:=of_decide_eq_false g1_8; omega
 have hst:st.length<=1000:=by have:=of_decide_eq_false hc0; omega
 have hlm:b.seams.length<=100/\b.measures.length<=100:=by unfold greatM at hg; simp at hg; omega
 obtain ⟨hl,hm⟩:=hlm
 refine au [12,4,5,8,1] ?_
 refine' TK.share (X:=Unit) (D:=fun x=>True) (E:=fun x=>.any::.sl j 0 l.length::.sl j2 0 st.length::.ptr jb 0::naL 147 []) (KK:=fun x=>[(0,zy),(s,zk b),(h,zB b),(e,zq b),(j,.cells (l.map intA) 3 false),(j2,.cells (st.map intA) 3 false),(jb,.cells (zE b s h e) 26 true)]) ?_ ?_
 rotate_left
 ·intro H
  refine TK.cl Z Z Z Z (zhO hT hl hm hll) ?_
  rintro r13 K14 h15
  rcases h15 with ⟨hbar,rfl,rfl⟩ | ⟨hbar,jl,rfl,rfl⟩
  ·refine au [1,10,10,2,2,3,4,5,8,1] ?_
   refine TK.cl Z Z Z Z ((xA hT hl hm hll).mono (fun _ _ h=>or2l h hbar)) ?_
   rintro r16 K17 ⟨rfl,rfl⟩
   refine au [1,10,10,2,2,3,4,5,8,1] ?_
   refine TK.cl Z Z Z Z (zaN hT hl hm hll) ?_
   rintro r19 K20 ⟨rfl,rfl⟩
   refine au [1,10,10,2,2,3,4,5,8,1] ?_
   refine TK.cl Z Z Z Z (xt hT hl hm hll) ?_
   rintro r22 K23 ⟨rfl,rfl⟩
   refine au [1,10,10,2,2,3,4,4] ?_
   skip
   refine TK.draw [0,2,1,3,4,5,6,7,8,9,10,11,12,13,14,15,16,17,18,19,20,21,22,23,24,25] [0,1,2,3,4,5,6,7,8,9,10,11,12,13,14,15,16,17,18,19,20,21,22,23,24,25] (by kernel_rfl) (by kernel_rfl) ?_
   refine TD.y [3] Z (hq:=z8 Z Z zi.h (mC _) Z) (h:=?_)
   refine TD.y [3] Z (hq:=z8 Z Z zi.h (mC _) Z) (h:=?_)
   refine TD.cl (pend':=[⟨2,[3],[(_,_)]⟩]) [56] Z Z Z Z Z (vi hT hl hm) (fun r25 K26 h27=>⟨?_,?_⟩)
   ·rcases h27 with ⟨rfl,rfl⟩
    all_goals simp
   obtain ⟨rfl,rfl⟩:=h27
   try simp only [cA]
   refine TD.norm tQ ?_
   refine TD.cl (pend':=[]) [58] Z Z Z Z Z (zeH hT hl hm) (fun r28 K29 h30=>⟨?_,?_⟩)
   ·rcases h30 with ⟨rfl,rfl⟩
    all_goals simp
   obtain ⟨rfl,rfl⟩:=h30
   try simp only [cA]
   refine TD.norm tQ ?_
   refine TD.z [57,59] Z (q_cmp Z Z Z Z) ?_
   refine TD.z [60] Z (zh Z Z) ?_
   refine TD.sp 61 (fun g7_6=>?_) (fun g7_6=>?_)
   ·simp at g7_6
   refine TD.z [7,61] Z (zh Z Z) ?_
   refine TD.z [9,61] Z (zh Z Z) ?_
   refine TD.cl (pend':=[⟨4,[57,59],[]⟩]) [61,62,63] Z Z Z Z Z (xe hT) (fun r31 K32 h33=>⟨?_,?_⟩)
   ·rcases h33 with ⟨rfl,rfl⟩
    all_goals simp
   obtain ⟨rfl,rfl⟩:=h33
   try simp only [cA]
   refine TD.norm tQ ?_
   skip
   refine TD.z [61,64] Z (q_not Z Z) ?_
   refine TD.z [61,65] Z (yf Z Z Z) ?_
   refine TD.z [66] Z (zh Z Z) ?_
   refine TD.z [8,67] Z (zh Z Z) ?_
   refine TD.z [10,67] Z (zh Z Z) ?_
   refine TD.z [67,68,69] Z (q_cmp Z Z Z Z) ?_
   refine TD.z [67,70] Z (yf Z Z Z) ?_
   refine TD.z [71] Z (zh Z Z) ?_
   refine TD.sp 72 (fun g7_17=>?_) (fun g7_17=>?_)
   ·simp at g7_17
   refine TD.z [11,72] Z (zh Z Z) ?_
   refine TD.z [13,72] Z (zh Z Z) ?_
   refine TD.z [72,73,74] Z (ziy Z Z Z Und.h Z) ?_
   refine TD.z [72,75] Z (yf Z Z Z) ?_
   refine TD.z [76] Z (zh Z Z) ?_
   refine TD.sp 77 (fun g7_22=>?_) (fun g7_22=>?_)
   ·simp at g7_22
   refine TD.z [12,77] Z (zh Z Z) ?_
   refine TD.z [14,77] Z (zh Z Z) ?_
   refine TD.z [77,78,79] Z (q_cmp Z Z Z Z) ?_
   refine TD.z [77,80] Z (yf Z Z Z) ?_
   refine TD.fin ?_
   refine au [20] ?_
   refine ⟨fun hc1=>?_,fun hc1=>?_⟩
   ·simp at hc1
   refine au [12,4] ?_
   refine TK.maskL [1,2,3] ?_
   refine TK.kp [(0,_),(s,_),(h,_),(e,_),(j,_),(j2,_),(jb,_)] ?_
   exact H () trivial
  ·refine au [1,10,10,2,2,3,4,5,8,1] ?_
   refine TK.cl Z Z Z Z ((xA hT hl hm hll).mono (fun _ _ h=>or2r h hbar)) ?_
   rintro r145 K146 ⟨jm,rfl,rfl⟩
   refine au [1,10,10,2,2,3,4,5,8,1] ?_
   refine TK.cl Z Z Z Z (zaN hT hl hm hll) ?_
   rintro r148 K149 ⟨rfl,rfl⟩
   refine au [1,10,10,2,2,3,4,5,8,1] ?_
   refine TK.cl Z Z Z Z (xt hT hl hm hll) ?_
   rintro r151 K152 ⟨rfl,rfl⟩
   refine au [1,10,10,2,2,3,4,4] ?_
   refine TK.asSl 7 Z mQ ?_
   refine TK.frzRow (j:=jl) ?_
   refine au [] ?_
   rw [show AV.sl jl 0 l.length=AV.sl jl 0 (stripsM b l).length by rw [jK],show AV.row jm l.length=AV.row jm (stripsM b l).length by rw [jK]]
   refine TK.draw [0,2,1,3,4,5,6,7,8,9,10,11,12,13,14,15,16,17,18,19,20,21,22,23,24,25] [0,1,2,3,4,5,6,7,8,9,10,11,12,13,14,15,16,17,18,19,20,21,22,23,24,25] (by kernel_rfl) (by kernel_rfl) ?_
   refine TD.y [3] Z (hq:=z8 Z Z zi.h (mC _) Z) (h:=?_)
   refine TD.y [3] Z (hq:=z8 Z Z zi.h (mC _) Z) (h:=?_)
   refine TD.cl (pend':=[⟨2,[3],[(_,_)]⟩]) [56] Z Z Z Z Z (vi hT hl hm) (fun r154 K155 h156=>⟨?_,?_⟩)
   ·rcases h156 with ⟨rfl,rfl⟩
    all_goals simp
   obtain ⟨rfl,rfl⟩:=h156
   try simp only [cA]
   refine TD.norm tQ ?_
   refine TD.cl (pend':=[]) [58] Z Z Z Z Z (zeH hT hl hm) (fun r157 K158 h159=>⟨?_,?_⟩)
   ·rcases h159 with ⟨rfl,rfl⟩
    all_goals simp
   obtain ⟨rfl,rfl⟩:=h159
   try simp only [cA]
   refine TD.norm tQ ?_
   refine TD.z [57,59] Z (q_cmp Z Z Z Z) ?_
   refine TD.z [60] Z (zh Z Z) ?_
   refine TD.sp 61 (fun g7_6=>?_) (fun g7_6=>?_)
   ·simp at g7_6
   refine TD.z [7,61] Z (zh Z Z) ?_
   refine TD.z [9,61] Z (zh Z Z) ?_
   refine TD.cl (pend':=[⟨4,[57,59],[]⟩]) [61,62,63] Z Z Z Z Z (zbp hT (xs:=stripsM b l) (ys:=stripsM b l) (ob:=.cells ((stripsM b l).flatMap pairC) 96 false) (off:=0) (fun i x hx=>w9 (c:=2) (fun _=>rfl) hx rfl dQ) (by rw [jK]; omega)) (fun r160 K161 h162=>⟨?_,?_⟩)
   ·rcases h162 with ⟨rfl,rfl⟩
    all_goals simp
   obtain ⟨rfl,rfl⟩:=h162
   try simp only [cA]
   refine TD.norm tQ ?_
   try rw [decide_eq_true (rfl:stripsM b l=stripsM b l)]
   refine TD.z [61,64] Z (q_not Z Z) ?_
   refine TD.z [61,65] Z (yf Z Z Z) ?_
   refine TD.z [66] Z (zh Z Z) ?_
   refine TD.z [8,67] Z (zh Z Z) ?_
   refine TD.z [10,67] Z (zh Z Z) ?_
   refine TD.z [67,68,69] Z (q_cmp Z Z Z Z) ?_
   refine TD.z [67,70] Z (yf Z Z Z) ?_
   refine TD.z [71] Z (zh Z Z) ?_
   refine TD.z [11,72] Z (zh Z Z) ?_
   refine TD.z [13,72] Z (zh Z Z) ?_
   refine TD.z [72,73,74] Z (ziy Z Z Z Und.h Z) ?_
   refine TD.z [72,75] Z (yf Z Z Z) ?_
   refine TD.z [76] Z (zh Z Z) ?_
   refine TD.sp 77 (fun g7_22=>?_) (fun g7_22=>?_)
   ·simp at g7_22
   refine TD.z [12,77] Z (zh Z Z) ?_
   refine TD.z [14,77] Z (zh Z Z) ?_
   refine TD.z [77,78,79] Z (q_cmp Z Z Z Z) ?_
   refine TD.z [77,80] Z (yf Z Z Z) ?_
   refine TD.fin ?_
   refine au [20] ?_
   refine ⟨fun hc1=>?_,fun hc1=>?_⟩
   ·simp at hc1
   refine au [12,4] ?_
   refine TK.maskL [1,2,3] ?_
   refine TK.kp [(0,_),(s,_),(h,_),(e,_),(j,_),(j2,_),(jb,_)] ?_
   exact H () trivial
 ·rintro _ _
  refine TK.na nQ ?_
  refine au [5,8,1,1] ?_
  refine' TK.share (X:=Unit) (D:=fun x=>True) (E:=fun x=>.any::.sl j 0 l.length::.sl j2 0 st.length::.ptr jb 0::naL 147 []) (KK:=fun x=>[(0,zy),(s,zk b),(h,zB b),(e,zq b),(j,.cells (l.map intA) 3 false),(j2,.cells (st.map intA) 3 false),(jb,.cells (zE b s h e) 26 true)]) ?_ ?_
  rotate_left
  ·intro H
   refine TK.cl Z Z Z Z (zei hT hl hm hll) ?_
   rintro r163 K164 h165
   rcases h165 with ⟨hbar,rfl,rfl⟩ | ⟨hbar,hno,rfl,rfl⟩ | ⟨hbar,w,q,jw,hso,rfl,rfl⟩
   ·refine au [1,10,10,10,10,2,2,2,2,3,4,5,8,1,1] ?_
    refine TK.cl Z Z Z Z ((jT hT hl hm hll hst).mono (fun _ _ h=>or3l h hbar)) ?_
    rintro r166 K167 ⟨rfl,rfl⟩
    refine au [1,10,10,10,10,2,2,2,2,3,4,4,5,1,1] ?_
    refine TK.cl Z Z Z Z (ji hT) ?_
    rintro r169 K170 ⟨rfl,rfl⟩
    refine au [] ?_
    skip
    refine au [30,1,1,1,6,25,1,1,1,34,25,1,1,1,6,25,3,20] ?_
    refine ⟨fun hc2=>?_,fun hc2=>?_⟩
    ·first | exact absurd hc2 dQ | simp at hc2
    refine au [12,4] ?_
    refine TK.maskL [1,2,3] ?_
    refine TK.kp [(0,_),(s,_),(h,_),(e,_),(j,_),(j2,_),(jb,_)] ?_
    exact H () trivial
   ·refine au [1,10,10,10,10,2,2,2,2,3,4,5,8,1,1] ?_
    refine TK.cl Z Z Z Z ((jT hT hl hm hll hst).mono (fun _ _ h=>or3x h hbar)) ?_
    rintro r202 K203 h204
    rcases h204 with ⟨hno2,rfl,rfl⟩ | ⟨w2,q2,jw2,hso2,rfl,rfl⟩
    ·refine au [] ?_
     skip
     refine au [1,10,10,10,10,2,2,2,2,3,4,4,5,1,1] ?_
     refine TK.cl Z Z Z Z (ji hT) ?_
     rintro r205 K206 ⟨rfl,rfl⟩
     refine au [] ?_
     skip
     refine au [30,1,1,1,6,25,1,1,1,34,25,1,1,1,6,25,3,20] ?_
     refine ⟨fun hc2=>?_,fun hc2=>?_⟩
     ·first | exact absurd hc2 dQ | simp at hc2
     refine au [12,4] ?_
     refine TK.maskL [1,2,3] ?_
     refine TK.kp [(0,_),(s,_),(h,_),(e,_),(j,_),(j2,_),(jb,_)] ?_
     exact H () trivial
    ·refine au [] ?_
     rw [hno] at hso2; cases hso2
   ·refine au [] ?_
    have hbb:=zZ (kE hbar)
    have hb1:=kb hbar
    have hcc:=wD (kE hb1)
    have hss:=zfq (kb hb1)
    have hwl:=(zhT hbb hcc hss hso).1
    refine au [1,10,10,10,10,2,2,2,2,3,4,5,8,1,1] ?_
    refine TK.cl Z Z Z Z ((jT hT hl hm hll hst).mono (fun _ _ h=>or3x h hbar)) ?_
    rintro r238 K239 h240
    rcases h240 with ⟨hno2,rfl,rfl⟩ | ⟨w2,q2,jw2,hso2,rfl,rfl⟩
    ·refine au [] ?_
     rw [hso] at hno2; cases hno2
    ·refine au [] ?_
     obtain ⟨rfl,rfl⟩:w=w2/\q=q2:=by rw [hso] at hso2; cases hso2; exact ⟨rfl,rfl⟩
     refine au [1,10,10,10,10,2,2,2,2,3,4,4,5,1,1] ?_
     refine TK.cl Z Z Z Z (jN hT oQ) ?_
     rintro r241 K242 ⟨rfl,rfl⟩
     refine au [] ?_
     try rw [decide_eq_true (rfl:w=w)]
     refine au [30,1,1,1,6,25,1] ?_
     refine TK.sp 109 (fun g11_10=>?_) (fun g11_10=>?_)
     ·simp at g11_10
     refine au [1,1,34,25,1,1,1,6,25,3,20] ?_
     refine ⟨fun hc2=>?_,fun hc2=>?_⟩
     ·first | exact absurd hc2 dQ | simp at hc2
     refine au [12,4] ?_
     refine TK.maskL [1,2,3] ?_
     refine TK.kp [(0,_),(s,_),(h,_),(e,_),(j,_),(j2,_),(jb,_)] ?_
     exact H () trivial
  ·rintro _ _
   refine TK.na nQ ?_
   refine au [5,8,1,1] ?_
   refine TK.cl Z Z Z Z (zcR hT hl hm hll) ?_
   rintro r244 K245 h246
   rcases h246 with ⟨hbar,rfl,rfl⟩ | ⟨hbar,hno,rfl,rfl⟩ | ⟨hbar,w,q,jq,hso,rfl,rfl⟩
   ·refine au [1,10,10,10,2,2,2,3,4,5,8,1,1] ?_
    refine TK.cl Z Z Z Z ((jI hT hl hm hll hst).mono (fun _ _ h=>or3l h hbar)) ?_
    rintro r247 K248 ⟨rfl,rfl⟩
    refine au [1,10,10,10,2,2,2,3,4] ?_
    skip
    refine au [5,1,1] ?_
    refine TK.cl Z Z Z Z (ji hT) ?_
    rintro r250 K251 ⟨rfl,rfl⟩
    refine au [] ?_
    skip
    refine au [1,1,1,34,26,1,1,1,6,26,1] ?_
    refine TK.sp 148 (fun g15_14=>?_) (fun g15_14=>?_)
    ·refine TK.cl Z Z Z Z (zi5) ?_
     rintro r253 K254 ⟨rfl,rfl⟩
     refine au [26,2,3] ?_
     refine TK.rt hret [] ?_
     rfl
    simp at g15_14
   ·refine au [1,10,10,10,2,2,2,3,4,5,8,1,1] ?_
    refine TK.cl Z Z Z Z ((jI hT hl hm hll hst).mono (fun _ _ h=>or3x h hbar)) ?_
    rintro r256 K257 h258
    rcases h258 with ⟨hno2,rfl,rfl⟩ | ⟨w2,q2,jq2,hso2,rfl,rfl⟩
    ·refine au [] ?_
     skip
     refine au [1,10,10,10,2,2,2,3,4] ?_
     skip
     refine au [5,1,1] ?_
     refine TK.cl Z Z Z Z (ji hT) ?_
     rintro r259 K260 ⟨rfl,rfl⟩
     refine au [] ?_
     skip
     refine au [1,1,1,34,26,1,1,1,6,26,1] ?_
     refine TK.cl Z Z Z Z (zi5) ?_
     rintro r262 K263 ⟨rfl,rfl⟩
     refine au [26,2,3] ?_
     refine TK.rt hret [] ?_
     rfl
    ·refine au [] ?_
     rw [hno] at hso2; cases hso2
   ·refine au [] ?_
    have hbb:=zZ (kE hbar)
    have hb1:=kb hbar
    have hcc:=wD (kE hb1)
    have hss:=zfq (kb hb1)
    have hwl:=(zhT hbb hcc hss hso).1
    refine au [1,10,10,10,2,2,2,3,4,5,8,1,1] ?_
    refine TK.cl Z Z Z Z ((jI hT hl hm hll hst).mono (fun _ _ h=>or3x h hbar)) ?_
    rintro r265 K266 h267
    rcases h267 with ⟨hno2,rfl,rfl⟩ | ⟨w2,q2,jq2,hso2,rfl,rfl⟩
    ·refine au [] ?_
     rw [hso] at hno2; cases hno2
    ·refine au [] ?_
     obtain ⟨rfl,rfl⟩:w=w2/\q=q2:=by rw [hso] at hso2; cases hso2; exact ⟨rfl,rfl⟩
     refine au [1,10,10,10,2,2,2,3,4] ?_
     refine TK.asSl 15 Z mQ ?_
     refine TK.frzRow (j:=jq) ?_
     refine au [] ?_
     refine TK.asSl 17 Z mQ ?_
     refine TK.frzRow (j:=jq2) ?_
     refine au [] ?_
     rw [show AV.sl jq 0 l.length=AV.sl jq 0 (placesM b l st w).length by rw [jJ],show AV.sl jq2 0 l.length=AV.sl jq2 0 (placesM b l st w).length by rw [jJ]]
     refine au [5,1,1] ?_
     refine TK.cl Z Z Z Z (jN hT (by rw [jJ]; omega)) ?_
     rintro r268 K269 ⟨rfl,rfl⟩
     refine au [] ?_
     try rw [decide_eq_true (rfl:placesM b l st w=placesM b l st w)]
     refine au [1,1,1,34,26,1,1,1,6,26,1] ?_
     refine TK.cl Z Z Z Z (zi5) ?_
     rintro r271 K272 ⟨rfl,rfl⟩
     refine au [26,2,3] ?_
     refine TK.rt hret [] ?_
     rfl
end Go.Vel
end
