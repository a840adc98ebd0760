/- The law RollPlans: Best, Fewest and Widest agree with the specification for every book. It holds of every program, tape and world that the statements name, as each theorem says. -/
import Derived.Test.YtamcohjpanjdiaaGreatDoorK5
import Derived.Test.YtamcohjpanjdiaaGreatDoorK7
import Derived.Test.YtamcohjpanjdiaaGreatDoorK8
import Derived.Test.YtamcohjpanjdiaaGreatDoorK10
section
set_option linter.all false
set_option maxRecDepth 20000
set_option maxHeartbeats 60000000
open Go.Proofs.Tryz renaming prog -> tp
open List renaming getElem?_eq_getElem -> lA, nil_append -> lC, getD_eq_getElem?_getD -> lE, length_append -> lF, getElem?_append_left -> lG, perm_append_comm -> lH, mem_cons -> lI, length_map -> lJ, eq_nil_of_length_eq_zero -> lK, map_append -> lM, mem_of_getElem? -> lN, getElem?_map -> lQ, append_nil -> lR, mem_singleton -> lS, mem_append -> lT, getElem?_eq_none -> lU, mem_append_left -> lV, take_length -> lW, getElem?_set -> lX, mem_map -> lY, length_cons -> lZ, replicate -> mB
open List.Mem renaming head -> mC
open Nat renaming le_refl -> mL, zero_le -> mN, zero_add -> mO, lt_or_ge -> mR, le_trans -> mT
open Bool renaming and_eq_true -> mX
open Int renaming toNat_natCast -> mZ
namespace Go.Vel
open Go Go.Conc Go.Proofs
instance:EqG tp 49:={}
instance:EqG tp 94:={}
instance:FlatF tp 49 [(3,0),(3,1),(3,2)]:={}
instance:FlatF tp 94 [(3,0),(3,1),(3,2),(3,3),(4,4)]:={}
instance:Und tp 4 .bool:={}
end Go.Vel
namespace Go.Vel
open Go Go.Conc
theorem xi (b:RBk) (all:List (List Int)) (l:List Int):sqOk b all l=true↔∀ s∈all,(hangM b l s).isSome=true:=by
 unfold sqOk squaresM waysM
 have key:(all.filterMap (hangM b l)).length<all.length↔¬ ∀ s∈all,(hangM b l s).isSome=true:=by
  induction all with
  | nil=>simp
  | cons s r ih =>
   have hle:(r.filterMap (hangM b l)).length<=r.length:=List.length_filterMap_le _ _
   cases hs:hangM b l s with
   | none =>
    rw [List.filterMap_cons_none hs]
    simp [hs]
    omega
   | some z =>
    rw [List.filterMap_cons_some hs,lZ,lZ,Nat.succ_lt_succ_iff,ih]
    simp [hs]
 by_cases h:(all.filterMap (hangM b l)).length<all.length
 ·rw [if_pos h]
  simp only [Option.isSome_none,Bool.false_eq_true,false_iff]
  exact key.1 h
 ·rw [if_neg h]
  simp only [Option.isSome_some,true_iff]
  exact Classical.not_not.1 fun hh=>h (key.2 hh)
theorem jaj {b:RBk} {all:List (List Int)} {r:Int} {c:Nat} {bt:List Int×Int->List Int×Int->Bool} (h:PlanA (atRound b r) all bt c):canAt b all r=true:=zgS h.1 h.2.1 h.2.2.1
theorem qK {b:RBk} {all:List (List Int)} {r:Int} (h:NoPlan (atRound b r) all):canAt b all r=false:=zgR h
end Go.Vel
namespace Go.Vel
open Go Go.Conc Go.Proofs
instance:Cal tp 19:={}
instance:Cal tp 44:={}
instance:Cal tp 49:={}
end Go.Vel
namespace Go.Vel
open Go Go.Conc
theorem qO:∀ i,zw 0 i=[]
 | 0=>rfl
 | i+1=>by unfold zw; rw [qO i,Nat.zero_div]; rfl
theorem x9 (c m:Nat):∀ i,i<=m->zw (c % 2 ^ m) i=zw c i
 | 0,_=>rfl
 | i+1,h=>by
  unfold zw
  rw [x9 c m i oQ]
  have h1:=Nat.testBit_mod_two_pow c m i
  rw [Nat.testBit_eq_decide_div_mod_eq,Nat.testBit_eq_decide_div_mod_eq,decide_eq_true (show i<m by omega),Bool.true_and] at h1
  have h2:(c % 2 ^ m / 2 ^ i % 2=1)=(c / 2 ^ i % 2=1):=propext (by simpa using h1)
  simp only [h2]
def otherM (c n:Nat):List Int:=if zw c n=[] then [((c % n:Nat):Int)] else zw c n
theorem xx {b:RBk} {all:List (List Int)} {c:Nat} {bt:List Int×Int->List Int×Int->Bool} (h:PlanA b all bt c) (hn:NoPlan b all):False:=by
 have:=hn c h.1 h.2.1
 rw [h.2.2.1] at this
 cases this
end Go.Vel
namespace Go.Vel
open Go Go.Conc Go.Proofs
section
variable {P:Program} {gm:Nat->Option Nat} {V:KV} {env:List AV} {o:Oper}
end
theorem jaC {x y:Int} {r t:List Int} (h:¬ x=y):decide (lexM (x::r) (y::t)<0)=decide (x<y):=by
 refine decide_eq_decide.2 ?_
 simp only [lexM]
 by_cases h1:x<y
 ·rw [if_pos h1]; simp [h1]
 ·rw [if_neg h1,if_pos oQ]; simp [h1]
theorem qE {xs ys:List Int} {i:Nat} (hi:i<=xs.length) (hi2:i<=ys.length) (h:xs.length<=i\/ys.length<=i):decide (lexM (xs.drop i) (ys.drop i)<0)=decide ((xs.length:Int)<ys.length):=by
 refine decide_eq_decide.2 ?_
 rcases mR i xs.length with h1 | h1
 ·have h2:ys.length<=i:=by omega
  rw [zH (z5 h1),List.drop_eq_nil_of_le h2]
  simp only [lexM]
  omega
 ·rw [List.drop_eq_nil_of_le h1]
  rcases mR i ys.length with h2 | h2
  ·rw [zH (z5 h2)]
   simp only [lexM]
   omega
  ·rw [List.drop_eq_nil_of_le h2]
   simp only [lexM]
   omega
instance:Cal tp 62:={}
instance:Cal tp 75:={}
theorem qo {main T} (hT:zo tp main T) {gm} {j j2:Nat} {xs ys:List Int} {e1 e2:TypeId} (hl:xs.length<=1000) (hl2:ys.length<=1000) :
  zA tp T gm 75 [.sl j 0 xs.length,.sl j2 0 ys.length] [(j,.cells (xs.map intA) e1 false),(j2,.cells (ys.map intA) e2 false)] (fun r K'=>r=zP (decide (lexM xs ys<0))/\K'=[(j,.cells (xs.map intA) e1 false),(j2,.cells (ys.map intA) e2 false)]):=by
 refine zp 41 hT Tryz.func75 fun Y hret=>?_
 refine au [4,5,2,3,4,4,5,2,3,13] ?_
 refine TK.maskL [0,1,5] ?_
 refine TK.loopN (fun n env K=>∃ (i:Nat),n=xs.length - i/\i<=xs.length/\i<=ys.length/\lexM (xs.drop i) (ys.drop i)=lexM xs ys/\env=.sl j 0 xs.length::.sl j2 0 ys.length::naL 3 (intA i::naL 35 [])/\K=[(j,.cells (xs.map intA) e1 false),(j2,.cells (ys.map intA) e2 false)]) xs.length ⟨0,rfl,mN _,mN _,rfl,rfl,rfl⟩ fun n env K hI hnext=>?_
 obtain ⟨i,rfl,hi,hi2,hinv,rfl,rfl⟩:=hI
 refine TK.na nQ ?_
 refine au [4,4,5,1,1,28,6,1] ?_
 refine TK.sp 10 (fun g2_5=>?_) (fun g2_5=>?_)
 ·have hil:i<xs.length:=by have:=of_decide_eq_true g2_5; omega
  refine au [1,1,28,6,26,3,20] ?_
  refine ⟨fun hc0=>?_,fun hc0=>?_⟩
  ·have hjl:i<ys.length:=by have:=of_decide_eq_true hc0; omega
   refine au [12,4,13,4] ?_
   refine TK.draw [0,1,2,3,4,5,6,7,8] [0,1,2,3,4,5,6,7,8] (by kernel_rfl) (by kernel_rfl) ?_
   refine TD.z [0] Z (zh Z Z) ?_
   refine TD.z [5] Z (zh Z Z) ?_
   refine TD.z [18,19] Z (zQ Z Z Z zF.h oQ oQ) ?_
   refine TD.y [20] Z (hq:=zm Z Z zi.h (mC _) (yh (i:=i) (z5 hil) Z)) (h:=?_)
   refine TD.z [1] Z (zh Z Z) ?_
   refine TD.z [5] Z (zh Z Z) ?_
   refine TD.z [22,23] Z (zQ Z Z Z zF.h oQ oQ) ?_
   refine TD.y [24] Z (hq:=zm Z Z zi.h (mC _) (yh (i:=i) (z5 hjl) Z)) (h:=?_)
   refine TD.z [21,25] Z (q_cmp Z Z Z Z) ?_
   refine TD.fin ?_
   refine au [20] ?_
   refine ⟨fun hc1=>?_,fun hc1=>?_⟩
   ·refine au [4] ?_
    refine TK.draw [0,1,2,3,4,5,6,7,8,9] [0,1,2,3,4,5,6,7,8,9] (by kernel_rfl) (by kernel_rfl) ?_
    refine TD.z [0] Z (zh Z Z) ?_
    refine TD.z [5] Z (zh Z Z) ?_
    refine TD.z [27,28] Z (zQ Z Z Z zF.h oQ oQ) ?_
    refine TD.y [29] Z (hq:=zm Z Z zi.h (mC _) (yh (i:=i) (z5 hil) Z)) (h:=?_)
    refine TD.z [1] Z (zh Z Z) ?_
    refine TD.z [5] Z (zh Z Z) ?_
    refine TD.z [31,32] Z (zQ Z Z Z zF.h oQ oQ) ?_
    refine TD.y [33] Z (hq:=zm Z Z zi.h (mC _) (yh (i:=i) (z5 hjl) Z)) (h:=?_)
    refine TD.z [30,34] Z (q_cmp Z Z Z Z) ?_
    refine TD.as (pend':=[]) [35] Z Z (zD Z Z) ?_
    refine TD.fin ?_
    refine au [] ?_
    refine TK.rt hret [(j,_),(j2,_)] ?_
    exact ⟨by rw [<- hinv,zH (z5 hil),zH (z5 hjl),jaC (by simpa using hc1)] <;> rfl,rfl⟩
   refine au [12,14,5,1,23,2,3] ?_
   refine TK.maskL [0,1,5] ?_
   exact hnext _ _ _ oQ ⟨i+1,rfl,by omega,by omega,by rw [<- hinv,zH (z5 hil),zH (z5 hjl)]; simp only [lexM]; simp at hc1; rw [if_neg oQ,if_neg oQ],rfl,rfl⟩
  have hjl:=of_decide_eq_false hc0
  refine au [16,4,5,1,28,1,28,6,2,3] ?_
  refine TK.rt hret [(j,_),(j2,_)] ?_
  exact ⟨by rw [<- hinv,qE hi hi2 (.inr oQ)] <;> rfl,rfl⟩
 have hil:=of_decide_eq_false g2_5
 refine au [11,11,11,11,25,3,19,16,4,5,1,28,1,28,6,2,3] ?_
 refine TK.rt hret [(j,_),(j2,_)] ?_
 exact ⟨by rw [<- hinv,qE hi hi2 (.inl oQ)] <;> rfl,rfl⟩
theorem qv {main T} (hT:zo tp main T) {gm} {j j2:Nat} {xs ys:List Int} {e1 e2:TypeId} (hl:xs.length<=1000) (hl2:ys.length<=1000) :
  zA tp T gm 65 [.sl j 0 xs.length,.sl j2 0 ys.length] [(j,.cells (xs.map intA) e1 false),(j2,.cells (ys.map intA) e2 false)] (fun r K'=>r=zP (smallerM xs ys)/\K'=[(j,.cells (xs.map intA) e1 false),(j2,.cells (ys.map intA) e2 false)]):=by
 refine zp 22 hT Tryz.func65 fun Y hret=>?_
 refine au [4,5,2,3,4,5,1,28,1,28,6,1] ?_
 refine TK.sp 10 (fun g1_6=>?_) (fun g1_6=>?_)
 ·refine au [11,11,11,11,11,11,11,11,11,11,26,2,3] ?_
  refine TK.rt hret [(j,_),(j2,_)] ?_
  exact ⟨by simp at g1_6; simp [smallerM,g1_6],rfl⟩
 refine au [1,28,1,28,6,1] ?_
 refine TK.sp 16 (fun g1_12=>?_) (fun g1_12=>?_)
 ·refine au [1,1] ?_
  refine TK.cl Z Z Z Z (qo hT hl hl2) ?_
  rintro r1 K2 ⟨rfl,rfl⟩
  refine au [26,25,2,3] ?_
  refine TK.rt hret [(j,_),(j2,_)] ?_
  exact ⟨by simp at g1_6 g1_12; unfold smallerM; rw [decide_eq_false (show ¬ xs.length<ys.length by omega),decide_eq_true (show xs.length=ys.length by omega)]; rfl,rfl⟩
 refine au [11,11,11,25,25,2,3] ?_
 refine TK.rt hret [(j,_),(j2,_)] ?_
 exact ⟨by simp at g1_6 g1_12; unfold smallerM; rw [decide_eq_false (show ¬ xs.length<ys.length by omega),decide_eq_false (show ¬ xs.length=ys.length by omega)]; rfl,rfl⟩
theorem or3n {x:Int} {A B C D:Prop} (h:(x≠0/\A)\/(x=0/\D/\B)\/(x=0/\¬ D/\C)) (hx:x=0) (hd:D):B:=by
 rcases h with ⟨h,_⟩ | ⟨_,_,h⟩ | ⟨_,h,_⟩
 ·exact absurd hx h
 ·exact h
 ·exact absurd hd h
section
variable {main:Bool} {T:Goroutine->Hp->Prop} {b:RBk} {s h e j:Nat} {l:List Int} {et:TypeId}
end
instance:Cal tp 50:={}
instance:Cal tp 65:={}
instance:Cal tp 76:={}
end Go.Vel
namespace Go.Vel
open Go Go.Conc
def sumF (f:Nat->Int):Nat->Int
 | 0=>0
 | k+1=>sumF f k+f k
theorem jC {f g:Nat->Int}:∀ n,(∀ i,i<n->f i=g i)->sumF f n=sumF g n
 | 0,_=>rfl
 | n+1,h=>by
  unfold sumF
  rw [jC n (fun i hi=>h i oQ),h n oQ]
theorem xk {f g:Nat->Int} {k:Nat}:∀ n,k<n->(∀ i,i≠k->g i=f i)->sumF g n=sumF f n - f k+g k
 | 0,h,_=>by omega
 | n+1,h,he=>by
  unfold sumF
  by_cases e:k=n
  ·subst e
   rw [jC k (fun i hi=>he i oQ)]
   omega
  ·rw [xk n oQ he,he n (fun h=>e h.symm)]
   omega
theorem jN {f:Nat->Int} {n:Nat} (h:∀ i,n<=i->f i=0):∀ k,sumF f (n+k)=sumF f n
 | 0=>rfl
 | k+1=>by
  show sumF f (n+k)+f (n+k)=_
  rw [jN h k,h _ oQ,Int.add_zero]
theorem xj (f g:Nat->Int):∀ n,sumF (fun i=>f i+g i) n=sumF f n+sumF g n
 | 0=>rfl
 | n+1=>by
  show sumF (fun i=>f i+g i) n+(f n+g n)=sumF f n+f n+(sumF g n+g n)
  rw [xj f g n]
  omega
theorem xW {lt:Int->Int->Bool} {x:Int} {S:List Int}:∀ j,j<=S.length->(insJ lt x S j).Perm (x::S)
 | 0,_=>List.Perm.refl _
 | j+1,h=>by
  unfold insJ
  rw [lA oQ]
  dsimp only
  split
  ·exact xW j oQ
  ·have h1:=List.perm_middle (a:=x) (l₁:=S.take (j+1)) (l₂:=S.drop (j+1))
   rwa [List.take_append_drop] at h1
theorem jP {lt:Int->Int->Bool} {l:List Int}:∀ i,i<=l.length->(sortN lt l i).Perm (l.take i)
 | 0,_=>by rw [List.take_zero]; exact List.Perm.refl _
 | i+1,h=>by
  have hg:l[i]? =some l[i]:=lA oQ
  rw [wA hg,yP hg]
  exact (xW _ (mL _)).trans ((List.Perm.cons _ (jP i oQ)).trans (List.perm_append_singleton _ _).symm)
theorem xr (b:RBk) (l:List Int):(ordM b l).Nodup:=by
 unfold ordM sortR
 refine (jP _ (mL _)).nodup_iff.2 ?_
 rw [lW]
 unfold idxM
 exact List.Pairwise.map _ (fun a b hab=>by intro h; exact hab oQ) List.nodup_range
theorem jK {L:List Int} {k i:Nat} {v:Int} (h:k<L.length):(L.set k v).getD i 0=if i=k then v else L.getD i 0:=by
 rw [lE,lX,lE]
 by_cases e:k=i
 ·rw [if_pos e,if_pos h,if_pos e.symm]; rfl
 ·rw [if_neg e,if_neg (fun hh=>e hh.symm)]
theorem xS {b:RBk} {l:List Int}:∀ (o:List Int) (z:Alloc),o.Nodup->(∀ k∈o,0<=k/\k<l.length)->(∀ k∈o,z.steps.getD k.toNat 0=0)->z.steps.length=l.length->0<=z.left->(∀ k∈o,0<=(cutS b l k.toNat).most)->(∀ i,0<=z.steps.getD i 0/\(i<l.length->z.steps.getD i 0<=(cutS b l i).most\/(i:Int)∈o)) ->
  sumF (fun i=>(o.foldl (allocM b l) z).steps.getD i 0) l.length+(o.foldl (allocM b l) z).left=sumF (fun i=>z.steps.getD i 0) l.length+z.left /\
  (o.foldl (allocM b l) z).squares - sumF (fun i=>(o.foldl (allocM b l) z).steps.getD i 0*(cutS b l i).busy) l.length=z.squares - sumF (fun i=>z.steps.getD i 0*(cutS b l i).busy) l.length /\
  0<=(o.foldl (allocM b l) z).left/\∀ i,0<=(o.foldl (allocM b l) z).steps.getD i 0/\(i<l.length->(o.foldl (allocM b l) z).steps.getD i 0<=(cutS b l i).most)
 | [],z,_,_,_,_,hz,_,hm=>⟨rfl,rfl,hz,fun i=>⟨(hm i).1,fun hi=>by
  rcases (hm i).2 hi with h | h
  ·exact h
  ·cases h⟩⟩
 | k::o,z,hn,ho,h0,hlen,hz,hmo,hm=>by
  obtain ⟨n1,n2⟩:=List.nodup_cons.1 hn
  have hk:=ho k sQ
  have hkl:k.toNat<z.steps.length:=by omega
  have hk0:=h0 k sQ
  have hmk:=hmo k sQ
  rw [List.foldl_cons]
  obtain ⟨v,hv⟩:∃ v,v=min z.left (cutS b l k.toNat).most:=⟨_,rfl⟩
  have hz':allocM b l z k=⟨z.steps.set k.toNat v,z.squares+v*(cutS b l k.toNat).busy,z.left - v⟩:=by rw [hv]; rfl
  have hs:∀ i,(z.steps.set k.toNat v).getD i 0=if i=k.toNat then v else z.steps.getD i 0:=fun i=>jK hkl
  obtain ⟨r1,r2,r3,r4⟩:=xS o (allocM b l z k) n2 (fun x hx=>ho x (by simp [hx])) (fun x hx=>by
   rw [hz']
   show (z.steps.set k.toNat v).getD x.toNat 0=0
   have hx0:=ho x (by simp [hx])
   have hne:x≠k:=fun e=>n1 (e ▸ hx)
   rw [hs,if_neg oQ]
   exact h0 x (by simp [hx])) (by rw [hz']; show (z.steps.set k.toNat v).length=_; rw [List.length_set]; exact hlen) (by rw [hz']; show 0<=z.left - v; omega) (fun x hx=>hmo x (by simp [hx])) (fun i=>by
   rw [hz']
   show 0<=(z.steps.set k.toNat v).getD i 0/\(i<l.length->(z.steps.set k.toNat v).getD i 0<=_\/_)
   rw [hs]
   by_cases e:i=k.toNat
   ·rw [if_pos e]
    exact ⟨by omega,fun _=>.inl (by rw [e]; omega)⟩
   ·rw [if_neg e]
    refine ⟨(hm i).1,fun hi=>?_⟩
    rcases (hm i).2 hi with h | h
    ·exact .inl h
    ·rcases lI.1 h with h | h
     ·omega
     ·exact .inr h)
  have e1:sumF (fun i=>(allocM b l z k).steps.getD i 0) l.length=sumF (fun i=>z.steps.getD i 0) l.length+v:=by
   rw [hz']
   rw [xk (f:=fun i=>z.steps.getD i 0) (k:=k.toNat) l.length oQ (fun i hi=>by show (z.steps.set k.toNat v).getD i 0=_; rw [hs,if_neg hi])]
   show _ - z.steps.getD k.toNat 0+(z.steps.set k.toNat v).getD k.toNat 0=_
   rw [hs,if_pos rfl,hk0]
   omega
  have e2:sumF (fun i=>(allocM b l z k).steps.getD i 0*(cutS b l i).busy) l.length=sumF (fun i=>z.steps.getD i 0*(cutS b l i).busy) l.length+v*(cutS b l k.toNat).busy:=by
   rw [hz']
   rw [xk (f:=fun i=>z.steps.getD i 0*(cutS b l i).busy) (k:=k.toNat) l.length oQ (fun i hi=>by show (z.steps.set k.toNat v).getD i 0*_=_; rw [hs,if_neg hi])]
   show _ - z.steps.getD k.toNat 0*_+(z.steps.set k.toNat v).getD k.toNat 0*_=_
   rw [hs,if_pos rfl,hk0,Int.zero_mul]
   omega
  rw [e1] at r1
  rw [e2] at r2
  rw [hz'] at r1 r2 r3 r4 ⊢
  dsimp only at r1 r2
  refine ⟨by omega,by omega,r3,r4⟩
theorem xZ (b:RBk) (l:List Int):∀ k,spoilM b l k=sumF (fun i=>(cutS b l i).spoil) k
 | 0=>rfl
 | k+1=>by
  show spoilM b l k+_=sumF _ k+_
  rw [xZ b l k]
def needM (b:RBk) (l w:List Int) (k:Nat):Int:=sumF (fun i=>(cutS b l i).spoil+w.getD i 0*(cutS b l i).busy) k
theorem qS {b:RBk} (hb:ROk b) {s:List Int} (hs:StOk b s):freshM b s=b.round - b.steps+sumF (fun i=>s.getD i 0) b.seams.length:=by
 have hl:=hb.sms.len
 have h5:sumF (fun i=>s.getD i 0) 5=sumF (fun i=>s.getD i 0) b.seams.length:=by
  have:=jN (f:=fun i=>s.getD i 0) (n:=b.seams.length) (fun i hi=>by
   show s.getD i 0=0
   rw [lE,lU (by rw [hs.len]; exact hi)]
   rfl) (5 - b.seams.length)
  rwa [show b.seams.length+(5 - b.seams.length)=5 by omega] at this
 rw [<- h5]
 show freshM b s=b.round - b.steps+(0+s.getD 0 0+s.getD 1 0+s.getD 2 0+s.getD 3 0+s.getD 4 0)
 unfold freshM
 omega
theorem xC {b:RBk} (hb:ROk b) {l s w:List Int} {q:Int} (hl:CutsOk b l) (hs:StOk b s) (h:hangM b l s=some (w,q)):fitsM b l=true/\w.length=l.length/\sumF (fun i=>w.getD i 0) l.length=freshM b s/\q=needM b l w l.length/\∀ i,0<=w.getD i 0/\(i<l.length->w.getD i 0<=(cutS b l i).most):=by
 obtain ⟨hwl,_⟩:=zhT hb hl hs h
 unfold hangM at h
 split at h
 ·cases h
 ·rename_i hf
  dsimp only at h
  split at h
  ·cases h
  ·rename_i hle
   have hr:∀ i,(alloc0 b l (freshM b s)).steps.getD i 0=0:=fun i=>by
    show (mB l.length (0:Int)).getD i 0=0
    rw [lE,List.getElem?_replicate]
    split <;> rfl
   obtain ⟨r1,r2,r3,r4⟩:=xS (b:=b) (l:=l) (ordM b l) (alloc0 b l (freshM b s)) (xr b l) (fun k hk=>zdO hk) (fun k _=>hr _) (by show (mB l.length (0:Int)).length=_; rw [List.length_replicate]) (zcl hb hs).1 (fun k hk=>by
    have:=zdO hk
    exact (hb.sms.fld _ (hl.lt (k:=k.toNat) oQ).2.2).2.2.1) (fun i=>by
    rw [hr]
    refine ⟨Int.le_refl _,fun hi=>.inl ?_⟩
    exact (hb.sms.fld _ (hl.lt hi).2.2).2.2.1)
   have z1:sumF (fun i=>(alloc0 b l (freshM b s)).steps.getD i 0) l.length=0:=by
    rw [jC (g:=fun _=>0) l.length (fun i _=>hr i)]
    have:=jN (f:=fun _=>0) (n:=0) (fun _ _=>rfl) l.length
    rwa [mO] at this
   have z2:sumF (fun i=>(alloc0 b l (freshM b s)).steps.getD i 0*(cutS b l i).busy) l.length=0:=by
    rw [jC (g:=fun _=>0) l.length (fun i _=>by rw [hr i,Int.zero_mul])]
    have:=jN (f:=fun _=>0) (n:=0) (fun _ _=>rfl) l.length
    rwa [mO] at this
   rw [z1] at r1
   rw [z2] at r2
   have q1:(alloc0 b l (freshM b s)).left=freshM b s:=rfl
   have q2:(alloc0 b l (freshM b s)).squares=spoilM b l l.length:=rfl
   cases h
   refine ⟨by simpa using hf,hwl,?_,?_,r4⟩
   ·unfold allocA at hle ⊢
    omega
   ·unfold needM
    rw [xj,<- xZ]
    unfold allocA
    omega
def manyM (b:RBk) (l:List Int) (i:Nat):Int:=if i+1<l.length then zN l (i+1) - zN l i else zN l 0 - zN l i+b.seams.length
theorem xR {b:RBk} {l:List Int} (hl:CutsOk b l) {i:Nat} (hi:i<l.length):1<=manyM b l i/\manyM b l i<=b.seams.length:=by
 have h1:=hl.lt hi
 have h0:=hl.lt hl.pos
 unfold manyM
 split
 ·rename_i h
  have h2:=hl.lt h
  have hlt:=zhN hl h
  omega
 ·have:zN l 0<=zN l i:=by
   by_cases e:i=0
   ·subst e; omega
   ·have e1:=z5 hl.pos
    have e2:=z5 hi
    have:=List.pairwise_iff_getElem.1 hl.asc 0 i hl.pos hi oQ
    rw [lA hl.pos] at e1
    rw [lA hi] at e2
    rw [Option.some.inj e1,Option.some.inj e2] at this
    omega
  omega
def nowS (b:RBk) (s:List Int) (x:Nat):Int:=sumF (nowM b s) x
theorem ql (b:RBk) (s:List Int) (c:Nat):∀ k,c+k<=b.seams.length->togM b s c k=nowS b s (c+k) - nowS b s c
 | 0,_=>by show (0:Int)=_; rw [Nat.add_zero]; omega
 | k+1,h=>by
  unfold togM
  rw [ql b s c k oQ,Nat.mod_eq_of_lt oQ]
  show _=nowS b s (c+k)+nowM b s (c+k) - _
  omega
theorem xP (b:RBk) (s:List Int) {c:Nat} (hc:c<=b.seams.length):∀ r,r<=b.seams.length->togM b s c (b.seams.length - c+r)=nowS b s b.seams.length - nowS b s c+nowS b s r
 | 0,_=>by
  rw [Nat.add_zero,ql b s c _ oQ,show c+(b.seams.length - c)=b.seams.length by omega]
  show _=_+(0:Int)
  omega
 | r+1,h=>by
  rw [<- Nat.add_assoc]
  unfold togM
  rw [xP b s hc r oQ,show c+(b.seams.length - c+r)=b.seams.length+r by omega,Nat.add_mod_left,Nat.mod_eq_of_lt oQ]
  show _=_+(nowS b s r+nowM b s r)
  omega
theorem jL {b:RBk}:∀ k,k<b.seams.length->sumF (wideM b) k=(sm b k).step - (sm b 0).step
 | 0,_=>by show (0:Int)=_; omega
 | k+1,h=>by
  show sumF _ k+wideM b k=_
  rw [jL k oQ]
  unfold wideM
  rw [if_pos h]
  omega
theorem jan {b:RBk} (h:0<b.seams.length):sumF (wideM b) b.seams.length=b.steps:=by
 obtain ⟨k,hk⟩:∃ k,b.seams.length=k+1:=⟨b.seams.length - 1,by omega⟩
 rw [hk]
 show sumF _ k+wideM b k=_
 rw [jL k oQ]
 unfold wideM
 rw [if_neg oQ]
 omega
end Go.Vel
namespace Go.Vel
open Go Go.Conc Go.Proofs
def u16A (x:Fin 65536):AV:=.v (.int .u16 (x.1:Int))
def u16O (l:List (Fin 65536)):AObj:=.cells (l.flatMap fun x=>[u16A x]) 212 false
def choM (l:List (Fin 65536)) (i:Nat):Int:=match l[i]? with | some x=>x.1 | none=>0
def chosenM (x:RBand) (n:Int):Int:=x.low+n % (x.high - x.low+1)
def realM (b:RBk) (ps:List (Fin 65536)):Nat->List Int
 | 0=>[]
 | i+1=>realM b ps i++[chosenM (bd b i) (choM ps i)]
instance:Cal tp 139:={}
instance:Cal tp 140:={}
instance:zF tp 91 212 1:={}
instance:zi tp 212 false 1:={}
instance:Und tp 212 (.int .u16):={}
instance:Und tp 91 (.slice 212):={}
theorem qN {main T} (hT:zo tp main T) {gm} {b:RBk} {s h e j c m:Nat} {st:List Int} {et:TypeId} (hb:ROk b) (hs:StOk b st) (hc:c<b.seams.length) (hm:m<=b.seams.length) :
  zA tp T gm 73 [.agg (zE b s h e),intA c,intA m,.sl j 0 st.length] [(s,zk b),(j,.cells (st.map intA) et false)] (fun r K'=>r=intA (togM b st c m)/\K'=[(s,zk b),(j,.cells (st.map intA) et false)]):=by
 refine zp 35 hT Tryz.func73 fun Y hret=>?_
 refine au [] ?_
 have hsl:=hb.sms.len
 have hst:=hs.len
 refine au [4,5,21] ?_
 intro jb hjb
 refine au [2,3,4,5,2,3,4,4,5,2,3,13] ?_
 refine TK.maskL [1,2,3,4,9,10] ?_
 refine TK.kp [(s,_),(j,_),(jb,_)] ?_
 refine TK.loopN (fun n env K=>∃ (i:Nat),n=m - i/\i<=m/\env=.any::intA c::intA m::.sl j 0 st.length::.ptr jb 0::naL 4 (intA (togM b st c i)::intA i::naL 24 [])/\K=[(s,zk b),(j,.cells (st.map intA) et false),(jb,.cells (zE b s h e) 26 true)]) m ⟨0,rfl,mN _,rfl,rfl⟩ fun n env K hI hnext=>?_
 obtain ⟨i,rfl,hi,rfl,rfl⟩:=hI
 refine TK.na nQ ?_
 refine au [4,4,5,1,1,6,3,20] ?_
 refine ⟨fun hc0=>?_,fun hc0=>?_⟩
 ·have hil:i<m:=by simp at hc0; omega
  have hkl:(c+i) % b.seams.length<b.seams.length:=Nat.mod_lt _ oQ
  have htb:=za8 hb hs (c:=c) i
  have hwd:=hb.wide hkl
  have hsb:=hs.bnd _ hkl
  refine au [12,4,13,4,5,1,1,23,7,9,28] ?_
  refine TK.a Z (q_rem Z Z Z oQ oQ) ?_
  refine au [2,3] ?_
  rw [show ((c:Int)+(i:Int)) % (b.seams.length:Int)=(((c+i) % b.seams.length:Nat):Int) by rw [<- Int.natCast_add,<- Int.natCast_emod]]
  have htn:togM b st c i+wideM b ((c+i) % b.seams.length) - zN st ((c+i) % b.seams.length)=togM b st c (i+1):=by show _=togM b st c i+(wideM b _ - st.getD _ 0); unfold zN; omega
  have hsb2:0<=zN st ((c+i) % b.seams.length)/\zN st ((c+i) % b.seams.length)<=5:=⟨hsb.1,hsb.2.1⟩
  refine TK.draw [0,1,2,5,6,7,8,3,4,9,10] [0,1,2,3,4,5,6,7,8,9,10] (by kernel_rfl) (by kernel_rfl) ?_
  refine TD.z [9] Z (zh Z Z) ?_
  refine TD.y [4] Z (hq:=z8 Z Z zi.h (mC _) Z) (h:=?_)
  refine TD.z [11] Z (zh Z Z) ?_
  refine TD.z [3] Z (zh Z Z) ?_
  refine TD.z [11] Z (zh Z Z) ?_
  refine TD.z [29,30] Z (zQ Z Z Z zF.h oQ oQ) ?_
  refine TD.y [31] Z (hq:=zm Z Z zi.h (mC _) (yh (i:=(c+i) % b.seams.length) (z5 oQ) Z)) (h:=?_)
  refine TD.cl (pend':=[⟨8,[31],[(_,_)]⟩,⟨7,[29,30],[]⟩,⟨6,[11],[]⟩,⟨5,[3],[]⟩,⟨0,[9],[]⟩]) [25,26] Z Z Z Z Z (zfx hT (i:=(c+i) % b.seams.length) hb.rnd hb.sms hkl) (fun r1 K2 h3=>⟨?_,?_⟩)
  ·rcases h3 with ⟨rfl,rfl⟩
   all_goals simp
  obtain ⟨rfl,rfl⟩:=h3
  try simp only [cA]
  refine TD.norm tQ ?_
  refine TD.z [24,27] Z (q_add Z Z Z oQ) ?_
  refine TD.z [28,32] Z (q_sub Z Z Z oQ) ?_
  refine TD.as (pend':=[]) [33] Z Z (zD Z Z) ?_
  refine TD.fin ?_
  refine au [14,5,1,23,2,3] ?_
  refine TK.maskL [1,2,3,4,9,10] ?_
  refine TK.kp [(s,_),(j,_),(jb,_)] ?_
  exact hnext _ _ _ oQ ⟨i+1,rfl,by omega,by rw [htn]; rfl,rfl⟩
 obtain rfl:i=m:=by simp at hc0; omega
 refine au [16,4,5,1,2,3] ?_
 refine TK.rt hret [(s,_),(j,_)] ?_
 exact ⟨rfl,rfl⟩
end Go.Vel
namespace Go.Vel
open Go Go.Conc
def fS (f:Int->Int):List Int->Int
 | []=>0
 | k::o=>f k+fS f o
theorem xU (f:Int->Int):∀ a c,fS f (a++c)=fS f a+fS f c
 | [],c=>by show fS f c=0+fS f c; omega
 | k::a,c=>by show f k+fS f (a++c)=f k+fS f a+fS f c; rw [xU f a c]; omega
theorem jar (f:Int->Int) {a c:List Int} (h:a.Perm c):fS f a=fS f c:=by
 induction h with
 | nil=>rfl
 | cons x _ ih=>show f x+_=f x+_; rw [ih]
 | swap x y l=>show f y+(f x+fS f l)=f x+(f y+fS f l); omega
 | trans _ _ h1 h2=>exact h1.trans h2
theorem qQ (f:Int->Int):∀ n,fS f (idxM n)=sumF (fun i=>f i) n
 | 0=>rfl
 | n+1=>by
  have e:idxM (n+1)=idxM n++[(n:Int)]:=by unfold idxM; rw [List.range_succ,lM]; rfl
  rw [e,xU,qQ f n]
  show _+(f n+0)=_+f n
  omega
theorem xn (f:Int->Int) (b:RBk) (l:List Int):fS f (ordM b l)=sumF (fun i=>f i) l.length:=by
 rw [<- qQ]
 unfold ordM sortR
 refine jar f ?_
 have h:=jP (lt:=busyLt b l) (l:=idxM l.length) (idxM l.length).length (mL _)
 rwa [lW] at h
theorem fS_le {f g:Int->Int}:∀ o:List Int,(∀ k∈o,f k<=g k)->fS f o<=fS g o
 | [],_=>Int.le_refl _
 | k::o,h=>by
  have h1:=h k sQ
  have h2:=fS_le o (fun x hx=>h x (by simp [hx]))
  show f k+_<=g k+_
  omega
theorem fS_nn {f:Int->Int}:∀ o:List Int,(∀ k∈o,0<=f k)->0<=fS f o
 | [],_=>Int.le_refl _
 | k::o,h=>by
  have h1:=h k sQ
  have h2:=fS_nn o (fun x hx=>h x (by simp [hx]))
  show 0<=f k+_
  omega
def gC (m c:Int->Int):List Int->Int->Int
 | [],_=>0
 | k::o,n=>min n (m k)*c k+gC m c o (n - min n (m k))
theorem qD {m c:Int->Int}:∀ o:List Int,(∀ k∈o,0<=m k)->gC m c o 0=0
 | [],_=>rfl
 | k::o,h=>by
  have h1:=h k sQ
  show min 0 (m k)*c k+gC m c o (0 - min 0 (m k))=0
  rw [Int.min_eq_left h1,Int.zero_mul,Int.sub_zero,qD o (fun x hx=>h x (by simp [hx]))]
  rfl
theorem xB {m c:Int->Int} {c0:Int}:∀ (o:List Int) (n d:Int),(∀ k∈o,c0<=c k/\0<=m k)->0<=d->d<=n->n<=fS m o->gC m c o (n - d)+d*c0<=gC m c o n
 | [],n,d,_,h1,h2,h3=>by
  have h3:n<=0:=h3
  have:d=0:=by omega
  subst this
  show (0:Int)+0*c0<=0
  rw [Int.zero_mul]; decide
 | k::o,n,d,h,h1,h2,h3=>by
  have hk:=h k sQ
  have ho:∀ x∈o,c0<=c x/\0<=m x:=fun x hx=>h x (by simp [hx])
  have h3:n<=m k+fS m o:=h3
  have hz:gC m c o 0=0:=qD o (fun x hx=>(ho x hx).2)
  show min (n - d) (m k)*c k+gC m c o (n - d - min (n - d) (m k))+d*c0<=min n (m k)*c k+gC m c o (n - min n (m k))
  by_cases hA:m k<=n - d
  ·rw [Int.min_eq_right hA,Int.min_eq_right oQ]
   have:=xB o (n - m k) d ho h1 oQ oQ
   rw [show n - d - m k=n - m k - d by omega]
   omega
  ·rw [Int.min_eq_left (show n - d<=m k by omega),Int.sub_self,hz]
   by_cases hB:n<=m k
   ·rw [Int.min_eq_left hB,Int.sub_self,hz]
    have e:n*c k=(n - d)*c k+d*c k:=by rw [<- Int.add_mul]; congr 1; omega
    have q:=Int.mul_le_mul_of_nonneg_left hk.1 h1
    omega
   ·rw [Int.min_eq_right oQ]
    have ih:=xB o (n - m k) (n - m k) ho oQ oQ oQ
    rw [Int.sub_self,hz] at ih
    obtain ⟨e,he⟩:∃ e,e=m k - (n - d):=⟨_,rfl⟩
    have e1:m k*c k=(n - d)*c k+e*c k:=by rw [<- Int.add_mul]; congr 1; omega
    have e2:d*c0=e*c0+(n - m k)*c0:=by rw [<- Int.add_mul]; congr 1; omega
    have q:=Int.mul_le_mul_of_nonneg_left hk.1 (show 0<=e by omega)
    omega
theorem qU {m c x:Int->Int}:∀ (o:List Int) (n:Int),o.Pairwise (fun a d=>c a<=c d)->(∀ k∈o,0<=x k/\x k<=m k)->n=fS x o->gC m c o n<=fS (fun k=>x k*c k) o
 | [],n,_,_,_=>Int.le_refl _
 | k::o,n,hp,h,hn=>by
  obtain ⟨p1,p2⟩:=List.pairwise_cons.1 hp
  have hk:=h k sQ
  have ho:∀ y∈o,0<=x y/\x y<=m y:=fun y hy=>h y (by simp [hy])
  have hn:n=x k+fS x o:=hn
  have h0:=fS_nn o (fun y hy=>(ho y hy).1)
  have hcap:=fS_le o (fun y hy=>(ho y hy).2)
  have ih:=qU o (fS x o) p2 ho rfl
  obtain ⟨a,ha⟩:∃ a,a=min n (m k):=⟨_,rfl⟩
  have sh:=xB (m:=m) (c:=c) (c0:=c k) o (fS x o) (a - x k) (fun y hy=>⟨p1 y hy,by have:=ho y hy; omega⟩) oQ oQ hcap
  show min n (m k)*c k+gC m c o (n - min n (m k))<=x k*c k+_
  rw [<- ha,show n - a=fS x o - (a - x k) by omega]
  have e:a*c k=x k*c k+(a - x k)*c k:=by rw [<- Int.add_mul]; congr 1; omega
  omega
theorem xz {lt:Int->Int->Bool} {K:Int->Int} {x:Int} {S:List Int} (hlt:∀ y∈S,lt x y=decide (K x<K y)) (hS:S.Pairwise fun a c=>K a<=K c):∀ j,j<=S.length->(∀ i y,j<=i->S[i]? =some y->K x<K y)->(insJ lt x S j).Pairwise fun a c=>K a<=K c
 | 0,_,h=>by
  refine List.pairwise_cons.2 ⟨fun y hy=>?_,hS⟩
  obtain ⟨i,hi,rfl⟩:=List.getElem_of_mem hy
  have:=h i _ (mN _) (lA hi)
  omega
 | j+1,hj,h=>by
  have hg:S[j]? =some S[j]:=lA oQ
  have hm:S[j]∈S:=List.getElem_mem _
  unfold insJ
  rw [hg]
  dsimp only
  by_cases hl:lt x S[j]=true
  ·rw [if_pos hl]
   rw [hlt _ hm] at hl
   refine xz hlt hS j oQ fun i y hi hy=>?_
   by_cases e:i=j
   ·subst e
    rw [hg] at hy
    cases hy
    exact of_decide_eq_true hl
   ·exact h i y oQ hy
  ·rw [if_neg hl]
   rw [hlt _ hm] at hl
   have hl:¬ K x<K S[j]:=by simpa using hl
   have hS':=hS
   rw [<- List.take_append_drop (j+1) S] at hS'
   obtain ⟨p1,p2,p3⟩:=List.pairwise_append.1 hS'
   have hd:∀ y∈S.drop (j+1),K x<=K y:=fun y hy=>by
    obtain ⟨i,hi,rfl⟩:=List.getElem_of_mem hy
    rw [List.getElem_drop]
    have:=h (j+1+i) _ oQ (lA (by rw [List.length_drop] at hi; omega))
    omega
   have ht:∀ a∈S.take (j+1),K a<=K x:=fun a ha=>by
    have p1':=p1
    rw [yP hg] at ha p1'
    rcases lT.1 ha with ha | ha
    ·have:=(List.pairwise_append.1 p1').2.2 a ha S[j] sQ
     omega
    ·rw [lS.1 ha]; omega
   refine List.pairwise_append.2 ⟨p1,List.pairwise_cons.2 ⟨hd,p2⟩,fun a ha c hc=>?_⟩
   rcases lI.1 hc with rfl | hc
   ·exact ht a ha
   ·exact p3 a ha c hc
theorem jT {lt:Int->Int->Bool} {K:Int->Int} {l:List Int} (hlt:∀ x∈l,∀ y∈l,lt x y=decide (K x<K y)):∀ i,i<=l.length->(sortN lt l i).Pairwise fun a c=>K a<=K c
 | 0,_=>.nil
 | i+1,h=>by
  have hg:l[i]? =some l[i]:=lA oQ
  rw [wA hg]
  refine xz (fun y hy=>hlt _ (List.getElem_mem _) y (uR i oQ y hy)) (jT hlt i oQ) _ (mL _) fun k y hk hy=>?_
  rw [lU hk] at hy
  cases hy
def pw:Nat->Int
 | 0=>10000
 | 1=>1000
 | 2=>100
 | 3=>10
 | _=>1
def wgt (b:RBk) (l:List Int) (k:Int):Int:=(cutS b l k.toNat).busy*1000000+pw k.toNat
theorem jay {b:RBk} {l:List Int} (hl:l.length<=5):(ordM b l).Pairwise fun a c=>wgt b l a<=wgt b l c:=by
 have hs:(ordM b l).Pairwise fun a c=>(cutS b l a.toNat).busy*10 - a<=(cutS b l c.toNat).busy*10 - c:=by
  unfold ordM sortR
  refine jT (K:=fun a=>(cutS b l a.toNat).busy*10 - a) (fun x hx y hy=>?_) _ (mL _)
  have h1:=zbi hx
  have h2:=zbi hy
  unfold busyLt
  rw [Bool.eq_iff_iff]
  simp only [Bool.or_eq_true,mX,decide_eq_true_eq]
  omega
 refine hs.imp_of_mem ?_
 intro a c ha hc h
 have h1:=zdO ha
 have h2:=zdO hc
 unfold wgt
 obtain ⟨i,rfl⟩:=Int.eq_ofNat_of_zero_le h1.1
 obtain ⟨j,rfl⟩:=Int.eq_ofNat_of_zero_le h2.1
 simp only [mZ] at h ⊢
 have hi:i=0\/i=1\/i=2\/i=3\/i=4:=by omega
 have hj:j=0\/j=1\/j=2\/j=3\/j=4:=by omega
 rcases hi with rfl | rfl | rfl | rfl | rfl <;> rcases hj with rfl | rfl | rfl | rfl | rfl <;> simp only [pw] <;> omega
theorem xI {b:RBk} {l:List Int} (C:Nat->Int):∀ (o:List Int) (z:Alloc),o.Nodup->(∀ k∈o,0<=k/\k<l.length)->(∀ k∈o,z.steps.getD k.toNat 0=0)->z.steps.length=l.length ->
  sumF (fun i=>(o.foldl (allocM b l) z).steps.getD i 0*C i) l.length=sumF (fun i=>z.steps.getD i 0*C i) l.length+gC (fun k=>(cutS b l k.toNat).most) (fun k=>C k.toNat) o z.left
 | [],z,_,_,_,_=>by show _=_+(0:Int); rw [Int.add_zero]; rfl
 | k::o,z,hn,ho,h0,hlen=>by
  obtain ⟨n1,n2⟩:=List.nodup_cons.1 hn
  have hk:=ho k sQ
  have hkl:k.toNat<z.steps.length:=by omega
  have hk0:=h0 k sQ
  rw [List.foldl_cons]
  obtain ⟨v,hv⟩:∃ v,v=min z.left (cutS b l k.toNat).most:=⟨_,rfl⟩
  have hz':allocM b l z k=⟨z.steps.set k.toNat v,z.squares+v*(cutS b l k.toNat).busy,z.left - v⟩:=by rw [hv]; rfl
  have hs:∀ i,(z.steps.set k.toNat v).getD i 0=if i=k.toNat then v else z.steps.getD i 0:=fun i=>jK hkl
  have r:=xI (b:=b) (l:=l) C o (allocM b l z k) n2 (fun x hx=>ho x (by simp [hx])) (fun x hx=>by
   rw [hz']
   show (z.steps.set k.toNat v).getD x.toNat 0=0
   have hx0:=ho x (by simp [hx])
   have hne:x≠k:=fun e=>n1 (e ▸ hx)
   rw [hs,if_neg oQ]
   exact h0 x (by simp [hx])) (by rw [hz']; show (z.steps.set k.toNat v).length=_; rw [List.length_set]; exact hlen)
  have e2:sumF (fun i=>(allocM b l z k).steps.getD i 0*C i) l.length=sumF (fun i=>z.steps.getD i 0*C i) l.length+v*C k.toNat:=by
   rw [hz']
   rw [xk (f:=fun i=>z.steps.getD i 0*C i) (k:=k.toNat) l.length oQ (fun i hi=>by show (z.steps.set k.toNat v).getD i 0*_=_; rw [hs,if_neg hi])]
   show _ - z.steps.getD k.toNat 0*_+(z.steps.set k.toNat v).getD k.toNat 0*_=_
   rw [hs,if_pos rfl,hk0,Int.zero_mul]
   omega
  rw [r,e2,hz']
  show _+gC _ _ o (z.left - v)=_+(min z.left (cutS b l k.toNat).most*C k.toNat+gC _ _ o (z.left - min z.left (cutS b l k.toNat).most))
  rw [<- hv]
  omega
theorem xJ {b:RBk} {l:List Int}:∀ (o:List Int) (z:Alloc),(∀ k∈o,0<=(cutS b l k.toNat).most)->0<=z.left->(o.foldl (allocM b l) z).left=max 0 (z.left - fS (fun k=>(cutS b l k.toNat).most) o)
 | [],z,_,h=>by show z.left=max 0 (z.left - 0); omega
 | k::o,z,hm,h=>by
  have hk:=hm k sQ
  rw [List.foldl_cons,xJ o _ (fun x hx=>hm x (by simp [hx])) (by show 0<=z.left - min z.left (cutS b l k.toNat).most; omega)]
  show max 0 (z.left - min z.left (cutS b l k.toNat).most - _)=max 0 (z.left - ((cutS b l k.toNat).most+_))
  have h0:=fS_nn (f:=fun k=>(cutS b l k.toNat).most) o (fun x hx=>hm x (by simp [hx]))
  omega
def mostS (b:RBk) (l:List Int) (k:Nat):Int:=sumF (fun i=>(cutS b l i).most) k
theorem xw {b:RBk} (hb:ROk b) {l:List Int} (hl:CutsOk b l):∀ k∈ordM b l,0<=(cutS b l k.toNat).most:=fun k hk=>by
 have:=zdO hk
 exact (hb.sms.fld _ (hl.lt (k:=k.toNat) oQ).2.2).2.2.1
theorem xf {b:RBk} (hb:ROk b) {l s:List Int} (hl:CutsOk b l) (hs:StOk b s):(hangM b l s).isSome=(fitsM b l&&decide (freshM b s<=mostS b l l.length)):=by
 have hleft:=xJ (b:=b) (l:=l) (ordM b l) (alloc0 b l (freshM b s)) (xw hb hl) (zcl hb hs).1
 rw [xn] at hleft
 simp only [mZ] at hleft
 have e:(alloc0 b l (freshM b s)).left=freshM b s:=rfl
 unfold hangM
 by_cases hf:fitsM b l=false
 ·rw [if_pos hf,hf]; rfl
 ·rw [if_neg hf,show fitsM b l=true by simpa using hf,Bool.true_and]
  dsimp only
  unfold allocA mostS
  by_cases h:0<((ordM b l).foldl (allocM b l) (alloc0 b l (freshM b s))).left
  ·rw [if_pos h,decide_eq_false oQ]; rfl
  ·rw [if_neg h,decide_eq_true oQ]; rfl
theorem qk (f g:Nat->Int) (c:Int):∀ n,sumF (fun i=>f i*c+g i) n=sumF f n*c+sumF g n
 | 0=>by show (0:Int)=0*c+0; rw [Int.zero_mul]; rfl
 | n+1=>by
  show sumF (fun i=>f i*c+g i) n+(f n*c+g n)=(sumF f n+f n)*c+(sumF g n+g n)
  rw [qk f g c n,Int.add_mul]
  omega
def numW (x:List Int) (n:Nat):Int:=sumF (fun i=>x.getD i 0*pw i) n
theorem jau:∀ (n:Nat) (x y:List Int),n<=5->x.length=n->y.length=n->(∀ i,0<=x.getD i 0/\x.getD i 0<=9)->(∀ i,0<=y.getD i 0/\y.getD i 0<=9)->lexM x y<0->numW x n<numW y n
 | 0,[],[],_,_,_,_,_,h=>by simp [lexM] at h
 | 1,[a],[p],_,_,_,hx,hy,h=>by
  simp only [lexM] at h
  show 0+a*10000<0+p*10000
  split at h
  ·omega
  ·split at h <;> omega
 | 2,[a,c],[p,q],_,_,_,hx,hy,h=>by
  have a0:=hx 0; have a1:=hx 1; have b0:=hy 0; have b1:=hy 1
  simp only [List.getD_cons_zero,List.getD_cons_succ] at a0 a1 b0 b1
  simp only [lexM] at h
  show 0+a*10000+c*1000<0+p*10000+q*1000
  repeat' (split at h)
  all_goals omega
 | 3,[a,c,d],[p,q,r],_,_,_,hx,hy,h=>by
  have a0:=hx 0; have a1:=hx 1; have a2:=hx 2; have b0:=hy 0; have b1:=hy 1; have b2:=hy 2
  simp only [List.getD_cons_zero,List.getD_cons_succ] at a0 a1 a2 b0 b1 b2
  simp only [lexM] at h
  show 0+a*10000+c*1000+d*100<0+p*10000+q*1000+r*100
  repeat' (split at h)
  all_goals omega
 | 4,[a,c,d,e],[p,q,r,s],_,_,_,hx,hy,h=>by
  have a0:=hx 0; have a1:=hx 1; have a2:=hx 2; have a3:=hx 3; have b0:=hy 0; have b1:=hy 1; have b2:=hy 2; have b3:=hy 3
  simp only [List.getD_cons_zero,List.getD_cons_succ] at a0 a1 a2 a3 b0 b1 b2 b3
  simp only [lexM] at h
  show 0+a*10000+c*1000+d*100+e*10<0+p*10000+q*1000+r*100+s*10
  repeat' (split at h)
  all_goals omega
 | 5,[a,c,d,e,f],[p,q,r,s,t],_,_,_,hx,hy,h=>by
  have a0:=hx 0; have a1:=hx 1; have a2:=hx 2; have a3:=hx 3; have a4:=hx 4; have b0:=hy 0; have b1:=hy 1; have b2:=hy 2; have b3:=hy 3; have b4:=hy 4
  simp only [List.getD_cons_zero,List.getD_cons_succ] at a0 a1 a2 a3 a4 b0 b1 b2 b3 b4
  simp only [lexM] at h
  show 0+a*10000+c*1000+d*100+e*10+f*1<0+p*10000+q*1000+r*100+s*10+t*1
  repeat' (split at h)
  all_goals omega
 | n+6,_,_,h5,_,_,_,_,_=>by omega
theorem qX {x:List Int} {n:Nat} (h5:n<=5) (hx:∀ i,0<=x.getD i 0/\x.getD i 0<=9):0<=numW x n/\numW x n<100000:=by
 have a0:=hx 0; have a1:=hx 1; have a2:=hx 2; have a3:=hx 3; have a4:=hx 4
 have h:n=0\/n=1\/n=2\/n=3\/n=4\/n=5:=by omega
 rcases h with rfl | rfl | rfl | rfl | rfl | rfl <;> simp only [numW,sumF,pw] <;> omega
theorem xK (b:RBk) (l x:List Int):sumF (fun i=>x.getD i 0*wgt b l i) l.length=sumF (fun i=>x.getD i 0*(cutS b l i).busy) l.length*1000000+numW x l.length:=by
 unfold numW
 rw [<- qk]
 refine jC _ fun i _=>?_
 unfold wgt
 rw [mZ,Int.mul_add,Int.mul_assoc]
theorem cheapest {b:RBk} (hb:ROk b) {l s w:List Int} {q:Int} (hl:CutsOk b l) (hs:StOk b s) (h:hangM b l s=some (w,q)) {x:List Int} (hxl:x.length=l.length) (hx:∀ i,0<=x.getD i 0/\(i<l.length->x.getD i 0<=(cutS b l i).most)) (hsum:sumF (fun i=>x.getD i 0) l.length=freshM b s):needM b l w l.length<=needM b l x l.length/\(needM b l w l.length<needM b l x l.length\/decide (lexM x w<0)=false):=by
 have hn5:l.length<=5:=by have:=hl.len; have:=hb.sms.len; omega
 obtain ⟨hfit,hwl,hws,hq,hwb⟩:=xC hb hl hs h
 have nine:∀ {y:List Int},y.length=l.length->(∀ i,0<=y.getD i 0/\(i<l.length->y.getD i 0<=(cutS b l i).most))->∀ i,0<=y.getD i 0/\y.getD i 0<=9:=fun {y} hyl hy i=>by
  refine ⟨(hy i).1,?_⟩
  by_cases hi:i<l.length
  ·have h1:=(hy i).2 hi
   have h2:=(hb.sms.fld _ (hl.lt hi).2.2).2.2.2.1
   unfold cutS at h1
   omega
  ·rw [lE,lU oQ]
   decide
 have key:sumF (fun i=>w.getD i 0*wgt b l i) l.length<=sumF (fun i=>x.getD i 0*wgt b l i) l.length:=by
  have hr:∀ i,(alloc0 b l (freshM b s)).steps.getD i 0=0:=fun i=>by
   show (mB l.length (0:Int)).getD i 0=0
   rw [lE,List.getElem?_replicate]
   split <;> rfl
  have hc:=xI (b:=b) (l:=l) (fun i=>wgt b l i) (ordM b l) (alloc0 b l (freshM b s)) (xr b l) (fun k hk=>zdO hk) (fun k _=>hr _) (by show (mB l.length (0:Int)).length=_; rw [List.length_replicate])
  have hw:w=((ordM b l).foldl (allocM b l) (alloc0 b l (freshM b s))).steps:=by
   unfold hangM at h
   split at h
   ·cases h
   ·dsimp only at h
    split at h
    ·cases h
    ·cases h; rfl
  have z2:sumF (fun i=>(alloc0 b l (freshM b s)).steps.getD i 0*wgt b l i) l.length=0:=by
   rw [jC (g:=fun _=>0) l.length (fun i _=>by rw [hr i,Int.zero_mul])]
   have:=jN (f:=fun _=>0) (n:=0) (fun _ _=>rfl) l.length
   rwa [mO] at this
  rw [<- hw,z2,Int.zero_add] at hc
  rw [hc]
  have ho:=qU (m:=fun k=>(cutS b l k.toNat).most) (c:=wgt b l) (x:=fun k=>x.getD k.toNat 0) (ordM b l) (freshM b s) (jay hn5) (fun k hk=>by
   have:=zdO hk
   exact ⟨(hx _).1,(hx _).2 oQ⟩) (by rw [xn]; simp only [mZ]; exact hsum.symm)
  rw [xn] at ho
  simp only [mZ] at ho
  refine Int.le_trans (Int.le_of_eq ?_) ho
  show gC _ _ _ (freshM b s)=_
  congr 1
 rw [xK,xK] at key
 have n1:=qX hn5 (nine hwl hwb)
 have n2:=qX hn5 (nine hxl hx)
 unfold needM
 rw [xj,xj]
 refine ⟨by omega,?_⟩
 by_cases hlt:sumF (fun i=>w.getD i 0*(cutS b l i).busy) l.length<sumF (fun i=>x.getD i 0*(cutS b l i).busy) l.length
 ·exact .inl oQ
 ·right
  refine decide_eq_false fun hlex=>?_
  have:=jau l.length x w hn5 hxl hwl (nine hxl hx) (nine hwl hwb) hlex
  omega
theorem qB:∀ (r:List Int) (x:Int),r.foldl min x<=x/\(∀ y∈r,r.foldl min x<=y)/\(r.foldl min x=x\/r.foldl min x∈r)
 | [],x=>⟨Int.le_refl _,fun y hy=>(by cases hy),.inl rfl⟩
 | z::r,x=>by
  obtain ⟨h1,h2,h3⟩:=qB r (min x z)
  rw [List.foldl_cons]
  refine ⟨by omega,fun y hy=>?_,?_⟩
  ·rcases lI.1 hy with rfl | hy
   ·omega
   ·exact h2 y hy
  ·rcases h3 with h3 | h3
   ·rw [h3]
    by_cases e:x<=z
    ·left; omega
    ·right; rw [Int.min_eq_right oQ]; simp
   ·right; simp [h3]
theorem qA:∀ (r:List Int) (x:Int),x<=r.foldl max x/\(∀ y∈r,y<=r.foldl max x)/\(r.foldl max x=x\/r.foldl max x∈r)
 | [],x=>⟨Int.le_refl _,fun y hy=>(by cases hy),.inl rfl⟩
 | z::r,x=>by
  obtain ⟨h1,h2,h3⟩:=qA r (max x z)
  rw [List.foldl_cons]
  refine ⟨by omega,fun y hy=>?_,?_⟩
  ·rcases lI.1 hy with rfl | hy
   ·omega
   ·exact h2 y hy
  ·rcases h3 with h3 | h3
   ·rw [h3]
    by_cases e:z<=x
    ·left; omega
    ·right; rw [Int.max_eq_right oQ]; simp
   ·right; simp [h3]
theorem jab {xs:List Int} (hne:xs≠[]):(∀ y∈xs,(spreadM xs).1<=y/\y<=(spreadM xs).2)/\(spreadM xs).1∈xs/\(spreadM xs).2∈xs:=by
 cases xs with
 | nil=>exact absurd rfl hne
 | cons x r =>
  obtain ⟨a1,a2,a3⟩:=qB r x
  obtain ⟨c1,c2,c3⟩:=qA r x
  show (∀ y∈x::r,r.foldl min x<=y/\y<=r.foldl max x)/\r.foldl min x∈x::r/\r.foldl max x∈x::r
  refine ⟨fun y hy=>?_,?_,?_⟩
  ·rcases lI.1 hy with rfl | hy
   ·exact ⟨a1,c1⟩
   ·exact ⟨a2 y hy,c2 y hy⟩
  ·rcases a3 with h | h
   ·rw [h]; simp
   ·simp [h]
  ·rcases c3 with h | h
   ·rw [h]; simp
   ·simp [h]
theorem sq_in {b:RBk} {all:List (List Int)} {l:List Int} (hne:all≠[]) (h:sqOk b all l=true):(∀ s∈all,∀ w q,hangM b l s=some (w,q)->sqLo b all l<=q/\q<=sqHi b all l)/\(∃ s∈all,∃ w,hangM b l s=some (w,sqLo b all l))/\∃ s∈all,∃ w,hangM b l s=some (w,sqHi b all l):=by
 have hall:=(xi b all l).1 h
 have hlt:¬ (waysM b all l).length<all.length:=fun hh=>by
  unfold sqOk squaresM at h
  rw [if_pos hh] at h
  cases h
 have e:squaresM b all l=some (spreadM ((waysM b all l).map (·.2))):=by unfold squaresM; rw [if_neg hlt]
 have hnn:(waysM b all l).map (·.2)≠[]:=fun hh=>by
  have h1:=congrArg List.length hh
  rw [lJ] at h1
  have h2:0<all.length:=List.length_pos_iff.2 hne
  simp only [List.length_nil] at h1
  omega
 obtain ⟨g1,g2,g3⟩:=jab hnn
 unfold sqLo sqHi
 rw [e]
 show (∀ s∈all,∀ w q,hangM b l s=some (w,q)->(spreadM _).1<=q/\q<=(spreadM _).2)/\(∃ s∈all,∃ w,hangM b l s=some (w,(spreadM _).1))/\∃ s∈all,∃ w,hangM b l s=some (w,(spreadM _).2)
 have back:∀ q,q∈(waysM b all l).map (·.2)->∃ s∈all,∃ w,hangM b l s=some (w,q):=fun q hq=>by
  obtain ⟨⟨w,q'⟩,hz,rfl⟩:=lY.1 hq
  obtain ⟨s,hs,hz⟩:=List.mem_filterMap.1 hz
  exact ⟨s,hs,w,hz⟩
 exact ⟨fun s hs w q hq=>g1 q (lY.2 ⟨(w,q),List.mem_filterMap.2 ⟨s,hs,hq⟩,rfl⟩),back _ g2,back _ g3⟩
theorem jaA {b o:RBk} {all:List (List Int)} {l:List Int} (hne:all≠[]) (hb:sqOk b all l=true) (h:∀ s∈all,∀ w q,hangM b l s=some (w,q)->∃ w' q',hangM o l s=some (w',q')/\q'<=q):sqOk o all l=true/\sqLo o all l<=sqLo b all l/\sqHi o all l<=sqHi b all l:=by
 have hall:=(xi b all l).1 hb
 have ho:sqOk o all l=true:=(xi o all l).2 fun s hs=>by
  obtain ⟨⟨w,q⟩,hz⟩:=Option.isSome_iff_exists.1 (hall s hs)
  obtain ⟨w',q',h1,_⟩:=h s hs w q hz
  rw [h1]; rfl
 obtain ⟨b1,⟨s1,hs1,w1,e1⟩,_⟩:=sq_in hne hb
 obtain ⟨o1,_,s2,hs2,w2,e2⟩:=sq_in hne ho
 refine ⟨ho,?_,?_⟩
 ·obtain ⟨w',q',g1,g2⟩:=h s1 hs1 w1 _ e1
  have:=(o1 s1 hs1 w' q' g1).1
  omega
 ·obtain ⟨⟨w,q⟩,hz⟩:=Option.isSome_iff_exists.1 (hall s2 hs2)
  obtain ⟨w',q',g1,g2⟩:=h s2 hs2 w q hz
  rw [e2] at g1
  cases g1
  have:=(b1 s2 hs2 w q hz).2
  omega
structure Wider (b o:RBk):Prop where
 steps:o.steps=b.steps
 round:o.round=b.round
 roll:b.roll<=o.roll
 rolls:b.rolls<=o.rolls
 len:o.seams.length=b.seams.length
 shr:o.shrinks=b.shrinks
 mes:o.measures=b.measures
 sm:∀ i,i<b.seams.length->(sm o i).step=(sm b i).step/\(sm o i).busy=(sm b i).busy/\(sm o i).spoil=(sm b i).spoil/\(sm o i).whole=(sm b i).whole/\(sm b i).most<=(sm o i).most
theorem Wider.at {b o:RBk} (h:Wider b o) (r:Int):Wider (atRound b r) (atRound o r):=⟨h.steps,rfl,h.roll,h.rolls,h.len,h.shr,h.mes,h.sm⟩
theorem Wider.wide {b o:RBk} (h:Wider b o) {i:Nat} (hi:i<b.seams.length):wideM o i=wideM b i:=by
 unfold wideM
 rw [h.len,h.steps,(h.sm i hi).1,(h.sm 0 oQ).1]
 by_cases e:i+1<b.seams.length
 ·rw [if_pos e,if_pos e,(h.sm _ e).1]
 ·rw [if_neg e,if_neg e]
theorem Wider.tog {b o:RBk} (h:Wider b o) (h0:0<b.seams.length) (s:List Int) (c:Nat):∀ k,togM o s c k=togM b s c k
 | 0=>rfl
 | k+1=>by
  unfold togM nowM
  rw [h.tog h0 s c k,h.len,h.wide (Nat.mod_lt _ h0)]
theorem Wider.from {b o:RBk} (h:Wider b o) (h0:0<b.seams.length):∀ (r:List RBand) (p:List Int),fromM o p r=fromM b p r
 | [],p=>by
  unfold fromM rightM
  rw [h.mes]
  simp only [h.tog h0]
 | x::r,p=>by
  unfold fromM
  congr 1
  funext n
  exact h.from h0 r _
theorem Wider.cuts {b o:RBk} (h:Wider b o) {l:List Int} (hl:CutsOk b l):CutsOk o l:=⟨hl.pos,fun n hn=>by rw [h.len]; exact hl.bnd n hn,hl.asc⟩
theorem Wider.cut {b o:RBk} (h:Wider b o) {l:List Int} (hl:CutsOk b l) {k:Nat} (hk:k<l.length):(cutS o l k).step=(cutS b l k).step/\(cutS o l k).busy=(cutS b l k).busy/\(cutS o l k).spoil=(cutS b l k).spoil/\(cutS o l k).whole=(cutS b l k).whole/\(cutS b l k).most<=(cutS o l k).most:=h.sm _ (hl.lt hk).2.2
theorem Wider.st {b o:RBk} (h:Wider b o) {s:List Int} (hs:StOk b s):StOk o s:=⟨by rw [h.len]; exact hs.len,fun i hi=>by
 rw [h.len] at hi
 rw [h.wide hi]
 exact hs.bnd i hi⟩
theorem Wider.fits {b o:RBk} (h:Wider b o) {l:List Int} (hl:CutsOk b l) (hf:fitsM b l=true):fitsM o l=true:=by
 unfold fitsM at hf ⊢
 rw [mX,decide_eq_true_eq,List.all_eq_true] at hf ⊢
 refine ⟨by have:=h.rolls; omega,fun k hk=>?_⟩
 have h1:=hf.2 k hk
 have hkl:=List.mem_range.1 hk
 rw [mX,decide_eq_true_eq] at h1 ⊢
 rw [(h.cut hl hkl).2.2.2.1]
 refine ⟨h1.1,?_⟩
 have e:(stripM o l k).2=(stripM b l k).2:=by
  unfold stripM endM
  dsimp only
  rw [h.steps,(h.cut hl hkl).1,(h.cut hl hl.pos).1]
  by_cases e:k+1<l.length
  ·rw [if_pos e,if_pos e,(h.cut hl e).1]
  ·rw [if_neg e,if_neg e]
 rw [e]
 have:=h.roll
 omega
theorem Wider.hang {b o:RBk} (h:Wider b o) (hb:ROk b) (ho:ROk o) {l s w:List Int} {q:Int} (hl:CutsOk b l) (hs:StOk b s) (hz:hangM b l s=some (w,q)):∃ w' q',hangM o l s=some (w',q')/\q'<=q:=by
 obtain ⟨hfit,hwl,hsum,hq,hws⟩:=xC hb hl hs hz
 have hfo:=xf hb hl hs
 rw [hz,hfit,Bool.true_and] at hfo
 have hle:freshM b s<=mostS b l l.length:=of_decide_eq_true hfo.symm
 have hfr:freshM o s=freshM b s:=by unfold freshM; rw [h.round,h.steps]
 have hms:∀ n,n<=l.length->mostS b l n<=mostS o l n:=by
  intro n
  induction n with
  | zero=>intro _; exact Int.le_refl _
  | succ n ih =>
   intro hn
   have h1:=ih oQ
   have h2:=(h.cut hl (k:=n) oQ).2.2.2.2
   show mostS b l n+(cutS b l n).most<=mostS o l n+(cutS o l n).most
   omega
 have hfo2:=xf ho (h.cuts hl) (h.st hs)
 have hms:=hms l.length (mL _)
 rw [h.fits hl hfit,Bool.true_and,decide_eq_true (show freshM o s<=mostS o l l.length by omega)] at hfo2
 obtain ⟨⟨w',q'⟩,hz2⟩:=Option.isSome_iff_exists.1 hfo2
 refine ⟨w',q',hz2,?_⟩
 obtain ⟨_,_,_,hq2,_⟩:=xC ho (h.cuts hl) (h.st hs) hz2
 have:=(cheapest ho (h.cuts hl) (h.st hs) hz2 (x:=w) hwl (fun i=>⟨(hws i).1,fun hi=>by have h1:=(hws i).2 hi; have h2:=(h.cut hl hi).2.2.2.2; omega⟩) (by rw [hsum,hfr])).1
 have e:needM o l w l.length=needM b l w l.length:=by
  unfold needM
  refine jC _ fun i hi=>?_
  rw [(h.cut hl hi).2.1,(h.cut hl hi).2.2.1]
 omega
theorem Wider.sq {b o:RBk} (h:Wider b o) (hb:ROk b) (ho:ROk o) {all:List (List Int)} (hne:all≠[]) (hall:okAll b all) {l:List Int} (hl:CutsOk b l) (hs:sqOk b all l=true):sqOk o all l=true/\sqHi o all l<=sqHi b all l:=by
 obtain ⟨h1,_,h3⟩:=jaA (o:=o) hne hs fun s hs w q hz=>h.hang hb ho hl (hall s hs) hz
 exact ⟨h1,h3⟩
theorem Wider.canAt {b o:RBk} (h:Wider b o) (hb:ROk b) (ho:ROk o) {all:List (List Int)} (hne:all≠[]) (hall:okAll b all) {r:Int} (h1:b.steps<=r) (h2:r<=40) (hc:canAt b all r=true):canAt o all r=true:=by
 unfold Go.Vel.canAt at hc ⊢
 rw [List.any_eq_true] at hc ⊢
 obtain ⟨c,c1,c2⟩:=hc
 rw [mX,decide_eq_true_eq] at c2
 have hcl:=List.mem_range.1 c1
 have hbr:=zb9 hb (r:=r) h1 h2
 have hor:=zb9 ho (r:=r) (by rw [h.steps]; exact h1) h2
 refine ⟨c,by rw [h.len]; exact c1,?_⟩
 rw [mX,decide_eq_true_eq,h.len]
 exact ⟨c2.1,((h.at r).sq hbr hor hne (zgN hall r) (zeD hbr c2.1 hcl) c2.2).1⟩
def preS (b:RBk):Nat->List (List Int)
 | 0=>[[]]
 | i+1=>(preS b i).flatMap fun p=>(numsM (bd b i)).map fun n=>p++[n]
def extL:List (List Int)->List RBand->List (List Int)
 | L,[]=>L
 | L,x::r=>extL (L.flatMap fun p=>(numsM x).map fun n=>p++[n]) r
theorem xT:∀ (r:List RBand) (L:List (List Int)) (x:RBand),extL L (r++[x])=(extL L r).flatMap fun p=>(numsM x).map fun n=>p++[n]
 | [],L,x=>rfl
 | y::r,L,x=>xT r _ x
theorem qb (b:RBk):∀ (r:List RBand) (L:List (List Int)),(L.flatMap fun p=>fromM b p r)=(extL L r).filter (rightM b)
 | [],L=>by
  unfold extL
  induction L with
  | nil=>rfl
  | cons p L ih =>
   rw [List.flatMap_cons,ih]
   unfold fromM
   by_cases h:rightM b p=true
   ·rw [if_pos h,List.filter_cons_of_pos h]; rfl
   ·rw [if_neg h,List.filter_cons_of_neg h]; rfl
 | x::r,L=>by
  have key:∀ p,fromM b p (x::r)=(numsM x).flatMap fun n=>fromM b (p++[n]) r:=fun p=>by
   conv=>lhs; unfold fromM
  unfold extL
  rw [<- qb b r]
  induction L with
  | nil=>rfl
  | cons p L ih=>rw [List.flatMap_cons,ih,List.flatMap_cons,List.flatMap_append,List.flatMap_map,key]
theorem qe (b:RBk):∀ i,i<=b.shrinks.length->preS b i=extL [[]] (b.shrinks.take i)
 | 0,_=>by rw [List.take_zero]; rfl
 | i+1,h=>by
  rw [yP (ko (b:=b) (i:=i) oQ),xT,<- qe b i oQ]
  rfl
theorem qL (b:RBk):(preS b b.shrinks.length).filter (rightM b)=zf b:=by
 rw [qe b _ (mL _),lW,<- qb]
 rw [List.flatMap_cons,List.flatMap_nil,lR]
 rfl
theorem xF {b:RBk} (hb:ROk b):∀ i,i<=b.shrinks.length->∀ p∈preS b i,p.length=i/\PreB b p
 | 0,_,p,hp=>by rw [lS.1 hp]; exact ⟨rfl,zdR b⟩
 | i+1,h,p,hp=>by
  obtain ⟨q,hq,hp⟩:=List.mem_flatMap.1 hp
  obtain ⟨n,hn,rfl⟩:=lY.1 hp
  obtain ⟨h1,h2⟩:=xF hb i oQ q hq
  have hbd:=hb.cls.bnd i (by have:=hb.cls.len; omega)
  rw [zgb hbd.2.1] at hn
  exact ⟨by rw [lF,h1]; rfl,zcS h2 oQ (by rw [h1]; exact hn.1) (by rw [h1]; exact hn.2)⟩
theorem xp:∀ (k:Nat) (n:Int),(numsF n k).length=k
 | 0,_=>rfl
 | k+1,n=>by unfold numsF; rw [lZ,xp k]
theorem jR {f:List Int->List (List Int)} (hf:∀ p,(f p).length<=3):∀ L:List (List Int),(L.flatMap f).length<=L.length*3
 | []=>mN _
 | p::L=>by
  rw [List.flatMap_cons,lF,lZ]
  have h1:=hf p
  have h2:=jR hf L
  omega
theorem qf {b:RBk} (hb:ROk b):∀ i,i<=b.shrinks.length->(preS b i).length<=3 ^ i
 | 0,_=>mL _
 | i+1,h=>by
  have h1:=qf hb i oQ
  have hbd:=hb.cls.bnd i (by have:=hb.cls.len; omega)
  have h2:=jR (f:=fun p=>(numsM (bd b i)).map fun n=>p++[n]) (fun p=>by
   rw [lJ]
   unfold numsM
   rw [xp]
   omega) (preS b i)
  rw [Nat.pow_succ]
  show ((preS b i).flatMap _).length<=_
  omega
end Go.Vel
namespace Go.Vel
open Go Go.Conc Go.Proofs
section
variable {P:Program} {gm:Nat->Option Nat} {T:Goroutine->Hp->Prop} {Y:KX P gm T} {ds:List Nat} {k:List Item} {env env':List AV} {K:KV}
theorem TK.nilRow {t e:TypeId} {x:Option Addr} {s j:Nat} {K':Nat->KV} (hu:∀ j',Upd K j (.row [.v (.slice x 0 0)] t s) j (.row [.sl j' 0 0] t s) (K' j')) (h:∀ j',j'∉keys K->TK Y ds k env ((j',.cells [] e false)::K' j')):TK Y ds k env K:=fun A hA φ H ts h1 h2 h3 h4 h5 h6=>by
 have hk:A.length∉keys K:=fun hm=>absurd (hA.view.lt hm) (Nat.lt_irrefl _)
 have hH:=h5.virtO (o:=.cells [] e false) (fun φ n hl=>absurd rfl hl) (fun hl=>hl rfl)
 have hag:=yk φ A.length ⟨0,0,0⟩
 have hlen:(A++[AObj.cells [] e false]).length=A.length+1:=by simp
 have hds:dsC (upd3 φ A.length ⟨0,0,0⟩) ds=dsC φ ds:=by
  unfold dsC
  exact List.map_congr_left fun d hd'=>by rw [hag d (h4 d hd')]
 have hj:=hA.view.get (hu A.length).mem
 have hjl:j<A.length:=(List.getElem?_eq_some_iff.1 hj).1
 have hj2:(A++[AObj.cells [] e false])[j]? =some (.row [.v (.slice x 0 0)] t s):=by rw [lG hjl]; exact hj
 have hstep:=hA.step (.push hA.view hA.nd (.cells [] e false))
 have hstep2:=hstep.step (.set hstep.view hstep.nd (Upd.tail (hu A.length)))
 rw [<- hds]
 refine h _ hk _ hstep2 _ H ts (h1.trans hag h2) (by simp; omega) (by simpa using h3.mono hag oQ) (fun d hd=>by have:=h4 d hd; simp; omega) (hH.turn hj2 (fun ho=>?_) (fun h=>h) (fun _=>rfl) (fun hs=>hs)) (by simpa using h6.mono hag oQ)
 obtain ⟨q0,q1,q2⟩:=ho
 refine ⟨fun hc=>absurd (q0 hc) sQ,q1,fun hc=>?_⟩
 obtain ⟨cur,p1,p2,p3,p4,p5⟩:=q2 hc
 refine ⟨cur,p1,p2,p3,by simpa using p4,fun t' a ha=>?_⟩
 cases t' with
 | zero =>
  simp only [List.getElem?_cons_zero,Option.some.injEq] at ha
  subst ha
  obtain ⟨y,hy,hr⟩:=p5 0 _ rfl
  refine ⟨y,hy,?_⟩
  rw [inv_v hr]
  exact .sl sQ (mN _) fun hp=>absurd hp (Nat.lt_irrefl _)
 | succ t'=>simp at ha
theorem jU:∀ R L:KV,Split (R++L) R L
 | [],L=>.none L
 | x::R,L=>.left (jU R L)
theorem TK.dropP {R L:KV} (hp:K.Perm (R++L)) (h:TK Y ds k env R):TK Y ds k env K:=TK.perm hp (TK.keep (jU R L) h)
end
def ji (P:List (Nat×List Int)):KV:=P.map fun x=>(x.1,.cells (x.2.map intA) 3 false)
def refsL (P:List (Nat×List Int)):List AV:=P.map fun x=>.sl x.1 0 x.2.length
theorem jE {P:List (Nat×List Int)} {x:Nat×List Int} (h:x∈P):(x.1,AObj.cells (x.2.map intA) 3 false)∈ji P:=lY.2 ⟨x,h,rfl⟩
theorem jQ {P:List (Nat×List Int)} {k:Nat} {n:Int} (hk:k<P.length) (h:n=(k:Int)) {e:TypeId} {sz:Nat}:takeO (.row (refsL P) e sz) (n.toNat*1) 1=some [.sl P[k].1 0 P[k].2.length]:=by
 subst h
 rw [mZ,Nat.mul_one]
 simp only [takeO,AObj.look]
 rw [if_pos (by simp [refsL]; omega)]
 simp [List.take_one,refsL,hk]
theorem ints1 (xs:List Int):(xs.map intA).all oneA=true:=by
 rw [List.all_map]; exact List.all_eq_true.2 fun _ _=>rfl
theorem qF {P:List (Nat×List Int)} {A:List (List Int)} (h:P.map (·.2)=A) {k:Nat} (hk:k<P.length):A[k]? =some P[k].2:=by
 rw [<- h]
 simp [hk]
theorem jG {K:KV} {x:Nat×AObj}:x∈K->∃ R,Rem K x R:=by
 induction K with
 | nil=>intro h; cases h
 | cons y K ih =>
  intro h
  rcases lI.1 h with rfl | h
  ·exact ⟨_,.head⟩
  ·obtain ⟨R,hR⟩:=ih h
   exact ⟨_,.tail hR⟩
def stepS (b:RBk) (i:Nat) (p:List Int):List (List Int):=(numsM (bd b i)).map fun n=>p++[n]
theorem jai (x:RBand):∀ t,t<(x.high+1 - x.low).toNat->(numsM x)[t]? =some (x.low+t):=by
 have key:∀ (k:Nat) (n:Int) (t:Nat),t<k->(numsF n k)[t]? =some (n+t):=by
  intro k
  induction k with
  | zero=>intro n t h; omega
  | succ k ih =>
   intro n t h
   unfold numsF
   cases t with
   | zero=>simp
   | succ t =>
    rw [List.getElem?_cons_succ,ih (n+1) t oQ]
    congr 1
    omega
 exact fun t h=>key _ _ t h
theorem xq (x:RBand):(numsM x).length=(x.high+1 - x.low).toNat:=by
 unfold numsM
 rw [xp]
theorem qZ {α:Type} {A:List α} {x:α} {L M:List α}:(x::(A++(L++M))).Perm (A++M++(x::L)):=by
 have h1:(A++(L++M)).Perm ((A++M)++L):=by
  rw [List.append_assoc]
  exact List.Perm.append_left A lH
 exact (List.Perm.cons x h1).trans (List.perm_middle (a:=x) (l₁:=A++M) (l₂:=L)).symm
instance:Cal tp 162:={}
instance:Cal tp 73:={}
theorem qu {main T} (hT:zo tp main T) {gm} {b:RBk} {s h e j:Nat} {st:List Int} {et:TypeId} {m:RMeas} (hb:ROk b) (hs:StOk b st) (hm:0<=m.cloth/\m.cloth<b.seams.length/\1<=m.many/\m.many<=b.seams.length) :
  zA tp T gm 162 [.agg (zE b s h e),.agg (measC m),.sl j 0 st.length] [(s,zk b),(j,.cells (st.map intA) et false)] (fun r K'=>r=zP (decide (togM b st m.cloth.toNat m.many.toNat=m.wide))/\K'=[(s,zk b),(j,.cells (st.map intA) et false)]):=by
 refine zp 17 hT Tryz.func162 fun Y hret=>?_
 refine au [] ?_
 obtain ⟨mc,mm,mw⟩:=m
 dsimp only at hm
 obtain ⟨c,rfl⟩:=Int.eq_ofNat_of_zero_le hm.1
 obtain ⟨k,rfl⟩:=Int.eq_ofNat_of_zero_le (show 0<=mm by omega)
 refine au [4,5,21] ?_
 intro jb hjb
 refine au [21] ?_
 intro jm hjm
 refine au [2,3,4] ?_
 refine TK.draw [0,1,2,3,4,5,7,8,6,9,10] [0,1,2,3,4,5,6,7,8,9,10] (by kernel_rfl) (by kernel_rfl) ?_
 refine TD.y [3] Z (hq:=z8 Z Z zi.h (mC _) Z) (h:=?_)
 refine TD.z [4] Z (zg Z Z zl.h dQ) ?_
 refine TD.y [8] Z (hq:=zm Z Z zi.h (mC _) Z) (h:=?_)
 refine TD.z [4] Z (zg Z Z zl.h dQ) ?_
 refine TD.y [10] Z (hq:=zm Z Z zi.h (mC _) Z) (h:=?_)
 refine TD.z [2] Z (zh Z Z) ?_
 refine TD.z [4] Z (zg Z Z zl.h dQ) ?_
 refine TD.y [14] Z (hq:=zm Z Z zi.h (mC _) Z) (h:=?_)
 refine TD.cl (pend':=[⟨8,[14],[(_,_)]⟩,⟨7,[4],[]⟩,⟨3,[4],[]⟩,⟨1,[4],[]⟩]) [7,9,11,12] Z Z Z Z Z (qN hT (c:=c) (m:=k) hb hs oQ oQ) (fun r1 K2 h3=>⟨?_,?_⟩)
 ·rcases h3 with ⟨rfl,rfl⟩
  all_goals simp
 obtain ⟨rfl,rfl⟩:=h3
 try simp only [cA]
 refine TD.norm tQ ?_
 refine TD.z [13,15] Z (q_cmp Z Z Z Z) ?_
 refine TD.as (pend':=[]) [16] Z Z (zD Z Z) ?_
 refine TD.fin ?_
 refine au [] ?_
 refine TK.rt hret [(s,_),(j,_)] ?_
 exact ⟨rfl,rfl⟩
theorem jaa {main T} (hT:zo tp main T) {gm} {b:RBk} {s h e j:Nat} {st:List Int} {et:TypeId} (hb:ROk b) (hs:StOk b st) :
  zA tp T gm 141 [.agg (zE b s h e),.sl j 0 st.length] [(s,zk b),(e,zq b),(j,.cells (st.map intA) et false)] (fun r K'=>r=zP (rightM b st)/\K'=[(s,zk b),(e,zq b),(j,.cells (st.map intA) et false)]):=by
 refine zp 22 hT Tryz.func141 fun Y hret=>?_
 refine au [] ?_
 have hml:=hb.mes.len
 refine au [4,5,21] ?_
 intro jb hjb
 refine au [2,3,4,4,5,2,3,13] ?_
 refine TK.maskL [1,2,5] ?_
 refine TK.kp [(s,_),(e,_),(j,_),(jb,_)] ?_
 refine TK.loopN (fun n env K=>∃ (i:Nat),n=b.measures.length - i/\i<=b.measures.length/\(∀ m∈b.measures.take i,decide (togM b st m.cloth.toNat m.many.toNat=m.wide)=true)/\env=.any::.sl j 0 st.length::.ptr jb 0::naL 2 (intA i::naL 16 [])/\K=[(s,zk b),(e,zq b),(j,.cells (st.map intA) et false),(jb,.cells (zE b s h e) 26 true)]) b.measures.length ⟨0,rfl,mN _,fun m hm=>by simp at hm,rfl,rfl⟩ fun n env K hI hnext=>?_
 obtain ⟨i,rfl,hi,hri,rfl,rfl⟩:=hI
 refine TK.na nQ ?_
 refine au [4,4,5,1,7,9,28,6,3,20] ?_
 refine ⟨fun hc0=>?_,fun hc0=>?_⟩
 ·have hil:i<b.measures.length:=by simp at hc0; omega
  obtain ⟨x,hx⟩:∃ x,b.measures[i]? =some x:=⟨_,lA hil⟩
  have hxb:=hb.mes.bnd x (lN hx)
  refine au [12,4,13,4] ?_
  refine TK.draw [0,1,2,3,4,5,6,7,8] [0,1,2,3,4,5,6,7,8] (by kernel_rfl) (by kernel_rfl) ?_
  refine TD.y [2] Z (hq:=z8 Z Z zi.h (mC _) Z) (h:=?_)
  refine TD.z [2] Z (zg Z Z zl.h dQ) ?_
  refine TD.y [14] Z (hq:=zm Z Z zi.h (mC _) Z) (h:=?_)
  refine TD.z [5] Z (zh Z Z) ?_
  refine TD.z [15,16] Z (zQ Z Z Z zF.h oQ oQ) ?_
  refine TD.y [17] Z (hq:=z8 Z Z zi.h (mC _) (zcE (i:=i) hx Z)) (h:=?_)
  refine TD.z [1] Z (zh Z Z) ?_
  refine TD.cl (pend':=[⟨4,[15,16],[]⟩,⟨3,[5],[]⟩,⟨2,[14],[(_,_)]⟩,⟨1,[2],[]⟩]) [13,18,19] Z Z Z Z Z (qu hT (m:=x) hb hs ⟨hxb.1,hxb.2.1,hxb.2.2.1,hxb.2.2.2.1⟩) (fun r1 K2 h3=>⟨?_,?_⟩)
  ·rcases h3 with ⟨rfl,rfl⟩
   all_goals simp
  obtain ⟨rfl,rfl⟩:=h3
  try simp only [cA]
  refine TD.norm tQ ?_
  refine TD.z [20] Z (q_not Z Z) ?_
  refine TD.fin ?_
  refine au [20] ?_
  refine ⟨fun hc1=>?_,fun hc1=>?_⟩
  ·refine au [4,5,2,3] ?_
   refine TK.rt hret [(s,_),(e,_),(j,_)] ?_
   exact ⟨by rw [show rightM b st=false from List.all_eq_false.2 ⟨x,lN hx,by simpa using hc1⟩],rfl⟩
  refine au [12,14,5,1,23,2,3] ?_
  refine TK.maskL [1,2,5] ?_
  refine TK.kp [(s,_),(e,_),(j,_),(jb,_)] ?_
  exact hnext _ _ _ oQ ⟨i+1,rfl,by omega,fun m hm=>by
   rw [yP hx] at hm
   rcases lT.1 hm with hm | hm
   ·exact hri m hm
   ·rw [lS.1 hm]; simpa using hc1,rfl,rfl⟩
 obtain rfl:i=b.measures.length:=by simp at hc0; omega
 refine au [16,4,5,2,3] ?_
 refine TK.rt hret [(s,_),(e,_),(j,_)] ?_
 exact ⟨by rw [show rightM b st=true from List.all_eq_true.2 fun m hm=>hri m (by rw [lW]; exact hm)],rfl⟩
theorem jak {main T} (hT:zo tp main T) {gm} {b:RBk} {s h e:Nat} {P:List (Nat×List Int)} {x:Nat×List Int} (hb:ROk b) (hs:StOk b x.2) (hx:x∈P):zA tp T gm 141 [.agg (zE b s h e),.sl x.1 0 x.2.length] ((s,zk b)::(e,zq b)::ji P) (fun r K'=>r=zP (rightM b x.2)/\K'=(s,zk b)::(e,zq b)::ji P):=by
 obtain ⟨R,hR⟩:=jG (jE hx)
 exact (jaa hT hb hs).frameP (R:=R) (List.Perm.cons _ (List.Perm.cons _ hR.perm))
instance:ApOf tp 104 27 1 24:={}
instance:Cal tp 141:={}
instance:zF tp 104 27 1:={}
instance:TyZ tp 27 [.slice none 0 0]:={}
instance:Und tp 104 (.slice 27):={}
theorem qM {main T} (hT:zo tp main T) {gm} {b:RBk} {s h e:Nat} (hb:ROk b) :
  zA tp T gm 77 [.agg (zE b s h e)] [(s,zk b),(h,zB b),(e,zq b)] (fun r K'=>∃ (jr:Nat) (Q P:List (Nat×List Int)),(∀ x∈Q,x∈P)/\Q.map (·.2)=zf b/\r=.row jr Q.length/\K'=(jr,.row (refsL Q) 27 1)::(s,zk b)::(h,zB b)::(e,zq b)::ji P):=by
 refine zp 73 hT Tryz.func77 fun Y hret=>?_
 refine au [] ?_
 have hsl:=hb.sms.len
 have hcl:=hb.cls.len
 have h243:∀ i,i<=5->3 ^ i<=243:=fun i hi=>mT (Nat.pow_le_pow_right dQ hi) dQ
 refine au [4,5,21] ?_
 intro jb hjb
 refine au [2,3,4,5] ?_
 refine TK.newR Z Z Z (zt (l:=[_]) Z zF.h TyZ.h dQ dQ Z) (fun _=>zu rfl tQ) fun j0 hj0=>?_
 refine au [2] ?_
 refine TK.nilRow (e:=3) (fun _=>uQ) fun je hje=>?_
 refine au [3,4,4,5,2,3,13] ?_
 refine TK.maskL [1,3,4] ?_
 refine TK.kp [(j0,_),(h,_),(jb,_),(s,_),(e,_),(je,_)] ?_
 refine TK.loopN (fun n env K=>∃ (i ja:Nat) (P:List (Nat×List Int)),n=b.shrinks.length - i/\i<=b.shrinks.length/\P.map (·.2)=preS b i/\env=.any::.ptr jb 0::.any::.row ja P.length::intA i::naL 68 []/\K=(ja,.row (refsL P) 27 1)::(h,zB b)::(jb,.cells (zE b s h e) 26 true)::(s,zk b)::(e,zq b)::ji P) b.shrinks.length ⟨0,j0,[(je,[])],rfl,mN _,rfl,rfl,rfl⟩ fun n env K hI hnext=>?_
 obtain ⟨i,ja,P,rfl,hi,hP,rfl,rfl⟩:=hI
 have hPl:P.length=(preS b i).length:=by rw [<- hP,lJ]
 have hPb:P.length<=243:=by have:=qf hb i hi; have:=h243 i oQ; omega
 refine TK.na nQ ?_
 refine au [4,4,5,1,7,9,28,6,3,20] ?_
 refine ⟨fun hc0=>?_,fun hc0=>?_⟩
 ·have hil:i<b.shrinks.length:=by simp at hc0; omega
  have hbd:=hb.cls.bnd i oQ
  refine au [12,4,13,4,5,2] ?_
  refine TK.virt 5 27 1 Z fun jn0 hjn0=>?_
  refine au [3,4,4,5,2,3,13] ?_
  refine TK.maskL [1,3,4,5,6] ?_
  refine TK.perm (K':=(jn0,.row [] 27 1)::(ja,.row (refsL P) 27 1)::(h,zB b)::(jb,.cells (zE b s h e) 26 true)::(s,zk b)::(e,zq b)::(ji P++ji [])) (by simp [ji]) ?_
  refine TK.loopN (fun n env K=>∃ (q jn:Nat) (Q:List (Nat×List Int)),n=P.length - q/\q<=P.length/\Q.map (·.2)=((preS b i).take q).flatMap (stepS b i)/\env=.any::.ptr jb 0::.any::.row ja P.length::intA i::.row jn Q.length::intA q::naL 66 []/\K=(jn,.row (refsL Q) 27 1)::(ja,.row (refsL P) 27 1)::(h,zB b)::(jb,.cells (zE b s h e) 26 true)::(s,zk b)::(e,zq b)::(ji P++ji Q)) P.length ⟨0,jn0,[],rfl,mN _,rfl,rfl,rfl⟩ fun n env K hI2 hnext2=>?_
  obtain ⟨q,jn,Q,rfl,hq,hQ,rfl,rfl⟩:=hI2
  refine TK.na nQ ?_
  refine au [4,4,5,1,1,28,6,3,20] ?_
  refine ⟨fun hc1=>?_,fun hc1=>?_⟩
  ·have hql:q<P.length:=by simp at hc1; omega
   have hg:(preS b i)[q]? =some P[q].2:=qF hP hql
   obtain ⟨pq,hpq⟩:∃ pq,pq=P[q]:=⟨_,rfl⟩
   rw [<- hpq] at hg
   have hpl:=(xF hb i hi pq.2 (lN hg)).1
   have hmp:pq∈P:=hpq ▸ List.getElem_mem hql
   refine au [12,4,13,4,5,7,9,1,36,7] ?_
   refine TK.a Z (zm Z Z zi.h mQ (ym (c:=0) (bd_at b (i:=i) hil Z) dQ Z)) ?_
   refine au [2,3,13] ?_
   refine TK.maskL [1,3,4,5,6,7] ?_
   refine TK.loopN (fun n env K=>∃ (t jn:Nat) (Q:List (Nat×List Int)),n=((bd b i).high+1 - (bd b i).low).toNat - t/\t<=((bd b i).high+1 - (bd b i).low).toNat/\Q.map (·.2)=((preS b i).take q).flatMap (stepS b i)++((numsM (bd b i)).take t).map (fun n=>P[q].2++[n])/\env=.any::.ptr jb 0::.any::.row ja P.length::intA i::.row jn Q.length::intA q::intA ((bd b i).low+(t:Int))::naL 65 []/\K=(jn,.row (refsL Q) 27 1)::(ja,.row (refsL P) 27 1)::(h,zB b)::(jb,.cells (zE b s h e) 26 true)::(s,zk b)::(e,zq b)::(ji P++ji Q)) ((bd b i).high+1 - (bd b i).low).toNat ⟨0,jn,Q,rfl,mN _,by rw [hQ,List.take_zero,List.map_nil,lR],by rw [show (bd b i).low+((0:Nat):Int)=(bd b i).low by omega]; rfl,rfl⟩ fun n env K hI3 hnext3=>?_
   obtain ⟨t,jn,Q,rfl,ht,hQ,rfl,rfl⟩:=hI3
   rw [<- hpq] at hQ
   have hQl:Q.length<=1000:=by
    have h1:=congrArg List.length hQ
    rw [lJ,lF,lJ,List.length_take,xq] at h1
    have h2:=jR (f:=stepS b i) (fun p=>by unfold stepS; rw [lJ,xq]; omega) ((preS b i).take q)
    rw [List.length_take] at h2
    omega
   refine TK.na nQ ?_
   refine au [4,4,5,1,7,9,1,36,7] ?_
   refine TK.a Z (zm Z Z zi.h mQ (ym (c:=1) (bd_at b (i:=i) hil Z) dQ Z)) ?_
   refine au [6,3,20] ?_
   refine ⟨fun hc2=>?_,fun hc2=>?_⟩
   ·have htl:t<((bd b i).high+1 - (bd b i).low).toNat:=by simp at hc2; omega
    have hmx:(pq.1,AObj.cells (pq.2.map intA) 3 false)∈ji P++ji Q:=lV _ (jE hmp)
    refine au [12,4,13,5,1] ?_
    refine TK.newR Z Z Z (zt (l:=[]) Z zF.h TyZ.h dQ dQ Z) (fun _=>zu rfl tQ) fun j9 hj9=>?_
    refine au [1,1,37] ?_
    refine TK.a Z (zm Z Z zi.h mQ (jQ hql Z)) ?_
    rw [<- hpq]
    refine TK.appG (ln:=pq.2.map intA) Z Z Z ApOf.h Z mQ Z Z Z (fun hp=>vu mQ oQ (wl (n:=pq.2.length) (size:=1) sQ oQ)) (fun h=>by simp [lK h]) (ints1 _) (by unfold maxLen; omega) oQ (fun _=>uQ) (fun _=>zu rfl tQ) fun j6=>?_
    simp only [lC,mO]
    refine au [1] ?_
    refine TK.newR Z Z Z (zt (l:=[_]) Z zF.h TyZ.h dQ dQ Z) (fun _=>zu rfl tQ) fun j1 hj1=>?_
    refine TK.appR Z Z Z (a_app Z ApOf.h Z mQ sQ Z (yu (ln:=[_]) mQ dQ sQ Z) oQ Z (by unfold maxLen; omega) oQ) (fun _=>uQ) (fun _=>zu rfl tQ) fun j3=>?_
    refine TK.asSl 49 Z mQ ?_
    refine TK.frzRow (j:=j3) ?_
    refine au [] ?_
    refine TK.newR Z Z Z (zt (l:=[_]) Z zF.h TyZ.h dQ dQ Z) (fun _=>zu rfl tQ) fun j2 hj2=>?_
    refine TK.appR Z Z Z (a_app Z ApOf.h Z mQ (by simp [refsL]) Z (yu (ln:=[_]) mQ dQ sQ Z) oQ Z (by unfold maxLen; omega) oQ) (fun _=>uQ) (fun _=>zu rfl tQ) fun j4=>?_
    refine au [2,3,14,5,1,23,2,3] ?_
    refine TK.maskL [1,3,4,5,6,7] ?_
    refine TK.kp (((j4,_)::(j3,_)::(ja,_)::(h,_)::(jb,_)::(s,_)::(e,_)::(ji P++ji Q))) ?_
    refine TK.perm (K':=(j4,.row (refsL Q++[.sl j3 0 (pq.2.length+1)]) 27 1)::(ja,.row (refsL P) 27 1)::(h,zB b)::(jb,.cells (zE b s h e) 26 true)::(s,zk b)::(e,zq b)::(ji P++(ji Q++[(j3,.cells (pq.2.map intA++[intA ((bd b i).low+(t:Int))]) 3 false)]))) ?_ ?_
    ·rw [<- List.append_assoc]
     exact List.Perm.cons _ (List.perm_append_singleton (j3,_) ((ja,.row (refsL P) 27 1)::(h,zB b)::(jb,.cells (zE b s h e) 26 true)::(s,zk b)::(e,zq b)::(ji P++ji Q))).symm
    exact hnext3 _ _ _ oQ ⟨t+1,j4,Q++[(j3,pq.2++[(bd b i).low+(t:Int)])],rfl,by omega,by rw [lM,hQ,<- hpq,yP (jai _ t htl),lM,List.append_assoc]; rfl,by rw [lF,show (bd b i).low+(t:Int)+1=(bd b i).low+((t+1:Nat):Int) by omega]; rfl,by simp [refsL,ji]⟩
   obtain rfl:t=((bd b i).high+1 - (bd b i).low).toNat:=by simp at hc2; omega
   refine au [16,14,5,1,23,2,3] ?_
   refine TK.maskL [1,3,4,5,6] ?_
   refine TK.kp (((jn,_)::(ja,_)::(h,_)::(jb,_)::(s,_)::(e,_)::(ji P++ji Q))) ?_
   exact hnext2 _ _ _ oQ ⟨q+1,jn,Q,rfl,by omega,by rw [hQ,show (numsM (bd b i)).take ((bd b i).high+1 - (bd b i).low).toNat=numsM (bd b i) from List.take_of_length_le (by rw [xq]; exact mL _),yP hg,List.flatMap_append]; simp [stepS],rfl,rfl⟩
  obtain rfl:q=P.length:=by simp at hc1; omega
  have hQ:Q.map (·.2)=preS b (i+1):=by rw [hQ,hPl,lW]; rfl
  refine au [16,5,1,2,3,14,5,1,23,2,3] ?_
  refine TK.maskL [1,3,4] ?_
  refine TK.kp (((jn,_)::(ja,_)::(h,_)::(jb,_)::(s,_)::(e,_)::(ji P++ji Q))) ?_
  refine TK.dropP (R:=(jn,.row (refsL Q) 27 1)::(h,zB b)::(jb,.cells (zE b s h e) 26 true)::(s,zk b)::(e,zq b)::ji Q) (L:=(ja,.row (refsL P) 27 1)::ji P) ?_ ?_
  ·exact List.Perm.cons _ (qZ (A:=(h,zB b)::(jb,.cells (zE b s h e) 26 true)::(s,zk b)::(e,zq b)::[]) (x:=(ja,.row (refsL P) 27 1)) (L:=ji P) (M:=ji Q))
  exact hnext _ _ _ oQ ⟨i+1,jn,Q,rfl,by omega,hQ,rfl,rfl⟩
 obtain rfl:i=b.shrinks.length:=by simp at hc0; omega
 refine au [16,4,5,2] ?_
 refine TK.virt 8 27 1 Z fun jo0 hjo0=>?_
 refine au [3,4,4,5,2,3,13] ?_
 refine TK.maskL [1,3,8,9] ?_
 refine TK.loopN (fun n env K=>∃ (q jo:Nat) (Q:List (Nat×List Int)),n=P.length - q/\q<=P.length/\(∀ x∈Q,x∈P)/\Q.map (·.2)=((preS b b.shrinks.length).take q).filter (rightM b)/\env=.any::.ptr jb 0::.any::.row ja P.length::naL 4 (.row jo Q.length::intA q::naL 63 [])/\K=(jo,.row (refsL Q) 27 1)::(ja,.row (refsL P) 27 1)::(h,zB b)::(jb,.cells (zE b s h e) 26 true)::(s,zk b)::(e,zq b)::ji P) P.length ⟨0,jo0,[],rfl,mN _,(fun x hx=>by cases hx),rfl,rfl,rfl⟩ fun n env K hI4 hnext4=>?_
 obtain ⟨q,jo,Q,rfl,hq,hQP,hQ,rfl,rfl⟩:=hI4
 have hQl:(Q.map (·.2)).length=Q.length:=lJ ..
 have hQb:Q.length<=243:=by
  rw [<- hQl,hQ]
  have h1:=List.length_filter_le (rightM b) ((preS b b.shrinks.length).take q)
  rw [List.length_take] at h1
  omega
 refine TK.na nQ ?_
 refine au [4,4,5,1,1,28,6,3,20] ?_
 refine ⟨fun hc3=>?_,fun hc3=>?_⟩
 ·have hql:q<P.length:=by simp at hc3; omega
  have hg:(preS b b.shrinks.length)[q]? =some P[q].2:=qF hP hql
  have hmp:P[q]∈P:=List.getElem_mem hql
  obtain ⟨hpl,hpb⟩:=xF hb _ (mL _) P[q].2 (lN hg)
  have hst:StOk b P[q].2:=zeV hb ⟨hpl,fun i hi=>hpb.2 i oQ⟩
  refine au [12,4,13,4] ?_
  refine TK.draw [0,1,2,3,4,5] [0,1,2,3,4,5] (by kernel_rfl) (by kernel_rfl) ?_
  refine TD.y [1] Z (hq:=z8 Z Z zi.h (mC _) Z) (h:=?_)
  refine TD.z [3] Z (zh Z Z) ?_
  refine TD.z [9] Z (zh Z Z) ?_
  refine TD.y [60,61] Z (hq:=kA Z Z Z zF.h (mC _) oQ oQ) (h:=?_)
  refine TD.y [62] Z (hq:=zm Z Z zi.h (mC _) (jQ hql Z)) (h:=?_)
  refine TD.cl (pend':=[⟨3,[60,61],[(_,_)]⟩,⟨2,[9],[]⟩,⟨1,[3],[]⟩]) [59,63] Z Z Z Z Z (jak hT hb hst hmp) (fun r3 K4 h5=>⟨?_,?_⟩)
  ·rcases h5 with ⟨rfl,rfl⟩
   all_goals simp
  obtain ⟨rfl,rfl⟩:=h5
  try simp only [cA]
  refine TD.norm tQ ?_
  refine TD.perm (lH (l₁:=(s,_)::(e,_)::ji P)) ?_
  simp only [cA]
  refine TD.fin ?_
  refine au [20] ?_
  refine ⟨fun hc4=>?_,fun hc4=>?_⟩
  ·refine au [5,1,1,1,37] ?_
   refine TK.a Z (zm Z Z zi.h mQ (jQ hql Z)) ?_
   refine TK.newR Z Z Z (zt (l:=[_]) Z zF.h TyZ.h dQ dQ Z) (fun _=>zu rfl tQ) fun j6 hj6=>?_
   refine TK.appR Z Z Z (a_app Z ApOf.h Z mQ (by simp [refsL]) Z (yu (ln:=[_]) mQ dQ sQ Z) oQ Z (by unfold maxLen; omega) oQ) (fun _=>uQ) (fun _=>zu rfl tQ) fun jo2=>?_
   refine au [2,3,14,5,1,23,2,3] ?_
   refine TK.maskL [1,3,8,9] ?_
   refine TK.kp (((jo2,_)::(ja,_)::(h,_)::(jb,_)::(s,_)::(e,_)::ji P)) ?_
   exact hnext4 _ _ _ oQ ⟨q+1,jo2,Q++[P[q]],rfl,by omega,(fun x hx=>(lT.1 hx).elim (hQP x) fun h=>lS.1 h ▸ hmp),by rw [lM,hQ,yP hg,List.filter_append,List.filter_cons_of_pos hc4]; rfl,by rw [lF]; rfl,by simp [refsL] <;> rfl⟩
  refine au [12,14,5,1,23,2,3] ?_
  refine TK.maskL [1,3,8,9] ?_
  refine TK.kp (((jo,_)::(ja,_)::(h,_)::(jb,_)::(s,_)::(e,_)::ji P)) ?_
  exact hnext4 _ _ _ oQ ⟨q+1,jo,Q,rfl,by omega,hQP,by rw [hQ,yP hg,List.filter_append,List.filter_cons_of_neg (by rw [hc4]; decide),List.filter_nil,lR],rfl,rfl⟩
 obtain rfl:q=P.length:=by simp at hc3; omega
 rw [hPl] at hQ
 refine au [16,4,5,1,2,3] ?_
 refine TK.rt hret (((jo,_)::(s,_)::(h,_)::(e,_)::ji P)) ?_
 exact ⟨jo,Q,P,hQP,by rw [<- qL,hQ,lW],rfl,rfl⟩
end Go.Vel
namespace Go.Vel
open Go Go.Conc
def lastM (l:List Int):Nat->Option Int
 | 0=>none
 | i+1=>some (zN l i)
def clM (b:RBk) (c:Nat) (m:Nat):List Int:=(List.range m).map fun i=>(((c+i) % b.seams.length:Nat):Int)
theorem jag (b:RBk) (c m:Nat):clM b c (m+1)=clM b c m++[(((c+m) % b.seams.length:Nat):Int)]:=by
 unfold clM
 rw [List.range_succ,lM]
 rfl
theorem jap (b:RBk) (c m:Nat):(clM b c m).length=m:=by unfold clM; rw [lJ,List.length_range]
theorem jao {b:RBk} {c m i:Nat} (h:i<m):(clM b c m)[i]? =some (((c+i) % b.seams.length:Nat):Int):=by
 unfold clM
 rw [lQ,List.getElem?_range h]
 rfl
theorem jZ {l:List Int} (hp:l.Pairwise (· < ·)) {i j:Nat} (hij:i<=j) (hj:j<l.length):zN l i<=zN l j:=by
 rcases mR i j with h | h
 ·have e1:=z5 (l:=l) (k:=i) oQ
  have e2:=z5 hj
  rw [lA oQ] at e1
  rw [lA hj] at e2
  have:=List.pairwise_iff_getElem.1 hp i j oQ hj h
  rw [Option.some.inj e1,Option.some.inj e2] at this
  omega
 ·have:i=j:=by omega
  subst this
  exact Int.le_refl _
theorem jaq {l:List Int} {x:Int} (h:x∈l):∃ t,t<l.length/\zN l t=x:=by
 obtain ⟨t,ht,rfl⟩:=List.getElem_of_mem h
 refine ⟨t,ht,?_⟩
 unfold zN
 rw [lE,lA ht]
 rfl
theorem jaB {b:RBk} {l:List Int} (hl:CutsOk b l) {k:Nat} (hk:k<l.length) {i:Nat} (h1:1<=i) (h2:(i:Int)<manyM b l k):¬ ((((zN l k).toNat+i) % b.seams.length:Nat):Int)∈l:=fun hm=>by
 obtain ⟨t,ht,he⟩:=jaq hm
 have hc:=hl.lt hk
 have h0:=hl.lt hl.pos
 have hct:=hl.lt ht
 unfold manyM at h2
 by_cases e:k+1<l.length
 ·rw [if_pos e] at h2
  have hn:=hl.lt e
  rw [Nat.mod_eq_of_lt oQ] at he
  rcases mR k t with h | h
  ·have:=jZ hl.asc (i:=k+1) (j:=t) oQ ht
   omega
  ·have:=jZ hl.asc h hk
   omega
 ·rw [if_neg e] at h2
  have ha:=jZ hl.asc (mN t) ht
  have hb:=jZ hl.asc (i:=t) (j:=k) oQ hk
  rcases mR ((zN l k).toNat+i) b.seams.length with h | h
  ·rw [Nat.mod_eq_of_lt h] at he
   omega
  ·rw [Nat.mod_eq_sub_mod h,Nat.mod_eq_of_lt oQ] at he
   omega
theorem cl_at {b:RBk} {l:List Int} (hl:CutsOk b l) {k:Nat} (hk:k<l.length):((((zN l k).toNat+(manyM b l k).toNat) % b.seams.length:Nat):Int)∈l:=by
 have hc:=hl.lt hk
 have h0:=hl.lt hl.pos
 unfold manyM
 by_cases e:k+1<l.length
 ·rw [if_pos e]
  have hn:=hl.lt e
  have hlt:=zhN hl e
  rw [Nat.mod_eq_of_lt oQ,show (((zN l k).toNat+(zN l (k+1) - zN l k).toNat:Nat):Int)=zN l (k+1) by omega]
  exact zgU e
 ·rw [if_neg e]
  have hb:=jZ hl.asc (i:=0) (j:=k) (mN _) hk
  rw [show (zN l k).toNat+(zN l 0 - zN l k+(b.seams.length:Int)).toNat=b.seams.length+(zN l 0).toNat by omega,Nat.add_mod_left,Nat.mod_eq_of_lt oQ,show (((zN l 0).toNat:Nat):Int)=zN l 0 by omega]
  exact zgU hl.pos
theorem xb (b:RBk) (x:Nat):nowS b [] x=sumF (wideM b) x:=by
 unfold nowS
 refine jC x fun i _=>?_
 unfold nowM
 show wideM b i - 0=_
 omega
theorem jae {b:RBk} {l:List Int} (hl:CutsOk b l) {k:Nat} (hk:k<l.length):(stripM b l k).2=togM b [] (zN l k).toNat (manyM b l k).toNat:=by
 have hc:=hl.lt hk
 have h0:=hl.lt hl.pos
 have hmb:=xR hl hk
 unfold stripM endM cutS
 dsimp only
 by_cases e:k+1<l.length
 ·have hn:=hl.lt e
  have hlt:=zhN hl e
  rw [if_pos e]
  unfold manyM
  rw [if_pos e,ql b [] _ _ oQ,xb,xb,show (zN l k).toNat+(zN l (k+1) - zN l k).toNat=(zN l (k+1)).toNat by omega,jL _ hn.2.2,jL _ hc.2.2]
  omega
 ·rw [if_neg e]
  have hm:(manyM b l k).toNat=b.seams.length - (zN l k).toNat+(zN l 0).toNat:=by
   have hb:=jZ hl.asc (i:=0) (j:=k) (mN _) hk
   unfold manyM
   rw [if_neg e]
   omega
  rw [hm,xP b [] oQ _ oQ,xb,xb,xb,jL _ hc.2.2,jL _ h0.2.2,jan oQ]
  omega
theorem qH {b:RBk} (hb:ROk b) (c:Nat):∀ k,0<=togM b [] c k/\togM b [] c k<=24*k
 | 0=>by show (0:Int)<=0/\(0:Int)<=_; omega
 | k+1=>by
  have h1:=qH hb c k
  have h2:=hb.wide (i:=(c+k) % b.seams.length) (Nat.mod_lt _ (by have:=hb.sms.len; omega))
  show 0<=togM b [] c k+(wideM b _ - 0)/\togM b [] c k+(wideM b _ - 0)<=_
  omega
end Go.Vel
namespace Go.Vel
open Go Go.Conc Go.Proofs
instance:Cal tp 142:={}
instance:Cal tp 58:={}
instance:Cal tp 93:={}
theorem qW {main T} (hT:zo tp main T) {gm} {j:Nat} {et:TypeId} {l:List Int} {v:Int} (hl:l.length<=1000) :
  zA tp T gm 58 [.sl j 0 l.length,intA v] [(j,.cells (l.map intA) et false)] (fun r K'=>r=zP (decide (v∈l))/\K'=[(j,.cells (l.map intA) et false)]):=by
 refine zp 18 hT Tryz.func58 fun Y hret=>?_
 refine au [4,5,2,3,4,4,5,2,3,13] ?_
 refine TK.maskL [0,1,5] ?_
 refine TK.loopN (fun n0 env K=>∃ (i:Nat),n0=l.length - i/\i<=l.length/\¬ v∈l.take i/\env=[.sl j 0 l.length,intA v,.any,.any,.any,intA i,.any,.any,.any,.any,.any,.any,.any,.any,.any,.any,.any,.any]/\K=[(j,.cells (l.map intA) et false)]) l.length ⟨0,rfl,mN _,by simp,rfl,rfl⟩ fun n0 env K hI hnext=>?_
 obtain ⟨i,rfl,hi,hn,rfl,rfl⟩:=hI
 refine au [4,4,5,1,1,28,6,3,20] ?_
 refine ⟨fun hc0=>?_,fun hc0=>?_⟩
 ·have hil:i<l.length:=by simp at hc0; omega
  refine au [12,4,13,4,5,1,1,36] ?_
  refine TK.a Z (zm Z Z zi.h mQ (yh (i:=i) (z5 hil) Z)) ?_
  refine au [1,6,3,20] ?_
  refine ⟨fun hc1=>?_,fun hc1=>?_⟩
  ·refine au [4,5,2,3] ?_
   refine TK.rt hret [(j,_)] ?_
   exact ⟨by rw [decide_eq_true (show v∈l by have h:zN l i=v:=eq_of_beq hc1; rw [<- h]; exact zgU hil)],rfl⟩
  refine au [12,14,5,1,23,2,3] ?_
  refine TK.maskL [0,1,5] ?_
  exact hnext _ _ _ oQ ⟨i+1,rfl,by omega,fun hh=>by
   rw [yP (z5 hil)] at hh
   rcases lT.1 hh with hh | hh
   ·exact hn hh
   ·rw [lS.1 hh] at hc1; simp at hc1,rfl,rfl⟩
 obtain rfl:i=l.length:=by simp at hc0; omega
 refine au [16,4,5,2,3] ?_
 refine TK.rt hret [(j,_)] ?_
 exact ⟨by rw [decide_eq_false (by rwa [lW] at hn)],rfl⟩
theorem qm {main T} (hT:zo tp main T) {gm} {b:RBk} {s h e j k:Nat} {et:TypeId} {l:List Int} (hb:ROk b) (hl:CutsOk b l) (hk:k<l.length) :
  zA tp T gm 105 [.agg (zE b s h e),.sl j 0 l.length,intA k] [(j,.cells (l.map intA) et false)] (fun r K'=>∃ jr,r=.row jr (manyM b l k).toNat/\K'=(jr,.row ((clM b (zN l k).toNat (manyM b l k).toNat).map intA) 3 1)::[(j,.cells (l.map intA) et false)]):=by
 refine zp 38 hT Tryz.func105 fun Y hret=>?_
 refine au [] ?_
 have hsl:=hb.sms.len
 have hll:=hl.len
 have hq:=hl.lt hk
 have hmb:=xR hl hk
 obtain ⟨c,hcn⟩:∃ c:Nat,zN l k=(c:Int):=⟨(zN l k).toNat,by omega⟩
 have hck:l[k]? =some (c:Int):=by rw [z5 hk,hcn]
 have hct:(zN l k).toNat=c:=by omega
 refine au [4,5,21] ?_
 intro jb hjb
 refine au [2,3,4,5,1,1,36] ?_
 refine TK.a Z (zm Z Z zi.h mQ (yh (i:=k) hck Z)) ?_
 refine TK.newR Z Z Z (zt (l:=[_]) Z zF.h TyZ.h dQ dQ Z) (fun _=>zu rfl tQ) fun jr0 hjr0=>?_
 refine au [2,3,4,4] ?_
 refine TK.draw [0,1,2,3,4,5,6,7,8,9] [0,1,2,3,4,5,6,7,8,9] (by kernel_rfl) (by kernel_rfl) ?_
 refine TD.z [1] Z (zh Z Z) ?_
 refine TD.z [2] Z (zh Z Z) ?_
 refine TD.z [14,15] Z (zQ Z Z Z zF.h oQ oQ) ?_
 refine TD.y [16] Z (hq:=zm Z Z zi.h (mC _) (yh (i:=k) hck Z)) (h:=?_)
 refine TD.z [17] Z (q_add Z Z Z oQ) ?_
 refine TD.z [3] Z (zg Z Z zl.h dQ) ?_
 refine TD.y [19] Z (hq:=zm Z Z zi.h (mC _) Z) (h:=?_)
 refine TD.z [20] Z (q_len Z Z Z Und.h) ?_
 refine TD.z [18,21] Z (q_rem Z Z Z oQ oQ) ?_
 refine TD.as (pend':=[]) [22] Z Z (zD Z Z) ?_
 refine TD.fin ?_
 refine au [13] ?_
 refine TK.maskL [1,3,7,8] ?_
 refine TK.kp [(j,_),(jr0,_),(jb,_)] ?_
 refine TK.loopN (fun n0 env K=>∃ (i jr:Nat),n0=(manyM b l k).toNat - i/\1<=i/\i<=(manyM b l k).toNat/\env=[.any,.sl j 0 l.length,.any,.ptr jb 0,.any,.any,.any,.row jr i,intA ((c+i) % b.seams.length:Nat),.any,.any,.any,.any,.any,.any,.any,.any,.any,.any,.any,.any,.any,.any,.any,.any,.any,.any,.any,.any,.any,.any,.any,.any,.any,.any,.any,.any,.any]/\K=[(j,.cells (l.map intA) et false),(jr,.row ((clM b c i).map intA) 3 1),(jb,.cells (zE b s h e) 26 true)]) ((manyM b l k).toNat - 1) ⟨1,jr0,rfl,mL _,by omega,by rw [show ((c:Int)+1) % (b.seams.length:Int)=(((c+1) % b.seams.length:Nat):Int) from rfl]; rfl,by rw [show clM b c 1=[(c:Int)] by show [(((c+0) % b.seams.length:Nat):Int)]=_; rw [Nat.add_zero,Nat.mod_eq_of_lt oQ]]; rfl⟩ fun n0 env K hI hnext=>?_
 obtain ⟨i,jr,rfl,hi1,hi,rfl,rfl⟩:=hI
 have hml:(c+i) % b.seams.length<b.seams.length:=Nat.mod_lt _ oQ
 have hcl:=jap b c i
 refine au [4,4,5,1,1] ?_
 refine TK.cl Z Z Z Z (qW hT oQ) ?_
 rintro r1 K2 ⟨rfl,rfl⟩
 refine au [30,3,20] ?_
 refine ⟨fun hc0=>?_,fun hc0=>?_⟩
 ·have hlt:i<(manyM b l k).toNat:=by
   rcases mR i (manyM b l k).toNat with h | h
   ·exact h
   ·have e:i=(manyM b l k).toNat:=by omega
    have:=cl_at hl hk
    rw [hct,<- e] at this
    rw [decide_eq_true this] at hc0
    cases hc0
  refine au [12,4,13,5,1,1] ?_
  refine TK.newR Z Z Z (zt (l:=[_]) Z zF.h TyZ.h dQ dQ Z) (fun _=>zu rfl tQ) fun j4 hj4=>?_
  refine TK.appR Z Z Z (a_app Z ApOf.h Z mQ (by simp; omega) Z (yu (ln:=[_]) mQ dQ sQ Z) oQ Z (by unfold maxLen; omega) oQ) (fun _=>uQ) (fun _=>zu rfl tQ) fun jr2=>?_
  refine au [2,3,14,5,1,23,7,9,28] ?_
  refine TK.a Z (q_rem Z Z Z oQ oQ) ?_
  refine au [2,3] ?_
  refine TK.maskL [1,3,7,8] ?_
  refine TK.kp [(j,_),(jr2,_),(jb,_)] ?_
  exact hnext _ _ _ oQ ⟨i+1,jr2,rfl,by omega,by omega,by rw [show ((((c+i) % b.seams.length:Nat):Int)+1) % (b.seams.length:Int)=(((c+(i+1)) % b.seams.length:Nat):Int) by rw [show ((((c+i) % b.seams.length:Nat):Int)+1) % (b.seams.length:Int)=((((c+i) % b.seams.length+1) % b.seams.length:Nat):Int) from rfl,Nat.mod_add_mod]; rfl]; rfl,by rw [jag,lM]; rfl⟩
 have hie:i=(manyM b l k).toNat:=by
  rcases mR i (manyM b l k).toNat with h | h
  ·have:=jaB hl hk hi1 oQ
   rw [hct] at this
   rw [decide_eq_false this] at hc0
   cases hc0
  ·omega
 refine au [16,4,5,1,2,3] ?_
 refine TK.rt hret [(jr,_),(j,_)] ?_
 exact ⟨jr,by rw [hie] <;> rfl,by rw [hct,hie] <;> rfl⟩
theorem xN {b:RBk} {l:List Int} {i:Nat} (h:i<l.length):(stripsM b l)[i]? =some (stripM b l i):=by
 unfold stripsM
 rw [lQ,List.getElem?_range h]
 rfl
instance:Cal tp 71:={}
instance:Cal tp 72:={}
instance:Cal tp 73:={}
theorem qz {b:RBk} {l:List Int} {i:Nat} (hi:i<l.length) (h:¬ (stripM b l i).2<=b.roll\/(cutS b l i).whole=true):fitsM b l=false:=by
 unfold fitsM
 rw [show ((List.range l.length).all fun k => !(cutS b l k).whole&&decide ((stripM b l k).2<=b.roll))=false from List.all_eq_false.2 ⟨i,List.mem_range.2 hi,by
  rcases h with h | h
  ·rw [decide_eq_false h]; simp
  ·rw [h]; simp⟩]
 exact Bool.and_false _
instance:Cal tp 105:={}
instance:Cal tp 94:={}
theorem qw {main T} (hT:zo tp main T) {gm} {b:RBk} {s h e j:Nat} {et:TypeId} {l:List Int} (hb:ROk b) (hl:CutsOk b l) :
  zA tp T gm 94 [.agg (zE b s h e),.sl j 0 l.length] [(s,zk b),(j,.cells (l.map intA) et false)] (fun r K'=>∃ jr,r=.row jr l.length/\K'=(jr,.row ((stripsM b l).flatMap pairC) 96 2)::[(s,zk b),(j,.cells (l.map intA) et false)]):=by
 refine zp 44 hT Tryz.func94 fun Y hret=>?_
 refine au [] ?_
 have hsl:=hb.sms.len
 have hll:=hl.len
 refine au [4,5,21] ?_
 intro jb hjb
 refine au [2,3,4,5,2] ?_
 refine TK.virt 5 96 2 Z fun jr0 hjr0=>?_
 refine au [3,4,4,5,2,3,13] ?_
 refine TK.maskL [1,2,5,6] ?_
 refine TK.kp [(s,_),(j,_),(jr0,_),(jb,_)] ?_
 refine TK.loopN (fun n env K=>∃ (i jr:Nat),n=l.length - i/\i<=l.length/\env=.any::.sl j 0 l.length::.ptr jb 0::naL 2 (.row jr i::intA i::naL 37 [])/\K=[(s,zk b),(j,.cells (l.map intA) et false),(jr,.row (((List.range i).map (stripM b l)).flatMap pairC) 96 2),(jb,.cells (zE b s h e) 26 true)]) l.length ⟨0,jr0,rfl,mN _,rfl,rfl⟩ fun n env K hI hnext=>?_
 obtain ⟨i,jr,rfl,hi,rfl,rfl⟩:=hI
 have hfl:=yy pairC 2 (fun _=>rfl) ((List.range i).map (stripM b l))
 rw [lJ,List.length_range] at hfl
 refine TK.na nQ ?_
 refine au [4,4,5,1,1,28,6,3,20] ?_
 refine ⟨fun hc0=>?_,fun hc0=>?_⟩
 ·have hil:i<l.length:=by simp at hc0; omega
  have hmb:=xR hl hil
  refine au [12,4,13,4,5,8,1,1] ?_
  refine TK.cl Z Z Z Z (qm hT hb hl hil) ?_
  rintro r1 K2 ⟨jc,rfl,rfl⟩
  refine au [2,2,3,4,4,5,2,3,13] ?_
  refine TK.maskL [1,2,5,6,7,8,9] ?_
  refine TK.kp [(s,_),(j,_),(jr,_),(jb,_),(jc,_)] ?_
  refine TK.loopN (fun n env K=>∃ (t:Nat),n=(manyM b l i).toNat - t/\t<=(manyM b l i).toNat/\env=.any::.sl j 0 l.length::.ptr jb 0::naL 2 (.row jr i::intA i::.row jc (manyM b l i).toNat::intA (togM b [] (zN l i).toNat t)::intA t::naL 34 [])/\K=[(s,zk b),(j,.cells (l.map intA) et false),(jr,.row (((List.range i).map (stripM b l)).flatMap pairC) 96 2),(jb,.cells (zE b s h e) 26 true),(jc,.row ((clM b (zN l i).toNat (manyM b l i).toNat).map intA) 3 1)]) (manyM b l i).toNat ⟨0,rfl,mN _,rfl,rfl⟩ fun n env K hI2 hnext2=>?_
  obtain ⟨t,rfl,ht,rfl,rfl⟩:=hI2
  have htb:=qH hb (zN l i).toNat t
  have hml:((zN l i).toNat+t) % b.seams.length<b.seams.length:=Nat.mod_lt _ oQ
  have hwb:=hb.wide hml
  refine TK.na nQ ?_
  refine au [4,4,5,1,1,28,6,3,20] ?_
  refine ⟨fun hc1=>?_,fun hc1=>?_⟩
  ·have htl:t<(manyM b l i).toNat:=by simp at hc1; omega
   refine au [12,4,13] ?_
   refine TK.draw [0,1,2,3,4,5,6,7,8] [0,1,2,3,4,5,6,7,8] (by kernel_rfl) (by kernel_rfl) ?_
   refine TD.z [8] Z (zh Z Z) ?_
   refine TD.y [2] Z (hq:=z8 Z Z zi.h (mC _) Z) (h:=?_)
   refine TD.z [7] Z (zh Z Z) ?_
   refine TD.z [9] Z (zh Z Z) ?_
   refine TD.y [28,29] Z (hq:=kA Z Z Z zF.h (mC _) oQ oQ) (h:=?_)
   refine TD.y [30] Z (hq:=zm Z Z zi.h (mC _) (zag (i:=t) (jao htl) Z)) (h:=?_)
   refine TD.cl (pend':=[⟨4,[28,29],[(_,_)]⟩,⟨3,[9],[]⟩,⟨2,[7],[]⟩,⟨0,[8],[]⟩]) [27,31] Z Z Z Z Z (zfx hT (i:=((zN l i).toNat+t) % b.seams.length) hb.rnd hb.sms hml) (fun r4 K5 h6=>⟨?_,?_⟩)
   ·rcases h6 with ⟨rfl,rfl⟩
    all_goals simp
   obtain ⟨rfl,rfl⟩:=h6
   try simp only [cA]
   refine TD.norm tQ ?_
   refine TD.z [26,32] Z (q_add Z Z Z oQ) ?_
   refine TD.as (pend':=[]) [33] Z Z (zD Z Z) ?_
   refine TD.fin ?_
   refine au [14,5,1,23,2,3] ?_
   refine TK.maskL [1,2,5,6,7,8,9] ?_
   refine TK.kp [(s,_),(j,_),(jr,_),(jb,_),(jc,_)] ?_
   exact hnext2 _ _ _ oQ ⟨t+1,rfl,by omega,by rw [show togM b [] (zN l i).toNat t+wideM b (((zN l i).toNat+t) % b.seams.length)=togM b [] (zN l i).toNat (t+1) by show _=_+(wideM b _ - 0); omega]; rfl,rfl⟩
  obtain rfl:t=(manyM b l i).toNat:=by simp at hc1; omega
  refine au [16,5,1,1,1,36] ?_
  refine TK.a Z (zm Z Z zi.h mQ (yh (i:=i) (z5 hil) Z)) ?_
  refine au [1,39] ?_
  refine TK.newR Z Z Z (zt (l:=[_,_]) Z zF.h TyZ.h dQ dQ Z) (fun _=>zu rfl tQ) fun j7 hj7=>?_
  refine TK.appR Z Z Z (a_app Z ApOf.h Z mQ (by rw [hfl]) Z (yu (ln:=[_,_]) mQ dQ sQ Z) oQ Z (by unfold maxLen; omega) oQ) (fun _=>uQ) (fun _=>zu rfl tQ) fun jr2=>?_
  refine au [2,3,14,5,1,23,2,3] ?_
  refine TK.maskL [1,2,5,6] ?_
  refine TK.kp [(s,_),(j,_),(jr2,_),(jb,_)] ?_
  exact hnext _ _ _ oQ ⟨i+1,jr2,rfl,by omega,rfl,by rw [zbP]; unfold pairC; rw [jae hl hil]; rfl⟩
 obtain rfl:i=l.length:=by simp at hc0; omega
 refine au [16,4,5,1,2,3] ?_
 refine TK.rt hret [(jr,_),(s,_),(j,_)] ?_
 exact ⟨jr,rfl,rfl⟩
theorem qR {main T} (hT:zo tp main T) {gm} {b:RBk} {s h e j:Nat} {et:TypeId} {l:List Int} (hb:ROk b) (hl:CutsOk b l) :
  zA tp T gm 96 [.agg (zE b s h e),.sl j 0 l.length] [(s,zk b),(j,.cells (l.map intA) et false)] (fun r K'=>r=zP (fitsM b l)/\K'=[(s,zk b),(j,.cells (l.map intA) et false)]):=by
 refine zp 41 hT Tryz.func96 fun Y hret=>?_
 refine au [] ?_
 have hsl:=hb.sms.len
 have hll:=hl.len
 refine au [4,5,21] ?_
 intro jb hjb
 refine au [2,3,4,5,8,1] ?_
 refine TK.cl Z Z Z Z (qw hT hb hl) ?_
 rintro r1 K2 ⟨jr,rfl,rfl⟩
 refine au [2,3,4,4,5,1,28,7,9,6,3,20] ?_
 refine ⟨fun hc0=>?_,fun hc0=>?_⟩
 ·refine au [4,5,2,3] ?_
  refine TK.rt hret [(s,_),(j,_)] ?_
  exact ⟨by unfold fitsM; rw [decide_eq_false (by have:=of_decide_eq_true hc0; omega)]; rfl,rfl⟩
 have hle:(l.length:Int)<=b.rolls:=by have:=of_decide_eq_false hc0; omega
 refine au [12,4,4,5,2,3,13] ?_
 refine TK.maskL [2,5,6] ?_
 refine TK.kp [(s,_),(j,_),(jr,_),(jb,_)] ?_
 refine TK.loopN (fun n env K=>∃ (i:Nat),n=l.length - i/\i<=l.length/\(List.range i).all (fun k => !(cutS b l k).whole&&decide ((stripM b l k).2<=b.roll))=true/\env=naL 2 (.ptr jb 0::naL 2 (.row jr l.length::intA i::naL 34 []))/\K=[(s,zk b),(j,.cells (l.map intA) et false),(jr,.row ((stripsM b l).flatMap pairC) 96 2),(jb,.cells (zE b s h e) 26 true)]) l.length ⟨0,rfl,mN _,rfl,rfl,rfl⟩ fun n env K hI hnext=>?_
 obtain ⟨i,rfl,hi,hal,rfl,rfl⟩:=hI
 refine TK.na nQ ?_
 refine au [4,4,5,1,1,28,6,3,20] ?_
 refine ⟨fun hc1=>?_,fun hc1=>?_⟩
 ·have hil:i<l.length:=by simp at hc1; omega
  have hq:=hl.lt hil
  refine au [12,4,13,4] ?_
  have hs1:(stripM b l i).1=zN l i:=rfl
  refine TK.draw [0,1,2,3,4,5,6,7,8,9,10,11,12,13,14,15,16,17,18,19] [0,1,2,3,4,5,6,7,8,9,10,11,12,13,14,15,16,17,18,19] (by kernel_rfl) (by kernel_rfl) ?_
  refine TD.z [5] Z (zh Z Z) ?_
  refine TD.z [6] Z (zh Z Z) ?_
  refine TD.y [21,22] Z (hq:=kA Z Z Z zF.h (mC _) oQ oQ) (h:=?_)
  refine TD.z [23] Z (zg Z Z zl.h dQ) ?_
  refine TD.y [24] Z (hq:=zm Z Z zi.h (mC _) (ym (c:=1) (zbo (c:=2) (f:=pairC) (fun _=>rfl) (xN (b:=b) hil) rfl dQ) dQ rfl)) (h:=?_)
  refine TD.z [2] Z (zg Z Z zl.h dQ) ?_
  refine TD.y [26] Z (hq:=zm Z Z zi.h (mC _) Z) (h:=?_)
  refine TD.z [25,27] Z (q_cmp Z Z Z Z) ?_
  refine TD.z [28] Z (zh Z Z) ?_
  refine TD.sp 29 (fun g7_9=>?_) (fun g7_9=>?_)
  ·have hbad:¬ (stripM b l i).2<=b.roll\/(cutS b l i).whole=true:=.inl (by have:=of_decide_eq_true g7_9; omega)
   refine TD.u [2,29] Z ?_
   refine TD.u [29,30] Z ?_
   refine TD.u [5,29] Z ?_
   refine TD.u [6,29] Z ?_
   refine TD.u [29,32,33] Z ?_
   refine TD.u [29,34] Z ?_
   refine TD.u [29,35] Z ?_
   refine TD.u [29,31,36] Z ?_
   refine TD.u [29,37] Z ?_
   refine TD.u [29,38] Z ?_
   refine TD.z [29,39] Z (yE Z Z Z) ?_
   refine TD.fin ?_
   refine au [18,4,5,2,3] ?_
   refine TK.rt hret [(s,_),(j,_)] ?_
   exact ⟨by rw [qz hil hbad],rfl⟩
  refine TD.z [2,29] Z (zg Z Z zl.h dQ) ?_
  refine TD.y [29,30] Z (hq:=zm Z Z zi.h (mC _) Z) (h:=?_)
  refine TD.z [5,29] Z (zh Z Z) ?_
  refine TD.z [6,29] Z (zh Z Z) ?_
  refine TD.y [29,32,33] Z (hq:=kA Z Z Z zF.h (mC _) oQ oQ) (h:=?_)
  refine TD.z [29,34] Z (zg Z Z zl.h dQ) ?_
  refine TD.y [29,35] Z (hq:=zm Z Z zi.h (mC _) (ym (c:=0) (zbo (c:=2) (f:=pairC) (fun _=>rfl) (xN (b:=b) hil) rfl dQ) dQ rfl)) (h:=?_)
  refine TD.z [29,31,36] Z (zQ Z Z Z zF.h oQ oQ) ?_
  refine TD.z [29,37] Z (zg Z Z zl.h dQ) ?_
  refine TD.y [29,38] Z (hq:=zm Z Z zi.h (mC _) (ym (c:=4) (sm_at b (i:=(zN l i).toNat) hq.2.2 oQ) dQ Z)) (h:=?_)
  refine TD.z [29,39] Z (yf Z Z Z) ?_
  refine TD.fin ?_
  refine au [20] ?_
  refine ⟨fun hc2=>?_,fun hc2=>?_⟩
  ·have hbad:¬ (stripM b l i).2<=b.roll\/(cutS b l i).whole=true:=.inr hc2
   refine au [4,5,2,3] ?_
   refine TK.rt hret [(s,_),(j,_)] ?_
   exact ⟨by rw [qz hil hbad],rfl⟩
  have hok:(!(cutS b l i).whole&&decide ((stripM b l i).2<=b.roll))=true:=by have h1:=of_decide_eq_false g7_9; rw [show (cutS b l i).whole=false from hc2,decide_eq_true (show (stripM b l i).2<=b.roll by omega)]; rfl
  refine au [12,14,5,1,23,2,3] ?_
  refine TK.maskL [2,5,6] ?_
  refine TK.kp [(s,_),(j,_),(jr,_),(jb,_)] ?_
  exact hnext _ _ _ oQ ⟨i+1,rfl,by omega,by rw [List.range_succ,List.all_append,hal]; simp [hok],rfl,rfl⟩
 obtain rfl:i=l.length:=by simp at hc1; omega
 refine au [16,4,5,2,3] ?_
 refine TK.rt hret [(s,_),(j,_)] ?_
 exact ⟨by unfold fitsM; rw [decide_eq_true hle,hal]; rfl,rfl⟩
def u8A (x:Fin 256):AV:=.v (.int .u8 (x.1:Int))
def u8O (l:List (Fin 256)):AObj:=.cells (l.flatMap fun x=>[u8A x]) 5 false
def Feas (b:RBk) (l x:List Int):Prop:=x.length=l.length/\∀ i,0<=x.getD i 0/\(i<l.length->x.getD i 0<=(cutS b l i).most)
theorem qI {b:RBk} (hb:ROk b) {s:List Int} (hs:StOk b s):b.round - b.steps+sumF (fun i=>s.getD i 0) s.length=freshM b s:=by
 rw [qS hb hs,hs.len]
theorem jad {b:RBk} {s:List Int} (hs:StOk b s):∀ k,k<=s.length->0<=sumF (fun i=>s.getD i 0) k/\sumF (fun i=>s.getD i 0) k<=5*k
 | 0,_=>by show (0:Int)<=0/\(0:Int)<=_; omega
 | k+1,h=>by
  have h1:=jad hs k oQ
  have h2:=hs.bnd k (by rw [<- hs.len]; omega)
  show 0<=_+s.getD k 0/\_+s.getD k 0<=_
  omega
instance:Cal tp 74:={}
instance:zF tp 100 5 1:={}
instance:zi tp 5 false 1:={}
instance:Und tp 100 (.slice 5):={}
theorem jah {main T} (hT:zo tp main T) {gm} {b:RBk} {s h e j:Nat} {st:List Int} {et:TypeId} (hb:ROk b) (hs:StOk b st) :
  zA tp T gm 74 [.agg (zE b s h e),.sl j 0 st.length] [(j,.cells (st.map intA) et false)] (fun r K'=>r=intA (freshM b st)/\K'=[(j,.cells (st.map intA) et false)]):=by
 refine zp 25 hT Tryz.func74 fun Y hret=>?_
 refine au [] ?_
 have hsl:=hb.sms.len
 have hst:=hs.len
 have hrd:=hb.rnd.round
 have hrs:=hb.rnd.steps
 refine au [4,5,21] ?_
 intro jb hjb
 refine au [2,3,4,5,7,9,7,9,24,2,3,4,4,5,2,3,13] ?_
 refine TK.maskL [1,5,6] ?_
 refine TK.kp [(j,_)] ?_
 refine TK.loopN (fun n env K=>∃ (i:Nat),n=st.length - i/\i<=st.length/\env=.any::.sl j 0 st.length::naL 3 ((intA (b.round - b.steps+sumF (fun i=>st.getD i 0) i))::intA i::naL 18 [])/\K=[(j,.cells (st.map intA) et false)]) st.length ⟨0,rfl,mN _,by rw [show b.round - b.steps+sumF (fun i=>st.getD i 0) 0=b.round - b.steps from Int.add_zero _]; rfl,rfl⟩ fun n env K hI hnext=>?_
 obtain ⟨i,rfl,hi,rfl,rfl⟩:=hI
 have hsb:=jad hs i hi
 refine TK.na nQ ?_
 refine au [4,4,5,1,1,28,6,3,20] ?_
 refine ⟨fun hc0=>?_,fun hc0=>?_⟩
 ·have hil:i<st.length:=by simp at hc0; omega
  have hq:=hs.bnd i oQ
  have hq2:0<=zN st i/\zN st i<=5:=⟨hq.1,hq.2.1⟩
  refine au [12,4,13,5,1,1,1,36] ?_
  refine TK.a Z (zm Z Z zi.h mQ (yh (i:=i) (z5 hil) Z)) ?_
  refine au [23,2,3,14,5,1,23,2,3] ?_
  refine TK.maskL [1,5,6] ?_
  refine TK.kp [(j,_)] ?_
  exact hnext _ _ _ oQ ⟨i+1,rfl,by omega,by rw [show b.round - b.steps+sumF (fun i=>st.getD i 0) i+zN st i=b.round - b.steps+sumF (fun i=>st.getD i 0) (i+1) by rw [Int.add_assoc]; rfl]; rfl,rfl⟩
 obtain rfl:i=st.length:=by simp at hc0; omega
 refine au [16,4,5,1,2,3] ?_
 refine TK.rt hret [(j,_)] ?_
 exact ⟨by rw [qI hb hs] <;> rfl,rfl⟩
end Go.Vel
namespace Go.Vel
open Go Go.Conc
theorem jam {L:List Int} {k:Nat} (h:k<L.length) {v:Int} (hv:L.getD k 0=v):L.set k v=L:=by
 refine List.ext_getElem? fun i=>?_
 rw [lX]
 by_cases e:k=i
 ·rw [if_pos e,if_pos h,<- e,lA h]
  rw [lE,lA h] at hv
  exact congrArg some hv.symm
 ·rw [if_neg e]
theorem xo {b:RBk} {l:List Int}:∀ (o:List Int) (z:Alloc),z.left=0->(∀ k∈o,0<=(cutS b l k.toNat).most/\k.toNat<z.steps.length/\z.steps.getD k.toNat 0=0)->o.foldl (allocM b l) z=z
 | [],z,_,_=>rfl
 | k::o,z,h0,h=>by
  have hk:=h k sQ
  have e:allocM b l z k=z:=by
   obtain ⟨st,sq,lf⟩:=z
   have h0:lf=0:=h0
   subst h0
   show (⟨st.set k.toNat (min 0 _),sq+min 0 _*_,0 - min 0 _⟩:Alloc)=_
   rw [Int.min_eq_left hk.1,jam hk.2.1 hk.2.2,Int.zero_mul,Int.add_zero,Int.sub_zero]
  rw [List.foldl_cons,e]
  exact xo o z h0 fun x hx=>h x (by simp [hx])
theorem xV {b:RBk} {l:List Int} {p:Nat}:∀ (o:List Int) (z:Alloc),(∀ k∈o,k.toNat≠p/\k.toNat<z.steps.length)->(o.foldl (allocM b l) z).steps.getD p 0=z.steps.getD p 0
 | [],z,_=>rfl
 | k::o,z,h=>by
  have hk:=h k sQ
  rw [List.foldl_cons,xV o (allocM b l z k) (fun x hx=>⟨(h x (by simp [hx])).1,by show x.toNat<(z.steps.set _ _).length; rw [List.length_set]; exact (h x (by simp [hx])).2⟩)]
  show (z.steps.set k.toNat _).getD p 0=_
  rw [jK hk.2,if_neg (fun e=>hk.1 e.symm)]
def keyK (b:RBk) (l:List Int) (k:Int):Int:=(cutS b l k.toNat).busy*10 - k
def mostK (b:RBk) (l:List Int) (k:Int):Int:=(cutS b l k.toNat).most
def gO (b:RBk) (l:List Int) (o:List Int) (st:List Int) (sq u:Int):Alloc:=o.foldl (allocM b l) ⟨st,sq,u⟩
theorem x6 {b:RBk} {l:List Int}:∀ (o:List Int) (st:List Int) (sq u:Int),o.Nodup->(∀ k∈o,0<=k/\k.toNat<st.length/\st.getD k.toNat 0=0/\0<=mostK b l k)->(o.Pairwise fun a c=>keyK b l a<=keyK b l c)->0<=u ->
  (u<fS (mostK b l) o/\∃ k∈o,(gO b l o st sq u).steps.getD k.toNat 0<mostK b l k/\(gO b l o st sq (u+1)).steps=(gO b l o st sq u).steps.set k.toNat ((gO b l o st sq u).steps.getD k.toNat 0+1)/\(gO b l o st sq (u+1)).squares=(gO b l o st sq u).squares+(cutS b l k.toNat).busy/\∀ x∈o,(gO b l o st sq u).steps.getD x.toNat 0<mostK b l x->keyK b l k<=keyK b l x) \/
  (fS (mostK b l) o<=u/\∀ x∈o,(gO b l o st sq u).steps.getD x.toNat 0=mostK b l x)
 | [],st,sq,u,_,_,_,hu=>.inr ⟨hu,fun x hx=>by cases hx⟩
 | k::o,st,sq,u,hn,h,hp,hu=>by
  obtain ⟨n1,n2⟩:=List.nodup_cons.1 hn
  obtain ⟨p1,p2⟩:=List.pairwise_cons.1 hp
  have hk:=h k sQ
  have hne:∀ x∈o,x.toNat≠k.toNat:=fun x hx e=>n1 (by have h9:=h x (by simp [hx]); have h8:x=k:=oQ; exact h8 ▸ hx)
  have hcap:=fS_nn (f:=mostK b l) o (fun x hx=>(h x (by simp [hx])).2.2.2)
  have hnext:∀ (v lf:Int),(∀ x∈o,0<=x/\x.toNat<(st.set k.toNat v).length/\(st.set k.toNat v).getD x.toNat 0=0/\0<=mostK b l x):=fun v lf x hx=>by
   have hx':=h x (by simp [hx])
   rw [List.length_set,jK hk.2.1,if_neg (hne x hx)]
   exact hx'
  have hg:∀ w,gO b l (k::o) st sq w=gO b l o (st.set k.toNat (min w (mostK b l k))) (sq+min w (mostK b l k)*(cutS b l k.toNat).busy) (w - min w (mostK b l k)):=fun w=>rfl
  by_cases hc:u<mostK b l k
  ·left
   refine ⟨by show u<mostK b l k+_; omega,k,by simp,?_⟩
   rw [hg,hg,Int.min_eq_left (show u<=mostK b l k by omega),Int.min_eq_left (show u+1<=mostK b l k by omega),Int.sub_self,Int.sub_self]
   have e1:∀ v q,gO b l o (st.set k.toNat v) q 0=⟨st.set k.toNat v,q,0⟩:=fun v q=>xo o _ rfl fun x hx=>by
    have:=hnext v 0 x hx
    exact ⟨this.2.2.2,this.2.1,this.2.2.1⟩
   rw [e1,e1]
   dsimp only
   rw [jK hk.2.1,if_pos rfl,List.set_set]
   refine ⟨hc,rfl,by rw [Int.add_mul,Int.one_mul]; omega,fun x hx _=>?_⟩
   rcases lI.1 hx with rfl | hx
   ·exact Int.le_refl _
   ·exact p1 x hx
  ·rw [hg,hg,Int.min_eq_right (show mostK b l k<=u by omega),Int.min_eq_right (show mostK b l k<=u+1 by omega)]
   have hkeep:∀ q w,(gO b l o (st.set k.toNat (mostK b l k)) q w).steps.getD k.toNat 0=mostK b l k:=fun q w=>by
    unfold gO
    rw [xV o _ (fun x hx=>⟨hne x hx,(hnext _ 0 x hx).2.1⟩)]
    show (st.set _ _).getD _ 0=_
    rw [jK hk.2.1,if_pos rfl]
   rcases x6 o (st.set k.toNat (mostK b l k)) (sq+mostK b l k*(cutS b l k.toNat).busy) (u - mostK b l k) n2 (hnext _ 0) p2 oQ with ⟨h1,x,hx,h2,h3,h4,h5⟩ | ⟨h1,h2⟩
   ·left
    rw [show u - mostK b l k+1=u+1 - mostK b l k by omega] at h3 h4
    refine ⟨by show u<mostK b l k+_; omega,x,by simp [hx],h2,h3,h4,fun y hy hlt=>?_⟩
    rcases lI.1 hy with rfl | hy
    ·rw [hkeep] at hlt; omega
    ·exact h5 y hy hlt
   ·right
    refine ⟨by show mostK b l k+_<=u; omega,fun y hy=>?_⟩
    rcases lI.1 hy with rfl | hy
    ·exact hkeep _ _
    ·exact h2 y hy
def gA (b:RBk) (l:List Int) (u:Int):Alloc:=gO b l (ordM b l) (mB l.length 0) (spoilM b l l.length) u
theorem rep0 (n i:Nat):(mB n (0:Int)).getD i 0=0:=by
 rw [lE,List.getElem?_replicate]
 split <;> rfl
theorem jax {b:RBk} {l:List Int} (hl:l.length<=5):(ordM b l).Pairwise fun a c=>keyK b l a<=keyK b l c:=by
 unfold ordM sortR
 refine jT (K:=keyK b l) (fun x hx y hy=>?_) _ (mL _)
 have h1:=zbi hx
 have h2:=zbi hy
 unfold busyLt keyK
 rw [Bool.eq_iff_iff]
 simp only [Bool.or_eq_true,mX,decide_eq_true_eq]
 omega
theorem qY {b:RBk} {l:List Int} {i:Nat} (h:i<l.length):(i:Int)∈ordM b l:=by
 unfold ordM sortR
 have hp:=jP (lt:=busyLt b l) (l:=idxM l.length) (idxM l.length).length (mL _)
 rw [lW] at hp
 refine hp.symm.subset ?_
 unfold idxM
 exact lY.2 ⟨i,List.mem_range.2 h,rfl⟩
theorem xQ {b:RBk} (hb:ROk b) {l:List Int} (hl:CutsOk b l):gA b l 0=⟨mB l.length 0,spoilM b l l.length,0⟩:=xo _ _ rfl fun k hk=>by
 have:=zdO hk
 exact ⟨xw hb hl k hk,by show k.toNat<(mB _ _).length; rw [List.length_replicate]; omega,rep0 _ _⟩
theorem qT (b:RBk) (l:List Int) (u:Int):(gA b l u).steps.length=l.length:=by
 unfold gA gO
 rw [zbx]
 exact List.length_replicate
def bestI (b:RBk) (l x:List Int):Nat->Int
 | 0 => -1
 | i+1=>if x.getD i 0<(cutS b l i).most/\(bestI b l x i<0\/(cutS b l i).busy<=(cutS b l (bestI b l x i).toNat).busy) then i else bestI b l x i
theorem jV (b:RBk) (l x:List Int):∀ n,n<=10->(bestI b l x n = -1/\∀ j,j<n->¬ x.getD j 0<(cutS b l j).most)\/(0<=bestI b l x n/\bestI b l x n<n/\x.getD (bestI b l x n).toNat 0<(cutS b l (bestI b l x n).toNat).most/\∀ j,j<n->x.getD j 0<(cutS b l j).most->keyK b l (bestI b l x n)<=keyK b l j)
 | 0,_=>.inl ⟨rfl,fun j h=>by omega⟩
 | n+1,hn=>by
  have ih:=jV b l x n oQ
  unfold bestI
  by_cases hc:x.getD n 0<(cutS b l n).most/\(bestI b l x n<0\/(cutS b l n).busy<=(cutS b l (bestI b l x n).toNat).busy)
  ·rw [if_pos hc]
   right
   refine ⟨by omega,by omega,by rw [mZ]; exact hc.1,fun j hj hlt=>?_⟩
   by_cases e:j=n
   ·rw [e]; exact Int.le_refl _
   ·rcases ih with ⟨_,h2⟩ | ⟨h1,h2,_,h4⟩
    ·exact absurd hlt (h2 j oQ)
    ·have h5:=h4 j oQ hlt
     have h6:=hc.2.resolve_left oQ
     unfold keyK at h5 ⊢
     rw [mZ] at h5 ⊢
     rw [mZ]
     omega
  ·rw [if_neg hc]
   rcases ih with ⟨h1,h2⟩ | ⟨h1,h2,h3,h4⟩
   ·left
    refine ⟨h1,fun j hj hlt=>?_⟩
    by_cases e:j=n
    ·rw [e] at hlt; exact hc ⟨hlt,.inl oQ⟩
    ·exact h2 j oQ hlt
   ·right
    refine ⟨h1,by omega,h3,fun j hj hlt=>?_⟩
    by_cases e:j=n
    ·rw [e] at hlt ⊢
     have h6:¬ (cutS b l n).busy<=(cutS b l (bestI b l x n).toNat).busy:=fun hh=>hc ⟨hlt,.inr hh⟩
     unfold keyK
     rw [mZ]
     omega
    ·exact h4 j oQ hlt
theorem jas {b:RBk} (hb:ROk b) {l:List Int} (hl:CutsOk b l) {u:Int} (hu:0<=u):(u<mostS b l l.length/\0<=bestI b l (gA b l u).steps l.length/\bestI b l (gA b l u).steps l.length<l.length/\(gA b l (u+1)).steps=(gA b l u).steps.set (bestI b l (gA b l u).steps l.length).toNat ((gA b l u).steps.getD (bestI b l (gA b l u).steps l.length).toNat 0+1)/\(gA b l (u+1)).squares=(gA b l u).squares+(cutS b l (bestI b l (gA b l u).steps l.length).toNat).busy)\/(mostS b l l.length<=u/\bestI b l (gA b l u).steps l.length = -1):=by
 have hn5:l.length<=5:=by have:=hl.len; have:=hb.sms.len; omega
 have hfs:fS (mostK b l) (ordM b l)=mostS b l l.length:=by rw [xn]; rfl
 have hst:=x6 (b:=b) (l:=l) (ordM b l) (mB l.length 0) (spoilM b l l.length) u (xr b l) (fun k hk=>by
  have:=zdO hk
  exact ⟨this.1,by rw [List.length_replicate]; omega,rep0 _ _,xw hb hl k hk⟩) (jax hn5) hu
 rw [hfs] at hst
 have hbs:=jV b l (gA b l u).steps l.length oQ
 rcases hst with ⟨h1,k,hk,h2,h3,h4,h5⟩ | ⟨h1,h2⟩
 ·left
  have hkm:=zdO hk
  rcases hbs with ⟨_,g2⟩ | ⟨g1,g2,g3,g4⟩
  ·exact absurd h2 (g2 k.toNat oQ)
  ·have e1:=g4 k.toNat oQ h2
   have hin:bestI b l (gA b l u).steps l.length∈ordM b l:=by
    have:=qY (b:=b) (l:=l) (i:=(bestI b l (gA b l u).steps l.length).toNat) oQ
    rwa [show (((bestI b l (gA b l u).steps l.length).toNat:Nat):Int)=bestI b l (gA b l u).steps l.length by omega] at this
   have e2:=h5 _ hin g3
   have e:bestI b l (gA b l u).steps l.length=k:=by
    rw [show ((k.toNat:Nat):Int)=k by omega] at e1
    unfold keyK at e1 e2
    omega
   rw [e]
   exact ⟨h1,by omega,by omega,h3,h4⟩
 ·right
  refine ⟨h1,?_⟩
  rcases hbs with ⟨g1,_⟩ | ⟨g1,g2,g3,_⟩
  ·exact g1
  ·exfalso
   have hin:=qY (b:=b) (l:=l) (i:=(bestI b l (gA b l u).steps l.length).toNat) oQ
   have:=h2 _ hin
   rw [mZ] at this
   unfold mostK at this
   rw [mZ] at this
   have h6:(gA b l u).steps.getD (bestI b l (gA b l u).steps l.length).toNat 0=(cutS b l (bestI b l (gA b l u).steps l.length).toNat).most:=this
   omega
theorem qC {b:RBk} (hb:ROk b) {l s:List Int} (hl:CutsOk b l) (hs:StOk b s) (hf:fitsM b l=true):hangM b l s=if freshM b s<=mostS b l l.length then some ((gA b l (freshM b s)).steps,(gA b l (freshM b s)).squares) else none:=by
 have hfo:=xf hb hl hs
 rw [hf,Bool.true_and] at hfo
 by_cases h:freshM b s<=mostS b l l.length
 ·rw [if_pos h]
  rw [decide_eq_true h] at hfo
  unfold hangM at hfo ⊢
  rw [if_neg (by rw [hf]; decide)] at hfo ⊢
  dsimp only at hfo ⊢
  split at hfo
  ·cases hfo
  ·rename_i h2
   rw [if_neg h2]
   rfl
 ·rw [if_neg h]
  rw [decide_eq_false h] at hfo
  cases hz:hangM b l s with
  | none=>rfl
  | some z=>rw [hz] at hfo; cases hfo
end Go.Vel
namespace Go.Vel
open Go Go.Conc Go.Proofs
theorem qJ {b:RBk} {l s:List Int} (h:fitsM b l=false):hangM b l s=none:=by unfold hangM; rw [if_pos h]
theorem gA_nn {b:RBk} (hb:ROk b) {l:List Int} (hl:CutsOk b l) {u:Int} (hu:0<=u) (i:Nat):0<=(gA b l u).steps.getD i 0 :=
 (zb4 hb hl (ordM b l) ⟨mB l.length 0,spoilM b l l.length,u⟩ (fun k hk=>zdO hk) hu (fun k=>by
  show 0<=(mB l.length (0:Int)).getD k 0/\(mB l.length (0:Int)).getD k 0<=9
  rw [rep0]
  decide) i).1
instance:Cal tp 96:={}
theorem qV {main T} (hT:zo tp main T) {gm} {b:RBk} {s h e j j2:Nat} {l st:List Int} {et et2:TypeId} (hb:ROk b) (hl:CutsOk b l) (hs:StOk b st) :
  zA tp T gm 103 [.agg (zE b s h e),.sl j 0 l.length,.sl j2 0 st.length] [(s,zk b),(j,.cells (l.map intA) et false),(j2,.cells (st.map intA) et2 false)] (fun r K'=>(hangM b l st=none/\r=.tup [.v (.slice none 0 0),intA 0,zP false]/\K'=[(s,zk b),(j,.cells (l.map intA) et false),(j2,.cells (st.map intA) et2 false)])\/(∃ w q jw,hangM b l st=some (w,q)/\r=.tup [.sl jw 0 w.length,intA q,zP true]/\K'=(jw,.cells (w.map intA) 3 false)::[(s,zk b),(j,.cells (l.map intA) et false),(j2,.cells (st.map intA) et2 false)])):=by
 refine zp 108 hT Tryz.func103 fun Y hret=>?_
 refine au [] ?_
 have hsl:=hb.sms.len
 have hll:=hl.len
 have hlp:=hl.pos
 have hfb:=zcl hb hs
 refine au [4,5,21] ?_
 intro jb hjb
 refine au [2,2,2,3,4,4,5,8,1] ?_
 refine TK.cl Z Z Z Z (qR hT hb hl) ?_
 rintro r1 K2 ⟨rfl,rfl⟩
 refine au [30,3,20] ?_
 refine ⟨fun hc0=>?_,fun hc0=>?_⟩
 ·refine au [4,5,2,2,2,3] ?_
  refine TK.rt hret [(s,_),(j,_),(j2,_)] ?_
  exact .inl ⟨qJ (by simpa using hc0),rfl,rfl⟩
 have hfit:fitsM b l=true:=by simpa using hc0
 refine au [12,4,5,1,28] ?_
 refine TK.newS Z Z Z (zdM Z Z Z ApOf.h TyZ.h hlp oQ) (fun _=>zu rfl tQ) fun jw hjw=>?_
 refine au [2,2,3,4,4,5,2,3,13] ?_
 refine TK.maskL [1,2,3,9,10,11] ?_
 refine TK.kp [(jw,_),(s,_),(j,_),(j2,_),(jb,_)] ?_
 refine TK.loopN (fun n env K=>∃ (i:Nat),n=l.length - i/\i<=l.length/\env=.any::.sl j 0 l.length::.sl j2 0 st.length::.ptr jb 0::naL 5 (.sl jw 0 l.length::intA (spoilM b l i)::intA i::naL 96 [])/\K=[(jw,.cells ((mB l.length (0:Int)).map intA) 3 true),(s,zk b),(j,.cells (l.map intA) et false),(j2,.cells (st.map intA) et2 false),(jb,.cells (zE b s h e) 26 true)]) l.length ⟨0,rfl,mN _,rfl,rfl⟩ fun n env K hI hnext=>?_
 obtain ⟨i,rfl,hi,rfl,rfl⟩:=hI
 have hsb:=zaG hb hl i hi
 refine TK.na nQ ?_
 refine au [4,4,5,1,1,28,6,3,20] ?_
 refine ⟨fun hc1=>?_,fun hc1=>?_⟩
 ·have hil:i<l.length:=by simp at hc1; omega
  have hcu:=hl.lt hil
  have hf1:=hb.sms.fld _ hcu.2.2
  refine au [12,4,13] ?_
  refine TK.draw [0,1,2,3,4,5,6,7,8,9,10,11] [0,1,2,3,4,5,6,7,8,9,10,11] (by kernel_rfl) (by kernel_rfl) ?_
  refine TD.z [10] Z (zh Z Z) ?_
  refine TD.z [3] Z (zg Z Z zl.h dQ) ?_
  refine TD.y [30] Z (hq:=zm Z Z zi.h (mC _) Z) (h:=?_)
  refine TD.z [1] Z (zh Z Z) ?_
  refine TD.z [11] Z (zh Z Z) ?_
  refine TD.z [32,33] Z (zQ Z Z Z zF.h oQ oQ) ?_
  refine TD.y [34] Z (hq:=zm Z Z zi.h (mC _) (yh (i:=i) (z5 hil) Z)) (h:=?_)
  refine TD.z [31,35] Z (zQ Z Z Z zF.h oQ oQ) ?_
  refine TD.z [36] Z (zg Z Z zl.h dQ) ?_
  refine TD.y [37] Z (hq:=zm Z Z zi.h (mC _) (ym (c:=3) (sm_at b (i:=(zN l i).toNat) hcu.2.2 oQ) dQ Z)) (h:=?_)
  refine TD.z [29,38] Z (q_add Z Z Z oQ) ?_
  refine TD.as (pend':=[]) [39] Z Z (zD Z Z) ?_
  refine TD.fin ?_
  refine au [14,5,1,23,2,3] ?_
  refine TK.maskL [1,2,3,9,10,11] ?_
  refine TK.kp [(jw,_),(s,_),(j,_),(j2,_),(jb,_)] ?_
  exact hnext _ _ _ oQ ⟨i+1,rfl,by omega,rfl,rfl⟩
 obtain rfl:i=l.length:=by simp at hc1; omega
 refine au [16,4,4,5,8,1] ?_
 refine TK.cl Z Z Z Z (jah hT hb hs) ?_
 rintro r4 K5 ⟨rfl,rfl⟩
 refine au [2,3,13] ?_
 refine TK.maskL [1,3,9,10,12] ?_
 refine TK.kp [(jw,_),(s,_),(j,_),(j2,_),(jb,_)] ?_
 refine TK.loopN (fun n env K=>∃ (u:Int),n=(freshM b st - u).toNat/\0<=u/\u<=freshM b st/\(u=0\/u<=mostS b l l.length)/\(0<=(gA b l u).squares/\(gA b l u).squares<=45+9*u)/\env=.any::.sl j 0 l.length::.any::.ptr jb 0::naL 5 (.sl jw 0 l.length::intA (gA b l u).squares::.any::intA (freshM b st - u)::naL 95 [])/\K=[(jw,.cells ((gA b l u).steps.map intA) 3 true),(s,zk b),(j,.cells (l.map intA) et false),(j2,.cells (st.map intA) et2 false),(jb,.cells (zE b s h e) 26 true)]) (freshM b st).toNat ⟨0,by omega,Int.le_refl _,hfb.1,.inl rfl,by rw [xQ hb hl]; dsimp only; omega,by rw [xQ hb hl,Int.sub_zero]; rfl,by rw [xQ hb hl]⟩ fun n env K hI hnext=>?_
 obtain ⟨u,rfl,hu0,hu1,hum,hsq,rfl,rfl⟩:=hI
 have hgl:=qT b l u
 refine TK.na nQ ?_
 refine au [4,4,5,1,6,3,20] ?_
 refine ⟨fun hc2=>?_,fun hc2=>?_⟩
 ·have hlt:u<freshM b st:=by simp at hc2; omega
  refine au [12,4,13,4,5,2,3,4,4,5,2,3,13] ?_
  refine TK.maskL [1,3,9,10,12,13,14] ?_
  refine TK.loopN (fun n env K=>∃ (i:Nat),n=l.length - i/\i<=l.length/\env=.any::.sl j 0 l.length::.any::.ptr jb 0::naL 5 (.sl jw 0 l.length::intA (gA b l u).squares::.any::intA (freshM b st - u)::intA (bestI b l (gA b l u).steps i)::intA i::naL 93 [])/\K=[(jw,.cells ((gA b l u).steps.map intA) 3 true),(s,zk b),(j,.cells (l.map intA) et false),(j2,.cells (st.map intA) et2 false),(jb,.cells (zE b s h e) 26 true)]) l.length ⟨0,rfl,mN _,rfl,rfl⟩ fun n env K hI2 hnext2=>?_
  obtain ⟨i,rfl,hi,rfl,rfl⟩:=hI2
  have hbs:=jV b l (gA b l u).steps i oQ
  refine TK.na nQ ?_
  refine au [4,4,5,1,1,28,6,3,20] ?_
  refine ⟨fun hc3=>?_,fun hc3=>?_⟩
  ·have hil:i<l.length:=by simp at hc3; omega
   have hcu:=hl.lt hil
   have hf1:=hb.sms.fld _ hcu.2.2
   refine au [12,4,13,4] ?_
   refine TK.draw [0,1,2,3,4,5,6,7,8,9] [0,1,2,3,4,5,6,7,8,9] (by kernel_rfl) (by kernel_rfl) ?_
   refine TD.z [3] Z (zg Z Z zl.h dQ) ?_
   refine TD.y [53] Z (hq:=zm Z Z zi.h (mC _) Z) (h:=?_)
   refine TD.z [1] Z (zh Z Z) ?_
   refine TD.z [14] Z (zh Z Z) ?_
   refine TD.z [55,56] Z (zQ Z Z Z zF.h oQ oQ) ?_
   refine TD.y [57] Z (hq:=zm Z Z zi.h (mC _) (yh (i:=i) (z5 hil) Z)) (h:=?_)
   refine TD.z [54,58] Z (zQ Z Z Z zF.h oQ oQ) ?_
   refine TD.y [59] Z (hq:=z8 Z Z zi.h (mC _) (sm_at b (i:=(zN l i).toNat) hcu.2.2 oQ)) (h:=?_)
   refine TD.cnewP (pend':=[⟨7,[59],[(_,_)]⟩,⟨6,[54,58],[]⟩,⟨5,[57],[(_,_)]⟩,⟨4,[55,56],[]⟩,⟨3,[14],[]⟩,⟨2,[1],[]⟩,⟨1,[53],[(_,_)]⟩,⟨0,[3],[]⟩]) [] Z Z Z Z Z (yK Z TyZA.h) (fun _=>zu rfl tQ) sQ fun jm hjm=>?_
   refine TD.s (pend':=[]) [15,60] Z Z (zX Z Z zi.h Z Z mQ Z) ?_
   refine TD.fin ?_
   refine au [4] ?_
   refine TK.draw [0,1,2,3,4,5,6,7,8,9,10,11,12,13,14,15,16,17,18,19,20,21,22,23,24] [0,1,2,3,4,5,6,7,8,9,10,11,12,13,14,15,16,17,18,19,20,21,22,23,24] (by kernel_rfl) (by kernel_rfl) ?_
   refine TD.z [9] Z (zh Z Z) ?_
   refine TD.z [14] Z (zh Z Z) ?_
   refine TD.z [61,62] Z (zQ Z Z Z zF.h oQ oQ) ?_
   refine TD.y [63] Z (hq:=zm Z Z zi.h (mC _) (yh (i:=i) (z5 (l:=(gA b l u).steps) oQ) Z)) (h:=?_)
   refine TD.z [15] Z (zg Z Z zl.h dQ) ?_
   refine TD.y [65] Z (hq:=zm Z Z zi.h (mC _) Z) (h:=?_)
   refine TD.z [64,66] Z (q_cmp Z Z Z Z) ?_
   refine TD.z [67] Z (zh Z Z) ?_
   refine TD.sp 68 (fun g16_8=>?_) (fun g16_8=>?_)
   ·have h8:(gA b l u).steps.getD i 0<(cutS b l i).most:=of_decide_eq_true g16_8
    refine TD.z [13,68] Z (zh Z Z) ?_
    refine TD.z [68,69] Z (q_cmp Z Z Z Z) ?_
    refine TD.z [68,70] Z (zh Z Z) ?_
    refine TD.sp 71 (fun g16_11=>?_) (fun g16_11=>?_)
    ·have h11:bestI b l (gA b l u).steps i<0:=of_decide_eq_true g16_11
     refine TD.u [15,71] Z ?_
     refine TD.u [71,72] Z ?_
     refine TD.u [3,71] Z ?_
     refine TD.u [71,74] Z ?_
     refine TD.u [1,71] Z ?_
     refine TD.u [13,71] Z ?_
     refine TD.u [71,76,77] Z ?_
     refine TD.u [71,78] Z ?_
     refine TD.u [71,75,79] Z ?_
     refine TD.u [71,80] Z ?_
     refine TD.u [71,81] Z ?_
     refine TD.u [71,73,82] Z ?_
     refine TD.z [68,71,83] Z (yE Z Z Z) ?_
     refine TD.z [68,84] Z (yE Z Z Z) ?_
     refine TD.fin ?_
     refine au [18,5,1,2,3,14,5,1,23,2,3] ?_
     refine TK.maskL [1,3,9,10,12,13,14] ?_
     refine TK.kp [(jw,_),(s,_),(j,_),(j2,_),(jb,_)] ?_
     exact hnext2 _ _ _ oQ ⟨i+1,rfl,by omega,by rw [show bestI b l (gA b l u).steps (i+1)=(i:Int) from if_pos ⟨h8,.inl h11⟩]; rfl,rfl⟩
    have h11:¬ bestI b l (gA b l u).steps i<0:=of_decide_eq_false g16_11
    obtain ⟨bt,hbt⟩:∃ bt:Nat,bestI b l (gA b l u).steps i=(bt:Int):=⟨(bestI b l (gA b l u).steps i).toNat,by omega⟩
    have hbl:bt<l.length:=by omega
    have hcb:=hl.lt hbl
    rw [hbt]
    refine TD.z [15,71] Z (zg Z Z zl.h dQ) ?_
    refine TD.y [71,72] Z (hq:=zm Z Z zi.h (mC _) Z) (h:=?_)
    refine TD.z [3,71] Z (zg Z Z zl.h dQ) ?_
    refine TD.y [71,74] Z (hq:=zm Z Z zi.h (mC _) Z) (h:=?_)
    refine TD.z [1,71] Z (zh Z Z) ?_
    refine TD.z [13,71] Z (zh Z Z) ?_
    refine TD.z [71,76,77] Z (zQ Z Z Z zF.h oQ oQ) ?_
    refine TD.y [71,78] Z (hq:=zm Z Z zi.h (mC _) (yh (i:=bt) (z5 hbl) Z)) (h:=?_)
    refine TD.z [71,75,79] Z (zQ Z Z Z zF.h oQ oQ) ?_
    refine TD.z [71,80] Z (zg Z Z zl.h dQ) ?_
    refine TD.y [71,81] Z (hq:=zm Z Z zi.h (mC _) (ym (c:=2) (sm_at b (i:=(zN l bt).toNat) hcb.2.2 oQ) dQ Z)) (h:=?_)
    refine TD.z [71,73,82] Z (q_cmp Z Z Z Z) ?_
    refine TD.z [68,71,83] Z (yf Z Z Z) ?_
    refine TD.z [68,84] Z (yE Z Z Z) ?_
    refine TD.fin ?_
    refine au [20] ?_
    refine ⟨fun hc4=>?_,fun hc4=>?_⟩
    ·refine au [5,1,2,3,14,5,1,23,2,3] ?_
     refine TK.maskL [1,3,9,10,12,13,14] ?_
     refine TK.kp [(jw,_),(s,_),(j,_),(j2,_),(jb,_)] ?_
     exact hnext2 _ _ _ oQ ⟨i+1,rfl,by omega,by rw [show bestI b l (gA b l u).steps (i+1)=(i:Int) from if_pos ⟨h8,.inr (by rw [hbt,mZ]; exact of_decide_eq_true hc4)⟩]; rfl,rfl⟩
    have hno:bestI b l (gA b l u).steps (i+1)=bestI b l (gA b l u).steps i:=if_neg (fun hh=>by
     rcases hh.2 with h | h
     ·omega
     ·rw [hbt,mZ] at h
      exact absurd h (of_decide_eq_false hc4))
    refine au [12,14,5,1,23,2,3] ?_
    refine TK.maskL [1,3,9,10,12,13,14] ?_
    refine TK.kp [(jw,_),(s,_),(j,_),(j2,_),(jb,_)] ?_
    exact hnext2 _ _ _ oQ ⟨i+1,rfl,by omega,by rw [hno,hbt]; rfl,rfl⟩
   have h8:¬ (gA b l u).steps.getD i 0<(cutS b l i).most:=of_decide_eq_false g16_8
   refine TD.u [13,68] Z ?_
   refine TD.u [68,69] Z ?_
   refine TD.u [68,70] Z ?_
   refine TD.u [15,71] Z ?_
   refine TD.u [71,72] Z ?_
   refine TD.u [3,71] Z ?_
   refine TD.u [71,74] Z ?_
   refine TD.u [1,71] Z ?_
   refine TD.u [13,71] Z ?_
   refine TD.u [71,76,77] Z ?_
   refine TD.u [71,78] Z ?_
   refine TD.u [71,75,79] Z ?_
   refine TD.u [71,80] Z ?_
   refine TD.u [71,81] Z ?_
   refine TD.u [71,73,82] Z ?_
   refine TD.u [68,71,83] Z ?_
   refine TD.z [68,84] Z (yf Z Z Z) ?_
   refine TD.fin ?_
   refine au [19,12,14,5,1,23,2,3] ?_
   refine TK.maskL [1,3,9,10,12,13,14] ?_
   refine TK.kp [(jw,_),(s,_),(j,_),(j2,_),(jb,_)] ?_
   exact hnext2 _ _ _ oQ ⟨i+1,rfl,by omega,by rw [show bestI b l (gA b l u).steps (i+1)=(bestI b l (gA b l u).steps i) from if_neg (fun hh=>absurd hh.1 h8)]; rfl,rfl⟩
  obtain rfl:i=l.length:=by simp at hc3; omega
  have hgs:=jas hb hl hu0
  refine au [16,4,4,5,1,6,3,20] ?_
  refine ⟨fun hc5=>?_,fun hc5=>?_⟩
  ·have hneg:bestI b l (gA b l u).steps l.length<0:=of_decide_eq_true hc5
   have hmu:mostS b l l.length<=u:=by
    rcases hgs with ⟨_,h,_⟩ | ⟨h,_⟩
    ·omega
    ·exact h
   refine au [4,5,2,2,2,3] ?_
   refine TK.rt hret [(s,_),(j,_),(j2,_)] ?_
   exact .inl ⟨by rw [qC hb hl hs hfit,if_neg oQ],rfl,rfl⟩
  have hpos:¬ bestI b l (gA b l u).steps l.length<0:=of_decide_eq_false hc5
  obtain ⟨q1,q2,q2b,q3,q4⟩:=hgs.resolve_right (fun h=>hpos (by rw [h.2]; decide))
  obtain ⟨bt,hbt⟩:∃ bt:Nat,bestI b l (gA b l u).steps l.length=(bt:Int):=⟨(bestI b l (gA b l u).steps l.length).toNat,by omega⟩
  have hbl:bt<l.length:=by omega
  have hcb:=hl.lt hbl
  have hfb2:=hb.sms.fld _ hcb.2.2
  have hsp:=jV b l (gA b l u).steps l.length oQ
  have hstp:zN (gA b l u).steps bt<9:=by
   rcases hsp with ⟨h,_⟩ | ⟨_,_,h,_⟩
   ·omega
   ·rw [hbt,mZ] at h
    unfold cutS at h
    show (gA b l u).steps.getD bt 0<9
    omega
  have hbus:0<=(cutS b l (bestI b l (gA b l u).steps l.length).toNat).busy/\(cutS b l (bestI b l (gA b l u).steps l.length).toNat).busy<=9:=by rw [hbt,mZ]; unfold cutS; omega
  have hst0:0<=zN (gA b l u).steps bt:=gA_nn hb hl hu0 bt
  rw [hbt]
  refine au [12,4,5,1,1,36] ?_
  refine TK.a Z (zm Z Z zi.h mQ (yh (i:=bt) (z5 (l:=(gA b l u).steps) oQ) Z)) ?_
  refine au [23,36] ?_
  refine TK.st Z Z Z (zX Z Z zi.h Z Z mQ (vS (k:=bt) oQ Z)) uQ (putN Z) ?_
  refine au [3] ?_
  refine TK.draw [0,1,2,3,4,5,6,7,8,9,10,11] [0,1,2,3,4,5,6,7,8,9,10,11] (by kernel_rfl) (by kernel_rfl) ?_
  refine TD.z [10] Z (zh Z Z) ?_
  refine TD.z [3] Z (zg Z Z zl.h dQ) ?_
  refine TD.y [96] Z (hq:=zm Z Z zi.h (mC _) Z) (h:=?_)
  refine TD.z [1] Z (zh Z Z) ?_
  refine TD.z [13] Z (zh Z Z) ?_
  refine TD.z [98,99] Z (zQ Z Z Z zF.h oQ oQ) ?_
  refine TD.y [100] Z (hq:=zm Z Z zi.h (mC _) (yh (i:=bt) (z5 hbl) Z)) (h:=?_)
  refine TD.z [97,101] Z (zQ Z Z Z zF.h oQ oQ) ?_
  refine TD.z [102] Z (zg Z Z zl.h dQ) ?_
  refine TD.y [103] Z (hq:=zm Z Z zi.h (mC _) (ym (c:=2) (sm_at b (i:=(zN l bt).toNat) hcb.2.2 oQ) dQ Z)) (h:=?_)
  refine TD.z [95,104] Z (q_add Z Z Z oQ) ?_
  refine TD.as (pend':=[]) [105] Z Z (zD Z Z) ?_
  refine TD.fin ?_
  refine au [14,5,1,24,2,3] ?_
  refine TK.maskL [1,3,9,10,12] ?_
  refine TK.kp [(jw,_),(s,_),(j,_),(j2,_),(jb,_)] ?_
  exact hnext _ _ _ oQ ⟨u+1,rfl,by omega,by omega,.inr oQ,by rw [q4]; omega,by rw [q4,hbt,mZ,show freshM b st - u - 1=freshM b st - (u+1) by omega]; rfl,by rw [q3,hbt,mZ] <;> rfl⟩
 have hue:freshM b st=u:=by simp at hc2; omega
 have hm0:0<=mostS b l l.length:=fS_nn (f:=mostK b l) (ordM b l) (xw hb hl)|>fun h=>by rw [xn] at h; exact h
 refine au [16,4] ?_
 refine TK.frz (j:=jw) ?_
 rw [hue]
 refine au [5,1,1,2,2,2,3] ?_
 refine TK.rt hret [(jw,_),(s,_),(j,_),(j2,_)] ?_
 exact .inr ⟨(gA b l u).steps,(gA b l u).squares,jw,by rw [qC hb hl hs hfit,if_pos oQ,hue],by rw [qT] <;> rfl,rfl⟩
def posM (b:RBk) (l s w:List Int):Nat->Int
 | 0=>0
 | i+1=>atM b l s w i+togM b s (zN l i).toNat (manyM b l i).toNat
instance:Cal tp 102:={}
instance:Cal tp 103:={}
theorem or3l {x:Int} {A B C P:Prop} (h:(x≠0/\A)\/(x=0/\P/\B)\/(x=0/\C)) (hx:x≠0):A:=by
 rcases h with ⟨_,h⟩ | ⟨h,_⟩ | ⟨h,_⟩
 ·exact h
 ·exact absurd h hx
 ·exact absurd h hx
theorem TK.share {P:Program} {gm:Nat->Option Nat} {T:Goroutine->Hp->Prop} {Y:KX P gm T} {ds:List Nat} {k k':List Item} {env:List AV} {K:KV} {X:Type} {D:X->Prop} {E:X->List AV} {KK:X->KV} (main:(∀ x,D x->TK Y ds k' (E x) (KK x))->TK Y ds k env K) (tail:∀ x,D x->TK Y ds k' (E x) (KK x)):TK Y ds k env K:=main tail
theorem xt {main T} (hT:zo tp main T) {gm} {j j2:Nat} {xs ys:List Int} {e1 e2:TypeId} (hl:xs.length<=1000) :
  zA tp T gm 29 [.sl j 0 xs.length,.sl j2 0 ys.length] [(j,.cells (xs.map intA) e1 false),(j2,.cells (ys.map intA) e2 false)] (fun r K'=>r=zP (decide (xs=ys))/\K'=[(j,.cells (xs.map intA) e1 false),(j2,.cells (ys.map intA) e2 false)]):=by
 refine zp 26 hT Tryz.func29 fun Y hret=>?_
 refine au [4,5,2,3,4,4,5,1,28,1,28,6,3,20] ?_
 refine ⟨fun hc0=>?_,fun hc0=>?_⟩
 ·refine au [4,5,2,3] ?_
  refine TK.rt hret [(j,_),(j2,_)] ?_
  exact ⟨by rw [decide_eq_false (fun h=>by rw [h] at hc0; simp at hc0)],rfl⟩
 have hll:xs.length=ys.length:=by simp at hc0; omega
 refine au [12,4,4,5,2,3,13] ?_
 refine TK.maskL [0,1,4,5] ?_
 refine TK.loopN (fun n env K=>∃ (i:Nat),n=xs.length - i/\i<=xs.length/\xs.take i=ys.take i/\env=.sl j 0 xs.length::.sl j2 0 ys.length::naL 2 (zP false::intA i::naL 20 [])/\K=[(j,.cells (xs.map intA) e1 false),(j2,.cells (ys.map intA) e2 false)]) xs.length ⟨0,rfl,mN _,by simp,rfl,rfl⟩ fun n env K hI2 hnext=>?_
 obtain ⟨i,rfl,hi,hta,rfl,rfl⟩:=hI2
 refine TK.na nQ ?_
 refine au [4,4,5,1,1,28,6,3,20] ?_
 refine ⟨fun hc1=>?_,fun hc1=>?_⟩
 ·have hil:i<xs.length:=by simp at hc1; omega
  obtain ⟨x,hx⟩:∃ x,xs[i]? =some x:=⟨_,lA hil⟩
  obtain ⟨y,hy⟩:∃ y,ys[i]? =some y:=⟨_,lA oQ⟩
  refine au [12,4,13,4] ?_
  refine TK.draw [0,1,2,3,4,5,6,7,8] [0,1,2,3,4,5,6,7,8] (by kernel_rfl) (by kernel_rfl) ?_
  refine TD.z [0] Z (zh Z Z) ?_
  refine TD.z [5] Z (zh Z Z) ?_
  refine TD.z [17,18] Z (zQ Z Z Z zF.h oQ oQ) ?_
  refine TD.y [19] Z (hq:=zm Z Z zi.h (mC _) (yh hx Z)) (h:=?_)
  refine TD.z [1] Z (zh Z Z) ?_
  refine TD.z [5] Z (zh Z Z) ?_
  refine TD.z [21,22] Z (zQ Z Z Z zF.h oQ oQ) ?_
  refine TD.y [23] Z (hq:=zm Z Z zi.h (mC _) (yh hy Z)) (h:=?_)
  refine TD.z [20,24] Z (q_cmp Z Z Z Z) ?_
  refine TD.fin ?_
  refine au [20] ?_
  refine ⟨fun hc2=>?_,fun hc2=>?_⟩
  ·refine au [4,5,2,3] ?_
   refine TK.rt hret [(j,_),(j2,_)] ?_
   exact ⟨by rw [decide_eq_false (ne_at hx hy (fun h=>by rw [h] at hc2; simp at hc2))],rfl⟩
  refine au [12,14,5,1,23,2,3] ?_
  refine TK.maskL [0,1,4,5] ?_
  refine TK.kp [(j,_),(j2,_)] ?_
  exact hnext _ _ _ oQ ⟨i+1,rfl,by omega,uU hx hy hta (by simp at hc2; exact hc2),rfl,rfl⟩
 obtain rfl:i=xs.length:=by simp at hc1; omega
 refine au [16,4,5,2,3] ?_
 refine TK.rt hret [(j,_),(j2,_)] ?_
 exact ⟨by rw [decide_eq_true (zak hll hta)],rfl⟩
theorem jD {main T} (hT:zo tp main T) {gm}  :
  zA tp T gm 29 [.v (.slice none 0 0),.v (.slice none 0 0)] [] (fun r K'=>r=zP true/\K'=[]):=by
 refine zp 26 hT Tryz.func29 fun Y hret=>?_
 refine au [4,5,2,3,4,4,5,1,28,1,28,6,3,20] ?_
 refine ⟨fun hc0=>?_,fun hc0=>?_⟩
 ·exact absurd hc0 dQ
 refine au [12,4,4,5,2,3,13] ?_
 refine TK.maskL [0,1,4,5] ?_
 refine TK.loopN (fun n env K=>n=0/\env=.v (.slice none 0 0)::.v (.slice none 0 0)::naL 2 (zP false::intA 0::naL 20 [])/\K=[]) 0 ⟨rfl,rfl,rfl⟩ fun n env K hI hnext=>?_
 obtain ⟨rfl,rfl,rfl⟩:=hI
 refine TK.na nQ ?_
 refine au [4,4,5,1,1,28,6,3,20] ?_
 refine ⟨fun hc1=>?_,fun hc1=>?_⟩
 ·exact absurd hc1 dQ
 refine au [16,4,5,2,3] ?_
 refine TK.rt hret [] ?_
 exact ⟨rfl,rfl⟩
instance:Cal tp 21:={}
instance:Cal tp 23:={}
instance:Cal tp 28:={}
instance:Cal tp 31:={}
instance:ApOf tp 104 27 1 24:={}
instance:Cal tp 141:={}
instance:zF tp 104 27 1:={}
instance:TyZ tp 27 [.slice none 0 0]:={}
instance:Und tp 104 (.slice 27):={}
end Go.Vel
namespace Go.Vel
open Go Go.Conc
theorem xA:∀ (m:Nat) (l:List Int),l.Pairwise (· < ·)->(∀ x∈l,0<=x/\x<m)->∃ d,d<2 ^ m/\l=zw d m
 | 0,l,_,h=>⟨0,by decide,by
  cases l with
  | nil=>rfl
  | cons x r=>have:=h x sQ; omega⟩
 | m+1,l,hp,h=>by
  by_cases hm:(m:Int)∈l
  ·obtain ⟨l1,l2,rfl⟩:=List.append_of_mem hm
   obtain ⟨p1,p2,p3⟩:=List.pairwise_append.1 hp
   have e2:l2=[]:=by
    cases l2 with
    | nil=>rfl
    | cons y r =>
     have h1:=(List.pairwise_cons.1 p2).1 y sQ
     have h2:=h y sQ
     omega
   subst e2
   obtain ⟨d,hd,rfl⟩:=xA m l1 p1 (fun x hx=>⟨(h x (by simp [hx])).1,p3 x hx m sQ⟩)
   refine ⟨d+2 ^ m,by rw [Nat.pow_succ]; omega,?_⟩
   show _=zw (d+2 ^ m) m++_
   rw [<- x9 (d+2 ^ m) m m (mL _),Nat.add_mod_right,Nat.mod_eq_of_lt hd,Nat.add_div_right _ (Nat.two_pow_pos _),Nat.div_eq_of_lt hd]
   rfl
  ·obtain ⟨d,hd,rfl⟩:=xA m l hp (fun x hx=>⟨(h x hx).1,by
    have h1:=h x hx
    have h2:x≠m:=fun e=>hm (e ▸ hx)
    omega⟩)
   refine ⟨d,by rw [Nat.pow_succ]; omega,?_⟩
   show _=zw d m++_
   rw [Nat.div_eq_of_lt hd]
   simp
end Go.Vel
namespace Go.Vel
open Go Go.Conc Go.Proofs
def shortB (most:Int) (l:List Int):Bool:=decide ((l.length:Int)<most)
def moreM (most n:Int) (A:List (List Int)):List (List Int):=(A.filter (shortB most)).map (· ++ [n])
def setsM (most:Int):Nat->List (List Int)
 | 0=>[[]]
 | n+1=>setsM most n++moreM most n (setsM most n).reverse
theorem xX (most n:Int) (A B:List (List Int)):moreM most n (A++B)=moreM most n A++moreM most n B:=by simp [moreM]
theorem jaw {most n:Int} {l:List Int} (h:shortB most l=true):moreM most n [l]=[l++[n]]:=by simp [moreM,h]
theorem jav {most n:Int} {l:List Int} (h:shortB most l=false):moreM most n [l]=[]:=by simp [moreM,h]
theorem xY (most n:Int) (A:List (List Int)):(moreM most n A).length<=A.length:=by
 unfold moreM; rw [lJ]; exact List.length_filter_le _ _
theorem jW (most:Int):∀ n,(setsM most n).length<=2 ^ n
 | 0=>mL _
 | n+1=>by
  have h1:=jW most n
  have h2:=xY most n (setsM most n).reverse
  rw [List.length_reverse] at h2
  show (setsM most n++_).length<=_
  rw [lF,Nat.pow_succ]
  omega
theorem jM {most:Int} (hm:0<=most):∀ n,∀ l∈setsM most n,(l.length:Int)<=most
 | 0,l,hl=>by rw [lS.1 hl]; simpa using hm
 | n+1,l,hl=>by
  rcases lT.1 hl with hl | hl
  ·exact jM hm n l hl
  ·obtain ⟨x,hx,rfl⟩:=lY.1 hl
   have:=of_decide_eq_true (List.mem_filter.1 hx).2
   simp; omega
theorem jX {most:Int}:∀ n,∀ l∈setsM most n,∀ x∈l,0<=x/\x<n
 | 0,l,hl,x,hx=>by rw [lS.1 hl] at hx; cases hx
 | n+1,l,hl,x,hx=>by
  rcases lT.1 hl with hl | hl
  ·have:=jX n l hl x hx; omega
  ·obtain ⟨y,hy,rfl⟩:=lY.1 hl
   rcases lT.1 hx with hx | hx
   ·have:=jX n y (List.mem_reverse.1 (List.mem_filter.1 hy).1) x hx; omega
   ·rw [lS.1 hx]; omega
theorem xu {most:Int}:∀ n,∀ l∈setsM most n,l.Pairwise (· < ·)
 | 0,l,hl=>by rw [lS.1 hl]; exact .nil
 | n+1,l,hl=>by
  rcases lT.1 hl with hl | hl
  ·exact xu n l hl
  ·obtain ⟨y,hy,rfl⟩:=lY.1 hl
   have hy':=List.mem_reverse.1 (List.mem_filter.1 hy).1
   refine List.pairwise_append.2 ⟨xu n y hy',by simp,fun a ha c hc=>?_⟩
   rw [lS.1 hc]
   exact (jX n y hy' a ha).2
theorem xg {most:Int}:∀ (n:Nat) (l:List Int),l.Pairwise (· < ·)->(∀ x∈l,0<=x/\x<n)->(l.length:Int)<=most->l∈setsM most n
 | 0,l,_,hr,_=>by
  cases l with
  | nil=>exact lS.2 rfl
  | cons x l=>have:=hr x sQ; omega
 | n+1,l,hp,hr,hl=>by
  rcases List.eq_nil_or_concat l with rfl | ⟨y,a,rfl⟩
  ·exact lT.2 (.inl (xg n [] .nil (fun x hx=>by cases hx) hl))
  ·rw [List.concat_eq_append] at hp hr hl ⊢
   have hp2:=List.pairwise_append.1 hp
   have ha:=hr a sQ
   have hlt:∀ x∈y,x<a:=fun x hx=>hp2.2.2 x hx a sQ
   by_cases e:a=n
   ·subst e
    refine lT.2 (.inr (lY.2 ⟨y,List.mem_filter.2 ⟨List.mem_reverse.2 (xg n y hp2.1 (fun x hx=>?_) ?_),?_⟩,rfl⟩))
    ·have:=hlt x hx; have:=hr x (by simp [hx]); omega
    ·simp at hl; omega
    ·unfold shortB; simp at hl ⊢; omega
   ·refine lT.2 (.inl (xg n _ hp (fun x hx=>?_) hl))
    have h1:=hr x hx
    rcases lT.1 hx with hx | hx
    ·have:=hlt x hx; omega
    ·rw [lS.1 hx] at h1 ⊢; omega
theorem xO {α:Type} (A:List α) {q:Nat} (h:q<A.length):A.reverse.take (q+1)=A.reverse.take q++[A[A.length - 1 - q]]:=by
 rw [List.take_add_one,lA (by simpa using h),List.getElem_reverse]; rfl
theorem qr {P:List (Nat×List Int)} {A B:List (List Int)} (h:P.map (·.2)=A++B) {k:Nat} (hk:k<A.length) (hk2:k<P.length):P[k].2=A[k]:=by
 have h1:(P.map (·.2))[k]? =some P[k].2:=by simp [hk2]
 rw [h,lG hk,lA hk] at h1
 exact (Option.some.inj h1).symm
theorem xE {n:Nat} (h:n<=5):2 ^ n<=32:=mT (Nat.pow_le_pow_right dQ h) dQ
theorem jaf (c n:Nat):zw c n∈setsM (n:Int) n:=xg n _ (zca _) (zau _) (by have:=wC c n; omega)
theorem jal {n:Nat} {l:List Int} (h:l∈setsM (n:Int) n):∃ d,d<2 ^ n/\l=zw d n:=xA n l (xu n l h) (jX n l h)
theorem qG {main T} (hT:zo tp main T) {gm} {below most:Int} (hb:0<=below/\below<=5) (hm:0<=most/\most<=5) :
  zA tp T gm 111 [intA below,intA most] [] (fun r K'=>∃ (j:Nat) (P:List (Nat×List Int)),r=.row j P.length/\P.map (·.2)=setsM most below.toNat/\K'=(j,.row (refsL P) 27 1)::ji P):=by
 refine zp 41 hT Tryz.func111 fun Y hret=>?_
 refine au [4,5,2,3,4,5] ?_
 refine TK.newR Z Z Z (zt (l:=[_]) Z zF.h TyZ.h dQ dQ Z) (fun _=>zu rfl tQ) fun j0 hj0=>?_
 refine au [2] ?_
 refine TK.nilRow (e:=3) (fun _=>uQ) fun je hje=>?_
 refine au [3,4,4,5,2,3,13] ?_
 refine TK.maskL [0,1,5,6] ?_
 refine TK.kp [(j0,_),(je,_)] ?_
 refine TK.loopN (fun n env K=>∃ (i j:Nat) (P:List (Nat×List Int)),n=below.toNat - i/\(i:Int)<=below/\P.map (·.2)=setsM most i/\env=intA below::intA most::naL 3 (.row j P.length::intA i::naL 34 [])/\K=(j,.row (refsL P) 27 1)::ji P) below.toNat ⟨0,j0,[(je,[])],rfl,hb.1,rfl,rfl,rfl⟩ fun n env K hI hnext=>?_
 obtain ⟨i,j,P,rfl,hi,hP,rfl,rfl⟩:=hI
 have hPl:P.length<=32:=by have:=jW most i; rw [<- hP,lJ] at this; exact mT this (xE oQ)
 refine TK.na nQ ?_
 refine au [4,4,5,1,1,6,3,20] ?_
 refine ⟨fun hc0=>?_,fun hc0=>?_⟩
 ·simp only [decide_eq_true_eq] at hc0
  refine au [12,4,13,4,5,1,28,24,2,3,13] ?_
  refine TK.maskL [0,1,5,6,7] ?_
  refine TK.loopN (fun n env K=>∃ (q j2:Nat) (P2:List (Nat×List Int)),n=P.length - q/\q<=P.length/\P2.map (·.2)=setsM most i++moreM most i ((setsM most i).reverse.take q)/\env=intA below::intA most::naL 3 (.row j2 P2.length::intA i::intA ((P.length:Int) - 1 - q)::naL 33 [])/\K=(j2,.row (refsL P2) 27 1)::ji P2) P.length ⟨0,j,P,rfl,mN _,by rw [hP,List.take_zero]; exact (lR _).symm,by rw [Int.natCast_zero,Int.sub_zero]; rfl,rfl⟩ fun n env K hI2 hnext2=>?_
  obtain ⟨q,j2,P2,rfl,hq,hP2,rfl,rfl⟩:=hI2
  have hsl:(setsM most i).length=P.length:=by rw [<- hP,lJ]
  have hPP:P.length<=P2.length:=by have:=congrArg List.length hP2; rw [lJ,lF,hsl] at this; omega
  have hPl2:P2.length<=64:=by
   have h1:=congrArg List.length hP2
   have h2:=xY most i ((setsM most i).reverse.take q)
   rw [List.length_take] at h2
   rw [lJ,lF,hsl] at h1
   omega
  refine TK.na nQ ?_
  refine au [4,4,5,1,6,3,20] ?_
  refine ⟨fun hc1=>?_,fun hc1=>?_⟩
  ·simp only [decide_eq_true_eq] at hc1
   have hql:q<P.length:=by omega
   obtain ⟨k0,hk0⟩:∃ k0,k0=(setsM most i).length - 1 - q:=⟨_,rfl⟩
   have hkl:k0<P2.length:=by omega
   have hkn:(P.length:Int) - 1 - q=(k0:Int):=by omega
   have hx2:P2[k0].2=(setsM most i)[(setsM most i).length - 1 - q]:=by rw [qr hP2 oQ hkl]; congr 1
   have hx5:P2[k0].2.length<=5:=by have:=jM hm.1 i P2[k0].2 (by rw [hx2]; exact List.getElem_mem _); omega
   have hmx:=jE (List.getElem_mem hkl)
   refine au [12,4,13,4,5,1,1,37] ?_
   refine TK.a Z (zm Z Z zi.h mQ (jQ hkl hkn)) ?_
   refine au [28,1,6,3,20] ?_
   refine ⟨fun hc2=>?_,fun hc2=>?_⟩
   ·simp only [decide_eq_true_eq] at hc2
    refine au [5,1] ?_
    refine TK.newR Z Z Z (zt (l:=[]) Z zF.h TyZ.h dQ dQ Z) (fun _=>zu rfl tQ) fun j9 hj9=>?_
    refine au [1,1,37] ?_
    refine TK.a Z (zm Z Z zi.h mQ (jQ hkl hkn)) ?_
    refine TK.appG (ln:=P2[k0].2.map intA) Z Z Z ApOf.h Z mQ Z Z Z (fun hp=>vu mQ oQ (wl (n:=P2[k0].2.length) (size:=1) sQ oQ)) (fun h=>by simp [lK h]) (ints1 _) (by unfold maxLen; omega) oQ (fun _=>uQ) (fun _=>zu rfl tQ) fun j6=>?_
    simp only [lC,mO]
    refine au [1] ?_
    refine TK.newR Z Z Z (zt (l:=[_]) Z zF.h TyZ.h dQ dQ Z) (fun _=>zu rfl tQ) fun j1 hj1=>?_
    refine TK.appR Z Z Z (a_app Z ApOf.h Z mQ sQ Z (yu (ln:=[_]) mQ dQ sQ Z) oQ Z (by unfold maxLen; omega) oQ) (fun _=>uQ) (fun _=>zu rfl tQ) fun j3=>?_
    refine TK.asSl 37 Z mQ ?_
    refine TK.frzRow (j:=j3) ?_
    refine au [] ?_
    refine TK.newR Z Z Z (zt (l:=[_]) Z zF.h TyZ.h dQ dQ Z) (fun _=>zu rfl tQ) fun j2 hj2=>?_
    refine TK.appR Z Z Z (a_app Z ApOf.h Z mQ (by simp [refsL]) Z (yu (ln:=[_]) mQ dQ sQ Z) oQ Z (by unfold maxLen; omega) oQ) (fun _=>uQ) (fun _=>zu rfl tQ) fun j4=>?_
    refine au [2,3,14,5,1,24,2,3] ?_
    refine TK.maskL [0,1,5,6,7] ?_
    refine TK.kp (((j4,_)::(j3,_)::ji P2)) ?_
    refine TK.perm (K':=(j4,.row (refsL P2++[.sl j3 0 (P2[k0].2.length+1)]) 27 1)::(ji P2++[(j3,.cells (P2[k0].2.map intA++[intA (i:Int)]) 3 false)])) (List.Perm.cons _ (List.perm_append_singleton (j3,_) (ji P2)).symm) ?_
    exact hnext2 _ _ _ oQ ⟨q+1,j4,P2++[(j3,P2[k0].2++[(i:Int)])],rfl,by omega,by rw [xO _ oQ,xX,lM,hP2,List.append_assoc,jaw (by rw [<- hx2]; exact decide_eq_true hc2),hx2]; rfl,by rw [lF,show ((P.length:Int) - 1 - (q+1:Nat))=(P.length:Int) - 1 - q - 1 by omega]; rfl,by simp [refsL,ji]⟩
   simp only [decide_eq_false_iff_not] at hc2
   refine au [12,14,5,1,24,2,3] ?_
   refine TK.maskL [0,1,5,6,7] ?_
   refine TK.kp (((j2,_)::ji P2)) ?_
   exact hnext2 _ _ _ oQ ⟨q+1,j2,P2,rfl,by omega,by rw [xO _ oQ,xX,hP2,jav (by rw [<- hx2]; exact decide_eq_false hc2),lR],by rw [show ((P.length:Int) - 1 - (q+1:Nat))=(P.length:Int) - 1 - q - 1 by omega]; rfl,rfl⟩
  simp only [decide_eq_false_iff_not] at hc1
  obtain rfl:q=P.length:=by omega
  have hP2:P2.map (·.2)=setsM most (i+1):=by rw [hP2,<- hsl,<- List.length_reverse,lW]; rfl
  refine au [16,14,5,1,23,2,3] ?_
  refine TK.maskL [0,1,5,6] ?_
  refine TK.kp (((j2,_)::ji P2)) ?_
  exact hnext _ _ _ oQ ⟨i+1,j2,P2,rfl,by omega,hP2,rfl,rfl⟩
 simp only [decide_eq_false_iff_not] at hc0
 obtain rfl:(i:Int)=below:=by omega
 rw [mZ] at *
 refine au [16,4,5,1,2,3] ?_
 refine TK.rt hret (((j,_)::ji P)) ?_
 exact ⟨_,_,rfl,hP,rfl⟩
section
variable {P:Program} {T:Goroutine->Hp->Prop} {gm:Nat->Option Nat} {K:KV}
theorem zA.fr {g:FuncId} {args:List AV} {Kb R:KV} {Post Post':AV->KV->Prop} (h:zA P T gm g args K Post) (hp:Kb.Perm (K++R)) (hq:∀ r K',Post r K'->∃ K2,(K'++R).Perm K2/\Post' r K2):zA P T gm g args Kb Post':=by
 intro A hv hn
 have hv2:zM (K++R) A:=hv.sub fun x hx=>hp.symm.subset hx
 have hn2:=(zT hp).nodup_iff.1 hn
 have hn3:=hn2
 rw [ya] at hn3
 refine (h A (hv2.sub fun x hx=>lV _ hx) (List.nodup_append.1 hn3).1).mono ?_
 rintro r A' ⟨K',hk,hp'⟩
 obtain ⟨K2,h1,h2⟩:=hq r K' hp'
 exact ⟨K2,((hk.frame (jU K R) hv2 hn2).permR h1).permL hp.symm,h2⟩
end
def sN (S:List (Nat×List Int)) (k:Nat):Nat×List Int:=S.getD k (0,[])
theorem xd {S:List (Nat×List Int)} {k:Nat} (h:k<S.length):S[k]? =some (sN S k):=by
 unfold sN
 rw [lE,lA h]; rfl
theorem jS {S:List (Nat×List Int)} {k:Nat} (h:k<S.length):sN S k∈S:=lN (xd h)
theorem jA {S:List (Nat×List Int)} {k:Nat} {n:Int} (hk:k<S.length) (h:n=(k:Int)) {e:TypeId} {sz:Nat}:takeO (.row (refsL S) e sz) (n.toNat*1) 1=some [.sl (sN S k).1 0 (sN S k).2.length]:=by
 have h1:=jQ (P:=S) hk h (e:=e) (sz:=sz)
 have h2:=xd hk
 rw [lA hk] at h2
 rwa [Option.some.inj h2] at h1
def sqW (b:RBk) (all:List (List Int)) (l:List Int) (i:Nat):Int×Int:=spreadM ((waysM b (all.take i) l).map (·.2))
theorem jac {x:List Int} (h:x≠[]) (q:Int):spreadM (x++[q])=(min (spreadM x).1 q,max (spreadM x).2 q):=by
 cases x with
 | nil=>exact absurd rfl h
 | cons a r=>simp [spreadM,List.foldl_append]
theorem jY {b:RBk} {all:List (List Int)} {l st w:List Int} {q:Int} {i:Nat} (hi:all[i]? =some st) (hh:hangM b l st=some (w,q)):waysM b (all.take (i+1)) l=waysM b (all.take i) l++[(w,q)]:=by
 unfold waysM
 rw [yP hi,List.filterMap_append,List.filterMap_cons_some hh]
 rfl
theorem sqW_0 {b:RBk} {all:List (List Int)} {l st w:List Int} {q:Int} (hi:all[0]? =some st) (hh:hangM b l st=some (w,q)):sqW b all l 1=(q,q):=by
 unfold sqW
 rw [jY hi hh]
 rfl
theorem sqW_S {b:RBk} {all:List (List Int)} {l st w:List Int} {q:Int} {i:Nat} (hi:all[i]? =some st) (hh:hangM b l st=some (w,q)) (hl:(waysM b (all.take i) l).length=i) (h0:i≠0):sqW b all l (i+1)=(min (sqW b all l i).1 q,max (sqW b all l i).2 q):=by
 unfold sqW
 rw [jY hi hh,lM]
 refine jac (fun h=>?_) q
 have:=congrArg List.length h
 rw [lJ,hl] at this
 exact h0 this
theorem qg {b:RBk} {all:List (List Int)} {l:List Int} (hl:(waysM b (all.take all.length) l).length=all.length):sqOk b all l=true/\sqLo b all l=(sqW b all l all.length).1/\sqHi b all l=(sqW b all l all.length).2:=by
 unfold sqOk sqLo sqHi sqW squaresM
 rw [lW] at hl ⊢
 rw [if_neg oQ]
 exact ⟨rfl,rfl,rfl⟩
theorem qh {b:RBk} {all:List (List Int)} {l st:List Int} {i:Nat} (hi:all[i]? =some st) (hh:hangM b l st=none):sqOk b all l=false/\sqLo b all l=0/\sqHi b all l=0:=by
 have h1:sqOk b all l=false:=by
  cases h:sqOk b all l with
  | false=>rfl
  | true=>have:=(xi b all l).1 h st (lN hi); rw [hh] at this; cases this
 refine ⟨h1,?_⟩
 unfold sqOk at h1
 unfold sqLo sqHi
 cases h:squaresM b all l with
 | none=>exact ⟨rfl,rfl⟩
 | some z=>rw [h] at h1; cases h1
theorem jat {main T} (hT:zo tp main T) {gm} {b:RBk} {s h e j:Nat} {l:List Int} {et:TypeId} {P:List (Nat×List Int)} {x:Nat×List Int} (hb:ROk b) (hl:CutsOk b l) (hs:StOk b x.2) (hx:x∈P):zA tp T gm 103 [.agg (zE b s h e),.sl j 0 l.length,.sl x.1 0 x.2.length] ((s,zk b)::(j,.cells (l.map intA) et false)::ji P) (fun r K'=>(hangM b l x.2=none/\r=.tup [.v (.slice none 0 0),intA 0,zP false]/\K'=(s,zk b)::(j,.cells (l.map intA) et false)::ji P)\/(∃ w q jw,hangM b l x.2=some (w,q)/\r=.tup [.sl jw 0 w.length,intA q,zP true]/\K'=(jw,.cells (w.map intA) 3 false)::(s,zk b)::(j,.cells (l.map intA) et false)::ji P)):=by
 obtain ⟨R,hR⟩:=jG (jE hx)
 refine (qV hT hb hl hs).fr (R:=R) (List.Perm.cons _ (List.Perm.cons _ hR.perm)) ?_
 rintro r K' (⟨h1,rfl,rfl⟩ | ⟨w,q,jw,h1,rfl,rfl⟩)
 ·exact ⟨_,(List.Perm.cons _ (List.Perm.cons _ hR.perm)).symm,.inl ⟨h1,rfl,rfl⟩⟩
 ·exact ⟨_,(List.Perm.cons _ (List.Perm.cons _ (List.Perm.cons _ hR.perm))).symm,.inr ⟨w,q,jw,h1,rfl,rfl⟩⟩
instance:Cal tp 77:={}
theorem xD {main T} (hT:zo tp main T) {gm} {b:RBk} {s h e:Nat} (hl:b.seams.length<=100) (hm:b.measures.length<=100) :
  zA tp T gm 110 [.agg (zE b s h e),intA 0] [(s,zk b),(h,zB b),(e,zq b)] (fun r K'=>(zr b≠0/\r=.tup [.v (.slice none 0 0),intA (zr b)]/\K'=[(s,zk b),(h,zB b),(e,zq b)])\/(zr b=0/\zf b=[]/\r=.tup [.v (.slice none 0 0),intA 9]/\K'=[(s,zk b),(h,zB b),(e,zq b)])\/(zr b=0/\zf b≠[]/\∃ (jr:Nat) (Q P:List (Nat×List Int)),(∀ x∈Q,x∈P)/\Q.map (·.2)=zf b/\r=.tup [.row jr Q.length,intA 0]/\K'=(jr,.row (refsL Q) 27 1)::(s,zk b)::(h,zB b)::(e,zq b)::ji P)):=by
 refine zp 22 hT Tryz.func110 fun Y hret=>?_
 refine au [4,5,21] ?_
 intro jb hjb
 refine au [2,2,3,4,4,5,8] ?_
 refine TK.cl Z Z Z Z (zeH hT hl hm) ?_
 rintro r1 K2 ⟨rfl,rfl⟩
 refine au [2,3,4,5,1,6,3,20] ?_
 refine ⟨fun hc0=>?_,fun hc0=>?_⟩
 ·refine au [4,5,1,2,2,3] ?_
  refine TK.rt hret [(s,_),(h,_),(e,_)] ?_
  exact .inl ⟨by simpa using hc0,rfl,rfl⟩
 have hck:zr b=0:=by simpa using hc0
 have hbb:=zZ hck
 rw [hck]
 refine au [12,4,4,5,1,6,3,20] ?_
 refine ⟨fun hc1=>?_,fun hc1=>?_⟩
 ·exact absurd hc1 dQ
 refine au [12,4,5,8] ?_
 refine TK.cl Z Z Z Z (qM hT hbb) ?_
 rintro r4 K5 ⟨jr,Q,P,hQP,hQ,rfl,rfl⟩
 refine au [] ?_
 refine TK.perm (lH (l₁:=(jr,_)::(s,_)::(h,_)::(e,_)::ji P)) ?_
 simp only [cA]
 refine au [2,3,4,4,5,1,28,6,3,20] ?_
 refine ⟨fun hc2=>?_,fun hc2=>?_⟩
 ·refine au [4,5,2,2,3] ?_
  refine TK.rt hret [(s,_),(h,_),(e,_)] ?_
  exact .inr (.inl ⟨hck,by rw [<- hQ,show Q=[] from lK (by have:=eq_of_beq hc2; omega)]; rfl,rfl,rfl⟩)
 refine au [12,4,5,1,2,2,3] ?_
 refine TK.rt hret (((jr,_)::(s,_)::(h,_)::(e,_)::ji P)) ?_
 exact .inr (.inr ⟨hck,(fun hh=>by rw [hh,List.map_eq_nil_iff] at hQ; rw [hQ] at hc2; simp at hc2),jr,Q,P,hQP,hQ,rfl,rfl⟩)
theorem qj {main T} (hT:zo tp main T) {gm} {b:RBk} {s h e j jr:Nat} {l:List Int} {et:TypeId} {Q P:List (Nat×List Int)} (hb:ROk b) (hl:CutsOk b l) (hall:okAll b (Q.map (·.2))) (hQP:∀ x∈Q,x∈P) (hQl:Q.length<=1000) :
  zA tp T gm 112 [.agg (zE b s h e),.sl j 0 l.length,.row jr Q.length] ((s,zk b)::(jr,.row (refsL Q) 27 1)::(j,.cells (l.map intA) et false)::ji P) (fun r K'=>r=.tup [.agg [intA (sqLo b (Q.map (·.2)) l),intA (sqHi b (Q.map (·.2)) l)],zP (sqOk b (Q.map (·.2)) l)]/\K'=(s,zk b)::(jr,.row (refsL Q) 27 1)::(j,.cells (l.map intA) et false)::ji P):=by
 refine zp 48 hT Tryz.func112 fun Y hret=>?_
 refine au [4,5,21] ?_
 intro jb hjb
 refine au [22] ?_
 intro j6 hj6
 refine au [2,3,4,5,22] ?_
 intro jx hjx
 refine au [3,4,4,5,2,3,13] ?_
 refine TK.maskL [1,2,3,6,8,9] ?_
 refine TK.kp ((jx,_)::(j6,_)::(jb,_)::(s,_)::(jr,_)::(j,_)::ji P) ?_
 refine TK.loopN (fun n env K=>∃ (i:Nat),n=Q.length - i/\i<=Q.length/\(waysM b ((Q.map (·.2)).take i) l).length=i/\env=.any::.sl j 0 l.length::.row jr Q.length::.ptr jb 0::naL 2 (.ptr j6 0::.any::.ptr jx 0::intA i::naL 38 [])/\K=(jx,.cells [intA (sqW b (Q.map (·.2)) l i).1,intA (sqW b (Q.map (·.2)) l i).2] 51 true)::(j6,.cells [intA 0,intA 0] 51 true)::(jb,.cells (zE b s h e) 26 true)::(s,zk b)::(jr,.row (refsL Q) 27 1)::(j,.cells (l.map intA) et false)::ji P) Q.length ⟨0,rfl,mN _,rfl,rfl,rfl⟩ fun n env K hI hnext=>?_
 obtain ⟨i,rfl,hi,hwl,rfl,rfl⟩:=hI
 refine TK.na nQ ?_
 refine au [4,4,5,1,1,28,6,3,20] ?_
 refine ⟨fun hc0=>?_,fun hc0=>?_⟩
 ·have hil:i<Q.length:=by simp at hc0; omega
  have hmem:=jS hil
  have hg:(Q.map (·.2))[i]? =some (sN Q i).2:=by rw [lQ,xd hil]; rfl
  have hst:StOk b (sN Q i).2:=hall _ (lY.2 ⟨_,hmem,rfl⟩)
  refine au [12,4,13,4] ?_
  refine TK.draw [0,1,2,3,4,5,6,7,8,9,10,11,12,13] [0,1,2,3,4,5,6,7,8,11,9,12,10,13] (by kernel_rfl) (by kernel_rfl) ?_
  refine TD.y [3] Z (hq:=z8 Z Z zi.h (mC _) Z) (h:=?_)
  refine TD.z [1] Z (zh Z Z) ?_
  refine TD.z [2] Z (zh Z Z) ?_
  refine TD.z [9] Z (zh Z Z) ?_
  refine TD.y [22,23] Z (hq:=kA Z Z Z zF.h (mC _) oQ oQ) (h:=?_)
  refine TD.y [24] Z (hq:=zm Z Z zi.h (mC _) (jA hil Z)) (h:=?_)
  refine TD.cl (pend':=[⟨4,[22,23],[(_,_)]⟩,⟨3,[9],[]⟩,⟨2,[2],[]⟩]) [20,21,25] Z Z Z Z Z (jat hT hb hl hst (hQP _ hmem)) (fun r1 K2 h3=>⟨?_,?_⟩)
  ·rcases h3 with ⟨hno,rfl,rfl⟩ | ⟨w,q,jw,hso,rfl,rfl⟩
   all_goals simp
  rcases h3 with ⟨hno,rfl,rfl⟩ | ⟨w,q,jw,hso,rfl,rfl⟩
  ·try simp only [cA]
   refine TD.norm tQ ?_
   refine TD.perm (lH (l₁:=(s,_)::(j,_)::ji P)) ?_
   simp only [cA]
   refine TD.z [26] Z (zh Z Z) ?_
   refine TD.z [19] Z (ye Z Z Z) ?_
   refine TD.z [19] Z (ye Z Z Z) ?_
   refine TD.z [19] Z (ye Z Z Z) ?_
   refine TD.as (pend':=[⟨10,[19],[]⟩,⟨9,[19],[]⟩]) [27] Z Z (zD Z Z) ?_
   refine TD.as (pend':=[⟨10,[19],[]⟩]) [28] Z Z (zD Z Z) ?_
   refine TD.as (pend':=[]) [29] Z Z (zD Z Z) ?_
   refine TD.fin ?_
   refine au [4,4,5,1,30,3,20] ?_
   refine ⟨fun hc1=>?_,fun hc1=>?_⟩
   ·
    refine au [4,5,39,17,2,3] ?_
    refine TK.rt hret (((s,_)::(jr,_)::(j,_)::ji P)) ?_
    exact ⟨by rw [(qh hg hno).1,(qh hg hno).2.1,(qh hg hno).2.2] <;> rfl,rfl⟩
   exact absurd hc1 dQ
  ·try simp only [cA]
   refine TD.norm tQ ?_
   refine TD.perm (lH (l₁:=(jw,_)::(s,_)::(j,_)::ji P)) ?_
   simp only [cA]
   refine TD.z [26] Z (zh Z Z) ?_
   refine TD.z [19] Z (ye Z Z Z) ?_
   refine TD.z [19] Z (ye Z Z Z) ?_
   refine TD.z [19] Z (ye Z Z Z) ?_
   refine TD.as (pend':=[⟨10,[19],[]⟩,⟨9,[19],[]⟩]) [27] Z Z (zD Z Z) ?_
   refine TD.as (pend':=[⟨10,[19],[]⟩]) [28] Z Z (zD Z Z) ?_
   refine TD.as (pend':=[]) [29] Z Z (zD Z Z) ?_
   refine TD.fin ?_
   refine au [4,4,5,1,30,3,20] ?_
   refine ⟨fun hc1=>?_,fun hc1=>?_⟩
   ·exact absurd hc1 dQ
   refine au [12,4,4,5,1,6,3,20] ?_
   refine ⟨fun hc2=>?_,fun hc2=>?_⟩
   ·refine au [5,1,1,39,17,3,5,7,9,1] ?_
    refine TK.a Z (zcZ Z Z Z) ?_
    refine au [7,9,1] ?_
    refine TK.a Z (zcY Z Z Z) ?_
    refine au [39,17,3,14,5,1,23,2,3] ?_
    refine TK.maskL [1,2,3,6,8,9] ?_
    refine TK.kp (((jx,_)::(j6,_)::(jb,_)::(s,_)::(jr,_)::(j,_)::ji P)) ?_
    obtain rfl:i=0:=by simpa using hc2
    exact hnext _ _ _ oQ ⟨0+1,rfl,by omega,by rw [jY hg hso,lF,hwl]; rfl,rfl,by rw [sqW_0 hg hso,Int.min_self,Int.max_self] <;> rfl⟩
   refine au [12,5,7,9,1] ?_
   refine TK.a Z (zcZ Z Z Z) ?_
   refine au [7,9,1] ?_
   refine TK.a Z (zcY Z Z Z) ?_
   refine au [39,17,3,14,5,1,23,2,3] ?_
   refine TK.maskL [1,2,3,6,8,9] ?_
   refine TK.kp (((jx,_)::(j6,_)::(jb,_)::(s,_)::(jr,_)::(j,_)::ji P)) ?_
   exact hnext _ _ _ oQ ⟨i+1,rfl,by omega,by rw [jY hg hso,lF,hwl]; rfl,rfl,by rw [sqW_S hg hso hwl (by simpa using hc2)] <;> rfl⟩
 obtain rfl:i=Q.length:=by simp at hc0; omega
 rw [show Q.length=(Q.map (·.2)).length from (lJ ..).symm] at hwl
 refine au [16,4,5,8,17,2,3] ?_
 refine TK.rt hret (((s,_)::(jr,_)::(j,_)::ji P)) ?_
 exact ⟨by rw [(qg hwl).1,(qg hwl).2.1,(qg hwl).2.2,lJ] <;> rfl,rfl⟩
def BestAt (ok:List Int->Bool) (bt:List Int->List Int->Bool) (f:Nat->List Int) (i:Nat):Option Nat->Prop
 | none=>∀ k,k<i->f k=[]\/ok (f k)=false
 | some k=>k<i/\f k≠[]/\ok (f k)=true/\∀ t,t<i->f t≠[]->ok (f t)=true->f t=f k\/bt (f k) (f t)=true
section
variable {ok:List Int->Bool} {bt:List Int->List Int->Bool} {f:Nat->List Int} {i k:Nat}
theorem jB {o:Option Nat} (h:BestAt ok bt f i o) (hs:f i=[]\/ok (f i)=false):BestAt ok bt f (i+1) o:=by
 cases o with
 | none =>
  intro k hk
  by_cases e:k=i
  ·rw [e]; exact hs
  ·exact h k oQ
 | some k =>
  obtain ⟨h1,h2,h3,h4⟩:=h
  refine ⟨by omega,h2,h3,fun t ht h5 h6=>?_⟩
  by_cases e:t=i
  ·rw [e] at h5 h6
   rcases hs with hs | hs
   ·exact absurd hs h5
   ·rw [hs] at h6; cases h6
  ·exact h4 t oQ h5 h6
theorem jJ (h:BestAt ok bt f i none) (h1:f i≠[]) (h2:ok (f i)=true):BestAt ok bt f (i+1) (some i):=by
 refine ⟨by omega,h1,h2,fun t ht h5 h6=>?_⟩
 by_cases e:t=i
 ·left; rw [e]
 ·rcases h t oQ with h7 | h7
  ·exact absurd h7 h5
  ·rw [h7] at h6; cases h6
theorem jF (h:BestAt ok bt f i (some k)) (h1:f i≠[]) (h2:ok (f i)=true) (hb:bt (f i) (f k)=true) (htr:∀ x y z,bt x y=true->bt y z=true->bt x z=true):BestAt ok bt f (i+1) (some i):=by
 obtain ⟨_,_,_,h4⟩:=h
 refine ⟨by omega,h1,h2,fun t ht h5 h6=>?_⟩
 by_cases e:t=i
 ·left; rw [e]
 ·right
  rcases h4 t oQ h5 h6 with h7 | h7
  ·rw [h7]; exact hb
  ·exact htr _ _ _ hb h7
theorem jI (h:BestAt ok bt f i (some k)) (hb:f i=f k\/bt (f k) (f i)=true):BestAt ok bt f (i+1) (some k):=by
 obtain ⟨h1,h2,h3,h4⟩:=h
 refine ⟨by omega,h2,h3,fun t ht h5 h6=>?_⟩
 by_cases e:t=i
 ·rw [e]; exact hb
 ·exact h4 t oQ h5 h6
end
theorem xc {α:Type} {l m:List α} (h:∀ (_:DecidableEq α) (a:α),l.count a=m.count a):l.Perm m:=by
 haveI:DecidableEq α:=fun _ _=>Classical.propDecidable _
 exact List.perm_iff_count.2 (h _)
theorem jaD {α:Type} {a1 a2 a3 a4:α} {P S:List α}:((a2::S)++(a1::a3::a4::P)).Perm (a1::a2::a3::a4::(P++S)):=xc fun _ a=>by
 simp only [List.count_append,List.count_cons]
 omega
theorem jaE {α:Type} {a1 a2 a3 a4 x:α} {P S R:List α} (h:S.Perm (x::R)):(a1::a2::a3::a4::(P++S)).Perm ((x::a1::a3::a4::P)++(a2::R)):=xc fun _ a=>by
 have:=h.count_eq a
 simp only [List.count_append,List.count_cons] at this ⊢
 omega
theorem jaF {α:Type} {a1 a2 a3 a4:α} {P S:List α}:(a1::a2::a3::a4::(P++S)).Perm ((a1::a3::a4::P)++(a2::S)):=xc fun _ a=>by
 simp only [List.count_append,List.count_cons]
 omega
def bvO (S:List (Nat×List Int)):Option Nat->AV
 | none=>.v (.slice none 0 0)
 | some k=>.sl (sN S k).1 0 (sN S k).2.length
def bqO (b:RBk) (all:List (List Int)) (S:List (Nat×List Int)):Option Nat->Int
 | none=>0
 | some k=>sqHi b all (sN S k).2
def chM (b:RBk) (all:List (List Int)) (x y:List Int):Bool:=cheaperM (x,sqHi b all x) (y,sqHi b all y)
theorem xa (b:RBk) (all:List (List Int)) (x y:List Int):chM b all x y=true↔sqHi b all x<sqHi b all y\/(sqHi b all x=sqHi b all y/\smallerM x y=true):=kT _ _
theorem xv {b:RBk} {all:List (List Int)} {x y:List Int} (h:¬ (sqHi b all x<sqHi b all y\/(sqHi b all x=sqHi b all y/\smallerM x y=true))):x=y\/chM b all y x=true:=by
 rcases zdk (x,sqHi b all x) (y,sqHi b all y) with e | e | e
 ·exact .inl (Prod.mk.inj e).1
 ·exact absurd ((xa b all x y).1 e) h
 ·exact .inr e
theorem jaI {x y:List Int} (h:smallerM x y=false):x=y\/smallerM y x=true:=by
 rcases zar x y with e | e | e
 ·exact .inl e
 ·rw [h] at e; cases e
 ·exact .inr e
theorem xM {S:List (Nat×List Int)} {n:Nat} (hS:S.map (·.2)=setsM (n:Int) n):(∀ k,k<S.length->∃ d,d<2 ^ n/\(sN S k).2=zw d n)/\∀ d,∃ k,k<S.length/\(sN S k).2=zw d n:=by
 refine ⟨fun k hk=>?_,fun d=>?_⟩
 ·have h1:(sN S k).2∈S.map (·.2):=lY.2 ⟨_,jS hk,rfl⟩
  rw [hS] at h1
  exact jal h1
 ·have h1:=jaf d n
  rw [<- hS] at h1
  obtain ⟨x,hx,he⟩:=lY.1 h1
  obtain ⟨k,hk,rfl⟩:=List.getElem_of_mem hx
  refine ⟨k,hk,?_⟩
  rw [<- he]
  have:=xd hk
  rw [lA hk] at this
  rw [Option.some.inj this]
theorem qy {d n:Nat} (h:zw d n≠[]):0<d:=by
 rcases Nat.eq_zero_or_pos d with rfl | h0
 ·exact absurd (qO n) h
 ·exact h0
theorem qx {b:RBk} {all:List (List Int)} {bt:List Int->List Int->Bool} {S:List (Nat×List Int)} (hb:ROk b) (hS:S.map (·.2)=setsM (b.seams.length:Int) b.seams.length) (h:BestAt (sqOk b all) bt (fun k=>(sN S k).2) S.length none):NoPlan b all:=by
 intro d h0 h1
 obtain ⟨k,hk,he⟩:=(xM hS).2 d
 rcases h k hk with h2 | h2
 ·have:=(zeD hb h0 h1).pos
  dsimp only at h2
  rw [he] at h2
  rw [h2] at this
  exact absurd this dQ
 ·dsimp only at h2
  rwa [he] at h2
theorem x8 {b:RBk} {all:List (List Int)} {bt:List Int->List Int->Bool} {bp:List Int×Int->List Int×Int->Bool} {S:List (Nat×List Int)} {k:Nat} (hb:ROk b) (hS:S.map (·.2)=setsM (b.seams.length:Int) b.seams.length) (hbt:∀ x y,bt x y=bp (x,sqHi b all x) (y,sqHi b all y)) (h:BestAt (sqOk b all) bt (fun k=>(sN S k).2) S.length (some k)):∃ c,(sN S k).2=zw c b.seams.length/\PlanA b all bp c:=by
 obtain ⟨h1,h2,h3,h4⟩:=h
 dsimp only at h2 h3 h4
 obtain ⟨c,hc,he⟩:=(xM hS).1 k h1
 rw [he] at h2 h3 h4
 refine ⟨c,he,qy h2,hc,h3,fun d h0 h5 h6=>?_⟩
 obtain ⟨t,ht,hte⟩:=(xM hS).2 d
 have:=h4 t ht (by rw [hte]; exact fun e=>by have:=(zeD hb h0 h5).pos; rw [e] at this; exact absurd this dQ) (by rw [hte]; exact h6)
 rw [hte,hbt] at this
 rcases this with h7 | h7
 ·left; rw [h7]
 ·right; exact h7
theorem qP {b:RBk} {S:List (Nat×List Int)} (hS:S.map (·.2)=setsM (b.seams.length:Int) b.seams.length) {k:Nat} (hk:k<S.length) (h:(sN S k).2≠[]) (hb:ROk b):CutsOk b (sN S k).2:=by
 obtain ⟨d,hd,he⟩:=(xM hS).1 k hk
 rw [he] at h ⊢
 exact zeD hb (qy h) hd
theorem jH {main T} (hT:zo tp main T) {gm} {b:RBk} {s h e jr k:Nat} {Q P S:List (Nat×List Int)} (hb:ROk b) (hall:okAll b (Q.map (·.2))) (hQP:∀ x∈Q,x∈P) (hQl:Q.length<=1000) (hk:k<S.length) (hl:CutsOk b (sN S k).2):zA tp T gm 112 [.agg (zE b s h e),.sl (sN S k).1 0 (sN S k).2.length,.row jr Q.length] ((s,zk b)::(jr,.row (refsL Q) 27 1)::(ji P++ji S)) (fun r K'=>r=.tup [.agg [intA (sqLo b (Q.map (·.2)) (sN S k).2),intA (sqHi b (Q.map (·.2)) (sN S k).2)],zP (sqOk b (Q.map (·.2)) (sN S k).2)]/\K'=(s,zk b)::(jr,.row (refsL Q) 27 1)::(ji P++ji S)):=by
 obtain ⟨R,hR⟩:=jG (jE (jS hk))
 refine (qj hT (et:=3) hb hl hall hQP hQl).frameP (R:=R) (List.Perm.cons _ (List.Perm.cons _ ?_))
 exact (List.Perm.append_left _ hR.perm).trans List.perm_middle
theorem xh {main T} (hT:zo tp main T) {gm} {P S:List (Nat×List Int)} {i k:Nat} (hki:k<i) (hi:i<S.length) (hl:∀ t,t<S.length->(sN S t).2.length<=1000):zA tp T gm 65 [.sl (sN S i).1 0 (sN S i).2.length,.sl (sN S k).1 0 (sN S k).2.length] (ji P++ji S) (fun r K'=>r=zP (smallerM (sN S i).2 (sN S k).2)/\K'=ji P++ji S):=by
 have e1:S=S.take i++sN S i::S.drop (i+1):=by
  have h1:=lA hi
  rw [xd hi] at h1
  have h2:=List.take_append_drop i S
  rw [List.drop_eq_getElem_cons hi,<- Option.some.inj h1] at h2
  exact h2.symm
 have hm:sN S k∈S.take i:=by
  refine lN (i:=k) ?_
  rw [List.getElem?_take,if_pos hki]
  exact xd oQ
 obtain ⟨R,hR⟩:=jG (jE hm)
 have hp:(ji S).Perm ((((sN S i).1,AObj.cells ((sN S i).2.map intA) 3 false)::((sN S k).1,AObj.cells ((sN S k).2.map intA) 3 false)::(R++ji (S.drop (i+1))))):=by
  have h1:ji S=ji (S.take i)++((sN S i).1,AObj.cells ((sN S i).2.map intA) 3 false)::ji (S.drop (i+1)):=by
   rw [show ji S=ji (S.take i++sN S i::S.drop (i+1)) by rw [<- e1]]
   unfold ji
   rw [lM]
   rfl
  rw [h1]
  refine List.perm_middle.trans (List.Perm.cons _ ?_)
  exact (List.Perm.append_right _ hR.perm)
 refine (qv hT (e1:=3) (e2:=3) (hl i hi) (hl k oQ)).frameP (R:=R++ji (S.drop (i+1))++ji P) ?_
 refine lH.trans ?_
 exact List.Perm.append_right _ hp
instance:Cal tp 111:={}
instance:Cal tp 112:={}
theorem xy {main T} (hT:zo tp main T) {gm} {b:RBk} {s h e jr:Nat} {Q P:List (Nat×List Int)} (hb:ROk b) (hall:okAll b (Q.map (·.2))) (hQP:∀ x∈Q,x∈P) (hQl:Q.length<=1000) :
  zA tp T gm 114 [.agg (zE b s h e),.row jr Q.length] ((s,zk b)::(jr,.row (refsL Q) 27 1)::ji P) (fun r K'=>(NoPlan b (Q.map (·.2))/\r=.tup [.v (.slice none 0 0),zP false]/\K'=(s,zk b)::(jr,.row (refsL Q) 27 1)::ji P)\/(∃ c jc,PlanA b (Q.map (·.2)) shorterM c/\r=.tup [.sl jc 0 (zw c b.seams.length).length,zP true]/\K'=(jc,.cells ((zw c b.seams.length).map intA) 3 false)::(s,zk b)::(jr,.row (refsL Q) 27 1)::ji P)):=by
 refine zp 60 hT Tryz.func114 fun Y hret=>?_
 refine au [4,5,21] ?_
 intro jb hjb
 refine au [2,2,3,4,5,7,9,28,7,9,28] ?_
 refine TK.cl Z Z Z Z (qG hT (by have:=hb.sms.len; omega) (by have:=hb.sms.len; omega)) ?_
 rintro r1 K2 ⟨ja,S,rfl,hS,rfl⟩
 refine au [2,3,4,5,2,3,4,5,2,3,4,4,5,2,3,13] ?_
 refine TK.maskL [1,2,6,7,8,9] ?_
 have hsl:=hb.sms.len
 have hS2:S.map (·.2)=setsM (b.seams.length:Int) b.seams.length:=by rw [hS,mZ]
 have hSl:S.length<=32:=by have h1:=jW (b.seams.length:Int) b.seams.length; rw [<- hS2,lJ] at h1; exact mT h1 (xE hsl.2)
 have hS5:∀ t,t<S.length->(sN S t).2.length<=1000:=fun t ht=>by
  have h1:(sN S t).2∈S.map (·.2):=lY.2 ⟨_,jS ht,rfl⟩
  rw [hS2] at h1
  have:=jM oQ _ _ h1
  omega
 refine TK.perm (K':=(jb,.cells (zE b s h e) 26 true)::(ja,.row (refsL S) 27 1)::(s,zk b)::(jr,.row (refsL Q) 27 1)::(ji P++ji S)) jaD ?_
 refine TK.loopN (fun n env K=>∃ (i:Nat) (o:Option Nat),n=S.length - i/\i<=S.length/\BestAt (sqOk b (Q.map (·.2))) smallerM (fun k=>(sN S k).2) i o/\env=.any::.row jr Q.length::.ptr jb 0::naL 3 (.row ja S.length::bvO S o::zP o.isSome::intA i::naL 50 [])/\K=(jb,.cells (zE b s h e) 26 true)::(ja,.row (refsL S) 27 1)::(s,zk b)::(jr,.row (refsL Q) 27 1)::(ji P++ji S)) S.length ⟨0,none,rfl,mN _,fun k hk=>absurd hk (Nat.not_lt_zero _),rfl,rfl⟩ fun n env K hI hnext=>?_
 obtain ⟨i,o,rfl,hi,hB,rfl,rfl⟩:=hI
 refine TK.na nQ ?_
 refine au [4,4,5,1,1,28,6,3,20] ?_
 refine ⟨fun hc0=>?_,fun hc0=>?_⟩
 ·have hil:i<S.length:=by simp at hc0; omega
  have hi5:=hS5 i hil
  refine au [12,4,13,4,4,5,1,1,37] ?_
  refine TK.a Z (zm Z Z zi.h mQ (jA hil Z)) ?_
  refine au [28,6,1] ?_
  refine TK.sp 31 (fun g7_7=>?_) (fun g7_7=>?_)
  ·have he:(sN S i).2=[]:=lK (by have:=eq_of_beq g7_7; omega)
   refine au [11,11,11,11,11,11,11,11,11,11,26,3,18,16,5,1,23,2,3] ?_
   refine TK.maskL [1,2,6,7,8,9] ?_
   refine TK.kp (((jb,_)::(ja,_)::(s,_)::(jr,_)::(ji P++ji S))) ?_
   exact hnext _ _ _ oQ ⟨i+1,_,rfl,by omega,jB hB (.inl he),rfl,rfl⟩
  have hne:(sN S i).2≠[]:=fun hh=>by rw [hh] at g7_7; simp at g7_7
  have hcc:=qP hS2 hil hne hb
  refine au [1,1] ?_
  refine TK.sp 33 (fun g7_9=>?_) (fun g7_9=>?_)
  ·obtain ⟨k,rfl⟩:∃ k,o=some k:=Option.isSome_iff_exists.1 g7_9
   refine au [1,1,37] ?_
   refine TK.a Z (zm Z Z zi.h mQ (jA hil Z)) ?_
   refine au [1] ?_
   refine TK.cl Z Z Z Z (xh hT (P:=P) (S:=S) hB.1 hil hS5) ?_
   rintro r4 K5 ⟨rfl,rfl⟩
   refine au [] ?_
   refine TK.perm (lH (l₁:=(ji P++ji S))) ?_
   simp only [cA]
   refine au [30,26,25,3,20] ?_
   refine ⟨fun hc1=>?_,fun hc1=>?_⟩
   ·have hsm:smallerM (sN S i).2 (sN S k).2=false:=by simpa using hc1
    refine au [16,5,1,23,2,3] ?_
    refine TK.maskL [1,2,6,7,8,9] ?_
    refine TK.kp (((jb,_)::(ja,_)::(s,_)::(jr,_)::(ji P++ji S))) ?_
    exact hnext _ _ _ oQ ⟨i+1,_,rfl,by omega,jI hB (jaI hsm),rfl,rfl⟩
   have hsm:smallerM (sN S i).2 (sN S k).2=true:=by simpa using hc1
   refine au [12,4] ?_
   refine TK.draw [0,1,2,3,4,5,6,7,8,9,10,11,12] [0,1,2,3,4,5,6,7,8,10,11,9,12] (by kernel_rfl) (by kernel_rfl) ?_
   refine TD.y [2] Z (hq:=z8 Z Z zi.h (mC _) Z) (h:=?_)
   refine TD.z [6] Z (zh Z Z) ?_
   refine TD.z [9] Z (zh Z Z) ?_
   refine TD.y [45,46] Z (hq:=kA Z Z Z zF.h (mC _) oQ oQ) (h:=?_)
   refine TD.y [47] Z (hq:=zm Z Z zi.h (mC _) (jA hil Z)) (h:=?_)
   refine TD.z [1] Z (zh Z Z) ?_
   refine TD.c2 (i1:=6) (i2:=10) (pend1:=[⟨3,[45,46],[(_,_)]⟩,⟨2,[9],[]⟩,⟨1,[6],[]⟩]) (pend2:=[⟨5,[1],[]⟩,⟨4,[47],[(_,_)]⟩,⟨3,[45,46],[(_,_)]⟩,⟨2,[9],[]⟩,⟨1,[6],[]⟩,⟨0,[2],[(_,_)]⟩]) (L1:=[7,8,9,10,11,12]) (L2:=[6,7,8,9,11,12]) [44,48,49] [] Z Z Z Z Z Z Z ?_ ?_
   ·refine we Z Z Cal.h Z (jH hT hb hall hQP hQl hil hcc) (by repeat (first | exact Split.none _ | exact Split.all _ | (apply Split.rem; repeat (first | exact Rem.head | apply Rem.tail)) | apply Split.right)) fun r7 K8 h9=>⟨?_,?_⟩
    ·rcases h9 with ⟨rfl,rfl⟩
     all_goals simp
    obtain ⟨rfl,rfl⟩:=h9
    try simp only [cA]
    refine TD.norm (env':=[_,_,_,_,_,_,_,_,_,_,_,_,_,_,_,_,_,_,_,_,_,_,_,_,_,_,_,_,_,_,_,_,_,_,_,_,_,_,_,_,_,_,_,_,_,_,_,_,_,_,_,_,_,_,_,_,_,_,_,_]) Z ?_
    refine TD.perm (lH (l₁:=(s,_)::(jr,_)::(ji P++ji S))) ?_
    simp only [cA]
    refine TD.z [50] Z (zh Z Z) ?_
    refine TD.z [43] Z (ye Z Z Z) ?_
    refine TD.z [43] Z (ye Z Z Z) ?_
    refine TD.cnewP (pend':=[⟨9,[43],[]⟩,⟨8,[43],[]⟩,⟨7,[50],[]⟩,⟨3,[45,46],[(_,_)]⟩,⟨2,[9],[]⟩,⟨1,[6],[]⟩]) [] Z Z Z Z Z (yK Z TyZA.h) (fun _=>zu rfl tQ) sQ fun jx hjx=>?_
    refine TD.s (pend':=[⟨9,[43],[]⟩]) [10,51] Z Z (zX Z Z zi.h Z Z mQ Z) ?_
    refine TD.as (pend':=[]) [52] Z Z (zD Z Z) ?_
    refine TD.fin ?_
    refine au [4,5,1,3,20] ?_
    refine ⟨fun hc2=>?_,fun hc2=>?_⟩
    ·have hok:sqOk b (Q.map (·.2)) (sN S i).2=true:=hc2
     refine au [5,1,1,37] ?_
     refine TK.a Z (zm Z Z zi.h mQ (jA hil Z)) ?_
     refine au [2,2,3,14,5,1,23,2,3] ?_
     refine TK.maskL [1,2,6,7,8,9] ?_
     refine TK.kp (((jb,_)::(ja,_)::(s,_)::(jr,_)::(ji P++ji S))) ?_
     exact hnext _ _ _ oQ ⟨i+1,some i,rfl,by omega,jF hB hne hok hsm fun _ _ _=>uu,rfl,rfl⟩
    have hok:sqOk b (Q.map (·.2)) (sN S i).2=false:=by simpa using hc2
    refine au [12,14,5,1,23,2,3] ?_
    refine TK.maskL [1,2,6,7,8,9] ?_
    refine TK.kp (((jb,_)::(ja,_)::(s,_)::(jr,_)::(ji P++ji S))) ?_
    exact hnext _ _ _ oQ ⟨i+1,_,rfl,by omega,jB hB (.inr hok),rfl,rfl⟩
   ·refine vl Z (yK Z TyZA.h) (fun _=>zu rfl tQ) sQ fun jx hjx=>?_
    refine TD.cl (pend':=[⟨3,[45,46],[(_,_)]⟩,⟨2,[9],[]⟩,⟨1,[6],[]⟩]) [44,48,49] Z Z Z Z Z (jH hT hb hall hQP hQl hil hcc) (fun r10 K11 h12=>⟨?_,?_⟩)
    ·rcases h12 with ⟨rfl,rfl⟩
     all_goals simp
    obtain ⟨rfl,rfl⟩:=h12
    try simp only [cA]
    refine TD.norm tQ ?_
    refine TD.perm (lH (l₁:=(s,_)::(jr,_)::(ji P++ji S))) ?_
    simp only [cA]
    refine TD.z [50] Z (zh Z Z) ?_
    refine TD.z [43] Z (ye Z Z Z) ?_
    refine TD.z [43] Z (ye Z Z Z) ?_
    refine TD.s (pend':=[⟨9,[43],[]⟩]) [10,51] Z Z (zX Z Z zi.h Z Z mQ Z) ?_
    refine TD.as (pend':=[]) [52] Z Z (zD Z Z) ?_
    refine TD.fin ?_
    refine au [4,5,1,3,20] ?_
    refine ⟨fun hc2=>?_,fun hc2=>?_⟩
    ·have hok:sqOk b (Q.map (·.2)) (sN S i).2=true:=hc2
     refine au [5,1,1,37] ?_
     refine TK.a Z (zm Z Z zi.h mQ (jA hil Z)) ?_
     refine au [2,2,3,14,5,1,23,2,3] ?_
     refine TK.maskL [1,2,6,7,8,9] ?_
     refine TK.kp (((jb,_)::(ja,_)::(s,_)::(jr,_)::(ji P++ji S))) ?_
     exact hnext _ _ _ oQ ⟨i+1,some i,rfl,by omega,jF hB hne hok hsm fun _ _ _=>uu,rfl,rfl⟩
    have hok:sqOk b (Q.map (·.2)) (sN S i).2=false:=by simpa using hc2
    refine au [12,14,5,1,23,2,3] ?_
    refine TK.maskL [1,2,6,7,8,9] ?_
    refine TK.kp (((jb,_)::(ja,_)::(s,_)::(jr,_)::(ji P++ji S))) ?_
    exact hnext _ _ _ oQ ⟨i+1,_,rfl,by omega,jB hB (.inr hok),rfl,rfl⟩
  obtain rfl:o=none:=by cases o with
   | none=>rfl
   | some k=>cases g7_9
  refine au [11,11,11,11,11,11,11,25,25,3,19,12,4] ?_
  refine TK.draw [0,1,2,3,4,5,6,7,8,9,10,11,12] [0,1,2,3,4,5,6,7,8,10,11,9,12] (by kernel_rfl) (by kernel_rfl) ?_
  refine TD.y [2] Z (hq:=z8 Z Z zi.h (mC _) Z) (h:=?_)
  refine TD.z [6] Z (zh Z Z) ?_
  refine TD.z [9] Z (zh Z Z) ?_
  refine TD.y [45,46] Z (hq:=kA Z Z Z zF.h (mC _) oQ oQ) (h:=?_)
  refine TD.y [47] Z (hq:=zm Z Z zi.h (mC _) (jA hil Z)) (h:=?_)
  refine TD.z [1] Z (zh Z Z) ?_
  refine TD.c2 (i1:=6) (i2:=10) (pend1:=[⟨3,[45,46],[(_,_)]⟩,⟨2,[9],[]⟩,⟨1,[6],[]⟩]) (pend2:=[⟨5,[1],[]⟩,⟨4,[47],[(_,_)]⟩,⟨3,[45,46],[(_,_)]⟩,⟨2,[9],[]⟩,⟨1,[6],[]⟩,⟨0,[2],[(_,_)]⟩]) (L1:=[7,8,9,10,11,12]) (L2:=[6,7,8,9,11,12]) [44,48,49] [] Z Z Z Z Z Z Z ?_ ?_
  ·refine we Z Z Cal.h Z (jH hT hb hall hQP hQl hil hcc) (by repeat (first | exact Split.none _ | exact Split.all _ | (apply Split.rem; repeat (first | exact Rem.head | apply Rem.tail)) | apply Split.right)) fun r13 K14 h15=>⟨?_,?_⟩
   ·rcases h15 with ⟨rfl,rfl⟩
    all_goals simp
   obtain ⟨rfl,rfl⟩:=h15
   try simp only [cA]
   refine TD.norm (env':=[_,_,_,_,_,_,_,_,_,_,_,_,_,_,_,_,_,_,_,_,_,_,_,_,_,_,_,_,_,_,_,_,_,_,_,_,_,_,_,_,_,_,_,_,_,_,_,_,_,_,_,_,_,_,_,_,_,_,_,_]) Z ?_
   refine TD.perm (lH (l₁:=(s,_)::(jr,_)::(ji P++ji S))) ?_
   simp only [cA]
   refine TD.z [50] Z (zh Z Z) ?_
   refine TD.z [43] Z (ye Z Z Z) ?_
   refine TD.z [43] Z (ye Z Z Z) ?_
   refine TD.cnewP (pend':=[⟨9,[43],[]⟩,⟨8,[43],[]⟩,⟨7,[50],[]⟩,⟨3,[45,46],[(_,_)]⟩,⟨2,[9],[]⟩,⟨1,[6],[]⟩]) [] Z Z Z Z Z (yK Z TyZA.h) (fun _=>zu rfl tQ) sQ fun jx hjx=>?_
   refine TD.s (pend':=[⟨9,[43],[]⟩]) [10,51] Z Z (zX Z Z zi.h Z Z mQ Z) ?_
   refine TD.as (pend':=[]) [52] Z Z (zD Z Z) ?_
   refine TD.fin ?_
   refine au [4,5,1,3,20] ?_
   refine ⟨fun hc2=>?_,fun hc2=>?_⟩
   ·have hok:sqOk b (Q.map (·.2)) (sN S i).2=true:=hc2
    refine au [5,1,1,37] ?_
    refine TK.a Z (zm Z Z zi.h mQ (jA hil Z)) ?_
    refine au [2,2,3,14,5,1,23,2,3] ?_
    refine TK.maskL [1,2,6,7,8,9] ?_
    refine TK.kp (((jb,_)::(ja,_)::(s,_)::(jr,_)::(ji P++ji S))) ?_
    exact hnext _ _ _ oQ ⟨i+1,some i,rfl,by omega,jJ hB hne hok,rfl,rfl⟩
   have hok:sqOk b (Q.map (·.2)) (sN S i).2=false:=by simpa using hc2
   refine au [12,14,5,1,23,2,3] ?_
   refine TK.maskL [1,2,6,7,8,9] ?_
   refine TK.kp (((jb,_)::(ja,_)::(s,_)::(jr,_)::(ji P++ji S))) ?_
   exact hnext _ _ _ oQ ⟨i+1,_,rfl,by omega,jB hB (.inr hok),rfl,rfl⟩
  ·refine vl Z (yK Z TyZA.h) (fun _=>zu rfl tQ) sQ fun jx hjx=>?_
   refine TD.cl (pend':=[⟨3,[45,46],[(_,_)]⟩,⟨2,[9],[]⟩,⟨1,[6],[]⟩]) [44,48,49] Z Z Z Z Z (jH hT hb hall hQP hQl hil hcc) (fun r16 K17 h18=>⟨?_,?_⟩)
   ·rcases h18 with ⟨rfl,rfl⟩
    all_goals simp
   obtain ⟨rfl,rfl⟩:=h18
   try simp only [cA]
   refine TD.norm tQ ?_
   refine TD.perm (lH (l₁:=(s,_)::(jr,_)::(ji P++ji S))) ?_
   simp only [cA]
   refine TD.z [50] Z (zh Z Z) ?_
   refine TD.z [43] Z (ye Z Z Z) ?_
   refine TD.z [43] Z (ye Z Z Z) ?_
   refine TD.s (pend':=[⟨9,[43],[]⟩]) [10,51] Z Z (zX Z Z zi.h Z Z mQ Z) ?_
   refine TD.as (pend':=[]) [52] Z Z (zD Z Z) ?_
   refine TD.fin ?_
   refine au [4,5,1,3,20] ?_
   refine ⟨fun hc2=>?_,fun hc2=>?_⟩
   ·have hok:sqOk b (Q.map (·.2)) (sN S i).2=true:=hc2
    refine au [5,1,1,37] ?_
    refine TK.a Z (zm Z Z zi.h mQ (jA hil Z)) ?_
    refine au [2,2,3,14,5,1,23,2,3] ?_
    refine TK.maskL [1,2,6,7,8,9] ?_
    refine TK.kp (((jb,_)::(ja,_)::(s,_)::(jr,_)::(ji P++ji S))) ?_
    exact hnext _ _ _ oQ ⟨i+1,some i,rfl,by omega,jJ hB hne hok,rfl,rfl⟩
   have hok:sqOk b (Q.map (·.2)) (sN S i).2=false:=by simpa using hc2
   refine au [12,14,5,1,23,2,3] ?_
   refine TK.maskL [1,2,6,7,8,9] ?_
   refine TK.kp (((jb,_)::(ja,_)::(s,_)::(jr,_)::(ji P++ji S))) ?_
   exact hnext _ _ _ oQ ⟨i+1,_,rfl,by omega,jB hB (.inr hok),rfl,rfl⟩
 obtain rfl:i=S.length:=by simp at hc0; omega
 refine au [16,4,5] ?_
 rcases o with _ | k
 ·have hno:=qx hb hS2 hB
  refine TK.dropP jaF ?_
  refine TK.a Z (zh Z Z) ?_
  refine au [1,2,2,3] ?_
  refine TK.rt hret (((s,_)::(jr,_)::ji P)) ?_
  exact .inl ⟨hno,rfl,rfl⟩
 ·have hkl:k<S.length:=hB.1
  obtain ⟨c,hce,hpl⟩:=x8 hb hS2 (bp:=shorterM) (fun _ _=>rfl) hB
  obtain ⟨R0,hR0⟩:=jG (jE (jS hkl))
  obtain ⟨jc,hjc⟩:∃ jc,jc=(sN S k).1:=⟨_,rfl⟩
  rw [<- hjc,hce] at hR0
  rw [show bvO S (some k)=.sl jc 0 (zw c b.seams.length).length by rw [<- hce,hjc]; rfl]
  refine TK.dropP (jaE hR0.perm) ?_
  refine TK.a Z (zh Z Z) ?_
  refine au [1,2,2,3] ?_
  refine TK.rt hret (((jc,_)::(s,_)::(jr,_)::ji P)) ?_
  exact .inr ⟨c,jc,hpl,rfl,rfl⟩
theorem jaG {α:Type} {a1 a2 a3 a4 a5 a6:α} {P S:List α}:((a2::S)++(a1::a4::a3::a5::a6::P)).Perm (a1::a2::a3::a4::a5::a6::(P++S)):=xc fun _ a=>by
 simp only [List.count_append,List.count_cons]
 omega
theorem jaH {α:Type} {a1 a2 a3 a4 a5 a6 x:α} {P S R:List α} (h:S.Perm (x::R)):(a1::a2::a3::a4::a5::a6::(P++S)).Perm (x::a1::a2::a3::a4::a5::a6::(P++R)):=xc fun _ a=>by
 have:=h.count_eq a
 simp only [List.count_append,List.count_cons] at this ⊢
 omega
instance:Cal tp 110:={}
theorem xe {main T} (hT:zo tp main T) {gm} {b:RBk} {s h e:Nat} (hl:b.seams.length<=100) (hm:b.measures.length<=100) :
  zA tp T gm 33 [.agg (zE b s h e)] [(s,zk b),(h,zB b),(e,zq b)] (fun r K'=>(zr b≠0/\r=.tup [.v (.slice none 0 0),intA 0,zP false,intA (zr b)]/\K'=[(s,zk b),(h,zB b),(e,zq b)])\/(zr b=0/\zf b=[]/\r=.tup [.v (.slice none 0 0),intA 0,zP false,intA 9]/\K'=[(s,zk b),(h,zB b),(e,zq b)])\/(zr b=0/\zf b≠[]/\((NoPlan b (zf b)/\r=.tup [.v (.slice none 0 0),intA 0,zP false,intA 0]/\K'=[(s,zk b),(h,zB b),(e,zq b)])\/∃ c jc,PlanA b (zf b) cheaperM c/\r=.tup [.sl jc 0 (zw c b.seams.length).length,intA (sqHi b (zf b) (zw c b.seams.length)),zP true,intA 0]/\K'=(jc,.cells ((zw c b.seams.length).map intA) 3 false)::[(s,zk b),(h,zB b),(e,zq b)]))):=by
 refine zp 86 hT Tryz.func33 fun Y hret=>?_
 refine au [4,5,21] ?_
 intro jb hjb
 refine au [2,2,2,2,3,4,5,8] ?_
 refine TK.cl Z Z Z Z (xD hT hl hm) ?_
 rintro r1 K2 h3
 rcases h3 with ⟨hbar,rfl,rfl⟩ | ⟨hbar,hnil,rfl,rfl⟩ | ⟨hbar,hne,jr,Q,P,hQP,hQ,rfl,rfl⟩
 ·refine au [1,10,10,2,2,3,4,4,5,1,6,3,20] ?_
  refine ⟨fun hc0=>?_,fun hc0=>?_⟩
  ·
   refine au [4,5,1,2,2,2,2,3] ?_
   refine TK.rt hret [(s,_),(h,_),(e,_)] ?_
   exact .inl ⟨hbar,rfl,rfl⟩
  exact absurd hbar (by simpa using hc0)
 ·refine au [1,10,10,2,2,3,4,4,5,1,6,3,20] ?_
  refine ⟨fun hc0=>?_,fun hc0=>?_⟩
  ·
   refine au [4,5,1,2,2,2,2,3] ?_
   refine TK.rt hret [(s,_),(h,_),(e,_)] ?_
   exact .inr (.inl ⟨hbar,hnil,rfl,rfl⟩)
  exact absurd hc0 dQ
 ·refine au [] ?_
  refine TK.perm (lH (l₁:=(jr,_)::(s,_)::(h,_)::(e,_)::ji P)) ?_
  simp only [cA]
  refine au [1,10,10,2,2,3,4,4,5,1,6,3,20] ?_
  refine ⟨fun hc0=>?_,fun hc0=>?_⟩
  ·exact absurd hc0 dQ
  have hb:=zZ hbar
  have hall:okAll b (Q.map (·.2)):=fun st hst=>(y7 hb (hQ ▸ hst)).1
  have hQl:Q.length<=1000:=by have h1:=kf hb; rw [<- hQ,lJ] at h1; omega
  refine au [12,4,5,7,9,28,7,9,28] ?_
  refine TK.cl Z Z Z Z (qG hT (by have:=hb.sms.len; omega) (by have:=hb.sms.len; omega)) ?_
  rintro r4 K5 ⟨ja,S,rfl,hS,rfl⟩
  refine au [2,3,4,5,2,3,4,5,2,2,3,4,4,5,2,3,13] ?_
  refine TK.maskL [1,6,8,9,10,11,12] ?_
  have hsl:=hb.sms.len
  have hS2:S.map (·.2)=setsM (b.seams.length:Int) b.seams.length:=by rw [hS,mZ]
  have hSl:S.length<=32:=by have h1:=jW (b.seams.length:Int) b.seams.length; rw [<- hS2,lJ] at h1; exact mT h1 (xE hsl.2)
  have hS5:∀ t,t<S.length->(sN S t).2.length<=1000:=fun t ht=>by
   have h1:(sN S t).2∈S.map (·.2):=lY.2 ⟨_,jS ht,rfl⟩
   rw [hS2] at h1
   have:=jM oQ _ _ h1
   omega
  refine TK.perm (K':=(jb,.cells (zE b s h e) 26 true)::(ja,.row (refsL S) 27 1)::(s,zk b)::(jr,.row (refsL Q) 27 1)::(h,zB b)::(e,zq b)::(ji P++ji S)) jaG ?_
  refine TK.loopN (fun n env K=>∃ (i:Nat) (o:Option Nat),n=S.length - i/\i<=S.length/\BestAt (sqOk b (Q.map (·.2))) (chM b (Q.map (·.2))) (fun k=>(sN S k).2) i o/\env=.any::.ptr jb 0::naL 4 (.row jr Q.length::.any::.row ja S.length::bvO S o::intA (bqO b (Q.map (·.2)) S o)::zP o.isSome::intA i::naL 73 [])/\K=(jb,.cells (zE b s h e) 26 true)::(ja,.row (refsL S) 27 1)::(s,zk b)::(jr,.row (refsL Q) 27 1)::(h,zB b)::(e,zq b)::(ji P++ji S)) S.length ⟨0,none,rfl,mN _,fun k hk=>absurd hk (Nat.not_lt_zero _),rfl,rfl⟩ fun n env K hI hnext=>?_
  obtain ⟨i,o,rfl,hi,hB,rfl,rfl⟩:=hI
  refine TK.na nQ ?_
  refine au [4,4,5,1,1,28,6,3,20] ?_
  refine ⟨fun hc1=>?_,fun hc1=>?_⟩
  ·have hil:i<S.length:=by simp at hc1; omega
   have hi5:=hS5 i hil
   refine au [12,4,13,4,4,5,1,1,37] ?_
   refine TK.a Z (zm Z Z zi.h mQ (jA hil Z)) ?_
   refine au [28,6,3,20] ?_
   refine ⟨fun hc2=>?_,fun hc2=>?_⟩
   ·have he:(sN S i).2=[]:=lK (by have:=eq_of_beq hc2; omega)
    refine au [16,5,1,23,2,3] ?_
    refine TK.maskL [1,6,8,9,10,11,12] ?_
    refine TK.kp (((jb,_)::(ja,_)::(s,_)::(jr,_)::(h,_)::(e,_)::(ji P++ji S))) ?_
    exact hnext _ _ _ oQ ⟨i+1,_,rfl,by omega,jB hB (.inl he),rfl,rfl⟩
   have hne:(sN S i).2≠[]:=fun hh=>by rw [hh] at hc2; simp at hc2
   have hcc:=qP hS2 hil hne hb
   refine au [12,4] ?_
   refine TK.draw [0,1,2,3,4,5,6,7,8,9,10,11,12] [0,1,2,3,4,5,6,7,8,10,11,9,12] (by kernel_rfl) (by kernel_rfl) ?_
   refine TD.y [1] Z (hq:=z8 Z Z zi.h (mC _) Z) (h:=?_)
   refine TD.z [8] Z (zh Z Z) ?_
   refine TD.z [12] Z (zh Z Z) ?_
   refine TD.y [44,45] Z (hq:=kA Z Z Z zF.h (mC _) oQ oQ) (h:=?_)
   refine TD.y [46] Z (hq:=zm Z Z zi.h (mC _) (jA hil Z)) (h:=?_)
   refine TD.z [6] Z (zh Z Z) ?_
   refine TD.c2 (i1:=6) (i2:=10) (pend1:=[⟨3,[44,45],[(_,_)]⟩,⟨2,[12],[]⟩,⟨1,[8],[]⟩]) (pend2:=[⟨5,[6],[]⟩,⟨4,[46],[(_,_)]⟩,⟨3,[44,45],[(_,_)]⟩,⟨2,[12],[]⟩,⟨1,[8],[]⟩,⟨0,[1],[(_,_)]⟩]) (L1:=[7,8,9,10,11,12]) (L2:=[6,7,8,9,11,12]) [43,47,48] [] Z Z Z Z Z Z Z ?_ ?_
   ·refine we Z Z Cal.h Z (jH hT hb hall hQP hQl hil hcc) (by repeat (first | exact Split.none _ | exact Split.all _ | (apply Split.rem; repeat (first | exact Rem.head | apply Rem.tail)) | apply Split.right)) fun r7 K8 h9=>⟨?_,?_⟩
    ·rcases h9 with ⟨rfl,rfl⟩
     all_goals simp
    obtain ⟨rfl,rfl⟩:=h9
    try simp only [cA]
    refine TD.norm (env':=[_,_,_,_,_,_,_,_,_,_,_,_,_,_,_,_,_,_,_,_,_,_,_,_,_,_,_,_,_,_,_,_,_,_,_,_,_,_,_,_,_,_,_,_,_,_,_,_,_,_,_,_,_,_,_,_,_,_,_,_,_,_,_,_,_,_,_,_,_,_,_,_,_,_,_,_,_,_,_,_,_,_,_,_,_,_]) Z ?_
    refine TD.perm (lH (l₁:=(s,_)::(jr,_)::(ji P++ji S))) ?_
    simp only [cA]
    refine TD.z [49] Z (zh Z Z) ?_
    refine TD.z [42] Z (ye Z Z Z) ?_
    refine TD.z [42] Z (ye Z Z Z) ?_
    refine TD.cnewP (pend':=[⟨9,[42],[]⟩,⟨8,[42],[]⟩,⟨7,[49],[]⟩,⟨3,[44,45],[(_,_)]⟩,⟨2,[12],[]⟩,⟨1,[8],[]⟩]) [] Z Z Z Z Z (yK Z TyZA.h) (fun _=>zu rfl tQ) sQ fun jx hjx=>?_
    refine TD.s (pend':=[⟨9,[42],[]⟩]) [13,50] Z Z (zX Z Z zi.h Z Z mQ Z) ?_
    refine TD.as (pend':=[]) [51] Z Z (zD Z Z) ?_
    refine TD.fin ?_
    refine au [4,5,1,1] ?_
    refine TK.sp 53 (fun g12_2=>?_) (fun g12_2=>?_)
    ·have hok:sqOk b (Q.map (·.2)) (sN S i).2=true:=g12_2
     refine au [1,30,1] ?_
     refine TK.sp 56 (fun g12_5=>?_) (fun g12_5=>?_)
     ·obtain rfl:o=none:=by cases o with
       | none=>rfl
       | some k=>cases g12_5
      refine au [11,11,11,11,26,1,11,11,11,11,11,11,11,11,11,11,11,11,26,26,3,18] ?_
      refine TK.draw [0,1,2,3,4,5,6,7,8] [0,1,2,3,6,4,5,7,8] (by kernel_rfl) (by kernel_rfl) ?_
      refine TD.z [8] Z (zh Z Z) ?_
      refine TD.z [12] Z (zh Z Z) ?_
      refine TD.y [77,78] Z (hq:=kA Z Z Z zF.h (mC _) oQ oQ) (h:=?_)
      refine TD.y [79] Z (hq:=zm Z Z zi.h (mC _) (jA hil Z)) (h:=?_)
      refine TD.z [13] Z (zg Z Z zl.h dQ) ?_
      refine TD.y [81] Z (hq:=zm Z Z zi.h (mC _) Z) (h:=?_)
      refine TD.as (pend':=[⟨5,[81],[(_,_)]⟩,⟨4,[13],[]⟩]) [80] Z Z (zD Z Z) ?_
      refine TD.as (pend':=[]) [82] Z Z (zD Z Z) ?_
      refine TD.as (pend':=[]) [] Z Z (zD Z Z) ?_
      refine TD.fin ?_
      refine au [14,5,1,23,2,3] ?_
      refine TK.maskL [1,6,8,9,10,11,12] ?_
      refine TK.kp (((jb,_)::(ja,_)::(s,_)::(jr,_)::(h,_)::(e,_)::(ji P++ji S))) ?_
      exact hnext _ _ _ oQ ⟨i+1,some i,rfl,by omega,jJ hB hne hok,rfl,rfl⟩
     obtain ⟨k,rfl⟩:∃ k,o=some k:=by cases o with
      | none=>cases g12_5
      | some k=>exact ⟨k,rfl⟩
     refine au [7,9,1,6,25,1] ?_
     refine TK.sp 62 (fun g12_11=>?_) (fun g12_11=>?_)
     ·have hch:=(xa b (Q.map (·.2)) (sN S i).2 (sN S k).2).2 (.inl (of_decide_eq_true g12_11))
      refine au [11,11,11,11,11,11,11,11,11,11,11,11,26,26,3,18] ?_
      refine TK.draw [0,1,2,3,4,5,6,7,8] [0,1,2,3,6,4,5,7,8] (by kernel_rfl) (by kernel_rfl) ?_
      refine TD.z [8] Z (zh Z Z) ?_
      refine TD.z [12] Z (zh Z Z) ?_
      refine TD.y [77,78] Z (hq:=kA Z Z Z zF.h (mC _) oQ oQ) (h:=?_)
      refine TD.y [79] Z (hq:=zm Z Z zi.h (mC _) (jA hil Z)) (h:=?_)
      refine TD.z [13] Z (zg Z Z zl.h dQ) ?_
      refine TD.y [81] Z (hq:=zm Z Z zi.h (mC _) Z) (h:=?_)
      refine TD.as (pend':=[⟨5,[81],[(_,_)]⟩,⟨4,[13],[]⟩]) [80] Z Z (zD Z Z) ?_
      refine TD.as (pend':=[]) [82] Z Z (zD Z Z) ?_
      refine TD.as (pend':=[]) [] Z Z (zD Z Z) ?_
      refine TD.fin ?_
      refine au [14,5,1,23,2,3] ?_
      refine TK.maskL [1,6,8,9,10,11,12] ?_
      refine TK.kp (((jb,_)::(ja,_)::(s,_)::(jr,_)::(h,_)::(e,_)::(ji P++ji S))) ?_
      exact hnext _ _ _ oQ ⟨i+1,some i,rfl,by omega,jF hB hne hok hch (fun x y z h1 h2=>zb0 _ _ _ h1 h2),rfl,rfl⟩
     have hlt:=of_decide_eq_false g12_11
     refine au [7,9,1,6,1] ?_
     refine TK.sp 67 (fun g12_16=>?_) (fun g12_16=>?_)
     ·have heq:=eq_of_beq g12_16
      refine au [1,1,37] ?_
      refine TK.a Z (zm Z Z zi.h mQ (jA hil Z)) ?_
      refine au [1] ?_
      refine TK.cl Z Z Z Z (xh hT (P:=P) (S:=S) hB.1 hil hS5) ?_
      rintro r10 K11 ⟨rfl,rfl⟩
      refine au [] ?_
      refine TK.perm (lH (l₁:=(ji P++ji S))) ?_
      simp only [cA]
      refine au [26,25,26,3,20] ?_
      refine ⟨fun hc3=>?_,fun hc3=>?_⟩
      ·have hch:=(xa b (Q.map (·.2)) (sN S i).2 (sN S k).2).2 (.inr ⟨heq,hc3⟩)
       refine TK.draw [0,1,2,3,4,5,6,7,8] [0,1,2,3,6,4,5,7,8] (by kernel_rfl) (by kernel_rfl) ?_
       refine TD.z [8] Z (zh Z Z) ?_
       refine TD.z [12] Z (zh Z Z) ?_
       refine TD.y [77,78] Z (hq:=kA Z Z Z zF.h (mC _) oQ oQ) (h:=?_)
       refine TD.y [79] Z (hq:=zm Z Z zi.h (mC _) (jA hil Z)) (h:=?_)
       refine TD.z [13] Z (zg Z Z zl.h dQ) ?_
       refine TD.y [81] Z (hq:=zm Z Z zi.h (mC _) Z) (h:=?_)
       refine TD.as (pend':=[⟨5,[81],[(_,_)]⟩,⟨4,[13],[]⟩]) [80] Z Z (zD Z Z) ?_
       refine TD.as (pend':=[]) [82] Z Z (zD Z Z) ?_
       refine TD.as (pend':=[]) [] Z Z (zD Z Z) ?_
       refine TD.fin ?_
       refine au [14,5,1,23,2,3] ?_
       refine TK.maskL [1,6,8,9,10,11,12] ?_
       refine TK.kp (((jb,_)::(ja,_)::(s,_)::(jr,_)::(h,_)::(e,_)::(ji P++ji S))) ?_
       exact hnext _ _ _ oQ ⟨i+1,some i,rfl,by omega,jF hB hne hok hch (fun x y z h1 h2=>zb0 _ _ _ h1 h2),rfl,rfl⟩
      have hno:¬ (sqHi b (Q.map (·.2)) (sN S i).2<sqHi b (Q.map (·.2)) (sN S k).2\/(sqHi b (Q.map (·.2)) (sN S i).2=sqHi b (Q.map (·.2)) (sN S k).2/\smallerM (sN S i).2 (sN S k).2=true)):=fun hh=>hh.elim hlt fun hh=>by rw [hh.2] at hc3; cases hc3
      refine au [12,14,5,1,23,2,3] ?_
      refine TK.maskL [1,6,8,9,10,11,12] ?_
      refine TK.kp (((jb,_)::(ja,_)::(s,_)::(jr,_)::(h,_)::(e,_)::(ji P++ji S))) ?_
      exact hnext _ _ _ oQ ⟨i+1,_,rfl,by omega,jI hB (xv hno),rfl,rfl⟩
     have hno:¬ (sqHi b (Q.map (·.2)) (sN S i).2<sqHi b (Q.map (·.2)) (sN S k).2\/(sqHi b (Q.map (·.2)) (sN S i).2=sqHi b (Q.map (·.2)) (sN S k).2/\smallerM (sN S i).2 (sN S k).2=true)):=fun hh=>hh.elim hlt fun hh=>beq_eq_false_iff_ne.1 g12_16 hh.1
     refine au [11,11,11,11,11,11,25,25,26,3,19,12,14,5,1,23,2,3] ?_
     refine TK.maskL [1,6,8,9,10,11,12] ?_
     refine TK.kp (((jb,_)::(ja,_)::(s,_)::(jr,_)::(h,_)::(e,_)::(ji P++ji S))) ?_
     exact hnext _ _ _ oQ ⟨i+1,_,rfl,by omega,jI hB (xv hno),rfl,rfl⟩
    have hok:sqOk b (Q.map (·.2)) (sN S i).2=false:=by simpa using g12_2
    refine au [11,11,11,11,11,11,11,11,11,11,11,11,11,11,11,11,11,11,11,11,11,11,25,3,19,12,14,5,1,23,2,3] ?_
    refine TK.maskL [1,6,8,9,10,11,12] ?_
    refine TK.kp (((jb,_)::(ja,_)::(s,_)::(jr,_)::(h,_)::(e,_)::(ji P++ji S))) ?_
    exact hnext _ _ _ oQ ⟨i+1,_,rfl,by omega,jB hB (.inr hok),rfl,rfl⟩
   ·refine vl Z (yK Z TyZA.h) (fun _=>zu rfl tQ) sQ fun jx hjx=>?_
    refine TD.cl (pend':=[⟨3,[44,45],[(_,_)]⟩,⟨2,[12],[]⟩,⟨1,[8],[]⟩]) [43,47,48] Z Z Z Z Z (jH hT hb hall hQP hQl hil hcc) (fun r13 K14 h15=>⟨?_,?_⟩)
    ·rcases h15 with ⟨rfl,rfl⟩
     all_goals simp
    obtain ⟨rfl,rfl⟩:=h15
    try simp only [cA]
    refine TD.norm tQ ?_
    refine TD.perm (lH (l₁:=(s,_)::(jr,_)::(ji P++ji S))) ?_
    simp only [cA]
    refine TD.z [49] Z (zh Z Z) ?_
    refine TD.z [42] Z (ye Z Z Z) ?_
    refine TD.z [42] Z (ye Z Z Z) ?_
    refine TD.s (pend':=[⟨9,[42],[]⟩]) [13,50] Z Z (zX Z Z zi.h Z Z mQ Z) ?_
    refine TD.as (pend':=[]) [51] Z Z (zD Z Z) ?_
    refine TD.fin ?_
    refine au [4,5,1,1] ?_
    refine TK.sp 53 (fun g12_2=>?_) (fun g12_2=>?_)
    ·have hok:sqOk b (Q.map (·.2)) (sN S i).2=true:=g12_2
     refine au [1,30,1] ?_
     refine TK.sp 56 (fun g12_5=>?_) (fun g12_5=>?_)
     ·obtain rfl:o=none:=by cases o with
       | none=>rfl
       | some k=>cases g12_5
      refine au [11,11,11,11,26,1,11,11,11,11,11,11,11,11,11,11,11,11,26,26,3,18] ?_
      refine TK.draw [0,1,2,3,4,5,6,7,8] [0,1,2,3,6,4,5,7,8] (by kernel_rfl) (by kernel_rfl) ?_
      refine TD.z [8] Z (zh Z Z) ?_
      refine TD.z [12] Z (zh Z Z) ?_
      refine TD.y [77,78] Z (hq:=kA Z Z Z zF.h (mC _) oQ oQ) (h:=?_)
      refine TD.y [79] Z (hq:=zm Z Z zi.h (mC _) (jA hil Z)) (h:=?_)
      refine TD.z [13] Z (zg Z Z zl.h dQ) ?_
      refine TD.y [81] Z (hq:=zm Z Z zi.h (mC _) Z) (h:=?_)
      refine TD.as (pend':=[⟨5,[81],[(_,_)]⟩,⟨4,[13],[]⟩]) [80] Z Z (zD Z Z) ?_
      refine TD.as (pend':=[]) [82] Z Z (zD Z Z) ?_
      refine TD.as (pend':=[]) [] Z Z (zD Z Z) ?_
      refine TD.fin ?_
      refine au [14,5,1,23,2,3] ?_
      refine TK.maskL [1,6,8,9,10,11,12] ?_
      refine TK.kp (((jb,_)::(ja,_)::(s,_)::(jr,_)::(h,_)::(e,_)::(ji P++ji S))) ?_
      exact hnext _ _ _ oQ ⟨i+1,some i,rfl,by omega,jJ hB hne hok,rfl,rfl⟩
     obtain ⟨k,rfl⟩:∃ k,o=some k:=by cases o with
      | none=>cases g12_5
      | some k=>exact ⟨k,rfl⟩
     refine au [7,9,1,6,25,1] ?_
     refine TK.sp 62 (fun g12_11=>?_) (fun g12_11=>?_)
     ·have hch:=(xa b (Q.map (·.2)) (sN S i).2 (sN S k).2).2 (.inl (of_decide_eq_true g12_11))
      refine au [11,11,11,11,11,11,11,11,11,11,11,11,26,26,3,18] ?_
      refine TK.draw [0,1,2,3,4,5,6,7,8] [0,1,2,3,6,4,5,7,8] (by kernel_rfl) (by kernel_rfl) ?_
      refine TD.z [8] Z (zh Z Z) ?_
      refine TD.z [12] Z (zh Z Z) ?_
      refine TD.y [77,78] Z (hq:=kA Z Z Z zF.h (mC _) oQ oQ) (h:=?_)
      refine TD.y [79] Z (hq:=zm Z Z zi.h (mC _) (jA hil Z)) (h:=?_)
      refine TD.z [13] Z (zg Z Z zl.h dQ) ?_
      refine TD.y [81] Z (hq:=zm Z Z zi.h (mC _) Z) (h:=?_)
      refine TD.as (pend':=[⟨5,[81],[(_,_)]⟩,⟨4,[13],[]⟩]) [80] Z Z (zD Z Z) ?_
      refine TD.as (pend':=[]) [82] Z Z (zD Z Z) ?_
      refine TD.as (pend':=[]) [] Z Z (zD Z Z) ?_
      refine TD.fin ?_
      refine au [14,5,1,23,2,3] ?_
      refine TK.maskL [1,6,8,9,10,11,12] ?_
      refine TK.kp (((jb,_)::(ja,_)::(s,_)::(jr,_)::(h,_)::(e,_)::(ji P++ji S))) ?_
      exact hnext _ _ _ oQ ⟨i+1,some i,rfl,by omega,jF hB hne hok hch (fun x y z h1 h2=>zb0 _ _ _ h1 h2),rfl,rfl⟩
     have hlt:=of_decide_eq_false g12_11
     refine au [7,9,1,6,1] ?_
     refine TK.sp 67 (fun g12_16=>?_) (fun g12_16=>?_)
     ·have heq:=eq_of_beq g12_16
      refine au [1,1,37] ?_
      refine TK.a Z (zm Z Z zi.h mQ (jA hil Z)) ?_
      refine au [1] ?_
      refine TK.cl Z Z Z Z (xh hT (P:=P) (S:=S) hB.1 hil hS5) ?_
      rintro r16 K17 ⟨rfl,rfl⟩
      refine au [] ?_
      refine TK.perm (lH (l₁:=(ji P++ji S))) ?_
      simp only [cA]
      refine au [26,25,26,3,20] ?_
      refine ⟨fun hc3=>?_,fun hc3=>?_⟩
      ·have hch:=(xa b (Q.map (·.2)) (sN S i).2 (sN S k).2).2 (.inr ⟨heq,hc3⟩)
       refine TK.draw [0,1,2,3,4,5,6,7,8] [0,1,2,3,6,4,5,7,8] (by kernel_rfl) (by kernel_rfl) ?_
       refine TD.z [8] Z (zh Z Z) ?_
       refine TD.z [12] Z (zh Z Z) ?_
       refine TD.y [77,78] Z (hq:=kA Z Z Z zF.h (mC _) oQ oQ) (h:=?_)
       refine TD.y [79] Z (hq:=zm Z Z zi.h (mC _) (jA hil Z)) (h:=?_)
       refine TD.z [13] Z (zg Z Z zl.h dQ) ?_
       refine TD.y [81] Z (hq:=zm Z Z zi.h (mC _) Z) (h:=?_)
       refine TD.as (pend':=[⟨5,[81],[(_,_)]⟩,⟨4,[13],[]⟩]) [80] Z Z (zD Z Z) ?_
       refine TD.as (pend':=[]) [82] Z Z (zD Z Z) ?_
       refine TD.as (pend':=[]) [] Z Z (zD Z Z) ?_
       refine TD.fin ?_
       refine au [14,5,1,23,2,3] ?_
       refine TK.maskL [1,6,8,9,10,11,12] ?_
       refine TK.kp (((jb,_)::(ja,_)::(s,_)::(jr,_)::(h,_)::(e,_)::(ji P++ji S))) ?_
       exact hnext _ _ _ oQ ⟨i+1,some i,rfl,by omega,jF hB hne hok hch (fun x y z h1 h2=>zb0 _ _ _ h1 h2),rfl,rfl⟩
      have hno:¬ (sqHi b (Q.map (·.2)) (sN S i).2<sqHi b (Q.map (·.2)) (sN S k).2\/(sqHi b (Q.map (·.2)) (sN S i).2=sqHi b (Q.map (·.2)) (sN S k).2/\smallerM (sN S i).2 (sN S k).2=true)):=fun hh=>hh.elim hlt fun hh=>by rw [hh.2] at hc3; cases hc3
      refine au [12,14,5,1,23,2,3] ?_
      refine TK.maskL [1,6,8,9,10,11,12] ?_
      refine TK.kp (((jb,_)::(ja,_)::(s,_)::(jr,_)::(h,_)::(e,_)::(ji P++ji S))) ?_
      exact hnext _ _ _ oQ ⟨i+1,_,rfl,by omega,jI hB (xv hno),rfl,rfl⟩
     have hno:¬ (sqHi b (Q.map (·.2)) (sN S i).2<sqHi b (Q.map (·.2)) (sN S k).2\/(sqHi b (Q.map (·.2)) (sN S i).2=sqHi b (Q.map (·.2)) (sN S k).2/\smallerM (sN S i).2 (sN S k).2=true)):=fun hh=>hh.elim hlt fun hh=>beq_eq_false_iff_ne.1 g12_16 hh.1
     refine au [11,11,11,11,11,11,25,25,26,3,19,12,14,5,1,23,2,3] ?_
     refine TK.maskL [1,6,8,9,10,11,12] ?_
     refine TK.kp (((jb,_)::(ja,_)::(s,_)::(jr,_)::(h,_)::(e,_)::(ji P++ji S))) ?_
     exact hnext _ _ _ oQ ⟨i+1,_,rfl,by omega,jI hB (xv hno),rfl,rfl⟩
    have hok:sqOk b (Q.map (·.2)) (sN S i).2=false:=by simpa using g12_2
    refine au [11,11,11,11,11,11,11,11,11,11,11,11,11,11,11,11,11,11,11,11,11,11,25,3,19,12,14,5,1,23,2,3] ?_
    refine TK.maskL [1,6,8,9,10,11,12] ?_
    refine TK.kp (((jb,_)::(ja,_)::(s,_)::(jr,_)::(h,_)::(e,_)::(ji P++ji S))) ?_
    exact hnext _ _ _ oQ ⟨i+1,_,rfl,by omega,jB hB (.inr hok),rfl,rfl⟩
  obtain rfl:i=S.length:=by simp at hc1; omega
  refine au [16,4,5] ?_
  rcases o with _ | k
  ·have hno:=qx hb hS2 hB
   refine TK.a Z (zh Z Z) ?_
   refine au [1,1,2,2,2,2,3] ?_
   refine TK.rt hret [(s,_),(h,_),(e,_)] ?_
   exact .inr (.inr ⟨hbar,hne,.inl ⟨hQ ▸ hno,rfl,rfl⟩⟩)
  ·have hkl:k<S.length:=hB.1
   obtain ⟨c,hce,hpl⟩:=x8 hb hS2 (bp:=cheaperM) (fun _ _=>rfl) hB
   obtain ⟨R0,hR0⟩:=jG (jE (jS hkl))
   obtain ⟨jc,hjc⟩:∃ jc,jc=(sN S k).1:=⟨_,rfl⟩
   rw [<- hjc,hce] at hR0
   rw [show bvO S (some k)=.sl jc 0 (zw c b.seams.length).length by rw [<- hce,hjc]; rfl]
   refine TK.perm (jaH hR0.perm) ?_
   refine TK.a Z (zh Z Z) ?_
   refine au [1,1,2,2,2,2,3] ?_
   refine TK.rt hret [(jc,_),(s,_),(h,_),(e,_)] ?_
   exact .inr (.inr ⟨hbar,hne,.inr ⟨c,jc,hQ ▸ hpl,by rw [<- hQ,<- hce] <;> rfl,rfl⟩⟩)
instance:Cal tp 110:={}
instance:Cal tp 114:={}
theorem jO {main T} (hT:zo tp main T) {gm} {b:RBk} {s h e:Nat} (hl:b.seams.length<=100) (hm:b.measures.length<=100) :
  zA tp T gm 35 [.agg (zE b s h e)] [(s,zk b),(h,zB b),(e,zq b)] (fun r K'=>(zr b≠0/\r=.tup [.v (.slice none 0 0),zP false,intA (zr b)]/\K'=[(s,zk b),(h,zB b),(e,zq b)])\/(zr b=0/\zf b=[]/\r=.tup [.v (.slice none 0 0),zP false,intA 9]/\K'=[(s,zk b),(h,zB b),(e,zq b)])\/(zr b=0/\zf b≠[]/\((NoPlan b (zf b)/\r=.tup [.v (.slice none 0 0),zP false,intA 0]/\K'=[(s,zk b),(h,zB b),(e,zq b)])\/∃ c jc,PlanA b (zf b) shorterM c/\r=.tup [.sl jc 0 (zw c b.seams.length).length,zP true,intA 0]/\K'=(jc,.cells ((zw c b.seams.length).map intA) 3 false)::[(s,zk b),(h,zB b),(e,zq b)]))):=by
 refine zp 25 hT Tryz.func35 fun Y hret=>?_
 refine au [4,5,21] ?_
 intro jb hjb
 refine au [2,2,2,3,4,5,8] ?_
 refine TK.cl Z Z Z Z (xD hT hl hm) ?_
 rintro r1 K2 h3
 rcases h3 with ⟨hbar,rfl,rfl⟩ | ⟨hbar,hnil,rfl,rfl⟩ | ⟨hbar,hne,jr,Q,P,hQP,hQ,rfl,rfl⟩
 ·refine au [1,10,10,2,2,3,4,4,5,1,6,3,20] ?_
  refine ⟨fun hc0=>?_,fun hc0=>?_⟩
  ·
   refine au [4,5,1,2,2,2,3] ?_
   refine TK.rt hret [(s,_),(h,_),(e,_)] ?_
   exact .inl ⟨hbar,rfl,rfl⟩
  exact absurd hbar (by simpa using hc0)
 ·refine au [1,10,10,2,2,3,4,4,5,1,6,3,20] ?_
  refine ⟨fun hc0=>?_,fun hc0=>?_⟩
  ·
   refine au [4,5,1,2,2,2,3] ?_
   refine TK.rt hret [(s,_),(h,_),(e,_)] ?_
   exact .inr (.inl ⟨hbar,hnil,rfl,rfl⟩)
  exact absurd hc0 dQ
 ·refine au [] ?_
  refine TK.perm (lH (l₁:=(jr,_)::(s,_)::(h,_)::(e,_)::ji P)) ?_
  simp only [cA]
  refine au [1,10,10,2,2,3,4,4,5,1,6,3,20] ?_
  refine ⟨fun hc0=>?_,fun hc0=>?_⟩
  ·exact absurd hc0 dQ
  have hb:=zZ hbar
  have hall:okAll b (Q.map (·.2)):=fun st hst=>(y7 hb (hQ ▸ hst)).1
  have hQl:Q.length<=1000:=by have h1:=kf hb; rw [<- hQ,lJ] at h1; omega
  refine au [12,4,5,8,1] ?_
  refine TK.cl Z Z Z Z (xy hT hb hall hQP hQl) ?_
  rintro r4 K5 h6
  rcases h6 with ⟨hno,rfl,rfl⟩ | ⟨c,jc,hpl,rfl,rfl⟩
  ·refine au [] ?_
   refine TK.perm (lH (l₁:=(s,_)::(jr,_)::ji P)) ?_
   simp only [cA]
   refine au [1,10,10,2,2,3,4,5,1,1,2,2,2,3] ?_
   refine TK.rt hret [(s,_),(h,_),(e,_)] ?_
   exact .inr (.inr ⟨hbar,hne,.inl ⟨hQ ▸ hno,rfl,rfl⟩⟩)
  ·refine au [] ?_
   refine TK.perm (lH (l₁:=(jc,_)::(s,_)::(jr,_)::ji P)) ?_
   simp only [cA]
   refine au [1,10,10,2,2,3,4,5,1,1,2,2,2,3] ?_
   refine TK.rt hret [(jc,_),(s,_),(h,_),(e,_)] ?_
   exact .inr (.inr ⟨hbar,hne,.inr ⟨c,jc,hQ ▸ hpl,rfl,rfl⟩⟩)
theorem xl {main T} (hT:zo tp main T) {gm} {b:RBk} {s h e:Nat} (hl:b.seams.length<=100) (hm:b.measures.length<=100) :
  zA tp T gm 37 [.agg (zE b s h e)] [(s,zk b),(h,zB b),(e,zq b)] (fun r K'=>(zr b≠0/\r=.tup [intA 0,zP false,intA (zr b)]/\K'=[(s,zk b),(h,zB b),(e,zq b)])\/(zr b=0/\zf b=[]/\r=.tup [intA 0,zP false,intA 9]/\K'=[(s,zk b),(h,zB b),(e,zq b)])\/(zr b=0/\zf b≠[]/\r=.tup [intA ((widestM b (zf b)).getD 0),zP (widestM b (zf b)).isSome,intA 0]/\K'=[(s,zk b),(h,zB b),(e,zq b)])):=by
 refine zp 38 hT Tryz.func37 fun Y hret=>?_
 refine au [4,5,21] ?_
 intro jb hjb
 refine au [2,2,2,3,4,5,8] ?_
 refine TK.cl Z Z Z Z (xD hT hl hm) ?_
 rintro r1 K2 h3
 rcases h3 with ⟨hbar,rfl,rfl⟩ | ⟨hbar,hnil,rfl,rfl⟩ | ⟨hbar,hne,jr,Q,P,hQP,hQ,rfl,rfl⟩
 ·refine au [1,10,10,2,2,3,4,4,5,1,6,3,20] ?_
  refine ⟨fun hc0=>?_,fun hc0=>?_⟩
  ·
   refine au [4,5,1,2,2,2,3] ?_
   refine TK.rt hret [(s,_),(h,_),(e,_)] ?_
   exact .inl ⟨hbar,rfl,rfl⟩
  exact absurd hbar (by simpa using hc0)
 ·refine au [1,10,10,2,2,3,4,4,5,1,6,3,20] ?_
  refine ⟨fun hc0=>?_,fun hc0=>?_⟩
  ·
   refine au [4,5,1,2,2,2,3] ?_
   refine TK.rt hret [(s,_),(h,_),(e,_)] ?_
   exact .inr (.inl ⟨hbar,hnil,rfl,rfl⟩)
  exact absurd hc0 dQ
 ·refine au [] ?_
  refine TK.perm (lH (l₁:=(jr,_)::(s,_)::(h,_)::(e,_)::ji P)) ?_
  simp only [cA]
  refine au [1,10,10,2,2,3,4,4,5,1,6,3,20] ?_
  refine ⟨fun hc0=>?_,fun hc0=>?_⟩
  ·exact absurd hc0 dQ
  have hb:=zZ hbar
  have hall:okAll b (Q.map (·.2)):=fun st hst=>(y7 hb (hQ ▸ hst)).1
  have hQl:Q.length<=1000:=by have h1:=kf hb; rw [<- hQ,lJ] at h1; omega
  refine au [12,4,5,8,22] ?_
  intro jo hjo
  refine au [17,3,4,4,5,7,17,3,13] ?_
  refine TK.maskL [1,5,7] ?_
  have hst:=hb.rnd.steps
  refine TK.kp ((jo,_)::(jb,_)::(h,_)::(e,_)::(s,_)::(jr,_)::ji P) ?_
  refine TK.loopN (fun n env K=>∃ (k:Nat),n=k/\b.steps+k<=41/\widestL b (zf b) k=widestM b (zf b)/\env=.any::.ptr jb 0::naL 3 (.row jr Q.length::.any::.ptr jo 0::naL 30 [])/\K=(jo,.cells (zE (atRound b (b.steps+(k:Int) - 1)) s h e) 26 true)::(jb,.cells (zE b s h e) 26 true)::(h,zB b)::(e,zq b)::(s,zk b)::(jr,.row (refsL Q) 27 1)::ji P) (41 - b.steps).toNat ⟨(41 - b.steps).toNat,rfl,by omega,rfl,rfl,by rw [show b.steps+((41 - b.steps).toNat:Int) - 1=40 by omega]; rfl⟩ fun n env K hI hnext=>?_
  obtain ⟨k1,hn1,hk,hw,rfl,rfl⟩:=hI
  subst n
  refine TK.na nQ ?_
  refine au [4,4,5,7,9,7,9,6,3,20] ?_
  refine ⟨fun hc1=>?_,fun hc1=>?_⟩
  ·obtain ⟨k,rfl⟩:∃ k,k1=k+1:=⟨k1 - 1,by simp [atRound] at hc1; omega⟩
   have hkk:b.steps+((k+1:Nat):Int) - 1=b.steps+(k:Int):=by omega
   rw [hkk]
   refine au [12,4,13,4,5,8,1] ?_
   refine TK.cl Z Z Z Z (xy hT (b:=atRound b (b.steps+(k:Int))) (zb9 hb oQ oQ) (zgN hall _) hQP hQl) ?_
   rintro r4 K5 h6
   rcases h6 with ⟨hno,rfl,rfl⟩ | ⟨c,jc,hpl,rfl,rfl⟩
   ·refine au [] ?_
    refine TK.perm (lH (l₁:=(s,_)::(jr,_)::ji P)) ?_
    simp only [cA]
    refine au [1,10,10,2,2,3,4,5,1,3,20] ?_
    refine ⟨fun hc2=>?_,fun hc2=>?_⟩
    ·cases hc2
    refine au [12,14,5,7,9] ?_
    refine TK.a Z (q_sub Z Z Z (by show -9223372036854775808<=b.steps+(k:Int) - 1/\b.steps+(k:Int) - 1<9223372036854775808; omega)) ?_
    refine au [7,17,3] ?_
    refine TK.maskL [1,5,7] ?_
    refine TK.kp (((jo,_)::(jb,_)::(h,_)::(e,_)::(s,_)::(jr,_)::ji P)) ?_
    exact hnext _ _ _ oQ ⟨k,rfl,by omega,by rw [<- hw,show widestL b (zf b) (k+1)=widestL b (zf b) k from if_neg (by rw [<- hQ,qK hno]; decide)],rfl,rfl⟩
   ·refine au [] ?_
    refine TK.perm (lH (l₁:=(jc,_)::(s,_)::(jr,_)::ji P)) ?_
    simp only [cA]
    refine au [1,10,10,2,2,3,4,5,1,3,20] ?_
    refine ⟨fun hc2=>?_,fun hc2=>?_⟩
    ·
     refine au [4,5,7,9,2,2,2,3] ?_
     refine TK.rt hret [(s,_),(h,_),(e,_)] ?_
     exact .inr (.inr ⟨hbar,hne,by rw [<- hw,show widestL b (zf b) (k+1)=some (b.steps+k) from if_pos (hQ ▸ jaj hpl)]; rfl,rfl⟩)
    cases hc2
  obtain rfl:k1=0:=by simp [atRound] at hc1; omega
  refine au [16,4,5,2,2,2,3] ?_
  refine TK.rt hret [(s,_),(h,_),(e,_)] ?_
  exact .inr (.inr ⟨hbar,hne,by rw [<- hw]; rfl,rfl⟩)
theorem qa {p q:List Int×Int} (h:cheaperM p q=true):cheaperM q p=false:=by
 cases h2:cheaperM q p with
 | false=>rfl
 | true =>
  rw [kT] at h h2
  rcases h with h | ⟨h,h3⟩ <;> rcases h2 with h2 | ⟨h2,h4⟩
  ·omega
  ·omega
  ·omega
  ·rw [ziE h3] at h4; cases h4
theorem qd {b:RBk} {all:List (List Int)} {bt:List Int×Int->List Int×Int->Bool} {c d:Nat} (han:∀ p q,bt p q=true->bt q p=false) (hc:PlanA b all bt c) (hd:PlanA b all bt d):zw d b.seams.length=zw c b.seams.length:=by
 rcases hc.2.2.2 d hd.1 hd.2.1 hd.2.2.1 with e | e
 ·exact (Prod.mk.inj e).1
 ·rcases hd.2.2.2 c hc.1 hc.2.1 hc.2.2.1 with e2 | e2
  ·exact (Prod.mk.inj e2).1.symm
  ·rw [han _ _ e] at e2; cases e2
instance:Cal tp 33:={}
instance:Cal tp 35:={}
instance:Cal tp 37:={}
theorem qc {b:RBk} {s h e:Nat}  : Top tp gmR 4 [.agg (zE b s h e)] [(0,zy),(s,zk b),(h,zB b),(e,zq b)] (fun r _=>r=zP true):=by
 refine topI 101 Tryz.func4 fun R Y hret=>?_
 have hT:=kH (P:=tp) (AtRet tp 4 R)
 refine au [4,5,21] ?_
 intro jb hjb
 refine au [2,3,4,4,5,8] ?_
 refine TK.cl Z Z Z Z (zfZ hT) ?_
 rintro r1 K2 ⟨rfl,rfl⟩
 refine au [3,20] ?_
 refine ⟨fun hc0=>?_,fun hc0=>?_⟩
 ·refine au [4,5] ?_
  refine TK.cl Z Z Z Z (zi5) ?_
  rintro r4 K5 ⟨rfl,rfl⟩
  refine au [2,3] ?_
  refine TK.rt hret [] ?_
  rfl
 have hg:greatM b=false:=by simpa using hc0
 have hlm:b.seams.length<=100/\b.measures.length<=100:=by unfold greatM at hg; simp at hg; omega
 obtain ⟨hl,hm⟩:=hlm
 refine au [12,4,5,8] ?_
 refine' TK.share (X:=Unit) (D:=fun x=>True) (E:=fun x=>.any::.ptr jb 0::naL 99 []) (KK:=fun x=>[(0,zy),(s,zk b),(h,zB b),(e,zq b),(jb,.cells (zE b s h e) 26 true)]) ?_ ?_
 rotate_left
 ·intro H
  refine TK.cl Z Z Z Z (zgP hl hm) ?_
  rintro r7 K8 h9
  rcases h9 with ⟨hbar,rfl,rfl⟩ | ⟨hbar,hnil,rfl,rfl⟩ | ⟨hbar,hne,⟨hno,rfl,rfl⟩ | ⟨c,jc,ec,hp,rfl,rfl⟩⟩
  ·refine au [1,10,10,10,10,2,2,2,2,3,4,5,8] ?_
   refine TK.cl Z Z Z Z ((xe hT hl hm).mono (fun _ _ h=>or3l h hbar)) ?_
   rintro r10 K11 ⟨rfl,rfl⟩
   refine au [1,10,10,10,10,2,2,2,2,3,4,4,5,1,1] ?_
   refine TK.cl Z Z Z Z (jD hT) ?_
   rintro r13 K14 ⟨rfl,rfl⟩
   refine au [] ?_
   skip
   refine au [30,1,1,1,6,25,1,1,1,34,25,1,1,1,6,25,3,20] ?_
   refine ⟨fun hc1=>?_,fun hc1=>?_⟩
   ·first | exact absurd hc1 dQ | simp at hc1
   refine au [12,4] ?_
   refine TK.maskL [1] ?_
   refine TK.kp [(0,_),(s,_),(h,_),(e,_),(jb,_)] ?_
   exact H () trivial
  ·refine au [1,10,10,10,10,2,2,2,2,3,4,5,8] ?_
   refine TK.cl Z Z Z Z ((xe hT hl hm).mono (fun _ _ h=>or3n h hbar hnil)) ?_
   rintro r127 K128 ⟨rfl,rfl⟩
   refine au [1,10,10,10,10,2,2,2,2,3,4,4,5,1,1] ?_
   refine TK.cl Z Z Z Z (jD hT) ?_
   rintro r130 K131 ⟨rfl,rfl⟩
   refine au [] ?_
   skip
   refine au [30,1,1,1,6,25,1,1,1,34,25,1,1,1,6,25,3,20] ?_
   refine ⟨fun hc1=>?_,fun hc1=>?_⟩
   ·first | exact absurd hc1 dQ | simp at hc1
   refine au [12,4] ?_
   refine TK.maskL [1] ?_
   refine TK.kp [(0,_),(s,_),(h,_),(e,_),(jb,_)] ?_
   exact H () trivial
  ·refine au [1,10,10,10,10,2,2,2,2,3,4,5,8] ?_
   refine TK.cl Z Z Z Z ((xe hT hl hm).mono (fun _ _ h=>or3 h hbar hne)) ?_
   rintro r244 K245 h246
   rcases h246 with ⟨hno2,rfl,rfl⟩ | ⟨c2,jc2,hp2,rfl,rfl⟩
   ·refine au [] ?_
    skip
    refine au [1,10,10,10,10,2,2,2,2,3,4,4,5,1,1] ?_
    refine TK.cl Z Z Z Z (jD hT) ?_
    rintro r247 K248 ⟨rfl,rfl⟩
    refine au [] ?_
    skip
    refine au [30,1,1,1,6,25,1,1,1,34,25,1,1,1,6,25,3,20] ?_
    refine ⟨fun hc1=>?_,fun hc1=>?_⟩
    ·first | exact absurd hc1 dQ | simp at hc1
    refine au [12,4] ?_
    refine TK.maskL [1] ?_
    refine TK.kp [(0,_),(s,_),(h,_),(e,_),(jb,_)] ?_
    exact H () trivial
   ·refine au [] ?_
    exact (xx hp2 hno).elim
  ·refine au [1,10,10,10,10,2,2,2,2,3,4,5,8] ?_
   refine TK.cl Z Z Z Z ((xe hT hl hm).mono (fun _ _ h=>or3 h hbar hne)) ?_
   rintro r361 K362 h363
   rcases h363 with ⟨hno2,rfl,rfl⟩ | ⟨c2,jc2,hp2,rfl,rfl⟩
   ·refine au [] ?_
    exact (xx hp hno2).elim
   ·refine au [] ?_
    rw [qd (fun _ _ h=>qa h) hp hp2]
    refine au [1,10,10,10,10,2,2,2,2,3,4,4,5,1,1] ?_
    refine TK.cl Z Z Z Z (xt hT (by have:=wC c b.seams.length; omega)) ?_
    rintro r364 K365 ⟨rfl,rfl⟩
    refine au [] ?_
    try rw [decide_eq_true (rfl:zw c b.seams.length=zw c b.seams.length)]
    refine au [30,1,1,1,6,25,1] ?_
    refine TK.sp 37 (fun g5_10=>?_) (fun g5_10=>?_)
    ·simp at g5_10
    refine au [1,1,34,25,1,1,1,6,25,3,20] ?_
    refine ⟨fun hc1=>?_,fun hc1=>?_⟩
    ·first | exact absurd hc1 dQ | simp at hc1
    refine au [12,4] ?_
    refine TK.maskL [1] ?_
    refine TK.kp [(0,_),(s,_),(h,_),(e,_),(jb,_)] ?_
    exact H () trivial
 ·rintro _ _
  refine TK.na nQ ?_
  refine au [5,8] ?_
  refine' TK.share (X:=Unit) (D:=fun x=>True) (E:=fun x=>.any::.ptr jb 0::naL 99 []) (KK:=fun x=>[(0,zy),(s,zk b),(h,zB b),(e,zq b),(jb,.cells (zE b s h e) 26 true)]) ?_ ?_
  rotate_left
  ·intro H
   refine TK.cl Z Z Z Z (zeO hl hm) ?_
   rintro r367 K368 h369
   rcases h369 with ⟨hbar,rfl,rfl⟩ | ⟨hbar,hnil,rfl,rfl⟩ | ⟨hbar,hne,⟨hno,rfl,rfl⟩ | ⟨c,jc,ec,hp,rfl,rfl⟩⟩
   ·refine au [1,10,10,10,2,2,2,3,4,5,8] ?_
    refine TK.cl Z Z Z Z ((jO hT hl hm).mono (fun _ _ h=>or3l h hbar)) ?_
    rintro r370 K371 ⟨rfl,rfl⟩
    refine au [1,10,10,10,2,2,2,3,4,4,5,1,1] ?_
    refine TK.cl Z Z Z Z (jD hT) ?_
    rintro r373 K374 ⟨rfl,rfl⟩
    refine au [] ?_
    skip
    refine au [30,1,1,1,34,25,1,1,1,6,25,3,20] ?_
    refine ⟨fun hc2=>?_,fun hc2=>?_⟩
    ·first | exact absurd hc2 dQ | simp at hc2
    refine au [12,4] ?_
    refine TK.maskL [1] ?_
    refine TK.kp [(0,_),(s,_),(h,_),(e,_),(jb,_)] ?_
    exact H () trivial
   ·refine au [1,10,10,10,2,2,2,3,4,5,8] ?_
    refine TK.cl Z Z Z Z ((jO hT hl hm).mono (fun _ _ h=>or3n h hbar hnil)) ?_
    rintro r397 K398 ⟨rfl,rfl⟩
    refine au [1,10,10,10,2,2,2,3,4,4,5,1,1] ?_
    refine TK.cl Z Z Z Z (jD hT) ?_
    rintro r400 K401 ⟨rfl,rfl⟩
    refine au [] ?_
    skip
    refine au [30,1,1,1,34,25,1,1,1,6,25,3,20] ?_
    refine ⟨fun hc2=>?_,fun hc2=>?_⟩
    ·first | exact absurd hc2 dQ | simp at hc2
    refine au [12,4] ?_
    refine TK.maskL [1] ?_
    refine TK.kp [(0,_),(s,_),(h,_),(e,_),(jb,_)] ?_
    exact H () trivial
   ·refine au [1,10,10,10,2,2,2,3,4,5,8] ?_
    refine TK.cl Z Z Z Z ((jO hT hl hm).mono (fun _ _ h=>or3 h hbar hne)) ?_
    rintro r424 K425 h426
    rcases h426 with ⟨hno2,rfl,rfl⟩ | ⟨c2,jc2,hp2,rfl,rfl⟩
    ·refine au [] ?_
     skip
     refine au [1,10,10,10,2,2,2,3,4,4,5,1,1] ?_
     refine TK.cl Z Z Z Z (jD hT) ?_
     rintro r427 K428 ⟨rfl,rfl⟩
     refine au [] ?_
     skip
     refine au [30,1,1,1,34,25,1,1,1,6,25,3,20] ?_
     refine ⟨fun hc2=>?_,fun hc2=>?_⟩
     ·first | exact absurd hc2 dQ | simp at hc2
     refine au [12,4] ?_
     refine TK.maskL [1] ?_
     refine TK.kp [(0,_),(s,_),(h,_),(e,_),(jb,_)] ?_
     exact H () trivial
    ·refine au [] ?_
     exact (xx hp2 hno).elim
   ·refine au [1,10,10,10,2,2,2,3,4,5,8] ?_
    refine TK.cl Z Z Z Z ((jO hT hl hm).mono (fun _ _ h=>or3 h hbar hne)) ?_
    rintro r451 K452 h453
    rcases h453 with ⟨hno2,rfl,rfl⟩ | ⟨c2,jc2,hp2,rfl,rfl⟩
    ·refine au [] ?_
     exact (xx hp hno2).elim
    ·refine au [] ?_
     rw [qd (fun _ _ h=>ziE h) hp hp2]
     refine au [1,10,10,10,2,2,2,3,4,4,5,1,1] ?_
     refine TK.cl Z Z Z Z (xt hT (by have:=wC c b.seams.length; omega)) ?_
     rintro r454 K455 ⟨rfl,rfl⟩
     refine au [] ?_
     try rw [decide_eq_true (rfl:zw c b.seams.length=zw c b.seams.length)]
     refine au [30,1,1,1,34,25,1,1,1,6,25,3,20] ?_
     refine ⟨fun hc2=>?_,fun hc2=>?_⟩
     ·first | exact absurd hc2 dQ | simp at hc2
     refine au [12,4] ?_
     refine TK.maskL [1] ?_
     refine TK.kp [(0,_),(s,_),(h,_),(e,_),(jb,_)] ?_
     exact H () trivial
  ·rintro _ _
   refine TK.na nQ ?_
   refine au [5,8] ?_
   refine TK.cl Z Z Z Z (zfy hl hm) ?_
   rintro r457 K458 h459
   rcases h459 with ⟨hbar,rfl,rfl⟩ | ⟨hbar,hnil,rfl,rfl⟩ | ⟨hbar,hne,rfl,rfl⟩
   ·refine au [1,10,10,10,2,2,2,3,4,5,8] ?_
    refine TK.cl Z Z Z Z ((xl hT hl hm).mono (fun _ _ h=>or3l h hbar)) ?_
    rintro r460 K461 ⟨rfl,rfl⟩
    refine au [1,10,10,10,2,2,2,3,4,5,1,1,6,1,1,1,34,26,1,1,1,6,26,1] ?_
    refine TK.sp 98 (fun g13_14=>?_) (fun g13_14=>?_)
    ·refine TK.cl Z Z Z Z (zi5) ?_
     rintro r463 K464 ⟨rfl,rfl⟩
     refine au [26,2,3] ?_
     refine TK.rt hret [] ?_
     rfl
    simp at g13_14
   ·refine au [1,10,10,10,2,2,2,3,4,5,8] ?_
    refine TK.cl Z Z Z Z ((xl hT hl hm).mono (fun _ _ h=>or3n h hbar hnil)) ?_
    rintro r466 K467 ⟨rfl,rfl⟩
    refine au [1,10,10,10,2,2,2,3,4,5,1,1,6,1,1,1,34,26,1,1,1,6,26,1] ?_
    refine TK.cl Z Z Z Z (zi5) ?_
    rintro r469 K470 ⟨rfl,rfl⟩
    refine au [26,2,3] ?_
    refine TK.rt hret [] ?_
    rfl
   ·refine au [1,10,10,10,2,2,2,3,4,5,8] ?_
    refine TK.cl Z Z Z Z ((xl hT hl hm).mono (fun _ _ h=>or3 h hbar hne)) ?_
    rintro r472 K473 ⟨rfl,rfl⟩
    refine au [1,10,10,10,2,2,2,3,4,5,1,1,6,1] ?_
    refine TK.sp 88 (fun g13_4=>?_) (fun g13_4=>?_)
    ·refine au [1,1,34,26,1] ?_
     refine TK.sp 93 (fun g13_9=>?_) (fun g13_9=>?_)
     ·refine au [1,1,6,26,1] ?_
      refine TK.cl Z Z Z Z (zi5) ?_
      rintro r475 K476 ⟨rfl,rfl⟩
      refine au [26,2,3] ?_
      refine TK.rt hret [] ?_
      rfl
     simp at g13_9
    simp at g13_4
end Go.Vel
end
