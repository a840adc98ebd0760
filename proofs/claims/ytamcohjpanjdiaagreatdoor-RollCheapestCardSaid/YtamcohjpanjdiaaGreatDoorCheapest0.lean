/- The law RollCheapest: no other way to put in as many new steps needs fewer squares than that of Hang, or as many and is a lesser list; it can be done just if the strips fit, and Mosts are together no less than the new steps. It holds of every program, tape and world that the statements name, as each theorem says. -/
import Derived.Test.YtamcohjpanjdiaaGreatDoorK5
import Derived.Test.YtamcohjpanjdiaaGreatDoorK7
import Derived.Test.YtamcohjpanjdiaaGreatDoorK8
import Derived.Test.YtamcohjpanjdiaaGreatDoorK10
section
set_option linter.all false
set_option maxRecDepth 20000
set_option maxHeartbeats 60000000
open Go.Proofs.Tryz renaming prog -> tp
open List renaming getElem?_eq_getElem -> lA, getD_eq_getElem?_getD -> lE, length_append -> lF, mem_cons -> lI, map_append -> lM, getElem?_eq_none -> lU, take_length -> lW, getElem?_set -> lX, replicate -> mB
open List.Mem renaming head -> mC
open Nat renaming le_refl -> mL, zero_le -> mN, zero_add -> mO, lt_or_ge -> mR
open Bool renaming and_eq_true -> mX
open Int renaming toNat_natCast -> mZ
namespace Go.Vel
open Go Go.Conc Go.Proofs
instance:EqG tp 49:={}
instance:EqG tp 94:={}
instance:FlatF tp 49 [(3,0),(3,1),(3,2)]:={}
instance:FlatF tp 94 [(3,0),(3,1),(3,2),(3,3),(4,4)]:={}
instance:Und tp 4 .bool:={}
end Go.Vel
namespace Go.Vel
open Go Go.Conc
end Go.Vel
namespace Go.Vel
open Go Go.Conc Go.Proofs
instance:Cal tp 19:={}
instance:Cal tp 44:={}
instance:Cal tp 49:={}
end Go.Vel
namespace Go.Vel
open Go Go.Conc
theorem xG:∀ m:Fin 6,∀ k:Fin 5,k.1<m.1->zw (2 ^ k.1) m.1=[(k.1:Int)]:=by decide
theorem xt:∀ i,zw 0 i=[]
 | 0=>rfl
 | i+1=>by unfold zw; rw [xt i,Nat.zero_div]; rfl
theorem jL (c m:Nat):∀ i,i<=m->zw (c % 2 ^ m) i=zw c i
 | 0,_=>rfl
 | i+1,h=>by
  unfold zw
  rw [jL c m i oQ]
  have h1:=Nat.testBit_mod_two_pow c m i
  rw [Nat.testBit_eq_decide_div_mod_eq,Nat.testBit_eq_decide_div_mod_eq,decide_eq_true (show i<m by omega),Bool.true_and] at h1
  have h2:(c % 2 ^ m / 2 ^ i % 2=1)=(c / 2 ^ i % 2=1):=propext (by simpa using h1)
  simp only [h2]
def otherM (c n:Nat):List Int:=if zw c n=[] then [((c % n:Nat):Int)] else zw c n
theorem xp {c n:Nat} (h1:1<=n) (h5:n<=5):∃ d,0<d/\d<2 ^ n/\otherM c n=zw d n:=by
 unfold otherM
 split
 ·have hm:=Nat.mod_lt c h1
  exact ⟨2 ^ (c % n),Nat.two_pow_pos _,Nat.pow_lt_pow_right dQ hm,(xG ⟨n,by omega⟩ ⟨c % n,by omega⟩ hm).symm⟩
 ·rename_i h
  refine ⟨c % 2 ^ n,?_,Nat.mod_lt _ (Nat.two_pow_pos _),(jL c n n (mL _)).symm⟩
  rcases Nat.eq_zero_or_pos (c % 2 ^ n) with h0 | h0
  ·exact absurd (by rw [<- jL c n n (mL _),h0]; exact xt n) h
  ·exact h0
end Go.Vel
namespace Go.Vel
open Go Go.Conc Go.Proofs
section
variable {P:Program} {gm:Nat->Option Nat} {V:KV} {env:List AV} {o:Oper}
theorem xY {t yt:TypeId} {x y:Operand} {k':IntKind} {a b:Nat} (ho:o.op=.binOp .shr t x y yt) (hx:zn gm env x=some (.v (.int .u8 a))) (hy:zn gm env y=some (.v (.int k' b))) (h0:b<=6):Qk P gm env V o (.v (.int .u8 ((a / 2 ^ b:Nat):Int))):=fun A _=>by
 refine vq ho (by rw [zx hx]; rfl) (by rw [zx hy]; rfl) ?_
 rw [u7]
 show zR P (Op.shift .shr .u8 a k' b)=_
 unfold Op.shift
 rw [if_neg oQ]
 show some (Value.int .u8 ((a:Int).fdiv (2 ^ min (b:Int).toNat 8)))=_
 rw [mZ,Nat.min_eq_left oQ,show ((a:Int).fdiv (2 ^ b))=((a / 2 ^ b:Nat):Int) by rw [Int.fdiv_eq_ediv_of_nonneg _ (by exact_mod_cast mN (2 ^ b))]; norm_cast]
theorem xX {t yt:TypeId} {x y:Operand} {a:Nat} (ho:o.op=.binOp .and t x y yt) (hx:zn gm env x=some (.v (.int .u8 a))) (hy:zn gm env y=some (.v (.int .u8 1))) (h:a<256):Qk P gm env V o (.v (.int .u8 ((a % 2:Nat):Int))):=by
 refine wQ ho hx hy ?_
 show some (Value.int .u8 (IntKind.u8.wrap ((BitVec.ofInt 8 (a:Int) &&& BitVec.ofInt 8 1).toNat:Int)))=_
 have:(BitVec.ofInt 8 (a:Int) &&& BitVec.ofInt 8 1).toNat=a % 2:=by
  rw [BitVec.toNat_and]
  have e1:(BitVec.ofInt 8 (a:Int)).toNat=a:=by
   rw [BitVec.toNat_ofInt]
   omega
  rw [e1]
  show a &&& 1=a % 2
  exact Nat.and_one_is_mod a
 rw [this]
 have h2:a % 2=0\/a % 2=1:=by omega
 rcases h2 with h2 | h2 <;> rw [h2] <;> rfl
end
theorem xr {c i:Nat} (h:c / 2 ^ i % 2=1):zw c (i+1)=zw c i++[(i:Int)]:=by
 show zw c i++_=_
 rw [if_pos h]
theorem xq {c i:Nat} (h:¬ c / 2 ^ i % 2=1):zw c (i+1)=zw c i:=by
 show zw c i++_=_
 rw [if_neg h,List.append_nil]
theorem xW {x y:Int} {r t:List Int} (h:¬ x=y):decide (lexM (x::r) (y::t)<0)=decide (x<y):=by
 refine decide_eq_decide.2 ?_
 simp only [lexM]
 by_cases h1:x<y
 ·rw [if_pos h1]; simp [h1]
 ·rw [if_neg h1,if_pos oQ]; simp [h1]
theorem xn {xs ys:List Int} {i:Nat} (hi:i<=xs.length) (hi2:i<=ys.length) (h:xs.length<=i\/ys.length<=i):decide (lexM (xs.drop i) (ys.drop i)<0)=decide ((xs.length:Int)<ys.length):=by
 refine decide_eq_decide.2 ?_
 rcases mR i xs.length with h1 | h1
 ·have h2:ys.length<=i:=by omega
  rw [zH (z5 h1),List.drop_eq_nil_of_le h2]
  simp only [lexM]
  omega
 ·rw [List.drop_eq_nil_of_le h1]
  rcases mR i ys.length with h2 | h2
  ·rw [zH (z5 h2)]
   simp only [lexM]
   omega
  ·rw [List.drop_eq_nil_of_le h2]
   simp only [lexM]
   omega
instance:Cal tp 62:={}
instance:Cal tp 75:={}
theorem xK {main T} (hT:zo tp main T) {gm} {b:RBk} {s h e c:Nat} (hn:1<=b.seams.length/\b.seams.length<=5) (hc:c<256) :
  zA tp T gm 50 [.agg (zE b s h e),.v (.int .u8 (c:Int))] [] (fun r K'=>∃ (jo:Nat) (eo:TypeId),r=.sl jo 0 (otherM c b.seams.length).length/\K'=[(jo,.cells ((otherM c b.seams.length).map intA) eo false)]):=by
 refine zp 34 hT Tryz.func50 fun Y hret=>?_
 refine au [4,5,21] ?_
 intro jb hjb
 refine au [2,3,4,5,2] ?_
 refine TK.virt 5 3 1 Z fun jr0 hjr0=>?_
 refine au [3,4,4,5,2,3,13] ?_
 refine TK.maskL [1,2,5,6] ?_
 refine TK.kp [(jr0,_),(jb,_)] ?_
 refine TK.loopN (fun n env K=>∃ (i jr:Nat),n=b.seams.length - i/\i<=b.seams.length/\env=.any::.v (.int .u8 (c:Int))::.ptr jb 0::naL 2 (.row jr (zw c i).length::intA i::naL 27 [])/\K=[(jr,.row ((zw c i).map intA) 3 1),(jb,.cells (zE b s h e) 26 true)]) b.seams.length ⟨0,jr0,rfl,mN _,rfl,rfl⟩ fun n env K hI hnext=>?_
 obtain ⟨i,jr,rfl,hi,rfl,rfl⟩:=hI
 have hbl:=wC c i
 refine TK.na nQ ?_
 refine au [4,4,5,1,7,9,28,6,3,20] ?_
 refine ⟨fun hc0=>?_,fun hc0=>?_⟩
 ·have hil:i<b.seams.length:=by simp at hc0; omega
  refine au [12,4,13,4,5,1,1] ?_
  refine TK.a Z (xY Z Z Z oQ) ?_
  refine TK.a Z (xX Z Z Z (by have:=Nat.div_le_self c (2 ^ i); omega)) ?_
  refine au [6,3,20] ?_
  refine ⟨fun hc1=>?_,fun hc1=>?_⟩
  ·have hbit:c / 2 ^ i % 2=1:=by have h:=eq_of_beq hc1; omega
   refine au [5,1,1] ?_
   refine TK.newR Z Z Z (zt (l:=[_]) Z zF.h TyZ.h dQ dQ Z) (fun _=>zu rfl tQ) fun j1 hj1=>?_
   refine TK.appR Z Z Z (a_app Z ApOf.h Z mQ sQ Z (yu (ln:=[_]) mQ dQ sQ Z) oQ Z (by unfold maxLen; omega) oQ) (fun _=>uQ) (fun _=>zu rfl tQ) fun jr2=>?_
   refine au [2,3,14,5,1,23,2,3] ?_
   refine TK.maskL [1,2,5,6] ?_
   refine TK.kp [(jr2,_),(jb,_)] ?_
   exact hnext _ _ _ oQ ⟨i+1,jr2,rfl,by omega,by rw [xr hbit,lF]; rfl,by rw [xr hbit,lM]; rfl⟩
  have hbit:¬ c / 2 ^ i % 2=1:=fun h=>by rw [h] at hc1; simp at hc1
  refine au [12,14,5,1,23,2,3] ?_
  refine TK.maskL [1,2,5,6] ?_
  refine TK.kp [(jr,_),(jb,_)] ?_
  exact hnext _ _ _ oQ ⟨i+1,jr,rfl,by omega,by rw [xq hbit] <;> rfl,by rw [xq hbit] <;> rfl⟩
 obtain rfl:i=b.seams.length:=by simp at hc0; omega
 refine au [16,4,4,5,1,28,6,3,20] ?_
 refine ⟨fun hc2=>?_,fun hc2=>?_⟩
 ·have hb0:zw c b.seams.length=[]:=by have h:=eq_of_beq hc2; exact List.eq_nil_of_length_eq_zero oQ
  have hot:otherM c b.seams.length=[((c % b.seams.length:Nat):Int)]:=if_pos hb0
  refine au [4,5,1] ?_
  refine TK.a Z (yU Z Z Und.h Und.h (wK oQ)) ?_
  refine au [7,9,28] ?_
  refine TK.a Z (q_rem Z Z Z oQ oQ) ?_
  refine TK.newR Z Z Z (zt (l:=[_]) Z zF.h TyZ.h dQ dQ Z) (fun _=>zu rfl tQ) fun jo hjo=>?_
  refine au [2] ?_
  refine TK.asSl 4 Z mQ ?_
  refine TK.frzRow (j:=jo) ?_
  refine au [3] ?_
  refine TK.rt hret [(jo,_)] ?_
  exact ⟨jo,_,by rw [hot]; rfl,by rw [hot]; rfl⟩
 have hb0:zw c b.seams.length≠[]:=fun hh=>by rw [hh] at hc2; simp at hc2
 have hot:otherM c b.seams.length=zw c b.seams.length:=if_neg hb0
 refine TK.asSl 5 Z mQ ?_
 refine TK.frzRow (j:=jr) ?_
 refine au [12,4,5,1,2,3] ?_
 refine TK.rt hret [(jr,_)] ?_
 exact ⟨jr,_,by rw [hot],by rw [hot]⟩
theorem xj {main T} (hT:zo tp main T) {gm} {j j2:Nat} {xs ys:List Int} {e1 e2:TypeId} (hl:xs.length<=1000) (hl2:ys.length<=1000) :
  zA tp T gm 75 [.sl j 0 xs.length,.sl j2 0 ys.length] [(j,.cells (xs.map intA) e1 false),(j2,.cells (ys.map intA) e2 false)] (fun r K'=>r=zP (decide (lexM xs ys<0))/\K'=[(j,.cells (xs.map intA) e1 false),(j2,.cells (ys.map intA) e2 false)]):=by
 refine zp 41 hT Tryz.func75 fun Y hret=>?_
 refine au [4,5,2,3,4,4,5,2,3,13] ?_
 refine TK.maskL [0,1,5] ?_
 refine TK.loopN (fun n env K=>∃ (i:Nat),n=xs.length - i/\i<=xs.length/\i<=ys.length/\lexM (xs.drop i) (ys.drop i)=lexM xs ys/\env=.sl j 0 xs.length::.sl j2 0 ys.length::naL 3 (intA i::naL 35 [])/\K=[(j,.cells (xs.map intA) e1 false),(j2,.cells (ys.map intA) e2 false)]) xs.length ⟨0,rfl,mN _,mN _,rfl,rfl,rfl⟩ fun n env K hI hnext=>?_
 obtain ⟨i,rfl,hi,hi2,hinv,rfl,rfl⟩:=hI
 refine TK.na nQ ?_
 refine au [4,4,5,1,1,28,6,1] ?_
 refine TK.sp 10 (fun g2_5=>?_) (fun g2_5=>?_)
 ·have hil:i<xs.length:=by have:=of_decide_eq_true g2_5; omega
  refine au [1,1,28,6,26,3,20] ?_
  refine ⟨fun hc0=>?_,fun hc0=>?_⟩
  ·have hjl:i<ys.length:=by have:=of_decide_eq_true hc0; omega
   refine au [12,4,13,4] ?_
   refine TK.draw [0,1,2,3,4,5,6,7,8] [0,1,2,3,4,5,6,7,8] (by kernel_rfl) (by kernel_rfl) ?_
   refine TD.z [0] Z (zh Z Z) ?_
   refine TD.z [5] Z (zh Z Z) ?_
   refine TD.z [18,19] Z (zQ Z Z Z zF.h oQ oQ) ?_
   refine TD.y [20] Z (hq:=zm Z Z zi.h (mC _) (yh (i:=i) (z5 hil) Z)) (h:=?_)
   refine TD.z [1] Z (zh Z Z) ?_
   refine TD.z [5] Z (zh Z Z) ?_
   refine TD.z [22,23] Z (zQ Z Z Z zF.h oQ oQ) ?_
   refine TD.y [24] Z (hq:=zm Z Z zi.h (mC _) (yh (i:=i) (z5 hjl) Z)) (h:=?_)
   refine TD.z [21,25] Z (q_cmp Z Z Z Z) ?_
   refine TD.fin ?_
   refine au [20] ?_
   refine ⟨fun hc1=>?_,fun hc1=>?_⟩
   ·refine au [4] ?_
    refine TK.draw [0,1,2,3,4,5,6,7,8,9] [0,1,2,3,4,5,6,7,8,9] (by kernel_rfl) (by kernel_rfl) ?_
    refine TD.z [0] Z (zh Z Z) ?_
    refine TD.z [5] Z (zh Z Z) ?_
    refine TD.z [27,28] Z (zQ Z Z Z zF.h oQ oQ) ?_
    refine TD.y [29] Z (hq:=zm Z Z zi.h (mC _) (yh (i:=i) (z5 hil) Z)) (h:=?_)
    refine TD.z [1] Z (zh Z Z) ?_
    refine TD.z [5] Z (zh Z Z) ?_
    refine TD.z [31,32] Z (zQ Z Z Z zF.h oQ oQ) ?_
    refine TD.y [33] Z (hq:=zm Z Z zi.h (mC _) (yh (i:=i) (z5 hjl) Z)) (h:=?_)
    refine TD.z [30,34] Z (q_cmp Z Z Z Z) ?_
    refine TD.as (pend':=[]) [35] Z Z (zD Z Z) ?_
    refine TD.fin ?_
    refine au [] ?_
    refine TK.rt hret [(j,_),(j2,_)] ?_
    exact ⟨by rw [<- hinv,zH (z5 hil),zH (z5 hjl),xW (by simpa using hc1)] <;> rfl,rfl⟩
   refine au [12,14,5,1,23,2,3] ?_
   refine TK.maskL [0,1,5] ?_
   exact hnext _ _ _ oQ ⟨i+1,rfl,by omega,by omega,by rw [<- hinv,zH (z5 hil),zH (z5 hjl)]; simp only [lexM]; simp at hc1; rw [if_neg oQ,if_neg oQ],rfl,rfl⟩
  have hjl:=of_decide_eq_false hc0
  refine au [16,4,5,1,28,1,28,6,2,3] ?_
  refine TK.rt hret [(j,_),(j2,_)] ?_
  exact ⟨by rw [<- hinv,xn hi hi2 (.inr oQ)] <;> rfl,rfl⟩
 have hil:=of_decide_eq_false g2_5
 refine au [11,11,11,11,25,3,19,16,4,5,1,28,1,28,6,2,3] ?_
 refine TK.rt hret [(j,_),(j2,_)] ?_
 exact ⟨by rw [<- hinv,xn hi hi2 (.inl oQ)] <;> rfl,rfl⟩
theorem xk {b:RBk}:∀ (l:List Int) (last:Option Int),(∀ n∈l,0<=n/\n<b.seams.length/\∀ k,last=some k->k<n)->l.Pairwise (· < ·)->cutsL b last l=0
 | [],_,_,_=>rfl
 | n::r,last,h,hp=>by
  obtain ⟨h1,h2,h3⟩:=h n sQ
  obtain ⟨p1,p2⟩:=List.pairwise_cons.1 hp
  have ht:thereM b n=0:=by unfold thereM; rw [if_pos (by simp [betw]; omega)]
  unfold cutsL
  rw [if_neg (by rw [ht]; decide),if_neg]
  ·exact xk r _ (fun m hm=>⟨(h m (by simp [hm])).1,(h m (by simp [hm])).2.1,fun k hk=>by cases hk; exact p1 m hm⟩) p2
  ·cases last with
   | none=>simp [notAft]
   | some k=>have:=h3 k rfl; simp [notAft]; omega
theorem xx {b:RBk} {l:List Int} (h:CutsOk b l):cutsM b l=0:=by
 unfold cutsM
 have:=h.pos
 rw [if_neg oQ]
 exact xk l none (fun n hn=>⟨(h.bnd n hn).1,(h.bnd n hn).2,fun k hk=>by cases hk⟩) h.asc
theorem xc {b:RBk} {l:List Int} (hc:zr b=0) (h:CutsOk b l):bar2 (zr b) (cutsM b l)=0:=by
 rw [kF hc,xx h]
section
variable {main:Bool} {T:Goroutine->Hp->Prop} {b:RBk} {s h e j:Nat} {l:List Int} {et:TypeId}
end
instance:Cal tp 50:={}
instance:Cal tp 65:={}
instance:Cal tp 76:={}
end Go.Vel
namespace Go.Vel
open Go Go.Conc
def sumF (f:Nat->Int):Nat->Int
 | 0=>0
 | k+1=>sumF f k+f k
theorem ji {f g:Nat->Int}:∀ n,(∀ i,i<n->f i=g i)->sumF f n=sumF g n
 | 0,_=>rfl
 | n+1,h=>by
  unfold sumF
  rw [ji n (fun i hi=>h i oQ),h n oQ]
theorem jC {f g:Nat->Int} {k:Nat}:∀ n,k<n->(∀ i,i≠k->g i=f i)->sumF g n=sumF f n - f k+g k
 | 0,h,_=>by omega
 | n+1,h,he=>by
  unfold sumF
  by_cases e:k=n
  ·subst e
   rw [ji k (fun i hi=>he i oQ)]
   omega
  ·rw [jC n oQ he,he n (fun h=>e h.symm)]
   omega
theorem jB {f:Nat->Int} {n:Nat} (h:∀ i,n<=i->f i=0):∀ k,sumF f (n+k)=sumF f n
 | 0=>rfl
 | k+1=>by
  show sumF f (n+k)+f (n+k)=_
  rw [jB h k,h _ oQ,Int.add_zero]
theorem jF (f g:Nat->Int):∀ n,sumF (fun i=>f i+g i) n=sumF f n+sumF g n
 | 0=>rfl
 | n+1=>by
  show sumF (fun i=>f i+g i) n+(f n+g n)=sumF f n+f n+(sumF g n+g n)
  rw [jF f g n]
  omega
theorem jY {lt:Int->Int->Bool} {x:Int} {S:List Int}:∀ j,j<=S.length->(insJ lt x S j).Perm (x::S)
 | 0,_=>List.Perm.refl _
 | j+1,h=>by
  unfold insJ
  rw [lA oQ]
  dsimp only
  split
  ·exact jY j oQ
  ·have h1:=List.perm_middle (a:=x) (l₁:=S.take (j+1)) (l₂:=S.drop (j+1))
   rwa [List.take_append_drop] at h1
theorem jE {lt:Int->Int->Bool} {l:List Int}:∀ i,i<=l.length->(sortN lt l i).Perm (l.take i)
 | 0,_=>by rw [List.take_zero]; exact List.Perm.refl _
 | i+1,h=>by
  have hg:l[i]? =some l[i]:=lA oQ
  rw [wA hg,yP hg]
  exact (jY _ (mL _)).trans ((List.Perm.cons _ (jE i oQ)).trans (List.perm_append_singleton _ _).symm)
theorem jZ (b:RBk) (l:List Int):(ordM b l).Nodup:=by
 unfold ordM sortR
 refine (jE _ (mL _)).nodup_iff.2 ?_
 rw [lW]
 unfold idxM
 exact List.Pairwise.map _ (fun a b hab=>by intro h; exact hab oQ) List.nodup_range
theorem jN {L:List Int} {k i:Nat} {v:Int} (h:k<L.length):(L.set k v).getD i 0=if i=k then v else L.getD i 0:=by
 rw [lE,lX,lE]
 by_cases e:k=i
 ·rw [if_pos e,if_pos h,if_pos e.symm]; rfl
 ·rw [if_neg e,if_neg (fun hh=>e hh.symm)]
theorem jW {b:RBk} {l:List Int}:∀ (o:List Int) (z:Alloc),o.Nodup->(∀ k∈o,0<=k/\k<l.length)->(∀ k∈o,z.steps.getD k.toNat 0=0)->z.steps.length=l.length->0<=z.left->(∀ k∈o,0<=(cutS b l k.toNat).most)->(∀ i,0<=z.steps.getD i 0/\(i<l.length->z.steps.getD i 0<=(cutS b l i).most\/(i:Int)∈o)) ->
  sumF (fun i=>(o.foldl (allocM b l) z).steps.getD i 0) l.length+(o.foldl (allocM b l) z).left=sumF (fun i=>z.steps.getD i 0) l.length+z.left /\
  (o.foldl (allocM b l) z).squares - sumF (fun i=>(o.foldl (allocM b l) z).steps.getD i 0*(cutS b l i).busy) l.length=z.squares - sumF (fun i=>z.steps.getD i 0*(cutS b l i).busy) l.length /\
  0<=(o.foldl (allocM b l) z).left/\∀ i,0<=(o.foldl (allocM b l) z).steps.getD i 0/\(i<l.length->(o.foldl (allocM b l) z).steps.getD i 0<=(cutS b l i).most)
 | [],z,_,_,_,_,hz,_,hm=>⟨rfl,rfl,hz,fun i=>⟨(hm i).1,fun hi=>by
  rcases (hm i).2 hi with h | h
  ·exact h
  ·cases h⟩⟩
 | k::o,z,hn,ho,h0,hlen,hz,hmo,hm=>by
  obtain ⟨n1,n2⟩:=List.nodup_cons.1 hn
  have hk:=ho k sQ
  have hkl:k.toNat<z.steps.length:=by omega
  have hk0:=h0 k sQ
  have hmk:=hmo k sQ
  rw [List.foldl_cons]
  obtain ⟨v,hv⟩:∃ v,v=min z.left (cutS b l k.toNat).most:=⟨_,rfl⟩
  have hz':allocM b l z k=⟨z.steps.set k.toNat v,z.squares+v*(cutS b l k.toNat).busy,z.left - v⟩:=by rw [hv]; rfl
  have hs:∀ i,(z.steps.set k.toNat v).getD i 0=if i=k.toNat then v else z.steps.getD i 0:=fun i=>jN hkl
  obtain ⟨r1,r2,r3,r4⟩:=jW o (allocM b l z k) n2 (fun x hx=>ho x (by simp [hx])) (fun x hx=>by
   rw [hz']
   show (z.steps.set k.toNat v).getD x.toNat 0=0
   have hx0:=ho x (by simp [hx])
   have hne:x≠k:=fun e=>n1 (e ▸ hx)
   rw [hs,if_neg oQ]
   exact h0 x (by simp [hx])) (by rw [hz']; show (z.steps.set k.toNat v).length=_; rw [List.length_set]; exact hlen) (by rw [hz']; show 0<=z.left - v; omega) (fun x hx=>hmo x (by simp [hx])) (fun i=>by
   rw [hz']
   show 0<=(z.steps.set k.toNat v).getD i 0/\(i<l.length->(z.steps.set k.toNat v).getD i 0<=_\/_)
   rw [hs]
   by_cases e:i=k.toNat
   ·rw [if_pos e]
    exact ⟨by omega,fun _=>.inl (by rw [e]; omega)⟩
   ·rw [if_neg e]
    refine ⟨(hm i).1,fun hi=>?_⟩
    rcases (hm i).2 hi with h | h
    ·exact .inl h
    ·rcases lI.1 h with h | h
     ·omega
     ·exact .inr h)
  have e1:sumF (fun i=>(allocM b l z k).steps.getD i 0) l.length=sumF (fun i=>z.steps.getD i 0) l.length+v:=by
   rw [hz']
   rw [jC (f:=fun i=>z.steps.getD i 0) (k:=k.toNat) l.length oQ (fun i hi=>by show (z.steps.set k.toNat v).getD i 0=_; rw [hs,if_neg hi])]
   show _ - z.steps.getD k.toNat 0+(z.steps.set k.toNat v).getD k.toNat 0=_
   rw [hs,if_pos rfl,hk0]
   omega
  have e2:sumF (fun i=>(allocM b l z k).steps.getD i 0*(cutS b l i).busy) l.length=sumF (fun i=>z.steps.getD i 0*(cutS b l i).busy) l.length+v*(cutS b l k.toNat).busy:=by
   rw [hz']
   rw [jC (f:=fun i=>z.steps.getD i 0*(cutS b l i).busy) (k:=k.toNat) l.length oQ (fun i hi=>by show (z.steps.set k.toNat v).getD i 0*_=_; rw [hs,if_neg hi])]
   show _ - z.steps.getD k.toNat 0*_+(z.steps.set k.toNat v).getD k.toNat 0*_=_
   rw [hs,if_pos rfl,hk0,Int.zero_mul]
   omega
  rw [e1] at r1
  rw [e2] at r2
  rw [hz'] at r1 r2 r3 r4 ⊢
  dsimp only at r1 r2
  refine ⟨by omega,by omega,r3,r4⟩
theorem xb (b:RBk) (l:List Int):∀ k,spoilM b l k=sumF (fun i=>(cutS b l i).spoil) k
 | 0=>rfl
 | k+1=>by
  show spoilM b l k+_=sumF _ k+_
  rw [xb b l k]
def needM (b:RBk) (l w:List Int) (k:Nat):Int:=sumF (fun i=>(cutS b l i).spoil+w.getD i 0*(cutS b l i).busy) k
theorem xB {b:RBk} (hb:ROk b) {s:List Int} (hs:StOk b s):freshM b s=b.round - b.steps+sumF (fun i=>s.getD i 0) b.seams.length:=by
 have hl:=hb.sms.len
 have h5:sumF (fun i=>s.getD i 0) 5=sumF (fun i=>s.getD i 0) b.seams.length:=by
  have:=jB (f:=fun i=>s.getD i 0) (n:=b.seams.length) (fun i hi=>by
   show s.getD i 0=0
   rw [lE,lU (by rw [hs.len]; exact hi)]
   rfl) (5 - b.seams.length)
  rwa [show b.seams.length+(5 - b.seams.length)=5 by omega] at this
 rw [<- h5]
 show freshM b s=b.round - b.steps+(0+s.getD 0 0+s.getD 1 0+s.getD 2 0+s.getD 3 0+s.getD 4 0)
 unfold freshM
 omega
theorem xg {b:RBk} (hb:ROk b) {l s w:List Int} {q:Int} (hl:CutsOk b l) (hs:StOk b s) (h:hangM b l s=some (w,q)):fitsM b l=true/\w.length=l.length/\sumF (fun i=>w.getD i 0) l.length=freshM b s/\q=needM b l w l.length/\∀ i,0<=w.getD i 0/\(i<l.length->w.getD i 0<=(cutS b l i).most):=by
 obtain ⟨hwl,_⟩:=zhT hb hl hs h
 unfold hangM at h
 split at h
 ·cases h
 ·rename_i hf
  dsimp only at h
  split at h
  ·cases h
  ·rename_i hle
   have hr:∀ i,(alloc0 b l (freshM b s)).steps.getD i 0=0:=fun i=>by
    show (mB l.length (0:Int)).getD i 0=0
    rw [lE,List.getElem?_replicate]
    split <;> rfl
   obtain ⟨r1,r2,r3,r4⟩:=jW (b:=b) (l:=l) (ordM b l) (alloc0 b l (freshM b s)) (jZ b l) (fun k hk=>zdO hk) (fun k _=>hr _) (by show (mB l.length (0:Int)).length=_; rw [List.length_replicate]) (zcl hb hs).1 (fun k hk=>by
    have:=zdO hk
    exact (hb.sms.fld _ (hl.lt (k:=k.toNat) oQ).2.2).2.2.1) (fun i=>by
    rw [hr]
    refine ⟨Int.le_refl _,fun hi=>.inl ?_⟩
    exact (hb.sms.fld _ (hl.lt hi).2.2).2.2.1)
   have z1:sumF (fun i=>(alloc0 b l (freshM b s)).steps.getD i 0) l.length=0:=by
    rw [ji (g:=fun _=>0) l.length (fun i _=>hr i)]
    have:=jB (f:=fun _=>0) (n:=0) (fun _ _=>rfl) l.length
    rwa [mO] at this
   have z2:sumF (fun i=>(alloc0 b l (freshM b s)).steps.getD i 0*(cutS b l i).busy) l.length=0:=by
    rw [ji (g:=fun _=>0) l.length (fun i _=>by rw [hr i,Int.zero_mul])]
    have:=jB (f:=fun _=>0) (n:=0) (fun _ _=>rfl) l.length
    rwa [mO] at this
   rw [z1] at r1
   rw [z2] at r2
   have q1:(alloc0 b l (freshM b s)).left=freshM b s:=rfl
   have q2:(alloc0 b l (freshM b s)).squares=spoilM b l l.length:=rfl
   cases h
   refine ⟨by simpa using hf,hwl,?_,?_,r4⟩
   ·unfold allocA at hle ⊢
    omega
   ·unfold needM
    rw [jF,<- xb]
    unfold allocA
    omega
def manyM (b:RBk) (l:List Int) (i:Nat):Int:=if i+1<l.length then zN l (i+1) - zN l i else zN l 0 - zN l i+b.seams.length
def nowS (b:RBk) (s:List Int) (x:Nat):Int:=sumF (nowM b s) x
end Go.Vel
namespace Go.Vel
open Go Go.Conc Go.Proofs
def u16A (x:Fin 65536):AV:=.v (.int .u16 (x.1:Int))
def u16O (l:List (Fin 65536)):AObj:=.cells (l.flatMap fun x=>[u16A x]) 212 false
def choM (l:List (Fin 65536)) (i:Nat):Int:=match l[i]? with | some x=>x.1 | none=>0
def chosenM (x:RBand) (n:Int):Int:=x.low+n % (x.high - x.low+1)
def realM (b:RBk) (ps:List (Fin 65536)):Nat->List Int
 | 0=>[]
 | i+1=>realM b ps i++[chosenM (bd b i) (choM ps i)]
theorem jA (b:RBk) (ps:List (Fin 65536)):∀ i,(realM b ps i).length=i
 | 0=>rfl
 | i+1=>by unfold realM; rw [lF,jA b ps i]; rfl
theorem xa (b:RBk) (ps:List (Fin 65536)):∀ n i,i<n->(realM b ps n).getD i 0=chosenM (bd b i) (choM ps i)
 | 0,i,h=>by omega
 | n+1,i,h=>by
  unfold realM
  by_cases e:i<n
  ·rw [zeh (by rw [jA]; exact e)]
   exact xa b ps n i e
  ·have:i=n:=by omega
   subst this
   have:=zdo (p:=realM b ps i) (n:=chosenM (bd b i) (choM ps i))
   rwa [jA] at this
theorem xJ (l:List (Fin 65536)) (i:Nat):0<=choM l i/\choM l i<65536:=by
 unfold choM
 cases l[i]? with
 | none=>exact ⟨Int.le_refl _,by decide⟩
 | some x=>exact ⟨by show (0:Int)<=(x.1:Int); omega,by show (x.1:Int)<65536; have:=x.2; omega⟩
theorem xv {x:RBand} (h:x.low<=x.high) (n:Int):x.low<=chosenM x n/\chosenM x n<=x.high:=by
 unfold chosenM
 have h0:=Int.emod_nonneg n (show x.high - x.low+1≠0 by omega)
 have h1:=Int.emod_lt_of_pos n (show 0<x.high - x.low+1 by omega)
 omega
theorem xS {b:RBk} (hb:ROk b) (ps:List (Fin 65536)):StOk b (realM b ps b.shrinks.length):=by
 have hl:=hb.cls.len
 refine zeV hb ⟨jA _ _ _,fun i hi=>?_⟩
 rw [xa _ _ _ _ hi]
 exact xv (hb.cls.bnd i oQ).2.1 _
theorem jD {b:RBk} (hb:ROk b) {l w:List Int} (hl:CutsOk b l) (hw:∀ i,0<=w.getD i 0/\w.getD i 0<=9):∀ k,k<=l.length->0<=needM b l w k/\needM b l w k<=90*k
 | 0,_=>by show (0:Int)<=0/\(0:Int)<=_; omega
 | k+1,h=>by
  have h1:=jD hb hl hw k oQ
  have h2:=hb.sms.fld _ (hl.lt (k:=k) oQ).2.2
  have h3:=hw k
  have p1:0<=w.getD k 0*(cutS b l k).busy:=Int.mul_nonneg h3.1 h2.2.2.2.2.1
  have p2:w.getD k 0*(cutS b l k).busy<=9*9:=Int.mul_le_mul h3.2 h2.2.2.2.2.2.1 h2.2.2.2.2.1 dQ
  show 0<=needM b l w k+((cutS b l k).spoil+_)/\needM b l w k+((cutS b l k).spoil+_)<=_
  unfold cutS at *
  omega
theorem sh_1 {b:RBk} {l:List Int} (h:StOk b l):shM b l=0:=by
 have key:∀ (r:List Int) (i:Nat),(∀ k x,r[k]? =some x->0<=x/\x<=5/\x<wideM b (i+k))->shL b i r=0:=by
  intro r
  induction r with
  | nil=>intro i _; rfl
  | cons x r ih =>
   intro i hh
   have h1:=hh 0 x rfl
   rw [Nat.add_zero] at h1
   have hb:betw x 0 5=true:=by simp only [betw,mX,decide_eq_true_eq]; omega
   unfold shL
   rw [if_neg (by rw [hb]; decide),if_neg oQ]
   exact ih (i+1) fun k y hy=>by
    have:=hh (k+1) y (by simpa using hy)
    rwa [show i+(k+1)=i+1+k by omega] at this
 unfold shM
 rw [if_neg (by rw [h.len]; simp)]
 refine key l 0 fun k x hx=>?_
 obtain ⟨hk,e⟩:=List.getElem?_eq_some_iff.1 hx
 have:=h.bnd k (by rw [<- h.len]; exact hk)
 rw [lE,hx] at this
 rw [mO]
 exact this
theorem xI {b:RBk} {l s:List Int} (hc:zr b=0) (h:CutsOk b l) (hs:StOk b s):bar2 (zr b) (bar2 (cutsM b l) (shM b s))=0:=by
 rw [kF hc,kF (xx h),sh_1 hs]
instance:Cal tp 139:={}
instance:Cal tp 140:={}
instance:zF tp 91 212 1:={}
instance:zi tp 212 false 1:={}
instance:Und tp 212 (.int .u16):={}
instance:Und tp 91 (.slice 212):={}
theorem xu {main T} (hT:zo tp main T) {gm} {j i:Nat} {ps:List (Fin 65536)} (hi:i<=1000) :
  zA tp T gm 140 [.sl j 0 ps.length,intA i] [(j,u16O ps)] (fun r K'=>r=intA (choM ps i)/\K'=[(j,u16O ps)]):=by
 refine zp 18 hT Tryz.func140 fun Y hret=>?_
 refine au [4,5,2,3,4,4,5,1,6,1,1,1,28,6,25,3,20] ?_
 refine ⟨fun hc0=>?_,fun hc0=>?_⟩
 ·have hge:ps.length<=i:=by simp at hc0; omega
  refine au [4,5,2,3] ?_
  refine TK.rt hret [(j,_)] ?_
  exact ⟨by unfold choM; rw [lU hge],rfl⟩
 have hlt:i<ps.length:=by simp at hc0; omega
 obtain ⟨x,hx⟩:∃ x,ps[i]? =some x:=⟨_,lA hlt⟩
 have hx2:=x.2
 refine au [12,4,5,1,1,36] ?_
 refine TK.a Z (zm Z Z zi.h mQ (w9 (c:=1) (f:=fun x=>[u16A x]) (fun _=>rfl) hx rfl dQ)) ?_
 refine TK.a Z (yU Z Z Und.h Und.h (wK oQ)) ?_
 refine au [2,3] ?_
 refine TK.rt hret [(j,_)] ?_
 exact ⟨by unfold choM; rw [hx],rfl⟩
theorem xw {main T} (hT:zo tp main T) {gm} {x:RBand} {n:Int} (h:0<=x.low/\x.low<=x.high/\x.high<=5) (hn:0<=n/\n<65536) :
  zA tp T gm 139 [.agg (bandC x),intA n] [] (fun r K'=>r=intA (chosenM x n)/\K'=[]):=by
 refine zp 16 hT Tryz.func139 fun Y hret=>?_
 refine au [] ?_
 have h0:=Int.emod_nonneg n (show x.high - x.low+1≠0 by omega)
 have h1:=Int.emod_lt_of_pos n (show 0<x.high - x.low+1 by omega)
 refine au [4,5,21] ?_
 intro jx hjx
 refine au [2,3,4] ?_
 refine TK.draw [0,1,2,3,4,5,6,7,8,9,10,11] [0,1,2,3,4,5,6,7,8,9,10,11] (by kernel_rfl) (by kernel_rfl) ?_
 refine TD.z [2] Z (zg Z Z zl.h dQ) ?_
 refine TD.y [5] Z (hq:=zm Z Z zi.h (mC _) Z) (h:=?_)
 refine TD.z [1] Z (zh Z Z) ?_
 refine TD.z [2] Z (zg Z Z zl.h dQ) ?_
 refine TD.y [8] Z (hq:=zm Z Z zi.h (mC _) Z) (h:=?_)
 refine TD.z [2] Z (zg Z Z zl.h dQ) ?_
 refine TD.y [10] Z (hq:=zm Z Z zi.h (mC _) Z) (h:=?_)
 refine TD.z [9,11] Z (q_sub Z Z Z oQ) ?_
 refine TD.z [12] Z (q_add Z Z Z oQ) ?_
 refine TD.z [7,13] Z (q_rem Z Z Z oQ oQ) ?_
 refine TD.z [6,14] Z (q_add Z Z Z oQ) ?_
 refine TD.as (pend':=[]) [15] Z Z (zD Z Z) ?_
 refine TD.fin ?_
 refine au [] ?_
 refine TK.rt hret [] ?_
 exact ⟨rfl,rfl⟩
theorem xR {main T} (hT:zo tp main T) {gm} {b:RBk} {s h e j:Nat} {ps:List (Fin 65536)} (hb:ROk b) :
  zA tp T gm 71 [.agg (zE b s h e),.sl j 0 ps.length] [(h,zB b),(j,u16O ps)] (fun r K'=>∃ jr,r=.sl jr 0 (realM b ps b.shrinks.length).length/\K'=(jr,.cells ((realM b ps b.shrinks.length).map intA) 3 false)::[(h,zB b),(j,u16O ps)]):=by
 refine zp 27 hT Tryz.func71 fun Y hret=>?_
 refine au [] ?_
 have hsl:=hb.sms.len
 have hcl:=hb.cls.len
 refine au [4,5,21] ?_
 intro jb hjb
 refine au [2,3,4,5,2] ?_
 refine TK.virt 5 3 1 Z fun jr0 hjr0=>?_
 refine au [3,4,4,5,2,3,13] ?_
 refine TK.maskL [1,2,5,6] ?_
 refine TK.kp [(h,_),(j,_),(jr0,_),(jb,_)] ?_
 refine TK.loopN (fun n env K=>∃ (i jr:Nat),n=b.shrinks.length - i/\i<=b.shrinks.length/\env=.any::.sl j 0 ps.length::.ptr jb 0::naL 2 (.row jr i::intA i::naL 20 [])/\K=[(h,zB b),(j,u16O ps),(jr,.row ((realM b ps i).map intA) 3 1),(jb,.cells (zE b s h e) 26 true)]) b.shrinks.length ⟨0,jr0,rfl,mN _,rfl,rfl⟩ fun n env K hI hnext=>?_
 obtain ⟨i,jr,rfl,hi,rfl,rfl⟩:=hI
 have hrl:=jA b ps i
 refine TK.na nQ ?_
 refine au [4,4,5,1,7,9,28,6,3,20] ?_
 refine ⟨fun hc0=>?_,fun hc0=>?_⟩
 ·have hil:i<b.shrinks.length:=by simp at hc0; omega
  have hq:=hb.cls.bnd i oQ
  have hcb:=xJ ps i
  refine au [12,4,13] ?_
  refine TK.draw [0,1,2,3,4,5,6,7,8,9,10,11,12] [0,1,2,3,4,5,6,7,8,9,10,11,12] (by kernel_rfl) (by kernel_rfl) ?_
  refine TD.z [5] Z (zh Z Z) ?_
  refine TD.z [2] Z (zg Z Z zl.h dQ) ?_
  refine TD.y [15] Z (hq:=zm Z Z zi.h (mC _) Z) (h:=?_)
  refine TD.z [6] Z (zh Z Z) ?_
  refine TD.z [16,17] Z (zQ Z Z Z zF.h oQ oQ) ?_
  refine TD.y [18] Z (hq:=z8 Z Z zi.h (mC _) (bd_at b (i:=i) hil Z)) (h:=?_)
  refine TD.z [1] Z (zh Z Z) ?_
  refine TD.z [6] Z (zh Z Z) ?_
  refine TD.cl (pend':=[⟨5,[18],[(_,_)]⟩,⟨4,[16,17],[]⟩,⟨3,[6],[]⟩,⟨2,[15],[(_,_)]⟩,⟨1,[2],[]⟩,⟨0,[5],[]⟩]) [20,21] Z Z Z Z Z (xu hT (i:=i) oQ) (fun r1 K2 h3=>⟨?_,?_⟩)
  ·rcases h3 with ⟨rfl,rfl⟩
   all_goals simp
  obtain ⟨rfl,rfl⟩:=h3
  try simp only [cA]
  refine TD.norm tQ ?_
  refine TD.cl (pend':=[⟨4,[16,17],[]⟩,⟨3,[6],[]⟩,⟨2,[15],[(_,_)]⟩,⟨1,[2],[]⟩,⟨0,[5],[]⟩]) [19,22] Z Z Z Z Z (xw hT oQ hcb) (fun r4 K5 h6=>⟨?_,?_⟩)
  ·rcases h6 with ⟨rfl,rfl⟩
   all_goals simp
  obtain ⟨rfl,rfl⟩:=h6
  try simp only [cA]
  refine TD.norm tQ ?_
  refine TD.cnewR (pend':=[⟨4,[16,17],[]⟩,⟨3,[6],[]⟩,⟨2,[15],[(_,_)]⟩,⟨1,[2],[]⟩,⟨0,[5],[]⟩]) [23] Z Z Z Z Z (zt (l:=[_]) Z zF.h TyZ.h dQ dQ Z) (fun _=>zu rfl tQ) sQ fun j7 hj7=>?_
  refine TD.capp (pend':=[⟨4,[16,17],[]⟩,⟨3,[6],[]⟩,⟨2,[15],[(_,_)]⟩,⟨1,[2],[]⟩]) [14,24] Z Z Z Z Z (a_app Z ApOf.h Z mQ (by rw [List.length_map]; omega) Z (yu (ln:=[_]) mQ dQ sQ Z) oQ Z (by unfold maxLen; omega) oQ) (fun _=>uQ) (fun _=>zu rfl tQ) (fun _=>sQ) fun jr2=>?_
  refine TD.as (pend':=[]) [25] Z Z (zD Z Z) ?_
  refine TD.fin ?_
  refine au [14,5,1,23,2,3] ?_
  refine TK.maskL [1,2,5,6] ?_
  refine TK.kp [(h,_),(j,_),(jr2,_),(jb,_)] ?_
  exact hnext _ _ _ oQ ⟨i+1,jr2,rfl,by omega,rfl,by rw [show realM b ps (i+1)=realM b ps i++[chosenM (bd b i) (choM ps i)] from rfl,lM]; rfl⟩
 obtain rfl:i=b.shrinks.length:=by simp at hc0; omega
 refine TK.asSl 5 Z mQ ?_
 refine TK.frzRow (j:=jr) ?_
 refine au [16,4,5,1,2,3] ?_
 refine TK.rt hret [(jr,_),(h,_),(j,_)] ?_
 exact ⟨jr,by rw [jA] <;> rfl,rfl⟩
theorem xP {main T} (hT:zo tp main T) {gm} {b:RBk} {s h e j j2:Nat} {l w:List Int} {et et2:TypeId} (hb:ROk b) (hl:CutsOk b l) (hwl:w.length=l.length) (hw:∀ i,0<=w.getD i 0/\w.getD i 0<=9) :
  zA tp T gm 72 [.agg (zE b s h e),.sl j 0 l.length,.sl j2 0 w.length] [(s,zk b),(j,.cells (l.map intA) et false),(j2,.cells (w.map intA) et2 false)] (fun r K'=>r=intA (needM b l w l.length)/\K'=[(s,zk b),(j,.cells (l.map intA) et false),(j2,.cells (w.map intA) et2 false)]):=by
 refine zp 42 hT Tryz.func72 fun Y hret=>?_
 refine au [] ?_
 have hsl:=hb.sms.len
 have hll:=hl.len
 refine au [4,5,21] ?_
 intro jb hjb
 refine au [2,3,4,5,2,3,4,4,5,2,3,13] ?_
 refine TK.maskL [1,2,3,7,8] ?_
 refine TK.kp [(s,_),(j,_),(j2,_),(jb,_)] ?_
 refine TK.loopN (fun n env K=>∃ (i:Nat),n=l.length - i/\i<=l.length/\env=.any::.sl j 0 l.length::.sl j2 0 w.length::.ptr jb 0::naL 3 (intA (needM b l w i)::intA i::naL 33 [])/\K=[(s,zk b),(j,.cells (l.map intA) et false),(j2,.cells (w.map intA) et2 false),(jb,.cells (zE b s h e) 26 true)]) l.length ⟨0,rfl,mN _,rfl,rfl⟩ fun n env K hI hnext=>?_
 obtain ⟨i,rfl,hi,rfl,rfl⟩:=hI
 refine TK.na nQ ?_
 refine au [4,4,5,1,1,28,6,3,20] ?_
 refine ⟨fun hc0=>?_,fun hc0=>?_⟩
 ·have hil:i<l.length:=by simp at hc0; omega
  have hq:=hl.lt hil
  have hnb:=jD hb hl hw i oQ
  have hf:=hb.sms.fld _ hq.2.2
  have hwi:0<=zN w i/\zN w i<=9:=hw i
  have p1:0<=zN w i*(sm b (zN l i).toNat).busy:=Int.mul_nonneg hwi.1 hf.2.2.2.2.1
  have p2:zN w i*(sm b (zN l i).toNat).busy<=9*9:=Int.mul_le_mul hwi.2 hf.2.2.2.2.2.1 hf.2.2.2.2.1 dQ
  refine au [12,4,13] ?_
  refine TK.draw [0,1,2,3,4,5,6,7,8,9,10,11,12,13,14,15,16,17,18,19,20,21,22,23,24,25,26] [0,1,2,3,4,5,6,7,8,9,10,11,12,13,14,15,16,17,18,19,20,21,22,23,24,25,26] (by kernel_rfl) (by kernel_rfl) ?_
  refine TD.z [7] Z (zh Z Z) ?_
  refine TD.z [3] Z (zg Z Z zl.h dQ) ?_
  refine TD.y [16] Z (hq:=zm Z Z zi.h (mC _) Z) (h:=?_)
  refine TD.z [1] Z (zh Z Z) ?_
  refine TD.z [8] Z (zh Z Z) ?_
  refine TD.z [18,19] Z (zQ Z Z Z zF.h oQ oQ) ?_
  refine TD.y [20] Z (hq:=zm Z Z zi.h (mC _) (yh (i:=i) (z5 hil) Z)) (h:=?_)
  refine TD.z [17,21] Z (zQ Z Z Z zF.h oQ oQ) ?_
  refine TD.z [22] Z (zg Z Z zl.h dQ) ?_
  refine TD.y [23] Z (hq:=zm Z Z zi.h (mC _) (ym (c:=3) (sm_at b (i:=(zN l i).toNat) (hl.lt hil).2.2 oQ) dQ Z)) (h:=?_)
  refine TD.z [15,24] Z (q_add Z Z Z oQ) ?_
  refine TD.z [2] Z (zh Z Z) ?_
  refine TD.z [8] Z (zh Z Z) ?_
  refine TD.z [26,27] Z (zQ Z Z Z zF.h oQ oQ) ?_
  refine TD.y [28] Z (hq:=zm Z Z zi.h (mC _) (yh (i:=i) (z5 (l:=w) oQ) Z)) (h:=?_)
  refine TD.z [3] Z (zg Z Z zl.h dQ) ?_
  refine TD.y [30] Z (hq:=zm Z Z zi.h (mC _) Z) (h:=?_)
  refine TD.z [1] Z (zh Z Z) ?_
  refine TD.z [8] Z (zh Z Z) ?_
  refine TD.z [32,33] Z (zQ Z Z Z zF.h oQ oQ) ?_
  refine TD.y [34] Z (hq:=zm Z Z zi.h (mC _) (yh (i:=i) (z5 hil) Z)) (h:=?_)
  refine TD.z [31,35] Z (zQ Z Z Z zF.h oQ oQ) ?_
  refine TD.z [36] Z (zg Z Z zl.h dQ) ?_
  refine TD.y [37] Z (hq:=zm Z Z zi.h (mC _) (ym (c:=2) (sm_at b (i:=(zN l i).toNat) (hl.lt hil).2.2 oQ) dQ Z)) (h:=?_)
  refine TD.z [29,38] Z (q_mul Z Z Z oQ) ?_
  refine TD.z [25,39] Z (q_add Z Z Z oQ) ?_
  refine TD.as (pend':=[]) [40] Z Z (zD Z Z) ?_
  refine TD.fin ?_
  refine au [14,5,1,23,2,3] ?_
  refine TK.maskL [1,2,3,7,8] ?_
  refine TK.kp [(s,_),(j,_),(j2,_),(jb,_)] ?_
  exact hnext _ _ _ oQ ⟨i+1,rfl,by omega,by rw [show needM b l w i+(sm b (zN l i).toNat).spoil+zN w i*(sm b (zN l i).toNat).busy=needM b l w (i+1) by show _=needM b l w i+(_+_); rw [Int.add_assoc]; rfl]; rfl,rfl⟩
 obtain rfl:i=l.length:=by simp at hc0; omega
 refine au [16,4,5,1,2,3] ?_
 refine TK.rt hret [(s,_),(j,_),(j2,_)] ?_
 exact ⟨rfl,rfl⟩
theorem or3x {x:Int} {A B C P:Prop} (h:(x≠0/\A)\/(x=0/\P/\B)\/(x=0/\C)) (hx:x=0):(P/\B)\/C:=by
 rcases h with ⟨h,_⟩ | ⟨_,h⟩ | ⟨_,h⟩
 ·exact absurd hx h
 ·exact .inl h
 ·exact .inr h
instance:Cal tp 71:={}
instance:Cal tp 72:={}
instance:Cal tp 73:={}
end Go.Vel
namespace Go.Vel
open Go Go.Conc
def fS (f:Int->Int):List Int->Int
 | []=>0
 | k::o=>f k+fS f o
theorem jX (f:Int->Int):∀ a c,fS f (a++c)=fS f a+fS f c
 | [],c=>by show fS f c=0+fS f c; omega
 | k::a,c=>by show f k+fS f (a++c)=f k+fS f a+fS f c; rw [jX f a c]; omega
theorem xM (f:Int->Int) {a c:List Int} (h:a.Perm c):fS f a=fS f c:=by
 induction h with
 | nil=>rfl
 | cons x _ ih=>show f x+_=f x+_; rw [ih]
 | swap x y l=>show f y+(f x+fS f l)=f x+(f y+fS f l); omega
 | trans _ _ h1 h2=>exact h1.trans h2
theorem xy (f:Int->Int):∀ n,fS f (idxM n)=sumF (fun i=>f i) n
 | 0=>rfl
 | n+1=>by
  have e:idxM (n+1)=idxM n++[(n:Int)]:=by unfold idxM; rw [List.range_succ,lM]; rfl
  rw [e,jX,xy f n]
  show _+(f n+0)=_+f n
  omega
theorem xd (f:Int->Int) (b:RBk) (l:List Int):fS f (ordM b l)=sumF (fun i=>f i) l.length:=by
 rw [<- xy]
 unfold ordM sortR
 refine xM f ?_
 have h:=jE (lt:=busyLt b l) (l:=idxM l.length) (idxM l.length).length (mL _)
 rwa [lW] at h
theorem fS_le {f g:Int->Int}:∀ o:List Int,(∀ k∈o,f k<=g k)->fS f o<=fS g o
 | [],_=>Int.le_refl _
 | k::o,h=>by
  have h1:=h k sQ
  have h2:=fS_le o (fun x hx=>h x (by simp [hx]))
  show f k+_<=g k+_
  omega
theorem fS_nn {f:Int->Int}:∀ o:List Int,(∀ k∈o,0<=f k)->0<=fS f o
 | [],_=>Int.le_refl _
 | k::o,h=>by
  have h1:=h k sQ
  have h2:=fS_nn o (fun x hx=>h x (by simp [hx]))
  show 0<=f k+_
  omega
def gC (m c:Int->Int):List Int->Int->Int
 | [],_=>0
 | k::o,n=>min n (m k)*c k+gC m c o (n - min n (m k))
theorem xl {m c:Int->Int}:∀ o:List Int,(∀ k∈o,0<=m k)->gC m c o 0=0
 | [],_=>rfl
 | k::o,h=>by
  have h1:=h k sQ
  show min 0 (m k)*c k+gC m c o (0 - min 0 (m k))=0
  rw [Int.min_eq_left h1,Int.zero_mul,Int.sub_zero,xl o (fun x hx=>h x (by simp [hx]))]
  rfl
theorem jM {m c:Int->Int} {c0:Int}:∀ (o:List Int) (n d:Int),(∀ k∈o,c0<=c k/\0<=m k)->0<=d->d<=n->n<=fS m o->gC m c o (n - d)+d*c0<=gC m c o n
 | [],n,d,_,h1,h2,h3=>by
  have h3:n<=0:=h3
  have:d=0:=by omega
  subst this
  show (0:Int)+0*c0<=0
  rw [Int.zero_mul]; decide
 | k::o,n,d,h,h1,h2,h3=>by
  have hk:=h k sQ
  have ho:∀ x∈o,c0<=c x/\0<=m x:=fun x hx=>h x (by simp [hx])
  have h3:n<=m k+fS m o:=h3
  have hz:gC m c o 0=0:=xl o (fun x hx=>(ho x hx).2)
  show min (n - d) (m k)*c k+gC m c o (n - d - min (n - d) (m k))+d*c0<=min n (m k)*c k+gC m c o (n - min n (m k))
  by_cases hA:m k<=n - d
  ·rw [Int.min_eq_right hA,Int.min_eq_right oQ]
   have:=jM o (n - m k) d ho h1 oQ oQ
   rw [show n - d - m k=n - m k - d by omega]
   omega
  ·rw [Int.min_eq_left (show n - d<=m k by omega),Int.sub_self,hz]
   by_cases hB:n<=m k
   ·rw [Int.min_eq_left hB,Int.sub_self,hz]
    have e:n*c k=(n - d)*c k+d*c k:=by rw [<- Int.add_mul]; congr 1; omega
    have q:=Int.mul_le_mul_of_nonneg_left hk.1 h1
    omega
   ·rw [Int.min_eq_right oQ]
    have ih:=jM o (n - m k) (n - m k) ho oQ oQ oQ
    rw [Int.sub_self,hz] at ih
    obtain ⟨e,he⟩:∃ e,e=m k - (n - d):=⟨_,rfl⟩
    have e1:m k*c k=(n - d)*c k+e*c k:=by rw [<- Int.add_mul]; congr 1; omega
    have e2:d*c0=e*c0+(n - m k)*c0:=by rw [<- Int.add_mul]; congr 1; omega
    have q:=Int.mul_le_mul_of_nonneg_left hk.1 (show 0<=e by omega)
    omega
theorem xC {m c x:Int->Int}:∀ (o:List Int) (n:Int),o.Pairwise (fun a d=>c a<=c d)->(∀ k∈o,0<=x k/\x k<=m k)->n=fS x o->gC m c o n<=fS (fun k=>x k*c k) o
 | [],n,_,_,_=>Int.le_refl _
 | k::o,n,hp,h,hn=>by
  obtain ⟨p1,p2⟩:=List.pairwise_cons.1 hp
  have hk:=h k sQ
  have ho:∀ y∈o,0<=x y/\x y<=m y:=fun y hy=>h y (by simp [hy])
  have hn:n=x k+fS x o:=hn
  have h0:=fS_nn o (fun y hy=>(ho y hy).1)
  have hcap:=fS_le o (fun y hy=>(ho y hy).2)
  have ih:=xC o (fS x o) p2 ho rfl
  obtain ⟨a,ha⟩:∃ a,a=min n (m k):=⟨_,rfl⟩
  have sh:=jM (m:=m) (c:=c) (c0:=c k) o (fS x o) (a - x k) (fun y hy=>⟨p1 y hy,by have:=ho y hy; omega⟩) oQ oQ hcap
  show min n (m k)*c k+gC m c o (n - min n (m k))<=x k*c k+_
  rw [<- ha,show n - a=fS x o - (a - x k) by omega]
  have e:a*c k=x k*c k+(a - x k)*c k:=by rw [<- Int.add_mul]; congr 1; omega
  omega
theorem jK {lt:Int->Int->Bool} {K:Int->Int} {x:Int} {S:List Int} (hlt:∀ y∈S,lt x y=decide (K x<K y)) (hS:S.Pairwise fun a c=>K a<=K c):∀ j,j<=S.length->(∀ i y,j<=i->S[i]? =some y->K x<K y)->(insJ lt x S j).Pairwise fun a c=>K a<=K c
 | 0,_,h=>by
  refine List.pairwise_cons.2 ⟨fun y hy=>?_,hS⟩
  obtain ⟨i,hi,rfl⟩:=List.getElem_of_mem hy
  have:=h i _ (mN _) (lA hi)
  omega
 | j+1,hj,h=>by
  have hg:S[j]? =some S[j]:=lA oQ
  have hm:S[j]∈S:=List.getElem_mem _
  unfold insJ
  rw [hg]
  dsimp only
  by_cases hl:lt x S[j]=true
  ·rw [if_pos hl]
   rw [hlt _ hm] at hl
   refine jK hlt hS j oQ fun i y hi hy=>?_
   by_cases e:i=j
   ·subst e
    rw [hg] at hy
    cases hy
    exact of_decide_eq_true hl
   ·exact h i y oQ hy
  ·rw [if_neg hl]
   rw [hlt _ hm] at hl
   have hl:¬ K x<K S[j]:=by simpa using hl
   have hS':=hS
   rw [<- List.take_append_drop (j+1) S] at hS'
   obtain ⟨p1,p2,p3⟩:=List.pairwise_append.1 hS'
   have hd:∀ y∈S.drop (j+1),K x<=K y:=fun y hy=>by
    obtain ⟨i,hi,rfl⟩:=List.getElem_of_mem hy
    rw [List.getElem_drop]
    have:=h (j+1+i) _ oQ (lA (by rw [List.length_drop] at hi; omega))
    omega
   have ht:∀ a∈S.take (j+1),K a<=K x:=fun a ha=>by
    have p1':=p1
    rw [yP hg] at ha p1'
    rcases List.mem_append.1 ha with ha | ha
    ·have:=(List.pairwise_append.1 p1').2.2 a ha S[j] sQ
     omega
    ·rw [List.mem_singleton.1 ha]; omega
   refine List.pairwise_append.2 ⟨p1,List.pairwise_cons.2 ⟨hd,p2⟩,fun a ha c hc=>?_⟩
   rcases lI.1 hc with rfl | hc
   ·exact ht a ha
   ·exact p3 a ha c hc
theorem jJ {lt:Int->Int->Bool} {K:Int->Int} {l:List Int} (hlt:∀ x∈l,∀ y∈l,lt x y=decide (K x<K y)):∀ i,i<=l.length->(sortN lt l i).Pairwise fun a c=>K a<=K c
 | 0,_=>.nil
 | i+1,h=>by
  have hg:l[i]? =some l[i]:=lA oQ
  rw [wA hg]
  refine jK (fun y hy=>hlt _ (List.getElem_mem _) y (uR i oQ y hy)) (jJ hlt i oQ) _ (mL _) fun k y hk hy=>?_
  rw [lU hk] at hy
  cases hy
def pw:Nat->Int
 | 0=>10000
 | 1=>1000
 | 2=>100
 | 3=>10
 | _=>1
def wgt (b:RBk) (l:List Int) (k:Int):Int:=(cutS b l k.toNat).busy*1000000+pw k.toNat
theorem xQ {b:RBk} {l:List Int} (hl:l.length<=5):(ordM b l).Pairwise fun a c=>wgt b l a<=wgt b l c:=by
 have hs:(ordM b l).Pairwise fun a c=>(cutS b l a.toNat).busy*10 - a<=(cutS b l c.toNat).busy*10 - c:=by
  unfold ordM sortR
  refine jJ (K:=fun a=>(cutS b l a.toNat).busy*10 - a) (fun x hx y hy=>?_) _ (mL _)
  have h1:=zbi hx
  have h2:=zbi hy
  unfold busyLt
  rw [Bool.eq_iff_iff]
  simp only [Bool.or_eq_true,mX,decide_eq_true_eq]
  omega
 refine hs.imp_of_mem ?_
 intro a c ha hc h
 have h1:=zdO ha
 have h2:=zdO hc
 unfold wgt
 obtain ⟨i,rfl⟩:=Int.eq_ofNat_of_zero_le h1.1
 obtain ⟨j,rfl⟩:=Int.eq_ofNat_of_zero_le h2.1
 simp only [mZ] at h ⊢
 have hi:i=0\/i=1\/i=2\/i=3\/i=4:=by omega
 have hj:j=0\/j=1\/j=2\/j=3\/j=4:=by omega
 rcases hi with rfl | rfl | rfl | rfl | rfl <;> rcases hj with rfl | rfl | rfl | rfl | rfl <;> simp only [pw] <;> omega
theorem jQ {b:RBk} {l:List Int} (C:Nat->Int):∀ (o:List Int) (z:Alloc),o.Nodup->(∀ k∈o,0<=k/\k<l.length)->(∀ k∈o,z.steps.getD k.toNat 0=0)->z.steps.length=l.length ->
  sumF (fun i=>(o.foldl (allocM b l) z).steps.getD i 0*C i) l.length=sumF (fun i=>z.steps.getD i 0*C i) l.length+gC (fun k=>(cutS b l k.toNat).most) (fun k=>C k.toNat) o z.left
 | [],z,_,_,_,_=>by show _=_+(0:Int); rw [Int.add_zero]; rfl
 | k::o,z,hn,ho,h0,hlen=>by
  obtain ⟨n1,n2⟩:=List.nodup_cons.1 hn
  have hk:=ho k sQ
  have hkl:k.toNat<z.steps.length:=by omega
  have hk0:=h0 k sQ
  rw [List.foldl_cons]
  obtain ⟨v,hv⟩:∃ v,v=min z.left (cutS b l k.toNat).most:=⟨_,rfl⟩
  have hz':allocM b l z k=⟨z.steps.set k.toNat v,z.squares+v*(cutS b l k.toNat).busy,z.left - v⟩:=by rw [hv]; rfl
  have hs:∀ i,(z.steps.set k.toNat v).getD i 0=if i=k.toNat then v else z.steps.getD i 0:=fun i=>jN hkl
  have r:=jQ (b:=b) (l:=l) C o (allocM b l z k) n2 (fun x hx=>ho x (by simp [hx])) (fun x hx=>by
   rw [hz']
   show (z.steps.set k.toNat v).getD x.toNat 0=0
   have hx0:=ho x (by simp [hx])
   have hne:x≠k:=fun e=>n1 (e ▸ hx)
   rw [hs,if_neg oQ]
   exact h0 x (by simp [hx])) (by rw [hz']; show (z.steps.set k.toNat v).length=_; rw [List.length_set]; exact hlen)
  have e2:sumF (fun i=>(allocM b l z k).steps.getD i 0*C i) l.length=sumF (fun i=>z.steps.getD i 0*C i) l.length+v*C k.toNat:=by
   rw [hz']
   rw [jC (f:=fun i=>z.steps.getD i 0*C i) (k:=k.toNat) l.length oQ (fun i hi=>by show (z.steps.set k.toNat v).getD i 0*_=_; rw [hs,if_neg hi])]
   show _ - z.steps.getD k.toNat 0*_+(z.steps.set k.toNat v).getD k.toNat 0*_=_
   rw [hs,if_pos rfl,hk0,Int.zero_mul]
   omega
  rw [r,e2,hz']
  show _+gC _ _ o (z.left - v)=_+(min z.left (cutS b l k.toNat).most*C k.toNat+gC _ _ o (z.left - min z.left (cutS b l k.toNat).most))
  rw [<- hv]
  omega
theorem jR {b:RBk} {l:List Int}:∀ (o:List Int) (z:Alloc),(∀ k∈o,0<=(cutS b l k.toNat).most)->0<=z.left->(o.foldl (allocM b l) z).left=max 0 (z.left - fS (fun k=>(cutS b l k.toNat).most) o)
 | [],z,_,h=>by show z.left=max 0 (z.left - 0); omega
 | k::o,z,hm,h=>by
  have hk:=hm k sQ
  rw [List.foldl_cons,jR o _ (fun x hx=>hm x (by simp [hx])) (by show 0<=z.left - min z.left (cutS b l k.toNat).most; omega)]
  show max 0 (z.left - min z.left (cutS b l k.toNat).most - _)=max 0 (z.left - ((cutS b l k.toNat).most+_))
  have h0:=fS_nn (f:=fun k=>(cutS b l k.toNat).most) o (fun x hx=>hm x (by simp [hx]))
  omega
def mostS (b:RBk) (l:List Int) (k:Nat):Int:=sumF (fun i=>(cutS b l i).most) k
theorem xO {b:RBk} (hb:ROk b) {l:List Int} (hl:CutsOk b l):∀ k∈ordM b l,0<=(cutS b l k.toNat).most:=fun k hk=>by
 have:=zdO hk
 exact (hb.sms.fld _ (hl.lt (k:=k.toNat) oQ).2.2).2.2.1
theorem jT {b:RBk} (hb:ROk b) {l s:List Int} (hl:CutsOk b l) (hs:StOk b s):(hangM b l s).isSome=(fitsM b l&&decide (freshM b s<=mostS b l l.length)):=by
 have hleft:=jR (b:=b) (l:=l) (ordM b l) (alloc0 b l (freshM b s)) (xO hb hl) (zcl hb hs).1
 rw [xd] at hleft
 simp only [mZ] at hleft
 have e:(alloc0 b l (freshM b s)).left=freshM b s:=rfl
 unfold hangM
 by_cases hf:fitsM b l=false
 ·rw [if_pos hf,hf]; rfl
 ·rw [if_neg hf,show fitsM b l=true by simpa using hf,Bool.true_and]
  dsimp only
  unfold allocA mostS
  by_cases h:0<((ordM b l).foldl (allocM b l) (alloc0 b l (freshM b s))).left
  ·rw [if_pos h,decide_eq_false oQ]; rfl
  ·rw [if_neg h,decide_eq_true oQ]; rfl
theorem xi (f g:Nat->Int) (c:Int):∀ n,sumF (fun i=>f i*c+g i) n=sumF f n*c+sumF g n
 | 0=>by show (0:Int)=0*c+0; rw [Int.zero_mul]; rfl
 | n+1=>by
  show sumF (fun i=>f i*c+g i) n+(f n*c+g n)=(sumF f n+f n)*c+(sumF g n+g n)
  rw [xi f g c n,Int.add_mul]
  omega
def numW (x:List Int) (n:Nat):Int:=sumF (fun i=>x.getD i 0*pw i) n
theorem xN:∀ (n:Nat) (x y:List Int),n<=5->x.length=n->y.length=n->(∀ i,0<=x.getD i 0/\x.getD i 0<=9)->(∀ i,0<=y.getD i 0/\y.getD i 0<=9)->lexM x y<0->numW x n<numW y n
 | 0,[],[],_,_,_,_,_,h=>by simp [lexM] at h
 | 1,[a],[p],_,_,_,hx,hy,h=>by
  simp only [lexM] at h
  show 0+a*10000<0+p*10000
  split at h
  ·omega
  ·split at h <;> omega
 | 2,[a,c],[p,q],_,_,_,hx,hy,h=>by
  have a0:=hx 0; have a1:=hx 1; have b0:=hy 0; have b1:=hy 1
  simp only [List.getD_cons_zero,List.getD_cons_succ] at a0 a1 b0 b1
  simp only [lexM] at h
  show 0+a*10000+c*1000<0+p*10000+q*1000
  repeat' (split at h)
  all_goals omega
 | 3,[a,c,d],[p,q,r],_,_,_,hx,hy,h=>by
  have a0:=hx 0; have a1:=hx 1; have a2:=hx 2; have b0:=hy 0; have b1:=hy 1; have b2:=hy 2
  simp only [List.getD_cons_zero,List.getD_cons_succ] at a0 a1 a2 b0 b1 b2
  simp only [lexM] at h
  show 0+a*10000+c*1000+d*100<0+p*10000+q*1000+r*100
  repeat' (split at h)
  all_goals omega
 | 4,[a,c,d,e],[p,q,r,s],_,_,_,hx,hy,h=>by
  have a0:=hx 0; have a1:=hx 1; have a2:=hx 2; have a3:=hx 3; have b0:=hy 0; have b1:=hy 1; have b2:=hy 2; have b3:=hy 3
  simp only [List.getD_cons_zero,List.getD_cons_succ] at a0 a1 a2 a3 b0 b1 b2 b3
  simp only [lexM] at h
  show 0+a*10000+c*1000+d*100+e*10<0+p*10000+q*1000+r*100+s*10
  repeat' (split at h)
  all_goals omega
 | 5,[a,c,d,e,f],[p,q,r,s,t],_,_,_,hx,hy,h=>by
  have a0:=hx 0; have a1:=hx 1; have a2:=hx 2; have a3:=hx 3; have a4:=hx 4; have b0:=hy 0; have b1:=hy 1; have b2:=hy 2; have b3:=hy 3; have b4:=hy 4
  simp only [List.getD_cons_zero,List.getD_cons_succ] at a0 a1 a2 a3 a4 b0 b1 b2 b3 b4
  simp only [lexM] at h
  show 0+a*10000+c*1000+d*100+e*10+f*1<0+p*10000+q*1000+r*100+s*10+t*1
  repeat' (split at h)
  all_goals omega
 | n+6,_,_,h5,_,_,_,_,_=>by omega
theorem xD {x:List Int} {n:Nat} (h5:n<=5) (hx:∀ i,0<=x.getD i 0/\x.getD i 0<=9):0<=numW x n/\numW x n<100000:=by
 have a0:=hx 0; have a1:=hx 1; have a2:=hx 2; have a3:=hx 3; have a4:=hx 4
 have h:n=0\/n=1\/n=2\/n=3\/n=4\/n=5:=by omega
 rcases h with rfl | rfl | rfl | rfl | rfl | rfl <;> simp only [numW,sumF,pw] <;> omega
theorem jS (b:RBk) (l x:List Int):sumF (fun i=>x.getD i 0*wgt b l i) l.length=sumF (fun i=>x.getD i 0*(cutS b l i).busy) l.length*1000000+numW x l.length:=by
 unfold numW
 rw [<- xi]
 refine ji _ fun i _=>?_
 unfold wgt
 rw [mZ,Int.mul_add,Int.mul_assoc]
theorem cheapest {b:RBk} (hb:ROk b) {l s w:List Int} {q:Int} (hl:CutsOk b l) (hs:StOk b s) (h:hangM b l s=some (w,q)) {x:List Int} (hxl:x.length=l.length) (hx:∀ i,0<=x.getD i 0/\(i<l.length->x.getD i 0<=(cutS b l i).most)) (hsum:sumF (fun i=>x.getD i 0) l.length=freshM b s):needM b l w l.length<=needM b l x l.length/\(needM b l w l.length<needM b l x l.length\/decide (lexM x w<0)=false):=by
 have hn5:l.length<=5:=by have:=hl.len; have:=hb.sms.len; omega
 obtain ⟨hfit,hwl,hws,hq,hwb⟩:=xg hb hl hs h
 have nine:∀ {y:List Int},y.length=l.length->(∀ i,0<=y.getD i 0/\(i<l.length->y.getD i 0<=(cutS b l i).most))->∀ i,0<=y.getD i 0/\y.getD i 0<=9:=fun {y} hyl hy i=>by
  refine ⟨(hy i).1,?_⟩
  by_cases hi:i<l.length
  ·have h1:=(hy i).2 hi
   have h2:=(hb.sms.fld _ (hl.lt hi).2.2).2.2.2.1
   unfold cutS at h1
   omega
  ·rw [lE,lU oQ]
   decide
 have key:sumF (fun i=>w.getD i 0*wgt b l i) l.length<=sumF (fun i=>x.getD i 0*wgt b l i) l.length:=by
  have hr:∀ i,(alloc0 b l (freshM b s)).steps.getD i 0=0:=fun i=>by
   show (mB l.length (0:Int)).getD i 0=0
   rw [lE,List.getElem?_replicate]
   split <;> rfl
  have hc:=jQ (b:=b) (l:=l) (fun i=>wgt b l i) (ordM b l) (alloc0 b l (freshM b s)) (jZ b l) (fun k hk=>zdO hk) (fun k _=>hr _) (by show (mB l.length (0:Int)).length=_; rw [List.length_replicate])
  have hw:w=((ordM b l).foldl (allocM b l) (alloc0 b l (freshM b s))).steps:=by
   unfold hangM at h
   split at h
   ·cases h
   ·dsimp only at h
    split at h
    ·cases h
    ·cases h; rfl
  have z2:sumF (fun i=>(alloc0 b l (freshM b s)).steps.getD i 0*wgt b l i) l.length=0:=by
   rw [ji (g:=fun _=>0) l.length (fun i _=>by rw [hr i,Int.zero_mul])]
   have:=jB (f:=fun _=>0) (n:=0) (fun _ _=>rfl) l.length
   rwa [mO] at this
  rw [<- hw,z2,Int.zero_add] at hc
  rw [hc]
  have ho:=xC (m:=fun k=>(cutS b l k.toNat).most) (c:=wgt b l) (x:=fun k=>x.getD k.toNat 0) (ordM b l) (freshM b s) (xQ hn5) (fun k hk=>by
   have:=zdO hk
   exact ⟨(hx _).1,(hx _).2 oQ⟩) (by rw [xd]; simp only [mZ]; exact hsum.symm)
  rw [xd] at ho
  simp only [mZ] at ho
  refine Int.le_trans (Int.le_of_eq ?_) ho
  show gC _ _ _ (freshM b s)=_
  congr 1
 rw [jS,jS] at key
 have n1:=xD hn5 (nine hwl hwb)
 have n2:=xD hn5 (nine hxl hx)
 unfold needM
 rw [jF,jF]
 refine ⟨by omega,?_⟩
 by_cases hlt:sumF (fun i=>w.getD i 0*(cutS b l i).busy) l.length<sumF (fun i=>x.getD i 0*(cutS b l i).busy) l.length
 ·exact .inl oQ
 ·right
  refine decide_eq_false fun hlex=>?_
  have:=xN l.length x w hn5 hxl hwl (nine hxl hx) (nine hwl hwb) hlex
  omega
end Go.Vel
namespace Go.Vel
open Go Go.Conc Go.Proofs
def u8A (x:Fin 256):AV:=.v (.int .u8 (x.1:Int))
def u8O (l:List (Fin 256)):AObj:=.cells (l.flatMap fun x=>[u8A x]) 5 false
def Feas (b:RBk) (l x:List Int):Prop:=x.length=l.length/\∀ i,0<=x.getD i 0/\(i<l.length->x.getD i 0<=(cutS b l i).most)
theorem xe {b:RBk} {l x:List Int} (h:Feas b l x) {i:Nat} (hi:i<l.length):x[i]? =some (zN x i):=z5 (by rw [h.1]; exact hi)
theorem xf {b:RBk} {l x:List Int} (h:Feas b l x) {i:Nat} (hi:i<l.length) {d left:Int} (h0:0<=d) (h1:zN x i+d<=(cutS b l i).most):Feas b l (x.set i (zN x i+d))/\(x.set i (zN x i+d))[i]? =some (zN x i+d)/\sumF (fun k=>(x.set i (zN x i+d)).getD k 0) l.length+(left - d)=sumF (fun k=>x.getD k 0) l.length+left/\∀ k,k≠i->(x.set i (zN x i+d)).getD k 0=x.getD k 0:=by
 have hxl:i<x.length:=by rw [h.1]; exact hi
 have hs:∀ k,(x.set i (zN x i+d)).getD k 0=if k=i then zN x i+d else x.getD k 0:=fun k=>jN hxl
 have hx:=(h.2 i).1
 refine ⟨⟨by rw [List.length_set]; exact h.1,fun k=>?_⟩,by rw [lX,if_pos rfl,if_pos hxl],?_,fun k hk=>by rw [hs,if_neg hk]⟩
 ·rw [hs]
  by_cases e:k=i
  ·rw [if_pos e]
   unfold zN at h1 ⊢
   exact ⟨by omega,fun _=>by rw [e]; exact h1⟩
  ·rw [if_neg e]; exact h.2 k
 ·rw [jC (f:=fun k=>x.getD k 0) (k:=i) l.length hi (fun k hk=>by show (x.set i _).getD k 0=_; rw [hs,if_neg hk])]
  show _ - x.getD i 0+(x.set i (zN x i+d)).getD i 0+_=_
  rw [hs,if_pos rfl]
  unfold zN
  omega
theorem jV (n i:Nat):(mB n (0:Int)).getD i 0=0:=by
 rw [lE,List.getElem?_replicate]
 split <;> rfl
theorem xT (n m:Nat):sumF (fun i=>(mB n (0:Int)).getD i 0) m=0:=by
 rw [ji (g:=fun _=>0) m (fun i _=>jV n i)]
 have:=jB (f:=fun _=>0) (n:=0) (fun _ _=>rfl) m
 rwa [mO] at this
theorem xH {b:RBk} (hb:ROk b) {l:List Int} (hl:CutsOk b l):Feas b l (mB l.length 0):=⟨List.length_replicate,fun i=>by
 rw [jV]
 refine ⟨Int.le_refl _,fun hi=>?_⟩
 exact (hb.sms.fld _ (hl.lt hi).2.2).2.2.1⟩
theorem xA {b:RBk} (hb:ROk b) {l x:List Int} (hl:CutsOk b l) (h:Feas b l x):∀ i,0<=x.getD i 0/\x.getD i 0<=9:=fun i=>by
 refine ⟨(h.2 i).1,?_⟩
 by_cases hi:i<l.length
 ·have h1:=(h.2 i).2 hi
  have h2:=(hb.sms.fld _ (hl.lt hi).2.2).2.2.2.1
  unfold cutS at h1
  omega
 ·rw [lE,lU (by have:=h.1; omega)]
  decide
theorem jO {b:RBk} (hb:ROk b) {l:List Int} (hl:CutsOk b l):∀ k,k<=l.length->0<=mostS b l k/\mostS b l k<=9*k
 | 0,_=>by show (0:Int)<=0/\(0:Int)<=_; omega
 | k+1,h=>by
  have h1:=jO hb hl k oQ
  have h2:=hb.sms.fld _ (hl.lt (k:=k) oQ).2.2
  show 0<=mostS b l k+(cutS b l k).most/\mostS b l k+(cutS b l k).most<=_
  unfold cutS
  omega
theorem xz {b:RBk} {l x:List Int} {left:Int} (h:∀ k,k<l.length->left=0\/x.getD k 0=(cutS b l k).most) (hs:sumF (fun k=>x.getD k 0) l.length+left<=mostS b l l.length) (h0:0<=left):left=0:=by
 by_cases e:left=0
 ·exact e
 ·have:sumF (fun k=>x.getD k 0) l.length=mostS b l l.length:=ji _ fun i hi=>(h i hi).resolve_left e
  omega
theorem xo {b:RBk} (hb:ROk b) {s:List Int} (hs:StOk b s):b.round - b.steps+sumF (fun i=>s.getD i 0) s.length=freshM b s:=by
 rw [xB hb hs,hs.len]
theorem xE {b:RBk} {s:List Int} (hs:StOk b s):∀ k,k<=s.length->0<=sumF (fun i=>s.getD i 0) k/\sumF (fun i=>s.getD i 0) k<=5*k
 | 0,_=>by show (0:Int)<=0/\(0:Int)<=_; omega
 | k+1,h=>by
  have h1:=xE hs k oQ
  have h2:=hs.bnd k (by rw [<- hs.len]; omega)
  show 0<=_+s.getD k 0/\_+s.getD k 0<=_
  omega
instance:Cal tp 74:={}
instance:zF tp 100 5 1:={}
instance:zi tp 5 false 1:={}
instance:Und tp 100 (.slice 5):={}
theorem xh {main T} (hT:zo tp main T) {gm} {b:RBk} {s h e j:Nat} {st:List Int} {et:TypeId} (hb:ROk b) (hs:StOk b st) :
  zA tp T gm 74 [.agg (zE b s h e),.sl j 0 st.length] [(j,.cells (st.map intA) et false)] (fun r K'=>r=intA (freshM b st)/\K'=[(j,.cells (st.map intA) et false)]):=by
 refine zp 25 hT Tryz.func74 fun Y hret=>?_
 refine au [] ?_
 have hsl:=hb.sms.len
 have hst:=hs.len
 have hrd:=hb.rnd.round
 have hrs:=hb.rnd.steps
 refine au [4,5,21] ?_
 intro jb hjb
 refine au [2,3,4,5,7,9,7,9,24,2,3,4,4,5,2,3,13] ?_
 refine TK.maskL [1,5,6] ?_
 refine TK.kp [(j,_)] ?_
 refine TK.loopN (fun n env K=>∃ (i:Nat),n=st.length - i/\i<=st.length/\env=.any::.sl j 0 st.length::naL 3 ((intA (b.round - b.steps+sumF (fun i=>st.getD i 0) i))::intA i::naL 18 [])/\K=[(j,.cells (st.map intA) et false)]) st.length ⟨0,rfl,mN _,by rw [show b.round - b.steps+sumF (fun i=>st.getD i 0) 0=b.round - b.steps from Int.add_zero _]; rfl,rfl⟩ fun n env K hI hnext=>?_
 obtain ⟨i,rfl,hi,rfl,rfl⟩:=hI
 have hsb:=xE hs i hi
 refine TK.na nQ ?_
 refine au [4,4,5,1,1,28,6,3,20] ?_
 refine ⟨fun hc0=>?_,fun hc0=>?_⟩
 ·have hil:i<st.length:=by simp at hc0; omega
  have hq:=hs.bnd i oQ
  have hq2:0<=zN st i/\zN st i<=5:=⟨hq.1,hq.2.1⟩
  refine au [12,4,13,5,1,1,1,36] ?_
  refine TK.a Z (zm Z Z zi.h mQ (yh (i:=i) (z5 hil) Z)) ?_
  refine au [23,2,3,14,5,1,23,2,3] ?_
  refine TK.maskL [1,5,6] ?_
  refine TK.kp [(j,_)] ?_
  exact hnext _ _ _ oQ ⟨i+1,rfl,by omega,by rw [show b.round - b.steps+sumF (fun i=>st.getD i 0) i+zN st i=b.round - b.steps+sumF (fun i=>st.getD i 0) (i+1) by rw [Int.add_assoc]; rfl]; rfl,rfl⟩
 obtain rfl:i=st.length:=by simp at hc0; omega
 refine au [16,4,5,1,2,3] ?_
 refine TK.rt hret [(j,_)] ?_
 exact ⟨by rw [xo hb hs] <;> rfl,rfl⟩
theorem jU {b:RBk} {s h e:Nat} {j j3:Nat} {ps:List (Fin 65536)} {os:List (Fin 256)} {k:Int} (hk:0<=k/\k<256):Top tp gmR 12 [.agg (zE b s h e),.sl j 0 ps.length,.v (.int .u8 k),.sl j3 0 os.length] [(0,zy),(s,zk b),(h,zB b),(e,zq b),(j,u16O ps),(j3,u8O os)] (fun r _=>r=zP true):=by
 refine topI 199 Tryz.func12 fun R Y hret=>?_
 have hT:=kH (P:=tp) (AtRet tp 12 R)
 refine au [4,5,21] ?_
 intro jb hjb
 refine au [2,3,4,4,5,8] ?_
 refine TK.cl Z Z Z Z (zja hT) ?_
 rintro r1 K2 ⟨rfl,rfl⟩
 refine au [30,3,20] ?_
 refine ⟨fun hc0=>?_,fun hc0=>?_⟩
 ·refine au [4,5] ?_
  refine TK.cl Z Z Z Z (zi5) ?_
  rintro r4 K5 ⟨rfl,rfl⟩
  refine au [2,3] ?_
  refine TK.rt hret [] ?_
  rfl
 have hgr:greatM b=false/\zr b=0:=by cases hq:greatM b <;> simp [hq] at hc0; exact ⟨rfl,hc0⟩
 obtain ⟨hgr,hck⟩:=hgr
 have hbb:=zZ hck
 have hl:b.seams.length<=100:=by have:=hbb.sms.len; omega
 have hm:b.measures.length<=100:=by have:=hbb.mes.len; omega
 have hl2:b.shrinks.length<=100:=by have:=hbb.cls.len; omega
 have hst:=hbb.rnd.steps
 obtain ⟨kn,rfl⟩:=Int.eq_ofNat_of_zero_le hk.1
 have hsl:=hbb.sms.len
 have hcl:=hbb.cls.len
 refine au [12,4] ?_
 refine TK.draw [0,1,3,4,2,5,6,7] [0,1,2,3,4,5,6,7] (by kernel_rfl) (by kernel_rfl) ?_
 refine TD.y [4] Z (hq:=z8 Z Z zi.h (mC _) Z) (h:=?_)
 refine TD.z [1] Z (zh Z Z) ?_
 refine TD.y [4] Z (hq:=z8 Z Z zi.h (mC _) Z) (h:=?_)
 refine TD.z [2] Z (zh Z Z) ?_
 refine TD.cl (pend':=[⟨4,[2],[]⟩,⟨3,[4],[(_,_)]⟩]) [30,31] Z Z Z Z Z (xR hT hbb) (fun r7 K8 h9=>⟨?_,?_⟩)
 ·rcases h9 with ⟨jr,rfl,rfl⟩
  all_goals simp
 obtain ⟨jr,rfl,rfl⟩:=h9
 try simp only [cA]
 refine TD.norm tQ ?_
 refine TD.cl (pend':=[]) [33,34] Z Z Z Z Z (xK hT hsl oQ) (fun r10 K11 h12=>⟨?_,?_⟩)
 ·rcases h12 with ⟨jo,eo,rfl,rfl⟩
  all_goals simp
 obtain ⟨jo,eo,rfl,rfl⟩:=h12
 try simp only [cA]
 refine TD.norm tQ ?_
 obtain ⟨d,hd0,hd1,hdo⟩:=xp (c:=kn) hsl.1 hsl.2
 have hcc:CutsOk b (otherM kn b.seams.length):=hdo ▸ zeD hbb hd0 hd1
 have hss:=xS hbb ps
 clear hdo
 generalize otherM kn b.seams.length=l at hcc ⊢
 generalize realM b ps b.shrinks.length=st at hss ⊢
 have hll:=hcc.len
 have hlp:=hcc.pos
 have hsk:=hss.len
 have hfb:=zcl hbb hss
 refine TD.as (pend':=[]) [32] Z Z (zD Z Z) ?_
 refine TD.as (pend':=[]) [35] Z Z (zD Z Z) ?_
 refine TD.fin ?_
 refine au [4,5,8,1,1] ?_
 refine TK.cl Z Z Z Z ((zei hT hl hm oQ).mono (fun _ _ h=>or3x h (xI hck hcc hss))) ?_
 rintro r13 K14 h15
 rcases h15 with ⟨hno,rfl,rfl⟩ | ⟨w,q,jw,hso,rfl,rfl⟩
 ·refine au [] ?_
  have hfo:=jT hbb hcc hss
  rw [hno] at hfo
  refine au [1,10,10,10,10,2,2,2,2,3,4,5,8,1] ?_
  refine TK.cl Z Z Z Z (zaN hT hl hm oQ) ?_
  rintro r16 K17 ⟨rfl,rfl⟩
  refine au [] ?_
  rw [xc hck hcc,decide_eq_true (show (0:Int)=0 from rfl),Bool.true_and]
  refine au [1,10,10,2,2,3,4,5,8,1] ?_
  refine TK.cl Z Z Z Z (xh hT hbb hss) ?_
  rintro r19 K20 ⟨rfl,rfl⟩
  refine au [2,2,3,4,4,5,2,3,13] ?_
  refine TK.maskL [3,4,10,11,12,13,14,15,16,17,18,19] ?_
  refine TK.kp [(0,_),(s,_),(h,_),(e,_),(j,_),(j3,_),(jb,_),(jo,_),(jr,_)] ?_
  refine TK.loopN (fun n env K=>∃ (i:Nat),n=l.length - i/\i<=l.length/\env=naL 3 (.sl j3 0 os.length::.ptr jb 0::naL 5 (.sl jo 0 l.length::.v (.slice none 0 0)::intA 0::zP false::intA 0::zP (fitsM b l)::intA 0::intA (freshM b st)::intA (mostS b l i)::intA i::naL 179 []))/\K=[(0,zy),(s,zk b),(h,zB b),(e,zq b),(j,u16O ps),(j3,u8O os),(jb,.cells (zE b s h e) 26 true),(jo,.cells (l.map intA) eo false),(jr,.cells (st.map intA) 3 false)]) l.length ⟨0,rfl,mN _,rfl,rfl⟩ fun n env K hI hnext=>?_
  obtain ⟨i,rfl,hi,rfl,rfl⟩:=hI
  have hmo:=jO hbb hcc i hi
  refine TK.na nQ ?_
  refine au [4,4,5,1,1,28,6,3,20] ?_
  refine ⟨fun hc1=>?_,fun hc1=>?_⟩
  ·have hil:i<l.length:=by simp at hc1; omega
   have hcu:=hcc.lt hil
   have hf1:=hbb.sms.fld _ hcu.2.2
   refine au [12,4,13] ?_
   refine TK.draw [0,1,2,3,4,5,6,7,8,9,10,11] [0,1,2,3,4,5,6,7,8,9,10,11] (by kernel_rfl) (by kernel_rfl) ?_
   refine TD.z [18] Z (zh Z Z) ?_
   refine TD.z [4] Z (zg Z Z zl.h dQ) ?_
   refine TD.y [61] Z (hq:=zm Z Z zi.h (mC _) Z) (h:=?_)
   refine TD.z [10] Z (zh Z Z) ?_
   refine TD.z [19] Z (zh Z Z) ?_
   refine TD.z [63,64] Z (zQ Z Z Z zF.h oQ oQ) ?_
   refine TD.y [65] Z (hq:=zm Z Z zi.h (mC _) (yh (i:=i) (z5 hil) Z)) (h:=?_)
   refine TD.z [62,66] Z (zQ Z Z Z zF.h oQ oQ) ?_
   refine TD.z [67] Z (zg Z Z zl.h dQ) ?_
   refine TD.y [68] Z (hq:=zm Z Z zi.h (mC _) (ym (c:=1) (sm_at b (i:=(zN l i).toNat) hcu.2.2 oQ) dQ Z)) (h:=?_)
   refine TD.z [60,69] Z (q_add Z Z Z oQ) ?_
   refine TD.as (pend':=[]) [70] Z Z (zD Z Z) ?_
   refine TD.fin ?_
   refine au [14,5,1,23,2,3] ?_
   refine TK.maskL [3,4,10,11,12,13,14,15,16,17,18,19] ?_
   refine TK.kp [(0,_),(s,_),(h,_),(e,_),(j,_),(j3,_),(jb,_),(jo,_),(jr,_)] ?_
   exact hnext _ _ _ oQ ⟨i+1,rfl,by omega,rfl,rfl⟩
  obtain rfl:i=l.length:=by simp at hc1; omega
  refine au [16,4,4,5,1,6,1,1,6,25,1,1,1,1] ?_
  refine TK.sp 80 (fun g11_10=>?_) (fun g11_10=>?_)
  ·have hgt:¬ freshM b st<=mostS b l l.length:=fun hh=>by rw [g11_10,decide_eq_true hh] at hfo; cases hfo
   refine au [1,1,6,26,34,25,1] ?_
   refine TK.sp 87 (fun g11_17=>?_) (fun g11_17=>?_)
   ·simp at g11_17; omega
   refine au [1,1,11,11,11,11,11,25,25,3,19,12,4,4,5,1,30,3,20] ?_
   refine ⟨fun hc3=>?_,fun hc3=>?_⟩
   ·
    refine au [4,5] ?_
    refine TK.cl Z Z Z Z (zi5) ?_
    rintro r22 K23 ⟨rfl,rfl⟩
    refine au [2,3] ?_
    refine TK.rt hret [] ?_
    rfl
   exact absurd hc3 dQ
  refine au [11,11,11,25,34,25,1] ?_
  refine TK.sp 87 (fun g11_17=>?_) (fun g11_17=>?_)
  ·first | exact absurd g11_17 dQ | simp at g11_17
  refine au [1,1,11,11,11,11,11,25,25,3,19,12,4,4,5,1,30,3,20] ?_
  refine ⟨fun hc3=>?_,fun hc3=>?_⟩
  ·
   refine au [4,5] ?_
   refine TK.cl Z Z Z Z (zi5) ?_
   rintro r25 K26 ⟨rfl,rfl⟩
   refine au [2,3] ?_
   refine TK.rt hret [] ?_
   rfl
  exact absurd hc3 dQ
 ·refine au [] ?_
  have hfo:=jT hbb hcc hss
  rw [hso] at hfo
  obtain ⟨hfit,hwl,hsum,hq,hws⟩:=xg hbb hcc hss hso
  rw [hfit,Bool.true_and] at hfo
  have hle:freshM b st<=mostS b l l.length:=of_decide_eq_true hfo.symm
  have hw9:=(zhT hbb hcc hss hso).2
  have hnb:=jD hbb hcc hw9 l.length (mL _)
  subst hq
  refine au [1,10,10,10,10,2,2,2,2,3,4,5,8,1] ?_
  refine TK.cl Z Z Z Z (zaN hT hl hm oQ) ?_
  rintro r28 K29 ⟨rfl,rfl⟩
  refine au [] ?_
  rw [xc hck hcc,hfit]
  refine au [1,10,10,2,2,3,4,5,8,1] ?_
  refine TK.cl Z Z Z Z (xh hT hbb hss) ?_
  rintro r31 K32 ⟨rfl,rfl⟩
  refine au [2,2,3,4,4,5,2,3,13] ?_
  refine TK.maskL [3,4,10,11,12,13,14,15,16,17,18,19] ?_
  refine TK.kp [(0,_),(s,_),(h,_),(e,_),(j,_),(j3,_),(jb,_),(jo,_),(jr,_),(jw,_)] ?_
  refine TK.loopN (fun n env K=>∃ (i:Nat),n=l.length - i/\i<=l.length/\env=naL 3 (.sl j3 0 os.length::.ptr jb 0::naL 5 (.sl jo 0 l.length::.sl jw 0 w.length::intA (needM b l w l.length)::zP true::intA 0::zP true::intA 0::intA (freshM b st)::intA (mostS b l i)::intA i::naL 179 []))/\K=[(0,zy),(s,zk b),(h,zB b),(e,zq b),(j,u16O ps),(j3,u8O os),(jb,.cells (zE b s h e) 26 true),(jo,.cells (l.map intA) eo false),(jr,.cells (st.map intA) 3 false),(jw,.cells (w.map intA) 3 false)]) l.length ⟨0,rfl,mN _,rfl,rfl⟩ fun n env K hI hnext=>?_
  obtain ⟨i,rfl,hi,rfl,rfl⟩:=hI
  have hmo:=jO hbb hcc i hi
  refine TK.na nQ ?_
  refine au [4,4,5,1,1,28,6,3,20] ?_
  refine ⟨fun hc1=>?_,fun hc1=>?_⟩
  ·have hil:i<l.length:=by simp at hc1; omega
   have hcu:=hcc.lt hil
   have hf1:=hbb.sms.fld _ hcu.2.2
   refine au [12,4,13] ?_
   refine TK.draw [0,1,2,3,4,5,6,7,8,9,10,11] [0,1,2,3,4,5,6,7,8,9,10,11] (by kernel_rfl) (by kernel_rfl) ?_
   refine TD.z [18] Z (zh Z Z) ?_
   refine TD.z [4] Z (zg Z Z zl.h dQ) ?_
   refine TD.y [61] Z (hq:=zm Z Z zi.h (mC _) Z) (h:=?_)
   refine TD.z [10] Z (zh Z Z) ?_
   refine TD.z [19] Z (zh Z Z) ?_
   refine TD.z [63,64] Z (zQ Z Z Z zF.h oQ oQ) ?_
   refine TD.y [65] Z (hq:=zm Z Z zi.h (mC _) (yh (i:=i) (z5 hil) Z)) (h:=?_)
   refine TD.z [62,66] Z (zQ Z Z Z zF.h oQ oQ) ?_
   refine TD.z [67] Z (zg Z Z zl.h dQ) ?_
   refine TD.y [68] Z (hq:=zm Z Z zi.h (mC _) (ym (c:=1) (sm_at b (i:=(zN l i).toNat) hcu.2.2 oQ) dQ Z)) (h:=?_)
   refine TD.z [60,69] Z (q_add Z Z Z oQ) ?_
   refine TD.as (pend':=[]) [70] Z Z (zD Z Z) ?_
   refine TD.fin ?_
   refine au [14,5,1,23,2,3] ?_
   refine TK.maskL [3,4,10,11,12,13,14,15,16,17,18,19] ?_
   refine TK.kp [(0,_),(s,_),(h,_),(e,_),(j,_),(j3,_),(jb,_),(jo,_),(jr,_),(jw,_)] ?_
   exact hnext _ _ _ oQ ⟨i+1,rfl,by omega,rfl,rfl⟩
  obtain rfl:i=l.length:=by simp at hc1; omega
  refine au [16,4,4,5,1,6,1,1,6,25,1,1,1,1,1,1,6,26,34,25,1] ?_
  refine TK.sp 87 (fun g11_17=>?_) (fun g11_17=>?_)
  ·simp at g11_17; omega
  refine au [1,1,1,28,1,28,6,26,25,3,20] ?_
  refine ⟨fun hc2=>?_,fun hc2=>?_⟩
  ·first | exact absurd hc2 dQ | (rw [hwl] at hc2; simp at hc2)
  refine au [12,4,4,5,1,30,3,20] ?_
  refine ⟨fun hc3=>?_,fun hc3=>?_⟩
  ·exact absurd hc3 dQ
  refine au [12,4,5,1,28] ?_
  refine TK.newS Z Z Z (zdM Z Z Z ApOf.h TyZ.h hlp oQ) (fun _=>zu rfl tQ) fun jx hjx=>?_
  refine au [1,2,2,3,4,4,5,2,3,13] ?_
  refine TK.maskL [3,4,10,11,12,20,21,22] ?_
  refine TK.kp [(0,_),(s,_),(h,_),(e,_),(j,_),(j3,_),(jb,_),(jo,_),(jr,_),(jw,_),(jx,_)] ?_
  refine TK.loopN (fun n env K=>∃ (i:Nat) (x:List Int) (left:Int),n=l.length - i/\i<=l.length/\Feas b l x/\(∀ k,i<=k->x.getD k 0=0)/\(0<=left/\left<=65)/\sumF (fun k=>x.getD k 0) l.length+left=freshM b st/\env=naL 3 (.sl j3 0 os.length::.ptr jb 0::naL 5 (.sl jo 0 l.length::.sl jw 0 w.length::intA (needM b l w l.length)::naL 7 (.sl jx 0 l.length::intA left::intA i::naL 176 [])))/\K=[(0,zy),(s,zk b),(h,zB b),(e,zq b),(j,u16O ps),(j3,u8O os),(jb,.cells (zE b s h e) 26 true),(jo,.cells (l.map intA) eo false),(jr,.cells (st.map intA) 3 false),(jw,.cells (w.map intA) 3 false),(jx,.cells (x.map intA) 3 true)]) l.length ⟨0,_,freshM b st,rfl,mN _,xH hbb hcc,fun k _=>jV _ _,hfb,by rw [xT]; omega,rfl,rfl⟩ fun n env K hI hnext2=>?_
  obtain ⟨i,x,left,rfl,hi,hfe,hxz,hlb,hxs,rfl,rfl⟩:=hI
  have hxl:=hfe.1
  refine TK.na nQ ?_
  refine au [4,4,5,1,1,28,6,3,20] ?_
  refine ⟨fun hc4=>?_,fun hc4=>?_⟩
  ·have hil:i<l.length:=by simp at hc4; omega
   have hcu:=hcc.lt hil
   have hf1:=hbb.sms.fld _ hcu.2.2
   have hx0:zN x i=0:=hxz i (mL _)
   refine au [12,4,13,4,5,1,1,28,6,3,20] ?_
   refine ⟨fun hc5=>?_,fun hc5=>?_⟩
   ·have hol:i<os.length:=by simp at hc5; omega
    obtain ⟨y,hy⟩:∃ y,os[i]? =some y:=⟨_,lA hol⟩
    have hy2:=y.2
    have hr0:=Int.emod_nonneg (y.1:Int) (show (sm b (zN l i).toNat).most+1≠0 by omega)
    have hr1:=Int.emod_lt_of_pos (y.1:Int) (show 0<(sm b (zN l i).toNat).most+1 by omega)
    obtain ⟨v,hv⟩:∃ v,v=min left ((y.1:Int) % ((sm b (zN l i).toNat).most+1)):=⟨_,rfl⟩
    obtain ⟨p1,p2,p3,p4⟩:=xf (left:=left) hfe hil (d:=v) oQ (by unfold cutS; omega)
    rw [hx0,Int.zero_add] at p1 p2 p3 p4
    refine au [4] ?_
    refine TK.draw [0,1,2,3,4,5,6,7,8,9,10,11,12,13,14,15,16,17,18,19,20,21] [0,1,2,3,4,5,6,7,8,9,10,11,12,13,14,15,16,17,18,19,20,21] (by kernel_rfl) (by kernel_rfl) ?_
    refine TD.z [20] Z (zh Z Z) ?_
    refine TD.z [22] Z (zh Z Z) ?_
    refine TD.z [21] Z (zh Z Z) ?_
    refine TD.z [3] Z (zh Z Z) ?_
    refine TD.z [22] Z (zh Z Z) ?_
    refine TD.z [117,118] Z (zQ Z Z Z zF.h oQ oQ) ?_
    refine TD.y [119] Z (hq:=zm Z Z zi.h (mC _) (w9 (c:=1) (f:=fun x=>[u8A x]) (fun _=>rfl) hy rfl dQ)) (h:=?_)
    refine TD.z [120] Z (yU Z Z Und.h Und.h (wK oQ)) ?_
    refine TD.z [4] Z (zg Z Z zl.h dQ) ?_
    refine TD.y [122] Z (hq:=zm Z Z zi.h (mC _) Z) (h:=?_)
    refine TD.z [10] Z (zh Z Z) ?_
    refine TD.z [22] Z (zh Z Z) ?_
    refine TD.z [124,125] Z (zQ Z Z Z zF.h oQ oQ) ?_
    refine TD.y [126] Z (hq:=zm Z Z zi.h (mC _) (yh (i:=i) (z5 hil) Z)) (h:=?_)
    refine TD.z [123,127] Z (zQ Z Z Z zF.h oQ oQ) ?_
    refine TD.z [128] Z (zg Z Z zl.h dQ) ?_
    refine TD.y [129] Z (hq:=zm Z Z zi.h (mC _) (ym (c:=1) (sm_at b (i:=(zN l i).toNat) hcu.2.2 oQ) dQ Z)) (h:=?_)
    refine TD.z [130] Z (q_add Z Z Z oQ) ?_
    refine TD.z [121,131] Z (q_rem Z Z Z oQ oQ) ?_
    refine TD.z [116,132] Z (zcZ Z Z Z) ?_
    refine TD.z [114,115] Z (zQ Z Z Z zF.h oQ oQ) ?_
    refine TD.s (pend':=[]) [133,134] Z Z (zX Z Z zi.h Z Z mQ (vS (k:=i) oQ Z)) ?_
    refine TD.fin ?_
    rw [<- hv]
    refine au [5,1,1,1,36] ?_
    refine TK.a Z (zm Z Z zi.h mQ (yh (i:=i) p2 Z)) ?_
    refine au [24,2,3,14,5,1,23,2,3] ?_
    refine TK.maskL [3,4,10,11,12,20,21,22] ?_
    refine TK.kp [(0,_),(s,_),(h,_),(e,_),(j,_),(j3,_),(jb,_),(jo,_),(jr,_),(jw,_),(jx,_)] ?_
    exact hnext2 _ _ _ oQ ⟨i+1,_,left - v,rfl,by omega,p1,fun k hk=>by rw [p4 k oQ]; exact hxz k oQ,by omega,by rw [p3]; exact hxs,rfl,rfl⟩
   refine au [12,14,5,1,23,2,3] ?_
   refine TK.maskL [3,4,10,11,12,20,21,22] ?_
   refine TK.kp [(0,_),(s,_),(h,_),(e,_),(j,_),(j3,_),(jb,_),(jo,_),(jr,_),(jw,_),(jx,_)] ?_
   exact hnext2 _ _ _ oQ ⟨i+1,x,left,rfl,by omega,hfe,fun k hk=>hxz k oQ,hlb,hxs,rfl,rfl⟩
  obtain rfl:i=l.length:=by simp at hc4; omega
  refine au [16,4,4,5,1,28,24,2,3,13] ?_
  refine TK.maskL [4,10,11,12,20,21,23] ?_
  refine TK.kp [(0,_),(s,_),(h,_),(e,_),(j,_),(j3,_),(jb,_),(jo,_),(jr,_),(jw,_),(jx,_)] ?_
  refine TK.loopN (fun n env K=>∃ (m:Nat) (x:List Int) (left:Int),n=m/\m<=l.length/\Feas b l x/\(∀ k,m<=k->k<l.length->left=0\/x.getD k 0=(cutS b l k).most)/\(0<=left/\left<=65)/\sumF (fun k=>x.getD k 0) l.length+left=freshM b st/\env=naL 4 (.ptr jb 0::naL 5 (.sl jo 0 l.length::.sl jw 0 w.length::intA (needM b l w l.length)::naL 7 (.sl jx 0 l.length::intA left::.any::intA ((m:Int) - 1)::naL 175 [])))/\K=[(0,zy),(s,zk b),(h,zB b),(e,zq b),(j,u16O ps),(j3,u8O os),(jb,.cells (zE b s h e) 26 true),(jo,.cells (l.map intA) eo false),(jr,.cells (st.map intA) 3 false),(jw,.cells (w.map intA) 3 false),(jx,.cells (x.map intA) 3 true)]) l.length ⟨l.length,x,left,rfl,mL _,hfe,fun k h1 h2=>by omega,hlb,hxs,rfl,rfl⟩ fun n env K hI hnext3=>?_
  obtain ⟨m,x,left,hnm,hmm,hfe,hfu,hlb,hxs,rfl,rfl⟩:=hI
  subst hnm
  have hxl:=hfe.1
  refine TK.na nQ ?_
  refine au [4,4,5,1,6,3,20] ?_
  refine ⟨fun hc6=>?_,fun hc6=>?_⟩
  ·obtain ⟨i,rfl⟩:∃ i,n=i+1:=⟨n - 1,by simp at hc6; omega⟩
   have hil:i<l.length:=by omega
   rw [show ((i+1:Nat):Int) - 1=(i:Int) by omega]
   have hcu:=hcc.lt hil
   have hf1:=hbb.sms.fld _ hcu.2.2
   have hfi:=hfe.2 i
   have hfi2:=hfi.2 hil
   unfold cutS at hfi2
   have hx1:0<=zN x i:=hfi.1
   have hx2:zN x i<=(sm b (zN l i).toNat).most:=hfi2
   obtain ⟨v,hv⟩:∃ v,v=min left ((sm b (zN l i).toNat).most - zN x i):=⟨_,rfl⟩
   obtain ⟨p1,p2,p3,p4⟩:=xf (left:=left) hfe hil (d:=v) oQ (by unfold cutS; omega)
   have hfu2:∀ k,i<=k->k<l.length->left - v=0\/(x.set i (zN x i+v)).getD k 0=(cutS b l k).most:=by
    intro k h1 h2
    by_cases e:k=i
    ·rw [e,show (x.set i (zN x i+v)).getD i 0=zN x i+v by rw [lE,p2]; rfl]
     unfold cutS
     omega
    ·rw [p4 k e]
     rcases hfu k oQ h2 with h | h
     ·left; omega
     ·exact .inr h
   refine au [12,4,13,4] ?_
   refine TK.draw [0,1,2,3,4,5,6,7,8,9,10,11,12,13,14,15,16] [0,1,2,3,4,5,6,7,8,9,10,11,12,13,14,15,16] (by kernel_rfl) (by kernel_rfl) ?_
   refine TD.z [21] Z (zh Z Z) ?_
   refine TD.z [4] Z (zg Z Z zl.h dQ) ?_
   refine TD.y [149] Z (hq:=zm Z Z zi.h (mC _) Z) (h:=?_)
   refine TD.z [10] Z (zh Z Z) ?_
   refine TD.z [23] Z (zh Z Z) ?_
   refine TD.z [151,152] Z (zQ Z Z Z zF.h oQ oQ) ?_
   refine TD.y [153] Z (hq:=zm Z Z zi.h (mC _) (yh (i:=i) (z5 hil) Z)) (h:=?_)
   refine TD.z [150,154] Z (zQ Z Z Z zF.h oQ oQ) ?_
   refine TD.z [155] Z (zg Z Z zl.h dQ) ?_
   refine TD.y [156] Z (hq:=zm Z Z zi.h (mC _) (ym (c:=1) (sm_at b (i:=(zN l i).toNat) hcu.2.2 oQ) dQ Z)) (h:=?_)
   refine TD.z [20] Z (zh Z Z) ?_
   refine TD.z [23] Z (zh Z Z) ?_
   refine TD.z [158,159] Z (zQ Z Z Z zF.h oQ oQ) ?_
   refine TD.y [160] Z (hq:=zm Z Z zi.h (mC _) (yh (i:=i) (xe hfe hil) Z)) (h:=?_)
   refine TD.z [157,161] Z (q_sub Z Z Z oQ) ?_
   refine TD.z [148,162] Z (zcZ Z Z Z) ?_
   refine TD.as (pend':=[]) [163] Z Z (zD Z Z) ?_
   refine TD.fin ?_
   rw [<- hv]
   refine au [5,1,1,1,1,36] ?_
   refine TK.a Z (zm Z Z zi.h mQ (yh (i:=i) (xe hfe hil) Z)) ?_
   refine au [1,23,1,1,24,36] ?_
   refine TK.st Z Z Z (zX Z Z zi.h Z Z mQ (vS (k:=i) oQ Z)) uQ (putN Z) ?_
   refine au [2,3,14,5,1,24,2,3] ?_
   refine TK.maskL [4,10,11,12,20,21,23] ?_
   refine TK.kp [(0,_),(s,_),(h,_),(e,_),(j,_),(j3,_),(jb,_),(jo,_),(jr,_),(jw,_),(jx,_)] ?_
   exact hnext3 _ _ _ oQ ⟨i,_,left - v,rfl,by omega,p1,hfu2,by omega,by rw [p3]; exact hxs,rfl,rfl⟩
  obtain rfl:n=0:=by simp at hc6; omega
  have hl0:=xz (fun k hk=>hfu k (mN _) hk) (by rw [hxs]; exact hle) hlb.1
  refine au [16,4,4,5,1,6,3,20] ?_
  refine ⟨fun hc7=>?_,fun hc7=>?_⟩
  ·simp at hc7; omega
  refine au [12,4] ?_
  refine TK.frz (j:=jx) ?_
  have hx9:=xA hbb hcc hfe
  have hxb:=jD hbb hcc hx9 l.length (mL _)
  have hch:=cheapest hbb hcc hss hso hfe.1 hfe.2 (by rw [<- hxs,hl0]; omega)
  rw [show AV.sl jx 0 l.length=AV.sl jx 0 x.length by rw [hfe.1]]
  refine au [5,8,1,1] ?_
  refine TK.cl Z Z Z Z (xP hT hbb hcc hfe.1 hx9) ?_
  rintro r34 K35 ⟨rfl,rfl⟩
  refine au [2,3,4,5,1,1,6,1] ?_
  refine TK.sp 185 (fun g30_4=>?_) (fun g30_4=>?_)
  ·refine au [1,1,6,1] ?_
   refine TK.sp 189 (fun g30_8=>?_) (fun g30_8=>?_)
   ·refine au [11,11,11,11,26,26,1] ?_
    refine TK.cl Z Z Z Z (zi5) ?_
    rintro r37 K38 ⟨rfl,rfl⟩
    refine au [26,2,3] ?_
    refine TK.rt hret [] ?_
    rfl
   have hlx:decide (lexM x w<0)=false:=hch.2.resolve_left (by simp at g30_8; omega)
   refine au [1,1] ?_
   refine TK.cl Z Z Z Z (xj hT oQ oQ) ?_
   rintro r40 K41 ⟨rfl,rfl⟩
   refine au [30,25,26,1] ?_
   refine TK.sp 196 (fun g30_15=>?_) (fun g30_15=>?_)
   ·refine TK.cl Z Z Z Z (zi5) ?_
    rintro r43 K44 ⟨rfl,rfl⟩
    refine au [26,2,3] ?_
    refine TK.rt hret [] ?_
    rfl
   simp [hlx] at g30_15
  simp at g30_4; omega
end Go.Vel
end
