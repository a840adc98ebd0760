/- The law RollClashes: the measures of Clash alone have no state, and without any one of them they have; no others that have none are fewer, or as many and a lesser list. It holds of every program, tape and world that the statements name, as each theorem says. -/
import Derived.Test.YtamcohjpanjdiaaGreatDoorK7
import Derived.Test.YtamcohjpanjdiaaGreatDoorK8
import Derived.Test.YtamcohjpanjdiaaGreatDoorK10
section
set_option linter.all false
set_option maxRecDepth 20000
set_option maxHeartbeats 60000000
open Go.Proofs.Tryz renaming prog -> tp
open List renaming getElem?_eq_getElem -> lA, nil_append -> lC, length_append -> lF, length_map -> lJ, eq_nil_of_length_eq_zero -> lK, map_append -> lM, take_length -> lW
open List.Mem renaming head -> mC
open Nat renaming le_refl -> mL, zero_le -> mN, zero_add -> mO, lt_or_ge -> mR
open Bool renaming and_eq_true -> mX
open Int renaming toNat_natCast -> mZ
namespace Go.Vel
open Go Go.Conc Go.Proofs
instance:EqG tp 49:={}
instance:EqG tp 94:={}
instance:FlatF tp 49 [(3,0),(3,1),(3,2)]:={}
instance:FlatF tp 94 [(3,0),(3,1),(3,2),(3,3),(4,4)]:={}
instance:Und tp 4 .bool:={}
end Go.Vel
namespace Go.Vel
open Go Go.Conc
end Go.Vel
namespace Go.Vel
open Go Go.Conc Go.Proofs
instance:Cal tp 19:={}
instance:Cal tp 44:={}
instance:Cal tp 49:={}
end Go.Vel
namespace Go.Vel
open Go Go.Conc
theorem jB (c m:Nat):∀ i,i<=m->zw (c % 2 ^ m) i=zw c i
 | 0,_=>rfl
 | i+1,h=>by
  unfold zw
  rw [jB c m i oQ]
  have h1:=Nat.testBit_mod_two_pow c m i
  rw [Nat.testBit_eq_decide_div_mod_eq,Nat.testBit_eq_decide_div_mod_eq,decide_eq_true (show i<m by omega),Bool.true_and] at h1
  have h2:(c % 2 ^ m / 2 ^ i % 2=1)=(c / 2 ^ i % 2=1):=propext (by simpa using h1)
  simp only [h2]
def otherM (c n:Nat):List Int:=if zw c n=[] then [((c % n:Nat):Int)] else zw c n
theorem jU (x:List Int):smallerM x x=false:=by
 cases h:smallerM x x with
 | false=>rfl
 | true=>rw [kJ,zf4] at h; omega
theorem jQ {b:RBk}:∀ (l:List RSeam) (last:Int),(∀ s∈l,seamB b s=true/\last<s.step)->(l.Pairwise fun s t=>s.step<t.step)->seamsL b last l=0
 | [],_,_,_=>rfl
 | s::r,last,h,hp=>by
  obtain ⟨p1,p2⟩:=List.pairwise_cons.1 hp
  have h1:=h s sQ
  unfold seamsL
  rw [if_neg (by rw [h1.1]; decide),if_neg oQ]
  exact jQ r _ (fun t ht=>⟨(h t (by simp [ht])).1,p1 t ht⟩) p2
theorem jN {b:RBk}:∀ (l:List RBand) (i:Nat),(∀ k x,l[k]? =some x->bandB x=true/\x.high<wideM b (i+k))->clothsL b i l=0
 | [],_,_=>rfl
 | x::r,i,h=>by
  have h1:=h 0 x rfl
  unfold clothsL
  rw [if_neg (by rw [h1.1]; decide),if_neg (by have:=h1.2; rw [Nat.add_zero] at this; omega)]
  exact jN r _ fun k y hy=>by
   have:=h (k+1) y (by simpa using hy)
   rwa [show i+(k+1)=i+1+k by omega] at this
theorem jX {b:RBk}:∀ (l:List RMeas),(∀ m∈l,0<=m.cloth/\m.cloth<b.seams.length/\1<=m.many/\m.many<=b.seams.length/\0<=m.wide/\m.wide<=24)->measL b l=0
 | [],_=>rfl
 | m::r,h=>by
  have h1:=h m sQ
  have h2:thereM b m.cloth=0:=by unfold thereM; rw [if_pos (by simp [betw]; omega)]
  have h3:measB b m=true:=by simp only [measB,betw,mX,decide_eq_true_eq]; omega
  unfold measL
  rw [if_neg (by rw [h2]; decide),if_neg (by rw [h3]; decide)]
  exact jX r fun y hy=>h y (by simp [hy])
theorem xg {b:RBk} (h:ROk b):zr b=0:=by
 have hr:=h.rnd
 have h1:roundsM b=0:=by
  unfold roundsM
  rw [if_pos]
  simp only [betw,mX,decide_eq_true_eq]
  exact ⟨⟨⟨hr.steps,hr.round⟩,hr.roll⟩,hr.rolls⟩
 have hs:=h.sms
 have sat:∀ i,(hi:i<b.seams.length)->b.seams[i]=sm b i:=fun i hi=>by
  have:=yV hi
  rw [lA hi] at this
  exact Option.some.inj this
 have h2:seamsM b=0:=by
  have hbl:betw b.seams.length 1 5=true:=by
   have:=hs.len
   simp only [betw,mX,decide_eq_true_eq]
   omega
  unfold seamsM
  rw [if_neg (by rw [hbl]; decide)]
  refine jQ _ _ (fun s hm=>?_) (List.pairwise_iff_getElem.2 fun i j hi hj hij=>by rw [sat i hi,sat j hj]; exact hs.asc i j hij hj)
  obtain ⟨i,hi,rfl⟩:=List.getElem_of_mem hm
  rw [sat i hi]
  have:=hs.fld i hi
  exact ⟨by simp only [seamB,betw,mX,decide_eq_true_eq]; omega,by omega⟩
 have h3:clothsM b=0:=by
  unfold clothsM
  rw [if_neg (by rw [h.cls.len]; simp)]
  refine jN _ _ fun k x hx=>?_
  have hk:k<b.shrinks.length:=by
   rcases mR k b.shrinks.length with h | h
   ·exact h
   ·rw [List.getElem?_eq_none h] at hx; cases hx
  rw [ko hk] at hx
  cases hx
  have:=h.cls.bnd k (by have:=h.cls.len; omega)
  exact ⟨by simp only [bandB,isBd,mX,decide_eq_true_eq]; omega,by rw [mO]; exact this.2.2.2.2⟩
 have h4:measM b=0:=by
  unfold measM
  have:=h.mes.len
  rw [if_neg oQ]
  exact jX _ h.mes.bnd
 unfold zr
 rw [if_neg (by rw [h1]; decide),if_neg (by rw [h2]; decide),if_neg (by rw [h3]; decide)]
 exact h4
end Go.Vel
namespace Go.Vel
open Go Go.Conc Go.Proofs
section
variable {P:Program} {gm:Nat->Option Nat} {V:KV} {env:List AV} {o:Oper}
theorem xp {t yt:TypeId} {x y:Operand} {k':IntKind} {a b:Nat} (ho:o.op=.binOp .shr t x y yt) (hx:zn gm env x=some (.v (.int .u8 a))) (hy:zn gm env y=some (.v (.int k' b))) (h0:b<=6):Qk P gm env V o (.v (.int .u8 ((a / 2 ^ b:Nat):Int))):=fun A _=>by
 refine vq ho (by rw [zx hx]; rfl) (by rw [zx hy]; rfl) ?_
 rw [u7]
 show zR P (Op.shift .shr .u8 a k' b)=_
 unfold Op.shift
 rw [if_neg oQ]
 show some (Value.int .u8 ((a:Int).fdiv (2 ^ min (b:Int).toNat 8)))=_
 rw [mZ,Nat.min_eq_left oQ,show ((a:Int).fdiv (2 ^ b))=((a / 2 ^ b:Nat):Int) by rw [Int.fdiv_eq_ediv_of_nonneg _ (by exact_mod_cast mN (2 ^ b))]; norm_cast]
theorem xo {t yt:TypeId} {x y:Operand} {a:Nat} (ho:o.op=.binOp .and t x y yt) (hx:zn gm env x=some (.v (.int .u8 a))) (hy:zn gm env y=some (.v (.int .u8 1))) (h:a<256):Qk P gm env V o (.v (.int .u8 ((a % 2:Nat):Int))):=by
 refine wQ ho hx hy ?_
 show some (Value.int .u8 (IntKind.u8.wrap ((BitVec.ofInt 8 (a:Int) &&& BitVec.ofInt 8 1).toNat:Int)))=_
 have:(BitVec.ofInt 8 (a:Int) &&& BitVec.ofInt 8 1).toNat=a % 2:=by
  rw [BitVec.toNat_and]
  have e1:(BitVec.ofInt 8 (a:Int)).toNat=a:=by
   rw [BitVec.toNat_ofInt]
   omega
  rw [e1]
  show a &&& 1=a % 2
  exact Nat.and_one_is_mod a
 rw [this]
 have h2:a % 2=0\/a % 2=1:=by omega
 rcases h2 with h2 | h2 <;> rw [h2] <;> rfl
end
theorem xc {c i:Nat} (h:c / 2 ^ i % 2=1):zw c (i+1)=zw c i++[(i:Int)]:=by
 show zw c i++_=_
 rw [if_pos h]
theorem xb {c i:Nat} (h:¬ c / 2 ^ i % 2=1):zw c (i+1)=zw c i:=by
 show zw c i++_=_
 rw [if_neg h,List.append_nil]
theorem xi {l:List Int} (hp:l.Pairwise (· < ·)) {i j:Nat} (hij:i<j) (hj:j<l.length):zN l i<zN l j:=by
 have e1:=z5 (l:=l) (k:=i) oQ
 have e2:=z5 hj
 rw [lA oQ] at e1
 rw [lA hj] at e2
 rw [<- Option.some.inj e1,<- Option.some.inj e2]
 exact List.pairwise_iff_getElem.1 hp i j oQ hj hij
theorem xn {x y:Int} {r t:List Int} (h:¬ x=y):decide (lexM (x::r) (y::t)<0)=decide (x<y):=by
 refine decide_eq_decide.2 ?_
 simp only [lexM]
 by_cases h1:x<y
 ·rw [if_pos h1]; simp [h1]
 ·rw [if_neg h1,if_pos oQ]; simp [h1]
theorem jW {xs ys:List Int} {i:Nat} (hi:i<=xs.length) (hi2:i<=ys.length) (h:xs.length<=i\/ys.length<=i):decide (lexM (xs.drop i) (ys.drop i)<0)=decide ((xs.length:Int)<ys.length):=by
 refine decide_eq_decide.2 ?_
 rcases mR i xs.length with h1 | h1
 ·have h2:ys.length<=i:=by omega
  rw [zH (z5 h1),List.drop_eq_nil_of_le h2]
  simp only [lexM]
  omega
 ·rw [List.drop_eq_nil_of_le h1]
  rcases mR i ys.length with h2 | h2
  ·rw [zH (z5 h2)]
   simp only [lexM]
   omega
  ·rw [List.drop_eq_nil_of_le h2]
   simp only [lexM]
   omega
instance:Cal tp 62:={}
instance:Cal tp 75:={}
theorem xd {main T} (hT:zo tp main T) {gm} {j:Nat} {et:TypeId} {l:List Int} {n:Int} (hb:∀ x∈l,0<=x/\x<n) (hp:l.Pairwise (· < ·)) (hl:l.length<=1000) (hn:n<=1000) :
  zA tp T gm 62 [.sl j 0 l.length,intA n] [(j,.cells (l.map intA) et false)] (fun r K'=>r=intA 0/\K'=[(j,.cells (l.map intA) et false)]):=by
 refine zp 34 hT Tryz.func62 fun Y hret=>?_
 refine au [4,5,2,3,4,4,5,2,3,13] ?_
 refine TK.maskL [0,1,5] ?_
 refine TK.loopN (fun n0 env K=>∃ (i:Nat),n0=l.length - i/\i<=l.length/\env=[.sl j 0 l.length,intA n,.any,.any,.any,intA i,.any,.any,.any,.any,.any,.any,.any,.any,.any,.any,.any,.any,.any,.any,.any,.any,.any,.any,.any,.any,.any,.any,.any,.any,.any,.any,.any,.any]/\K=[(j,.cells (l.map intA) et false)]) l.length ⟨0,rfl,mN _,rfl,rfl⟩ fun n0 env K hI hnext=>?_
 obtain ⟨i,rfl,hi,rfl,rfl⟩:=hI
 refine au [4,4,5,1,1,28,6,3,20] ?_
 refine ⟨fun hc0=>?_,fun hc0=>?_⟩
 ·have hil:i<l.length:=by simp at hc0; omega
  have hx:=hb _ (zgU hil)
  refine au [12,4,13,4,4,5,1,1,36] ?_
  refine TK.a Z (zm Z Z zi.h mQ (yh (i:=i) (z5 hil) Z)) ?_
  refine au [1,24] ?_
  refine TK.cl Z Z Z Z (yz hT) ?_
  rintro r1 K2 ⟨rfl,rfl⟩
  refine au [30,3,20] ?_
  refine ⟨fun hc1=>?_,fun hc1=>?_⟩
  ·simp [betw] at hc1; omega
  refine au [12,4] ?_
  refine TK.draw [0,1,2,3,4,5,6,7,8,9,10,11,12,13] [0,1,2,3,4,5,6,7,8,9,10,11,12,13] (by kernel_rfl) (by kernel_rfl) ?_
  refine TD.z [5] Z (zh Z Z) ?_
  refine TD.z [20] Z (q_cmp Z Z Z Z) ?_
  refine TD.z [21] Z (zh Z Z) ?_
  refine TD.sp 22 (fun g6_3=>?_) (fun g6_3=>?_)
  ·have hgi:0<i:=by have:=of_decide_eq_true g6_3; omega
   have hlt:zN l (i - 1)<zN l i:=xi hp oQ hil
   refine TD.z [0,22] Z (zh Z Z) ?_
   refine TD.z [5,22] Z (zh Z Z) ?_
   refine TD.z [22,23,24] Z (zQ Z Z Z zF.h oQ oQ) ?_
   refine TD.y [22,25] Z (hq:=zm Z Z zi.h (mC _) (yh (i:=i) (z5 hil) Z)) (h:=?_)
   refine TD.z [0,22] Z (zh Z Z) ?_
   refine TD.z [5,22] Z (zh Z Z) ?_
   refine TD.z [22,28] Z (q_sub Z Z Z oQ) ?_
   refine TD.z [22,27,29] Z (zQ Z Z Z zF.h oQ oQ) ?_
   refine TD.y [22,30] Z (hq:=zm Z Z zi.h (mC _) (yh (i:=i - 1) (z5 oQ) oQ)) (h:=?_)
   refine TD.z [22,26,31] Z (q_cmp Z Z Z Z) ?_
   refine TD.z [22,32] Z (yE Z Z Z) ?_
   refine TD.fin ?_
   refine au [20] ?_
   refine ⟨fun hc2=>?_,fun hc2=>?_⟩
   ·simp at hc2; omega
   refine au [12,14,5,1,23,2,3] ?_
   refine TK.maskL [0,1,5] ?_
   exact hnext _ _ _ oQ ⟨i+1,rfl,by omega,rfl,rfl⟩
  refine TD.u [0,22] Z ?_
  refine TD.u [5,22] Z ?_
  refine TD.u [22,23,24] Z ?_
  refine TD.u [22,25] Z ?_
  refine TD.u [0,22] Z ?_
  refine TD.u [5,22] Z ?_
  refine TD.u [22,28] Z ?_
  refine TD.u [22,27,29] Z ?_
  refine TD.u [22,30] Z ?_
  refine TD.u [22,26,31] Z ?_
  refine TD.z [22,32] Z (yf Z Z Z) ?_
  refine TD.fin ?_
  refine au [19,12,14,5,1,23,2,3] ?_
  refine TK.maskL [0,1,5] ?_
  exact hnext _ _ _ oQ ⟨i+1,rfl,by omega,rfl,rfl⟩
 obtain rfl:i=l.length:=by simp at hc0; omega
 refine au [16,4,5,2,3] ?_
 refine TK.rt hret [(j,_)] ?_
 exact ⟨rfl,rfl⟩
theorem jS {main T} (hT:zo tp main T) {gm} {j j2:Nat} {xs ys:List Int} {e1 e2:TypeId} (hl:xs.length<=1000) (hl2:ys.length<=1000) :
  zA tp T gm 75 [.sl j 0 xs.length,.sl j2 0 ys.length] [(j,.cells (xs.map intA) e1 false),(j2,.cells (ys.map intA) e2 false)] (fun r K'=>r=zP (decide (lexM xs ys<0))/\K'=[(j,.cells (xs.map intA) e1 false),(j2,.cells (ys.map intA) e2 false)]):=by
 refine zp 41 hT Tryz.func75 fun Y hret=>?_
 refine au [4,5,2,3,4,4,5,2,3,13] ?_
 refine TK.maskL [0,1,5] ?_
 refine TK.loopN (fun n env K=>∃ (i:Nat),n=xs.length - i/\i<=xs.length/\i<=ys.length/\lexM (xs.drop i) (ys.drop i)=lexM xs ys/\env=.sl j 0 xs.length::.sl j2 0 ys.length::naL 3 (intA i::naL 35 [])/\K=[(j,.cells (xs.map intA) e1 false),(j2,.cells (ys.map intA) e2 false)]) xs.length ⟨0,rfl,mN _,mN _,rfl,rfl,rfl⟩ fun n env K hI hnext=>?_
 obtain ⟨i,rfl,hi,hi2,hinv,rfl,rfl⟩:=hI
 refine TK.na nQ ?_
 refine au [4,4,5,1,1,28,6,1] ?_
 refine TK.sp 10 (fun g2_5=>?_) (fun g2_5=>?_)
 ·have hil:i<xs.length:=by have:=of_decide_eq_true g2_5; omega
  refine au [1,1,28,6,26,3,20] ?_
  refine ⟨fun hc0=>?_,fun hc0=>?_⟩
  ·have hjl:i<ys.length:=by have:=of_decide_eq_true hc0; omega
   refine au [12,4,13,4] ?_
   refine TK.draw [0,1,2,3,4,5,6,7,8] [0,1,2,3,4,5,6,7,8] (by kernel_rfl) (by kernel_rfl) ?_
   refine TD.z [0] Z (zh Z Z) ?_
   refine TD.z [5] Z (zh Z Z) ?_
   refine TD.z [18,19] Z (zQ Z Z Z zF.h oQ oQ) ?_
   refine TD.y [20] Z (hq:=zm Z Z zi.h (mC _) (yh (i:=i) (z5 hil) Z)) (h:=?_)
   refine TD.z [1] Z (zh Z Z) ?_
   refine TD.z [5] Z (zh Z Z) ?_
   refine TD.z [22,23] Z (zQ Z Z Z zF.h oQ oQ) ?_
   refine TD.y [24] Z (hq:=zm Z Z zi.h (mC _) (yh (i:=i) (z5 hjl) Z)) (h:=?_)
   refine TD.z [21,25] Z (q_cmp Z Z Z Z) ?_
   refine TD.fin ?_
   refine au [20] ?_
   refine ⟨fun hc1=>?_,fun hc1=>?_⟩
   ·refine au [4] ?_
    refine TK.draw [0,1,2,3,4,5,6,7,8,9] [0,1,2,3,4,5,6,7,8,9] (by kernel_rfl) (by kernel_rfl) ?_
    refine TD.z [0] Z (zh Z Z) ?_
    refine TD.z [5] Z (zh Z Z) ?_
    refine TD.z [27,28] Z (zQ Z Z Z zF.h oQ oQ) ?_
    refine TD.y [29] Z (hq:=zm Z Z zi.h (mC _) (yh (i:=i) (z5 hil) Z)) (h:=?_)
    refine TD.z [1] Z (zh Z Z) ?_
    refine TD.z [5] Z (zh Z Z) ?_
    refine TD.z [31,32] Z (zQ Z Z Z zF.h oQ oQ) ?_
    refine TD.y [33] Z (hq:=zm Z Z zi.h (mC _) (yh (i:=i) (z5 hjl) Z)) (h:=?_)
    refine TD.z [30,34] Z (q_cmp Z Z Z Z) ?_
    refine TD.as (pend':=[]) [35] Z Z (zD Z Z) ?_
    refine TD.fin ?_
    refine au [] ?_
    refine TK.rt hret [(j,_),(j2,_)] ?_
    exact ⟨by rw [<- hinv,zH (z5 hil),zH (z5 hjl),xn (by simpa using hc1)] <;> rfl,rfl⟩
   refine au [12,14,5,1,23,2,3] ?_
   refine TK.maskL [0,1,5] ?_
   exact hnext _ _ _ oQ ⟨i+1,rfl,by omega,by omega,by rw [<- hinv,zH (z5 hil),zH (z5 hjl)]; simp only [lexM]; simp at hc1; rw [if_neg oQ,if_neg oQ],rfl,rfl⟩
  have hjl:=of_decide_eq_false hc0
  refine au [16,4,5,1,28,1,28,6,2,3] ?_
  refine TK.rt hret [(j,_),(j2,_)] ?_
  exact ⟨by rw [<- hinv,jW hi hi2 (.inr oQ)] <;> rfl,rfl⟩
 have hil:=of_decide_eq_false g2_5
 refine au [11,11,11,11,25,3,19,16,4,5,1,28,1,28,6,2,3] ?_
 refine TK.rt hret [(j,_),(j2,_)] ?_
 exact ⟨by rw [<- hinv,jW hi hi2 (.inl oQ)] <;> rfl,rfl⟩
theorem jT {main T} (hT:zo tp main T) {gm} {j j2:Nat} {xs ys:List Int} {e1 e2:TypeId} (hl:xs.length<=1000) (hl2:ys.length<=1000) :
  zA tp T gm 65 [.sl j 0 xs.length,.sl j2 0 ys.length] [(j,.cells (xs.map intA) e1 false),(j2,.cells (ys.map intA) e2 false)] (fun r K'=>r=zP (smallerM xs ys)/\K'=[(j,.cells (xs.map intA) e1 false),(j2,.cells (ys.map intA) e2 false)]):=by
 refine zp 22 hT Tryz.func65 fun Y hret=>?_
 refine au [4,5,2,3,4,5,1,28,1,28,6,1] ?_
 refine TK.sp 10 (fun g1_6=>?_) (fun g1_6=>?_)
 ·refine au [11,11,11,11,11,11,11,11,11,11,26,2,3] ?_
  refine TK.rt hret [(j,_),(j2,_)] ?_
  exact ⟨by simp at g1_6; simp [smallerM,g1_6],rfl⟩
 refine au [1,28,1,28,6,1] ?_
 refine TK.sp 16 (fun g1_12=>?_) (fun g1_12=>?_)
 ·refine au [1,1] ?_
  refine TK.cl Z Z Z Z (jS hT hl hl2) ?_
  rintro r1 K2 ⟨rfl,rfl⟩
  refine au [26,25,2,3] ?_
  refine TK.rt hret [(j,_),(j2,_)] ?_
  exact ⟨by simp at g1_6 g1_12; unfold smallerM; rw [decide_eq_false (show ¬ xs.length<ys.length by omega),decide_eq_true (show xs.length=ys.length by omega)]; rfl,rfl⟩
 refine au [11,11,11,25,25,2,3] ?_
 refine TK.rt hret [(j,_),(j2,_)] ?_
 exact ⟨by simp at g1_6 g1_12; unfold smallerM; rw [decide_eq_false (show ¬ xs.length<ys.length by omega),decide_eq_false (show ¬ xs.length=ys.length by omega)]; rfl,rfl⟩
end Go.Vel
namespace Go.Vel
open Go Go.Conc
theorem jG:∀ (m:Nat) (l:List Int),l.Pairwise (· < ·)->(∀ x∈l,0<=x/\x<m)->∃ d,d<2 ^ m/\l=zw d m
 | 0,l,_,h=>⟨0,by decide,by
  cases l with
  | nil=>rfl
  | cons x r=>have:=h x sQ; omega⟩
 | m+1,l,hp,h=>by
  by_cases hm:(m:Int)∈l
  ·obtain ⟨l1,l2,rfl⟩:=List.append_of_mem hm
   obtain ⟨p1,p2,p3⟩:=List.pairwise_append.1 hp
   have e2:l2=[]:=by
    cases l2 with
    | nil=>rfl
    | cons y r =>
     have h1:=(List.pairwise_cons.1 p2).1 y sQ
     have h2:=h y sQ
     omega
   subst e2
   obtain ⟨d,hd,rfl⟩:=jG m l1 p1 (fun x hx=>⟨(h x (by simp [hx])).1,p3 x hx m sQ⟩)
   refine ⟨d+2 ^ m,by rw [Nat.pow_succ]; omega,?_⟩
   show _=zw (d+2 ^ m) m++_
   rw [<- jB (d+2 ^ m) m m (mL _),Nat.add_mod_right,Nat.mod_eq_of_lt hd,Nat.add_div_right _ (Nat.two_pow_pos _),Nat.div_eq_of_lt hd]
   rfl
  ·obtain ⟨d,hd,rfl⟩:=jG m l hp (fun x hx=>⟨(h x hx).1,by
    have h1:=h x hx
    have h2:x≠m:=fun e=>hm (e ▸ hx)
    omega⟩)
   refine ⟨d,by rw [Nat.pow_succ]; omega,?_⟩
   show _=zw d m++_
   rw [Nat.div_eq_of_lt hd]
   simp
theorem jI (b:RBk):∀ k,(clashL b k=none->∀ d,d<k->badM b d=false)/\(∀ l,clashL b k=some l->∃ c,c<k/\badM b c=true/\l=zw c b.measures.length/\∀ d,d<k->badM b d=true->zw d b.measures.length=l\/smallerM l (zw d b.measures.length)=true)
 | 0=>⟨fun _ d h=>by omega,fun l h=>by cases h⟩
 | k+1=>by
  obtain ⟨i1,i2⟩:=jI b k
  unfold clashL
  by_cases hb:badM b k=true
  ·rw [if_pos hb]
   cases hc:clashL b k with
   | none =>
    refine ⟨fun h=>(by cases h),fun l h=>?_⟩
    cases h
    refine ⟨k,by omega,hb,rfl,fun d hd hbd=>?_⟩
    by_cases e:d=k
    ·left; rw [e]
    ·have:=i1 hc d oQ
     rw [hbd] at this
     cases this
   | some l0 =>
    obtain ⟨c,q1,q2,q3,q4⟩:=i2 l0 hc
    dsimp only
    by_cases hs:smallerM (zw k b.measures.length) l0=true
    ·rw [if_pos hs]
     refine ⟨fun h=>(by cases h),fun l h=>?_⟩
     cases h
     refine ⟨k,by omega,hb,rfl,fun d hd hbd=>?_⟩
     by_cases e:d=k
     ·left; rw [e]
     ·rcases q4 d oQ hbd with h | h
      ·right; rw [h]; exact hs
      ·right; exact uu hs h
    ·rw [if_neg hs]
     refine ⟨fun h=>(by cases h),fun l h=>?_⟩
     cases h
     refine ⟨c,by omega,q2,q3,fun d hd hbd=>?_⟩
     by_cases e:d=k
     ·rw [e]
      rcases zar (zw k b.measures.length) l0 with h | h | h
      ·exact .inl h
      ·exact absurd h hs
      ·exact .inr h
     ·exact q4 d oQ hbd
  ·rw [if_neg hb]
   refine ⟨fun h d hd=>?_,fun l h=>?_⟩
   ·by_cases e:d=k
    ·rw [e]; simpa using hb
    ·exact i1 h d oQ
   ·obtain ⟨c,q1,q2,q3,q4⟩:=i2 l h
    refine ⟨c,by omega,q2,q3,fun d hd hbd=>?_⟩
    by_cases e:d=k
    ·rw [e] at hbd; exact absurd hbd hb
    ·exact q4 d oQ hbd
theorem jO (xs:List RMeas):∀ i,i<=xs.length->onlyL xs (2 ^ xs.length - 1) i=xs.take i
 | 0,_=>by rw [List.take_zero]; rfl
 | i+1,h=>by
  unfold onlyL
  rw [jO xs i oQ]
  have h1:=Nat.testBit_two_pow_sub_one xs.length i
  rw [Nat.testBit_eq_decide_div_mod_eq,decide_eq_true (show i<xs.length by omega)] at h1
  rw [if_pos (of_decide_eq_true h1),lA oQ,yP (x:=xs[i]) (lA oQ)]
  rfl
theorem xf (b:RBk):badM b (2 ^ b.measures.length - 1)=(zf b).isEmpty:=by
 unfold badM onlyB
 rw [jO _ _ (mL _),lW]
theorem jV {b:RBk} (hr:∀ s,rightM b s=true):∀ (r:List RBand) (p:List Int),(∀ x∈r,x.low<=x.high)->fromM b p r≠[]
 | [],p,_=>by unfold fromM; rw [if_pos (hr p)]; simp
 | x::r,p,h=>by
  unfold fromM
  intro he
  rw [List.flatMap_eq_nil_iff] at he
  have hx:=h x sQ
  exact jV hr r (p++[x.low]) (fun y hy=>h y (by simp [hy])) (he x.low ((zgb hx).2 ⟨Int.le_refl _,hx⟩))
theorem xl {b:RBk} (hb:ROk b) {c:Nat} (h:zw c b.measures.length=[]):badM b c=false:=by
 have hl:=uL b.measures c _ (mL _)
 rw [h] at hl
 have hm:(onlyB b c).measures=[]:=lK hl
 have hne:zf (onlyB b c)≠[]:=jV (fun s=>by unfold rightM; rw [hm]; rfl) _ _ (fun x hx=>by
  obtain ⟨i,hi,rfl⟩:=List.getElem_of_mem hx
  have hi':i<b.shrinks.length:=hi
  have:=hb.cls.bnd i (by have:=hb.cls.len; omega)
  have e:=ko hi'
  rw [lA hi'] at e
  have e:b.shrinks[i]=bd b i:=Option.some.inj e
  show b.shrinks[i].low<=b.shrinks[i].high
  rw [e]
  omega)
 unfold badM
 simpa using hne
theorem jM {b:RBk} (hb:ROk b) (h0:zf b=[]):∃ l c,clashM b=some l/\c<2 ^ b.measures.length/\l=zw c b.measures.length/\badM b c=true/\l≠[]/\(∀ i,i<l.length->∃ d,l.eraseIdx i=zw d b.measures.length/\badM b d=false)/\∀ x,badM b (x % 2 ^ b.measures.length)=true->smallerM (zw x b.measures.length) l=false:=by
 obtain ⟨i1,i2⟩:=jI b (2 ^ b.measures.length)
 have hp:=Nat.two_pow_pos b.measures.length
 cases hc:clashM b with
 | none =>
  have:=i1 hc (2 ^ b.measures.length - 1) oQ
  rw [xf,h0] at this
  cases this
 | some l =>
  obtain ⟨c,q1,q2,q3,q4⟩:=i2 l hc
  refine ⟨l,c,rfl,q1,q3,q2,fun he=>?_,fun i hi=>?_,fun x hx=>?_⟩
  ·rw [xl hb (q3.symm.trans he)] at q2; cases q2
  ·have hsub:(l.eraseIdx i).Sublist l:=List.eraseIdx_sublist l i
   obtain ⟨d,hd,hd2⟩:=jG b.measures.length (l.eraseIdx i) (List.Pairwise.sublist hsub (by rw [q3]; exact zca _)) (fun x hx=>by
    have:=hsub.subset hx
    rw [q3] at this
    exact zau _ _ this)
   refine ⟨d,hd2,?_⟩
   cases hbd:badM b d with
   | false=>rfl
   | true =>
    have hlen:(l.eraseIdx i).length<l.length:=by rw [List.length_eraseIdx_of_lt hi]; omega
    rcases q4 d hd hbd with h | h
    ·rw [<- hd2] at h; rw [h] at hlen; omega
    ·rw [<- hd2,kJ] at h; omega
  ·rw [<- jB x _ _ (mL _)]
   rcases q4 _ (Nat.mod_lt x hp) hx with h | h
   ·rw [h]; exact jU l
   ·exact ziE h
end Go.Vel
namespace Go.Vel
open Go Go.Conc Go.Proofs
def msX (b:RBk) (n:Int):RMeas:=b.measures.getD n.toNat ⟨0,0,0⟩
def onlyT (b:RBk) (l:List Int) (i:Nat):List RMeas:=(l.take i).map (msX b)
def onlyX (b:RBk) (l:List Int):RBk:={ b with measures:=onlyT b l l.length }
theorem xa {b:RBk} {l:List Int} {i:Nat} (h:i<l.length):onlyT b l (i+1)=onlyT b l i++[msX b (zN l i)]:=by
 unfold onlyT
 rw [yP (z5 h),lM]
 rfl
theorem jY {b:RBk} {n:Int} (h:0<=n/\n<b.measures.length):b.measures[n.toNat]? =some (msX b n):=by
 unfold msX
 rw [List.getD_eq_getElem?_getD,lA oQ]
 rfl
theorem ji (b:RBk) (c:Nat):onlyX b (zw c b.measures.length)=onlyB b c:=by
 have key:∀ i,i<=b.measures.length->(zw c i).map (msX b)=onlyL b.measures c i:=by
  intro i
  induction i with
  | zero=>intro _; rfl
  | succ i ih =>
   intro hi
   unfold zw onlyL
   rw [lM,ih oQ]
   congr 1
   split
   ·have h1:=jY (b:=b) (n:=(i:Int)) oQ
    rw [mZ] at h1
    rw [h1]
    rfl
   ·rfl
 unfold onlyX onlyB onlyT
 rw [lW,key _ (mL _)]
theorem jP (xs:List Int):(xs.map intA).all oneA=true:=by
 rw [List.all_map]; exact List.all_eq_true.2 fun _ _=>rfl
theorem jR {l:List Int} {e:TypeId} {rw':Bool} {a m:Nat} (h:a+m<=l.length) (hp:0<m):takeO (.cells (l.map intA) e rw') a (m*1)=some (((l.drop a).take m).map intA):=by
 simp only [takeO,AObj.look,Nat.mul_one]
 rw [if_pos ⟨by omega,by rw [lJ]; omega⟩,List.map_take,List.map_drop]
theorem jC {b:RBk} {l:List Int}:(onlyX b l).measures.length=l.length:=by
 show (onlyT b l l.length).length=_
 unfold onlyT
 rw [lJ,lW]
theorem xj {b:RBk} {d:Nat} (h:badM b d=false):0<(zf (onlyX b (zw d b.measures.length))).length:=by
 rw [ji]
 unfold badM at h
 exact List.length_pos_iff.2 (by simpa using h)
theorem xk {b:RBk} {d:Nat} (h:badM b d=true):zf (onlyX b (zw d b.measures.length))=[]:=by
 rw [ji]
 unfold badM at h
 simpa using h
theorem jA {b:RBk} (hb:ROk b) (d:Nat):zr (onlyX b (zw d b.measures.length))=0:=by
 rw [ji]
 exact xg (zgk hb d)
theorem jK (b:RBk) (d:Nat):∀ x∈zw d b.measures.length,0<=x/\x<(b.measures.length:Int):=fun x hx=>zau _ x hx
instance:Cal tp 63:={}
instance:Cal tp 64:={}
instance:Cal tp 65:={}
theorem jH {main T} (hT:zo tp main T) {gm} {b:RBk} {s h e j:Nat} {et:TypeId} {l:List Int} (hb:∀ x∈l,0<=x/\x<b.measures.length) (hm:b.measures.length<=100) (hl:l.length<=100) :
  zA tp T gm 63 [.agg (zE b s h e),.sl j 0 l.length] [(e,zq b),(j,.cells (l.map intA) et false)] (fun r K'=>∃ je,r=.agg (zE (onlyX b l) s h je)/\K'=(je,zq (onlyX b l))::[(e,zq b),(j,.cells (l.map intA) et false)]):=by
 refine zp 29 hT Tryz.func63 fun Y hret=>?_
 refine au [4,5,21] ?_
 intro jb hjb
 refine au [22] ?_
 intro jr hjr
 refine au [3,4,5,8,22] ?_
 intro jo hjo
 refine au [17,3,4,5,7,17] ?_
 refine TK.normK (K':=[(jo,.cells [intA b.steps,intA b.round,intA b.roll,intA b.rolls,.sl s 0 b.seams.length,.sl h 0 b.shrinks.length,.v (.slice none 0 0)] 26 true),_,_,_,_]) (by simp only [setL,zE,List.drop_zero,List.take,List.set]; rfl) ?_
 refine TK.virtAt (j:=jo) (i:=6) (e:=49) (size:=3) (l:=[intA b.steps,intA b.round,intA b.roll,intA b.rolls,.sl s 0 b.seams.length,.sl h 0 b.shrinks.length,.v (.slice none 0 0)]) Z (fun _=>uQ) fun je0 hje0=>?_
 refine au [3,4,4,5,2,3,13] ?_
 refine TK.maskL [1,2,4,5,6] ?_
 refine TK.kp [(e,_),(j,_),(je0,_),(jo,_),(jr,_),(jb,_)] ?_
 refine TK.loopN (fun n env K=>∃ (i je:Nat),n=l.length - i/\i<=l.length/\env=.any::.sl j 0 l.length::.ptr jb 0::.any::.ptr jr 0::.ptr jo 0::intA i::naL 22 []/\K=[(e,zq b),(j,.cells (l.map intA) et false),(je,.row ((onlyT b l i).flatMap measC) 49 3),(jo,.cells [intA b.steps,intA b.round,intA b.roll,intA b.rolls,.sl s 0 b.seams.length,.sl h 0 b.shrinks.length,.row je (onlyT b l i).length] 26 true),(jr,.cells z7R 26 true),(jb,.cells (zE b s h e) 26 true)]) l.length ⟨0,je0,rfl,mN _,rfl,rfl⟩ fun n env K hI hnext=>?_
 obtain ⟨i,je,rfl,hi,rfl,rfl⟩:=hI
 have hfl:=yy measC 3 (fun _=>rfl) (onlyT b l i)
 have hol:(onlyT b l i).length=i:=by unfold onlyT; rw [lJ,List.length_take,Nat.min_eq_left hi]
 refine TK.na nQ ?_
 refine au [4,4,5,1,1,28,6,3,20] ?_
 refine ⟨fun hc0=>?_,fun hc0=>?_⟩
 ·have hil:i<l.length:=by simp at hc0; omega
  have hq:=hb _ (zgU hil)
  have hx:=jY hq
  refine au [12,4,13] ?_
  refine TK.draw [0,1,2,3,4,5,6,7,8,9,10,11,12,13] [0,1,2,3,4,5,6,7,8,9,10,11,12,13] (by kernel_rfl) (by kernel_rfl) ?_
  refine TD.z [5] Z (zg Z Z zl.h dQ) ?_
  refine TD.y [15] Z (hq:=zm Z Z zi.h (mC _) Z) (h:=?_)
  refine TD.z [2] Z (zg Z Z zl.h dQ) ?_
  refine TD.y [17] Z (hq:=zm Z Z zi.h (mC _) Z) (h:=?_)
  refine TD.z [1] Z (zh Z Z) ?_
  refine TD.z [6] Z (zh Z Z) ?_
  refine TD.z [19,20] Z (zQ Z Z Z zF.h oQ oQ) ?_
  refine TD.y [21] Z (hq:=zm Z Z zi.h (mC _) (yh (i:=i) (z5 hil) Z)) (h:=?_)
  refine TD.z [18,22] Z (zQ Z Z Z zF.h oQ oQ) ?_
  refine TD.y [23] Z (hq:=z8 Z Z zi.h (mC _) (zcE (i:=(zN l i).toNat) hx oQ)) (h:=?_)
  refine TD.cnewR (pend':=[⟨8,[18,22],[]⟩,⟨7,[21],[(_,_)]⟩,⟨6,[19,20],[]⟩,⟨5,[6],[]⟩,⟨4,[1],[]⟩,⟨3,[17],[(_,_)]⟩,⟨2,[2],[]⟩,⟨1,[15],[(_,_)]⟩,⟨0,[5],[]⟩]) [24] Z Z Z Z Z (zt (l:=[_,_,_]) Z zF.h TyZ.h dQ dQ Z) (fun _=>zu rfl tQ) sQ fun j1 hj1=>?_
  refine TD.capp (pend':=[⟨8,[18,22],[]⟩,⟨7,[21],[(_,_)]⟩,⟨6,[19,20],[]⟩,⟨5,[6],[]⟩,⟨4,[1],[]⟩,⟨3,[17],[(_,_)]⟩,⟨2,[2],[]⟩,⟨0,[5],[]⟩]) [16,25] Z Z Z Z Z (a_app Z ApOf.h Z mQ oQ Z (yu (ln:=[_,_,_]) mQ dQ sQ Z) oQ Z (by unfold maxLen; omega) oQ) (fun _=>uQ) (fun _=>zu rfl tQ) (fun _=>sQ) fun je2=>?_
  refine TD.z [5] Z (zg Z Z zl.h dQ) ?_
  refine TD.s (pend':=[]) [26,27] Z Z (zX Z Z zi.h Z Z mQ Z) ?_
  refine TD.fin ?_
  refine au [14,5,1,23,2,3] ?_
  refine TK.maskL [1,2,4,5,6] ?_
  refine TK.kp [(e,_),(j,_),(je2,_),(jo,_),(jr,_),(jb,_)] ?_
  exact hnext _ _ _ oQ ⟨i+1,je2,rfl,by omega,rfl,by rw [xa hil,yS,lF]; rfl⟩
 obtain rfl:i=l.length:=by simp at hc0; omega
 refine au [16,4] ?_
 refine TK.unrowAt (c:=jo) (i:=6) (j:=je) Z mQ uQ ?_
 refine TK.frzRow (j:=je) ?_
 refine au [5,8,17,3] ?_
 refine TK.rt hret [(je,_),(e,_),(j,_)] ?_
 exact ⟨je,rfl,rfl⟩
theorem xe {main T} (hT:zo tp main T) {gm} {j i:Nat} {et:TypeId} {l:List Int} (hi:i<l.length) (hll:l.length<=1000) :
  zA tp T gm 64 [.sl j 0 l.length,intA i] [(j,.cells (l.map intA) et false)] (fun r K'=>∃ j2,r=.sl j2 0 (l.eraseIdx i).length/\K'=[(j2,.cells ((l.eraseIdx i).map intA) 3 false),(j,.cells (l.map intA) et false)]):=by
 refine zp 15 hT Tryz.func64 fun Y hret=>?_
 refine au [4,5,2,3,4] ?_
 refine TK.draw [1,2,3,5,6,7,8,0,4,9,10] [0,1,2,3,4,5,6,7,8,9,10] (by kernel_rfl) (by kernel_rfl) ?_
 refine TD.z [0] Z (zh Z Z) ?_
 refine TD.z [1] Z (zh Z Z) ?_
 refine TD.z [6,7] Z (ziV Z Z zF.h Z Z oQ oQ Z) ?_
 refine TD.z [0] Z (zh Z Z) ?_
 refine TD.z [1] Z (zh Z Z) ?_
 refine TD.z [11] Z (q_add Z Z Z oQ) ?_
 refine TD.z [10,12] Z (ziV Z Z zF.h Z Z oQ oQ Z) ?_
 refine TD.cnewR (pend':=[⟨8,[10,12],[]⟩,⟨7,[11],[]⟩,⟨6,[1],[]⟩,⟨5,[0],[]⟩,⟨3,[6,7],[]⟩,⟨2,[1],[]⟩,⟨1,[0],[]⟩]) [] Z Z Z Z Z (zt (l:=[]) Z zF.h TyZ.h dQ dQ Z) (fun _=>zu rfl tQ) sQ fun jn hjn=>?_
 refine TD.cappG (ln:=(l.take i).map intA) (pend':=[⟨8,[10,12],[]⟩,⟨7,[11],[]⟩,⟨6,[1],[]⟩,⟨5,[0],[]⟩,⟨2,[1],[]⟩,⟨1,[0],[]⟩]) [5,8] Z Z Z Z Z Z ApOf.h Z mQ Z Z Z (fun hp=>vu mQ oQ ((jR (l:=l) (a:=0) (m:=i) oQ oQ))) (fun h=>by rw [show i=0 from h]; rfl) (jP _) (by unfold maxLen; omega) oQ (fun _=>uQ) (fun _=>zu rfl tQ) (fun _=>by simp) fun jm=>?_
 try simp only [lC,mO]
 refine TD.cappG (ln:=(l.drop (i+1)).map intA) (pend':=[⟨7,[11],[]⟩,⟨6,[1],[]⟩,⟨5,[0],[]⟩,⟨2,[1],[]⟩,⟨1,[0],[]⟩]) [9,13] Z Z Z Z Z Z ApOf.h Z mQ (by rw [lJ,List.length_take,Nat.min_eq_left oQ]; simp) Z Z (fun hp=>vu mQ oQ ((by have h:=jR (l:=l) (e:=et) (rw':=false) (a:=i+1) (m:=l.length - (i+1)) oQ oQ; rw [List.take_of_length_le (by rw [List.length_drop]; omega)] at h; refine Eq.trans ?_ h; congr 1; omega))) (fun h=>by rw [List.drop_eq_nil_of_le oQ]; rfl) (jP _) (by unfold maxLen; omega) oQ (fun _=>uQ) (fun _=>zu rfl tQ) (fun _=>by simp) fun jr=>?_
 try simp only [lC,mO]
 refine TD.as (pend':=[]) [14] Z Z (zD Z Z) ?_
 refine TD.fin ?_
 refine TK.norm (env':=[_,_,_,_,.row jr _,_,_,_,_,_,_,_,_,_,_]) Z ?_
 refine TK.asSl 4 Z mQ ?_
 refine TK.frzRow (j:=jr) ?_
 refine au [] ?_
 refine TK.rt hret [(jr,_),(j,_)] ?_
 exact ⟨jr,by rw [List.eraseIdx_eq_take_drop_succ,lF,List.length_take,List.length_drop,Nat.min_eq_left oQ] <;> rfl,by rw [List.eraseIdx_eq_take_drop_succ,lM] <;> rfl⟩
theorem jZ {main T} (hT:zo tp main T) {gm} {n:Int} :
  zA tp T gm 62 [.v (.slice none 0 0),intA n] [] (fun r K'=>r=intA 0/\K'=[]):=by
 refine zp 34 hT Tryz.func62 fun Y hret=>?_
 refine au [4,5,2,3,4,4,5,2,3,13] ?_
 refine TK.maskL [0,5] ?_
 refine TK.loopN (fun n0 env K=>n0=0/\env=[.v (.slice none 0 0),.any,.any,.any,.any,intA 0,.any,.any,.any,.any,.any,.any,.any,.any,.any,.any,.any,.any,.any,.any,.any,.any,.any,.any,.any,.any,.any,.any,.any,.any,.any,.any,.any,.any]/\K=[]) 0 ⟨rfl,rfl,rfl⟩ fun n0 env K hI hnext=>?_
 obtain ⟨rfl,rfl,rfl⟩:=hI
 refine au [4,4,5,1,1,28,6,3,20] ?_
 refine ⟨fun hc0=>?_,fun hc0=>?_⟩
 ·exact absurd hc0 dQ
 refine au [16,4,5,2,3] ?_
 refine TK.rt hret [] ?_
 exact ⟨rfl,rfl⟩
theorem jL {b:RBk} {s h e:Nat} {k:Int} (hk:0<=k/\k<256):Top tp gmR 8 [.agg (zE b s h e),.v (.int .u8 k)] [(0,zy),(s,zk b),(h,zB b),(e,zq b)] (fun r _=>r=zP true):=by
 refine topI 129 Tryz.func8 fun R Y hret=>?_
 have hT:=kH (P:=tp) (AtRet tp 8 R)
 refine au [4,5,21] ?_
 intro jb hjb
 refine au [2,3,4,4,5,8] ?_
 refine TK.cl Z Z Z Z (zja hT) ?_
 rintro r1 K2 ⟨rfl,rfl⟩
 refine au [30,3,20] ?_
 refine ⟨fun hc0=>?_,fun hc0=>?_⟩
 ·refine au [4,5] ?_
  refine TK.cl Z Z Z Z (zi5) ?_
  rintro r4 K5 ⟨rfl,rfl⟩
  refine au [2,3] ?_
  refine TK.rt hret [] ?_
  rfl
 have hgr:greatM b=false/\zr b=0:=by cases hq:greatM b <;> simp [hq] at hc0; exact ⟨rfl,hc0⟩
 obtain ⟨hgr,hck⟩:=hgr
 have hbb:=zZ hck
 have hl:b.seams.length<=100:=by have:=hbb.sms.len; omega
 have hm:b.measures.length<=100:=by have:=hbb.mes.len; omega
 have hl2:b.shrinks.length<=100:=by have:=hbb.cls.len; omega
 have hst:=hbb.rnd.steps
 obtain ⟨kn,rfl⟩:=Int.eq_ofNat_of_zero_le hk.1
 have hsl:=hbb.sms.len
 have hml:=hbb.mes.len
 refine au [12,4,5,8] ?_
 refine TK.cl Z Z Z Z (zfJ hT hl hm) ?_
 rintro r7 K8 h9
 rcases h9 with ⟨hbar,rfl,rfl⟩ | ⟨hbar,hne,rfl,rfl⟩ | ⟨hbar,hnil,hno,rfl,rfl⟩ | ⟨hbar,hnil,l,jl,el,hcl,rfl,rfl⟩
 ·refine au [] ?_
  exact absurd hck hbar
 ·refine au [] ?_
  have hpos:0<(zf b).length:=List.length_pos_iff.2 hne
  refine au [1,10,10,2,2,3,4,5,8] ?_
  refine TK.cl Z Z Z Z (uS hT hl hm) ?_
  rintro r10 K11 ⟨rfl,rfl⟩
  refine au [] ?_
  rw [hck,if_pos rfl]
  refine au [1,10,10,2,2,3,4,4,5,1,6,1,1,6,25,1,1,7,9,28] ?_
  refine TK.cl Z Z Z Z (jZ hT) ?_
  rintro r13 K14 ⟨rfl,rfl⟩
  refine au [6,25,1,1,6,1,28,6,34,25,3,20] ?_
  refine ⟨fun hc1=>?_,fun hc1=>?_⟩
  ·first | (simp at hc1; omega) | (simp at hc1; exact (hne hc1).elim)
  refine au [12,4,4,5,1,6,3,20] ?_
  refine ⟨fun hc2=>?_,fun hc2=>?_⟩
  ·
   refine au [4,5] ?_
   refine TK.cl Z Z Z Z (zi5) ?_
   rintro r16 K17 ⟨rfl,rfl⟩
   refine au [2,3] ?_
   refine TK.rt hret [] ?_
   rfl
  simp at hc2; exact (hne hc2).elim
 ·refine au [] ?_
  obtain ⟨l,c,h1,_⟩:=jM hbb hnil; rw [hno] at h1; cases h1
 ·refine au [] ?_
  obtain ⟨l2,c,h1,hc2p,hlc,hbadc,hlne,hera,hsma⟩:=jM hbb hnil
  obtain rfl:l2=l:=by rw [hcl] at h1; exact (Option.some.inj h1).symm
  have hll:l2.length<=3:=by rw [hlc]; have:=wC c b.measures.length; omega
  have hlb:∀ x∈l2,0<=x/\x<(b.measures.length:Int):=by rw [hlc]; exact jK b c
  have hlp:l2.Pairwise (· < ·):=by rw [hlc]; exact zca _
  have hl0:0<l2.length:=List.length_pos_iff.2 hlne
  refine au [1,10,10,2,2,3,4,5,8] ?_
  refine TK.cl Z Z Z Z (uS hT hl hm) ?_
  rintro r19 K20 ⟨rfl,rfl⟩
  refine au [] ?_
  rw [hck,if_pos rfl,hnil]
  refine au [1,10,10,2,2,3,4,4,5,1,6,1,1,6,25,1,1,7,9,28] ?_
  refine TK.cl Z Z Z Z (xd hT hlb hlp oQ oQ) ?_
  rintro r22 K23 ⟨rfl,rfl⟩
  refine au [6,25,1,1,6,1,28,6,34,25,3,20] ?_
  refine ⟨fun hc1=>?_,fun hc1=>?_⟩
  ·first | (simp at hc1; omega) | (simp at hc1; exact (hlne hc1).elim)
  refine au [12,4,4,5,1,6,3,20] ?_
  refine ⟨fun hc2=>?_,fun hc2=>?_⟩
  ·exact absurd hc2 dQ
  refine au [12,4,4,5,8,1] ?_
  refine TK.cl Z Z Z Z (jH hT hlb oQ oQ) ?_
  rintro r25 K26 ⟨je,rfl,rfl⟩
  refine au [] ?_
  refine TK.cl Z Z Z Z (uS hT (b:=onlyX b l2) (s:=s) (h:=h) (e:=je) (show b.seams.length<=100 by omega) (by rw [jC]; omega)) ?_
  rintro r28 K29 ⟨rfl,rfl⟩
  refine au [] ?_
  rw [show zr (onlyX b l2)=0 by rw [hlc]; exact jA hbb c,if_pos rfl,show zf (onlyX b l2)=[] by rw [hlc]; exact xk hbadc]
  refine au [1,10,10,2,2,3,4,5,1,6,1,1,6,25,3,20] ?_
  refine ⟨fun hc3=>?_,fun hc3=>?_⟩
  ·exact absurd hc3 dQ
  refine au [12,4,4,5,2,3,13] ?_
  refine TK.maskL [1,2,5,11] ?_
  refine TK.kp [(0,_),(s,_),(h,_),(e,_),(jb,_),(jl,_)] ?_
  refine TK.loopN (fun n env K=>∃ (i:Nat),n=l2.length - i/\i<=l2.length/\env=.any::.v (.int .u8 (kn:Int))::.ptr jb 0::naL 2 (.sl jl 0 l2.length::naL 5 (intA i::naL 117 []))/\K=[(0,zy),(s,zk b),(h,zB b),(e,zq b),(jb,.cells (zE b s h e) 26 true),(jl,.cells (l2.map intA) el false)]) l2.length ⟨0,rfl,mN _,rfl,rfl⟩ fun n env K hI hnext=>?_
  obtain ⟨i,rfl,hi,rfl,rfl⟩:=hI
  refine TK.na nQ ?_
  refine au [4,4,5,1,1,28,6,3,20] ?_
  refine ⟨fun hc4=>?_,fun hc4=>?_⟩
  ·have hil:i<l2.length:=by simp at hc4; omega
   obtain ⟨d,hed,hbd⟩:=hera i hil
   have hpd:=xj hbd
   have hele:(l2.eraseIdx i).length<=3:=by rw [List.length_eraseIdx_of_lt hil]; omega
   refine au [12,4,13,4] ?_
   refine TK.draw [0,1,2,3,4,5,6,7,8,9,10] [0,1,2,3,4,5,6,7,9,8,10] (by kernel_rfl) (by kernel_rfl) ?_
   refine TD.y [2] Z (hq:=z8 Z Z zi.h (mC _) Z) (h:=?_)
   refine TD.z [5] Z (zh Z Z) ?_
   refine TD.z [11] Z (zh Z Z) ?_
   refine TD.cl (pend':=[⟨0,[2],[(_,_)]⟩]) [78,79] Z Z Z Z Z (xe hT hil oQ) (fun r31 K32 h33=>⟨?_,?_⟩)
   ·rcases h33 with ⟨jd,rfl,rfl⟩
    all_goals simp
   obtain ⟨jd,rfl,rfl⟩:=h33
   try simp only [cA]
   refine TD.norm tQ ?_
   refine TD.cl (pend':=[]) [77,80] Z Z Z Z Z (jH hT (by rw [hed]; exact jK b d) oQ oQ) (fun r34 K35 h36=>⟨?_,?_⟩)
   ·rcases h36 with ⟨je,rfl,rfl⟩
    all_goals simp
   obtain ⟨je,rfl,rfl⟩:=h36
   try simp only [cA]
   refine TD.norm tQ ?_
   refine TD.cl (pend':=[]) [81] Z Z Z Z Z (uS hT (b:=onlyX b (l2.eraseIdx i)) (s:=s) (h:=h) (e:=je) (show b.seams.length<=100 by omega) (by rw [jC]; omega)) (fun r37 K38 h39=>⟨?_,?_⟩)
   ·rcases h39 with ⟨rfl,rfl⟩
    all_goals simp
   obtain ⟨rfl,rfl⟩:=h39
   try simp only [cA]
   refine TD.norm tQ ?_
   rw [hed,jA hbb d,if_pos rfl]
   refine TD.z [82] Z (zh Z Z) ?_
   refine TD.z [76] Z (ye Z Z Z) ?_
   refine TD.z [76] Z (ye Z Z Z) ?_
   refine TD.as (pend':=[⟨8,[76],[]⟩]) [83] Z Z (zD Z Z) ?_
   refine TD.as (pend':=[]) [84] Z Z (zD Z Z) ?_
   refine TD.fin ?_
   refine au [4,5,1,6,1,1,6,25,3,20] ?_
   refine ⟨fun hc5=>?_,fun hc5=>?_⟩
   ·simp at hc5; first | omega | (rw [hc5] at hpd; exact absurd hpd dQ)
   refine au [12,14,5,1,23,2,3] ?_
   refine TK.maskL [1,2,5,11] ?_
   refine TK.kp [(0,_),(s,_),(h,_),(e,_),(jb,_),(jl,_)] ?_
   exact hnext _ _ _ oQ ⟨i+1,rfl,by omega,rfl,rfl⟩
  obtain rfl:i=l2.length:=by simp at hc4; omega
  refine au [16,4,5,2] ?_
  refine TK.virt 14 3 1 Z fun jv0 hjv0=>?_
  refine au [3,4,4,5,2,3,13] ?_
  refine TK.maskL [1,2,5,14,15] ?_
  refine TK.kp [(0,_),(s,_),(h,_),(e,_),(jb,_),(jl,_),(jv0,_)] ?_
  refine TK.loopN (fun n env K=>∃ (q jv:Nat),n=b.measures.length - q/\q<=b.measures.length/\env=.any::.v (.int .u8 (kn:Int))::.ptr jb 0::naL 2 (.sl jl 0 l2.length::naL 8 (.row jv (zw kn q).length::intA q::naL 113 []))/\K=[(0,zy),(s,zk b),(h,zB b),(e,zq b),(jb,.cells (zE b s h e) 26 true),(jl,.cells (l2.map intA) el false),(jv,.row ((zw kn q).map intA) 3 1)]) b.measures.length ⟨0,jv0,rfl,mN _,rfl,rfl⟩ fun n env K hI hnext2=>?_
  obtain ⟨q,jv,rfl,hq,rfl,rfl⟩:=hI
  have hbl:=wC kn q
  refine TK.na nQ ?_
  refine au [4,4,5,1,7,9,28,6,3,20] ?_
  refine ⟨fun hc6=>?_,fun hc6=>?_⟩
  ·have hql:q<b.measures.length:=by simp at hc6; omega
   refine au [12,4,13,4,5,1,1] ?_
   refine TK.a Z (xp Z Z Z oQ) ?_
   refine TK.a Z (xo Z Z Z (by have:=Nat.div_le_self kn (2 ^ q); omega)) ?_
   refine au [6,3,20] ?_
   refine ⟨fun hc7=>?_,fun hc7=>?_⟩
   ·have hbit:kn / 2 ^ q % 2=1:=by have h:=eq_of_beq hc7; omega
    refine au [5,1,1] ?_
    refine TK.newR Z Z Z (zt (l:=[_]) Z zF.h TyZ.h dQ dQ Z) (fun _=>zu rfl tQ) fun j40 hj40=>?_
    refine TK.appR Z Z Z (a_app Z ApOf.h Z mQ sQ Z (yu (ln:=[_]) mQ dQ sQ Z) oQ Z (by unfold maxLen; omega) oQ) (fun _=>uQ) (fun _=>zu rfl tQ) fun jw=>?_
    refine au [2,3,14,5,1,23,2,3] ?_
    refine TK.maskL [1,2,5,14,15] ?_
    refine TK.kp [(0,_),(s,_),(h,_),(e,_),(jb,_),(jl,_),(jw,_)] ?_
    exact hnext2 _ _ _ oQ ⟨q+1,jw,rfl,by omega,by rw [xc hbit,lF]; rfl,by rw [xc hbit,lM]; rfl⟩
   have hbit:¬ kn / 2 ^ q % 2=1:=fun h=>by rw [h] at hc7; simp at hc7
   refine au [12,14,5,1,23,2,3] ?_
   refine TK.maskL [1,2,5,14,15] ?_
   refine TK.kp [(0,_),(s,_),(h,_),(e,_),(jb,_),(jl,_),(jv,_)] ?_
   exact hnext2 _ _ _ oQ ⟨q+1,jv,rfl,by omega,by rw [xb hbit] <;> rfl,by rw [xb hbit] <;> rfl⟩
  obtain rfl:q=b.measures.length:=by simp at hc6; omega
  refine TK.asSl 14 Z mQ ?_
  refine TK.frzRow (j:=jv) ?_
  refine au [] ?_
  have hck2:=jA hbb kn
  refine au [16,4,5,8,1] ?_
  refine TK.cl Z Z Z Z (jH hT (jK b kn) oQ oQ) ?_
  rintro r41 K42 ⟨je,rfl,rfl⟩
  refine au [] ?_
  refine TK.cl Z Z Z Z (uS hT (b:=onlyX b (zw kn b.measures.length)) (s:=s) (h:=h) (e:=je) (show b.seams.length<=100 by omega) (by rw [jC]; omega)) ?_
  rintro r44 K45 ⟨rfl,rfl⟩
  refine au [] ?_
  rw [hck2,if_pos rfl]
  refine au [1,10,10,2,2,3,4,5,1,6,1,1,6,1] ?_
  refine TK.sp 119 (fun g25_6=>?_) (fun g25_6=>?_)
  ·refine au [11,11,11,11,26,26,1] ?_
   refine TK.cl Z Z Z Z (zi5) ?_
   rintro r47 K48 ⟨rfl,rfl⟩
   refine au [26,2,3] ?_
   refine TK.rt hret [] ?_
   rfl
  have hbk:badM b (kn % 2 ^ b.measures.length)=true:=by
   have h1:=of_decide_eq_false g25_6
   have h2:zf (onlyX b (zw kn b.measures.length))=[]:=lK oQ
   rw [ji] at h2
   unfold badM
   rw [<- ji,jB _ _ _ (mL _),ji,h2]
   rfl
  have hsk:=hsma kn hbk
  refine au [1,1] ?_
  refine TK.cl Z Z Z Z (jT hT oQ oQ) ?_
  rintro r50 K51 ⟨rfl,rfl⟩
  refine au [30,25,26,1] ?_
  refine TK.sp 126 (fun g25_13=>?_) (fun g25_13=>?_)
  ·refine TK.cl Z Z Z Z (zi5) ?_
   rintro r53 K54 ⟨rfl,rfl⟩
   refine au [26,2,3] ?_
   refine TK.rt hret [] ?_
   rfl
  first | exact absurd g25_13 dQ | simp [hsk] at g25_13
end Go.Vel
end
