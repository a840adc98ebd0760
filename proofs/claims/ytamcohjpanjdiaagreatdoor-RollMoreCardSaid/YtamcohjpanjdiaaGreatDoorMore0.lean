/- The law RollMore: with one more roll, wider rolls, or a seam at which more can be put in, no plan needs more; in a wider round none needs less, and the canvas can be hung by no other cuts. It holds of every program, tape and world that the statements name, as each theorem says. -/
import Derived.Test.YtamcohjpanjdiaaGreatDoorK5
import Derived.Test.YtamcohjpanjdiaaGreatDoorK7
import Derived.Test.YtamcohjpanjdiaaGreatDoorK8
import Derived.Test.YtamcohjpanjdiaaGreatDoorK10
section
set_option linter.all false
set_option maxRecDepth 20000
set_option maxHeartbeats 60000000
open Go.Proofs.Tryz renaming prog -> tp
open List renaming getElem?_eq_getElem -> lA, nil_append -> lC, getElem?_eq_some_iff -> lD, getD_eq_getElem?_getD -> lE, length_append -> lF, perm_append_comm -> lH, mem_cons -> lI, length_map -> lJ, eq_nil_of_length_eq_zero -> lK, map_append -> lM, mem_of_getElem? -> lN, append_nil -> lR, mem_singleton -> lS, mem_append -> lT, getElem?_eq_none -> lU, take_length -> lW, getElem?_set -> lX, mem_map -> lY, length_cons -> lZ, replicate -> mB
open List.Mem renaming head -> mC
open Nat renaming le_refl -> mL, zero_le -> mN, zero_add -> mO, lt_or_ge -> mR
open Bool renaming and_eq_true -> mX
open Int renaming toNat_natCast -> mZ
namespace Go.Vel
open Go Go.Conc Go.Proofs
instance:EqG tp 49:={}
instance:EqG tp 94:={}
instance:FlatF tp 49 [(3,0),(3,1),(3,2)]:={}
instance:FlatF tp 94 [(3,0),(3,1),(3,2),(3,3),(4,4)]:={}
instance:Und tp 4 .bool:={}
end Go.Vel
namespace Go.Vel
open Go Go.Conc
theorem xd (b:RBk) (l:List Int):∀ (o:List Int) (z z':Alloc),z.left<=z'.left->(o.foldl (allocM b l) z).left<=(o.foldl (allocM b l) z').left
 | [],z,z',h=>h
 | k::o,z,z',h=>by
  rw [List.foldl_cons,List.foldl_cons]
  refine xd b l o _ _ ?_
  show z.left - min z.left (cutS b l k.toNat).most<=z'.left - min z'.left (cutS b l k.toNat).most
  omega
theorem jL {b:RBk} {r r':Int} (h:r<=r') {l s:List Int} (hs:(hangM (atRound b r') l s).isSome=true):(hangM (atRound b r) l s).isSome=true:=by
 unfold hangM at hs ⊢
 by_cases hf:fitsM (atRound b r') l=false
 ·rw [if_pos hf] at hs; cases hs
 ·have hf':¬ fitsM (atRound b r) l=false:=hf
  rw [if_neg hf] at hs
  rw [if_neg hf']
  dsimp only at hs ⊢
  by_cases h0:0<(allocA (atRound b r') l (freshM (atRound b r') s)).left
  ·rw [if_pos h0] at hs; cases hs
  ·have hm:(allocA (atRound b r) l (freshM (atRound b r) s)).left<=(allocA (atRound b r') l (freshM (atRound b r') s)).left:=by
    refine xd b l (ordM b l) _ _ ?_
    show r - b.steps+_<=r' - b.steps+_
    omega
   rw [if_neg oQ]
   rfl
theorem jF (b:RBk) (all:List (List Int)) (l:List Int):sqOk b all l=true↔∀ s∈all,(hangM b l s).isSome=true:=by
 unfold sqOk squaresM waysM
 have key:(all.filterMap (hangM b l)).length<all.length↔¬ ∀ s∈all,(hangM b l s).isSome=true:=by
  induction all with
  | nil=>simp
  | cons s r ih =>
   have hle:(r.filterMap (hangM b l)).length<=r.length:=List.length_filterMap_le _ _
   cases hs:hangM b l s with
   | none =>
    rw [List.filterMap_cons_none hs]
    simp [hs]
    omega
   | some z =>
    rw [List.filterMap_cons_some hs,lZ,lZ,Nat.succ_lt_succ_iff,ih]
    simp [hs]
 by_cases h:(all.filterMap (hangM b l)).length<all.length
 ·rw [if_pos h]
  simp only [Option.isSome_none,Bool.false_eq_true,false_iff]
  exact key.1 h
 ·rw [if_neg h]
  simp only [Option.isSome_some,true_iff]
  exact Classical.not_not.1 fun hh=>h (key.2 hh)
theorem xY {b:RBk} {all:List (List Int)} {r r':Int} (h:r<=r') (hc:canAt b all r'=true):canAt b all r=true:=by
 unfold canAt at hc ⊢
 rw [List.any_eq_true] at hc ⊢
 obtain ⟨c,h1,h2⟩:=hc
 refine ⟨c,h1,?_⟩
 rw [mX] at h2 ⊢
 refine ⟨h2.1,?_⟩
 rw [jF] at *
 exact fun s hs=>jL h (h2.2 s hs)
theorem jH (b:RBk) (all:List (List Int)):∀ k,(∀ n,widestL b all k=some n->b.steps<=n/\n<b.steps+k/\canAt b all n=true/\∀ r,n<r->r<b.steps+k->canAt b all r=false)/\(widestL b all k=none->∀ r,b.steps<=r->r<b.steps+k->canAt b all r=false)
 | 0=>⟨(fun n h=>by cases h),(fun _ r h1 h2=>by omega)⟩
 | k+1=>by
  obtain ⟨i1,i2⟩:=jH b all k
  unfold widestL
  by_cases hc:canAt b all (b.steps+k)=true
  ·rw [if_pos hc]
   refine ⟨fun n h=>?_,fun h=>by cases h⟩
   cases h
   exact ⟨by omega,by omega,hc,fun r h1 h2=>by omega⟩
  ·rw [if_neg hc]
   have hc:canAt b all (b.steps+k)=false:=by simpa using hc
   refine ⟨fun n h=>?_,fun h r h1 h2=>?_⟩
   ·obtain ⟨q1,q2,q3,q4⟩:=i1 n h
    refine ⟨q1,by omega,q3,fun r h1 h2=>?_⟩
    by_cases e:r=b.steps+k
    ·rw [e]; exact hc
    ·exact q4 r h1 oQ
   ·by_cases e:r=b.steps+k
    ·rw [e]; exact hc
    ·exact i2 h r h1 oQ
theorem xn {b:RBk} {all:List (List Int)} (h2:b.steps<=40) {r:Int} (h0:b.steps<=r) (h1:r<=40):canAt b all r=((widestM b all).isSome&&decide (r<=(widestM b all).getD 0)):=by
 obtain ⟨i1,i2⟩:=jH b all (41 - b.steps).toNat
 unfold widestM
 cases h:widestL b all (41 - b.steps).toNat with
 | none =>
  rw [i2 h r h0 oQ]; rfl
 | some n =>
  obtain ⟨q1,q2,q3,q4⟩:=i1 n h
  show canAt b all r=(true&&decide (r<=n))
  rw [Bool.true_and]
  by_cases hr:r<=n
  ·rw [decide_eq_true hr]
   exact xY hr q3
  ·rw [decide_eq_false hr]
   exact q4 r oQ oQ
theorem qo {b:RBk} {all:List (List Int)} (h2:b.steps<=40) {n:Int} (h:widestM b all=some n):b.steps<=n/\n<=40:=by
 obtain ⟨i1,_⟩:=jH b all (41 - b.steps).toNat
 obtain ⟨q1,q2,_⟩:=i1 n h
 omega
theorem xy (b:RBk) (r:Int) (s:List Int) (c:Nat):∀ k,togM (atRound b r) s c k=togM b s c k
 | 0=>rfl
 | k+1=>by
  unfold togM
  rw [xy b r s c k]
  rfl
theorem xN (b:RBk) (r:Int) (s:List Int):rightM (atRound b r) s=rightM b s:=by
 unfold rightM
 congr 1
 funext m
 rw [xy]
theorem jT (b:RBk) (r:Int):∀ (l:List RSeam) (x:Int),seamsL (atRound b r) x l=seamsL b x l
 | [],_=>rfl
 | s::l,x=>by
  unfold seamsL
  rw [jT b r l]
  rfl
theorem jP (b:RBk) (r:Int):∀ (l:List RBand) (i:Nat),clothsL (atRound b r) i l=clothsL b i l
 | [],_=>rfl
 | s::l,i=>by
  unfold clothsL
  rw [jP b r l]
  rfl
theorem jY (b:RBk) (r:Int):∀ (l:List RMeas),measL (atRound b r) l=measL b l
 | []=>rfl
 | s::l=>by
  unfold measL
  rw [jY b r l]
  rfl
theorem xg (b:RBk) (r:Int):∀ (l:List RBand) (p:List Int),fromM (atRound b r) p l=fromM b p l
 | [],p=>by unfold fromM; rw [xN]
 | x::l,p=>by
  unfold fromM
  congr 1
  funext n
  exact xg b r l _
theorem jA (b:RBk) (r:Int):zf (atRound b r)=zf b:=xg b r _ _
theorem xK {b:RBk} (h:zr b=0) {r:Int} (h1:b.steps<=r) (h2:r<=40):zr (atRound b r)=0:=by
 have hb:=zZ h
 have hr:roundsM (atRound b r)=0:=by
  have:=hb.rnd
  unfold roundsM
  rw [if_pos]
  simp only [betw,mX,decide_eq_true_eq]
  exact ⟨⟨⟨this.steps,⟨h1,h2⟩⟩,this.roll⟩,this.rolls⟩
 unfold zr at h ⊢
 rw [if_neg (by rw [hr]; decide)]
 split at h
 ·rename_i h3; exact absurd h h3
 ·have e1:seamsM (atRound b r)=seamsM b:=by unfold seamsM; rw [jT]; rfl
  have e2:clothsM (atRound b r)=clothsM b:=by unfold clothsM; rw [jP]; rfl
  have e3:measM (atRound b r)=measM b:=by unfold measM; rw [jY]; rfl
  rw [e1,e2,e3]
  exact h
end Go.Vel
namespace Go.Vel
open Go Go.Conc Go.Proofs
instance:Cal tp 19:={}
instance:Cal tp 44:={}
instance:Cal tp 49:={}
end Go.Vel
namespace Go.Vel
open Go Go.Conc
theorem qr:∀ m:Fin 6,∀ k:Fin 5,k.1<m.1->zw (2 ^ k.1) m.1=[(k.1:Int)]:=by decide
theorem qc:∀ i,zw 0 i=[]
 | 0=>rfl
 | i+1=>by unfold zw; rw [qc i,Nat.zero_div]; rfl
theorem xa (c m:Nat):∀ i,i<=m->zw (c % 2 ^ m) i=zw c i
 | 0,_=>rfl
 | i+1,h=>by
  unfold zw
  rw [xa c m i oQ]
  have h1:=Nat.testBit_mod_two_pow c m i
  rw [Nat.testBit_eq_decide_div_mod_eq,Nat.testBit_eq_decide_div_mod_eq,decide_eq_true (show i<m by omega),Bool.true_and] at h1
  have h2:(c % 2 ^ m / 2 ^ i % 2=1)=(c / 2 ^ i % 2=1):=propext (by simpa using h1)
  simp only [h2]
def otherM (c n:Nat):List Int:=if zw c n=[] then [((c % n:Nat):Int)] else zw c n
theorem xi {c n:Nat} (h1:1<=n) (h5:n<=5):∃ d,0<d/\d<2 ^ n/\otherM c n=zw d n:=by
 unfold otherM
 split
 ·have hm:=Nat.mod_lt c h1
  exact ⟨2 ^ (c % n),Nat.two_pow_pos _,Nat.pow_lt_pow_right dQ hm,(qr ⟨n,by omega⟩ ⟨c % n,by omega⟩ hm).symm⟩
 ·rename_i h
  refine ⟨c % 2 ^ n,?_,Nat.mod_lt _ (Nat.two_pow_pos _),(xa c n n (mL _)).symm⟩
  rcases Nat.eq_zero_or_pos (c % 2 ^ n) with h0 | h0
  ·exact absurd (by rw [<- xa c n n (mL _),h0]; exact qc n) h
  ·exact h0
theorem jZ (x:List Int):smallerM x x=false:=by
 cases h:smallerM x x with
 | false=>rfl
 | true=>rw [kJ,zf4] at h; omega
theorem xB {b:RBk} {all:List (List Int)} {c d:Nat} (h:PlanA b all cheaperM c) (h0:0<d) (h1:d<2 ^ b.seams.length) (hs:sqOk b all (zw d b.seams.length)=true):sqHi b all (zw c b.seams.length)<=sqHi b all (zw d b.seams.length)/\(sqHi b all (zw c b.seams.length)<sqHi b all (zw d b.seams.length)\/smallerM (zw d b.seams.length) (zw c b.seams.length)=false):=by
 rcases h.2.2.2 d h0 h1 hs with e | e
 ·obtain ⟨e1,e2⟩:=Prod.mk.inj e
  exact ⟨by omega,.inr (by rw [e1]; exact jZ _)⟩
 ·rw [kT] at e
  dsimp only at e
  rcases e with e | ⟨e,e2⟩
  ·exact ⟨by omega,.inl e⟩
  ·exact ⟨by omega,.inr (ziE e2)⟩
theorem qz {b:RBk} {all:List (List Int)} {c d:Nat} (h:PlanA b all shorterM c) (h0:0<d) (h1:d<2 ^ b.seams.length) (hs:sqOk b all (zw d b.seams.length)=true):smallerM (zw d b.seams.length) (zw c b.seams.length)=false:=by
 rcases h.2.2.2 d h0 h1 hs with e | e
 ·rw [(Prod.mk.inj e).1]; exact jZ _
 ·exact ziE e
theorem jD {b:RBk} {all:List (List Int)} {c:Nat} {bt:List Int×Int->List Int×Int->Bool} (h:PlanA b all bt c) (hn:NoPlan b all):False:=by
 have:=hn c h.1 h.2.1
 rw [h.2.2.1] at this
 cases this
theorem xI {b:RBk}:∀ (l:List RSeam) (last:Int),(∀ s∈l,seamB b s=true/\last<s.step)->(l.Pairwise fun s t=>s.step<t.step)->seamsL b last l=0
 | [],_,_,_=>rfl
 | s::r,last,h,hp=>by
  obtain ⟨p1,p2⟩:=List.pairwise_cons.1 hp
  have h1:=h s sQ
  unfold seamsL
  rw [if_neg (by rw [h1.1]; decide),if_neg oQ]
  exact xI r _ (fun t ht=>⟨(h t (by simp [ht])).1,p1 t ht⟩) p2
theorem xr {b:RBk}:∀ (l:List RBand) (i:Nat),(∀ k x,l[k]? =some x->bandB x=true/\x.high<wideM b (i+k))->clothsL b i l=0
 | [],_,_=>rfl
 | x::r,i,h=>by
  have h1:=h 0 x rfl
  unfold clothsL
  rw [if_neg (by rw [h1.1]; decide),if_neg (by have:=h1.2; rw [Nat.add_zero] at this; omega)]
  exact xr r _ fun k y hy=>by
   have:=h (k+1) y (by simpa using hy)
   rwa [show i+(k+1)=i+1+k by omega] at this
theorem xV {b:RBk}:∀ (l:List RMeas),(∀ m∈l,0<=m.cloth/\m.cloth<b.seams.length/\1<=m.many/\m.many<=b.seams.length/\0<=m.wide/\m.wide<=24)->measL b l=0
 | [],_=>rfl
 | m::r,h=>by
  have h1:=h m sQ
  have h2:thereM b m.cloth=0:=by unfold thereM; rw [if_pos (by simp [betw]; omega)]
  have h3:measB b m=true:=by simp only [measB,betw,mX,decide_eq_true_eq]; omega
  unfold measL
  rw [if_neg (by rw [h2]; decide),if_neg (by rw [h3]; decide)]
  exact xV r fun y hy=>h y (by simp [hy])
theorem qv {b:RBk} (h:ROk b):zr b=0:=by
 have hr:=h.rnd
 have h1:roundsM b=0:=by
  unfold roundsM
  rw [if_pos]
  simp only [betw,mX,decide_eq_true_eq]
  exact ⟨⟨⟨hr.steps,hr.round⟩,hr.roll⟩,hr.rolls⟩
 have hs:=h.sms
 have sat:∀ i,(hi:i<b.seams.length)->b.seams[i]=sm b i:=fun i hi=>by
  have:=yV hi
  rw [lA hi] at this
  exact Option.some.inj this
 have h2:seamsM b=0:=by
  have hbl:betw b.seams.length 1 5=true:=by
   have:=hs.len
   simp only [betw,mX,decide_eq_true_eq]
   omega
  unfold seamsM
  rw [if_neg (by rw [hbl]; decide)]
  refine xI _ _ (fun s hm=>?_) (List.pairwise_iff_getElem.2 fun i j hi hj hij=>by rw [sat i hi,sat j hj]; exact hs.asc i j hij hj)
  obtain ⟨i,hi,rfl⟩:=List.getElem_of_mem hm
  rw [sat i hi]
  have:=hs.fld i hi
  exact ⟨by simp only [seamB,betw,mX,decide_eq_true_eq]; omega,by omega⟩
 have h3:clothsM b=0:=by
  unfold clothsM
  rw [if_neg (by rw [h.cls.len]; simp)]
  refine xr _ _ fun k x hx=>?_
  have hk:k<b.shrinks.length:=by
   rcases mR k b.shrinks.length with h | h
   ·exact h
   ·rw [lU h] at hx; cases hx
  rw [ko hk] at hx
  cases hx
  have:=h.cls.bnd k (by have:=h.cls.len; omega)
  exact ⟨by simp only [bandB,isBd,mX,decide_eq_true_eq]; omega,by rw [mO]; exact this.2.2.2.2⟩
 have h4:measM b=0:=by
  unfold measM
  have:=h.mes.len
  rw [if_neg oQ]
  exact xV _ h.mes.bnd
 unfold zr
 rw [if_neg (by rw [h1]; decide),if_neg (by rw [h2]; decide),if_neg (by rw [h3]; decide)]
 exact h4
end Go.Vel
namespace Go.Vel
open Go Go.Conc Go.Proofs
section
variable {P:Program} {gm:Nat->Option Nat} {V:KV} {env:List AV} {o:Oper}
theorem qG {t yt:TypeId} {x y:Operand} {k':IntKind} {a b:Nat} (ho:o.op=.binOp .shr t x y yt) (hx:zn gm env x=some (.v (.int .u8 a))) (hy:zn gm env y=some (.v (.int k' b))) (h0:b<=6):Qk P gm env V o (.v (.int .u8 ((a / 2 ^ b:Nat):Int))):=fun A _=>by
 refine vq ho (by rw [zx hx]; rfl) (by rw [zx hy]; rfl) ?_
 rw [u7]
 show zR P (Op.shift .shr .u8 a k' b)=_
 unfold Op.shift
 rw [if_neg oQ]
 show some (Value.int .u8 ((a:Int).fdiv (2 ^ min (b:Int).toNat 8)))=_
 rw [mZ,Nat.min_eq_left oQ,show ((a:Int).fdiv (2 ^ b))=((a / 2 ^ b:Nat):Int) by rw [Int.fdiv_eq_ediv_of_nonneg _ (by exact_mod_cast mN (2 ^ b))]; norm_cast]
theorem qF {t yt:TypeId} {x y:Operand} {a:Nat} (ho:o.op=.binOp .and t x y yt) (hx:zn gm env x=some (.v (.int .u8 a))) (hy:zn gm env y=some (.v (.int .u8 1))) (h:a<256):Qk P gm env V o (.v (.int .u8 ((a % 2:Nat):Int))):=by
 refine wQ ho hx hy ?_
 show some (Value.int .u8 (IntKind.u8.wrap ((BitVec.ofInt 8 (a:Int) &&& BitVec.ofInt 8 1).toNat:Int)))=_
 have:(BitVec.ofInt 8 (a:Int) &&& BitVec.ofInt 8 1).toNat=a % 2:=by
  rw [BitVec.toNat_and]
  have e1:(BitVec.ofInt 8 (a:Int)).toNat=a:=by
   rw [BitVec.toNat_ofInt]
   omega
  rw [e1]
  show a &&& 1=a % 2
  exact Nat.and_one_is_mod a
 rw [this]
 have h2:a % 2=0\/a % 2=1:=by omega
 rcases h2 with h2 | h2 <;> rw [h2] <;> rfl
end
theorem qb {c i:Nat} (h:c / 2 ^ i % 2=1):zw c (i+1)=zw c i++[(i:Int)]:=by
 show zw c i++_=_
 rw [if_pos h]
theorem qa {c i:Nat} (h:¬ c / 2 ^ i % 2=1):zw c (i+1)=zw c i:=by
 show zw c i++_=_
 rw [if_neg h,lR]
instance:Cal tp 62:={}
instance:Cal tp 75:={}
theorem xQ {main T} (hT:zo tp main T) {gm} {b:RBk} {s h e c:Nat} (hn:1<=b.seams.length/\b.seams.length<=5) (hc:c<256) :
  zA tp T gm 50 [.agg (zE b s h e),.v (.int .u8 (c:Int))] [] (fun r K'=>∃ (jo:Nat) (eo:TypeId),r=.sl jo 0 (otherM c b.seams.length).length/\K'=[(jo,.cells ((otherM c b.seams.length).map intA) eo false)]):=by
 refine zp 34 hT Tryz.func50 fun Y hret=>?_
 refine au [4,5,21] ?_
 intro jb hjb
 refine au [2,3,4,5,2] ?_
 refine TK.virt 5 3 1 Z fun jr0 hjr0=>?_
 refine au [3,4,4,5,2,3,13] ?_
 refine TK.maskL [1,2,5,6] ?_
 refine TK.kp [(jr0,_),(jb,_)] ?_
 refine TK.loopN (fun n env K=>∃ (i jr:Nat),n=b.seams.length - i/\i<=b.seams.length/\env=.any::.v (.int .u8 (c:Int))::.ptr jb 0::naL 2 (.row jr (zw c i).length::intA i::naL 27 [])/\K=[(jr,.row ((zw c i).map intA) 3 1),(jb,.cells (zE b s h e) 26 true)]) b.seams.length ⟨0,jr0,rfl,mN _,rfl,rfl⟩ fun n env K hI hnext=>?_
 obtain ⟨i,jr,rfl,hi,rfl,rfl⟩:=hI
 have hbl:=wC c i
 refine TK.na nQ ?_
 refine au [4,4,5,1,7,9,28,6,3,20] ?_
 refine ⟨fun hc0=>?_,fun hc0=>?_⟩
 ·have hil:i<b.seams.length:=by simp at hc0; omega
  refine au [12,4,13,4,5,1,1] ?_
  refine TK.a Z (qG Z Z Z oQ) ?_
  refine TK.a Z (qF Z Z Z (by have:=Nat.div_le_self c (2 ^ i); omega)) ?_
  refine au [6,3,20] ?_
  refine ⟨fun hc1=>?_,fun hc1=>?_⟩
  ·have hbit:c / 2 ^ i % 2=1:=by have h:=eq_of_beq hc1; omega
   refine au [5,1,1] ?_
   refine TK.newR Z Z Z (zt (l:=[_]) Z zF.h TyZ.h dQ dQ Z) (fun _=>zu rfl tQ) fun j1 hj1=>?_
   refine TK.appR Z Z Z (a_app Z ApOf.h Z mQ sQ Z (yu (ln:=[_]) mQ dQ sQ Z) oQ Z (by unfold maxLen; omega) oQ) (fun _=>uQ) (fun _=>zu rfl tQ) fun jr2=>?_
   refine au [2,3,14,5,1,23,2,3] ?_
   refine TK.maskL [1,2,5,6] ?_
   refine TK.kp [(jr2,_),(jb,_)] ?_
   exact hnext _ _ _ oQ ⟨i+1,jr2,rfl,by omega,by rw [qb hbit,lF]; rfl,by rw [qb hbit,lM]; rfl⟩
  have hbit:¬ c / 2 ^ i % 2=1:=fun h=>by rw [h] at hc1; simp at hc1
  refine au [12,14,5,1,23,2,3] ?_
  refine TK.maskL [1,2,5,6] ?_
  refine TK.kp [(jr,_),(jb,_)] ?_
  exact hnext _ _ _ oQ ⟨i+1,jr,rfl,by omega,by rw [qa hbit] <;> rfl,by rw [qa hbit] <;> rfl⟩
 obtain rfl:i=b.seams.length:=by simp at hc0; omega
 refine au [16,4,4,5,1,28,6,3,20] ?_
 refine ⟨fun hc2=>?_,fun hc2=>?_⟩
 ·have hb0:zw c b.seams.length=[]:=by have h:=eq_of_beq hc2; exact lK oQ
  have hot:otherM c b.seams.length=[((c % b.seams.length:Nat):Int)]:=if_pos hb0
  refine au [4,5,1] ?_
  refine TK.a Z (yU Z Z Und.h Und.h (wK oQ)) ?_
  refine au [7,9,28] ?_
  refine TK.a Z (q_rem Z Z Z oQ oQ) ?_
  refine TK.newR Z Z Z (zt (l:=[_]) Z zF.h TyZ.h dQ dQ Z) (fun _=>zu rfl tQ) fun jo hjo=>?_
  refine au [2] ?_
  refine TK.asSl 4 Z mQ ?_
  refine TK.frzRow (j:=jo) ?_
  refine au [3] ?_
  refine TK.rt hret [(jo,_)] ?_
  exact ⟨jo,_,by rw [hot]; rfl,by rw [hot]; rfl⟩
 have hb0:zw c b.seams.length≠[]:=fun hh=>by rw [hh] at hc2; simp at hc2
 have hot:otherM c b.seams.length=zw c b.seams.length:=if_neg hb0
 refine TK.asSl 5 Z mQ ?_
 refine TK.frzRow (j:=jr) ?_
 refine au [12,4,5,1,2,3] ?_
 refine TK.rt hret [(jr,_)] ?_
 exact ⟨jr,_,by rw [hot],by rw [hot]⟩
theorem xP {b:RBk}:∀ (l:List Int) (last:Option Int),(∀ n∈l,0<=n/\n<b.seams.length/\∀ k,last=some k->k<n)->l.Pairwise (· < ·)->cutsL b last l=0
 | [],_,_,_=>rfl
 | n::r,last,h,hp=>by
  obtain ⟨h1,h2,h3⟩:=h n sQ
  obtain ⟨p1,p2⟩:=List.pairwise_cons.1 hp
  have ht:thereM b n=0:=by unfold thereM; rw [if_pos (by simp [betw]; omega)]
  unfold cutsL
  rw [if_neg (by rw [ht]; decide),if_neg]
  ·exact xP r _ (fun m hm=>⟨(h m (by simp [hm])).1,(h m (by simp [hm])).2.1,fun k hk=>by cases hk; exact p1 m hm⟩) p2
  ·cases last with
   | none=>simp [notAft]
   | some k=>have:=h3 k rfl; simp [notAft]; omega
theorem qE {b:RBk} {l:List Int} (h:CutsOk b l):cutsM b l=0:=by
 unfold cutsM
 have:=h.pos
 rw [if_neg oQ]
 exact xP l none (fun n hn=>⟨(h.bnd n hn).1,(h.bnd n hn).2,fun k hk=>by cases hk⟩) h.asc
theorem xz {b:RBk} {l:List Int} (hc:zr b=0) (h:CutsOk b l):bar2 (zr b) (cutsM b l)=0:=by
 rw [kF hc,qE h]
section
variable {main:Bool} {T:Goroutine->Hp->Prop} {b:RBk} {s h e j:Nat} {l:List Int} {et:TypeId}
theorem xO (hT:zo tp main T) (hck:zr b=0) (hne:zf b≠[]) (hcc:CutsOk b l):zA tp T gmR 70 [.agg (zE b s h e),.sl j 0 l.length] [(0,zy),(s,zk b),(h,zB b),(e,zq b),(j,.cells (l.map intA) et false)] (fun r K'=>r=.tup [intA (canM b l),intA 0]/\K'=[(0,zy),(s,zk b),(h,zB b),(e,zq b),(j,.cells (l.map intA) et false)]) :=
 (zcg hT (by have:=(zZ hck).sms.len; omega) (by have:=(zZ hck).mes.len; omega) (by have:=hcc.len; have:=(zZ hck).sms.len; omega)).mono fun r K' hh=>or3 hh (xz hck hcc) hne
end
instance:Cal tp 50:={}
instance:Cal tp 65:={}
instance:Cal tp 76:={}
end Go.Vel
namespace Go.Vel
open Go Go.Conc
def sumF (f:Nat->Int):Nat->Int
 | 0=>0
 | k+1=>sumF f k+f k
theorem ji {f g:Nat->Int}:∀ n,(∀ i,i<n->f i=g i)->sumF f n=sumF g n
 | 0,_=>rfl
 | n+1,h=>by
  unfold sumF
  rw [ji n (fun i hi=>h i oQ),h n oQ]
theorem jO {f g:Nat->Int} {k:Nat}:∀ n,k<n->(∀ i,i≠k->g i=f i)->sumF g n=sumF f n - f k+g k
 | 0,h,_=>by omega
 | n+1,h,he=>by
  unfold sumF
  by_cases e:k=n
  ·subst e
   rw [ji k (fun i hi=>he i oQ)]
   omega
  ·rw [jO n oQ he,he n (fun h=>e h.symm)]
   omega
theorem jC {f:Nat->Int} {n:Nat} (h:∀ i,n<=i->f i=0):∀ k,sumF f (n+k)=sumF f n
 | 0=>rfl
 | k+1=>by
  show sumF f (n+k)+f (n+k)=_
  rw [jC h k,h _ oQ,Int.add_zero]
theorem jG (f g:Nat->Int):∀ n,sumF (fun i=>f i+g i) n=sumF f n+sumF g n
 | 0=>rfl
 | n+1=>by
  show sumF (fun i=>f i+g i) n+(f n+g n)=sumF f n+f n+(sumF g n+g n)
  rw [jG f g n]
  omega
theorem xw {lt:Int->Int->Bool} {x:Int} {S:List Int}:∀ j,j<=S.length->(insJ lt x S j).Perm (x::S)
 | 0,_=>List.Perm.refl _
 | j+1,h=>by
  unfold insJ
  rw [lA oQ]
  dsimp only
  split
  ·exact xw j oQ
  ·have h1:=List.perm_middle (a:=x) (l₁:=S.take (j+1)) (l₂:=S.drop (j+1))
   rwa [List.take_append_drop] at h1
theorem jN {lt:Int->Int->Bool} {l:List Int}:∀ i,i<=l.length->(sortN lt l i).Perm (l.take i)
 | 0,_=>by rw [List.take_zero]; exact List.Perm.refl _
 | i+1,h=>by
  have hg:l[i]? =some l[i]:=lA oQ
  rw [wA hg,yP hg]
  exact (xw _ (mL _)).trans ((List.Perm.cons _ (jN i oQ)).trans (List.perm_append_singleton _ _).symm)
theorem jS (b:RBk) (l:List Int):(ordM b l).Nodup:=by
 unfold ordM sortR
 refine (jN _ (mL _)).nodup_iff.2 ?_
 rw [lW]
 unfold idxM
 exact List.Pairwise.map _ (fun a b hab=>by intro h; exact hab oQ) List.nodup_range
theorem xD {L:List Int} {k i:Nat} {v:Int} (h:k<L.length):(L.set k v).getD i 0=if i=k then v else L.getD i 0:=by
 rw [lE,lX,lE]
 by_cases e:k=i
 ·rw [if_pos e,if_pos h,if_pos e.symm]; rfl
 ·rw [if_neg e,if_neg (fun hh=>e hh.symm)]
theorem xq {b:RBk} {l:List Int}:∀ (o:List Int) (z:Alloc),o.Nodup->(∀ k∈o,0<=k/\k<l.length)->(∀ k∈o,z.steps.getD k.toNat 0=0)->z.steps.length=l.length->0<=z.left->(∀ k∈o,0<=(cutS b l k.toNat).most)->(∀ i,0<=z.steps.getD i 0/\(i<l.length->z.steps.getD i 0<=(cutS b l i).most\/(i:Int)∈o)) ->
  sumF (fun i=>(o.foldl (allocM b l) z).steps.getD i 0) l.length+(o.foldl (allocM b l) z).left=sumF (fun i=>z.steps.getD i 0) l.length+z.left /\
  (o.foldl (allocM b l) z).squares - sumF (fun i=>(o.foldl (allocM b l) z).steps.getD i 0*(cutS b l i).busy) l.length=z.squares - sumF (fun i=>z.steps.getD i 0*(cutS b l i).busy) l.length /\
  0<=(o.foldl (allocM b l) z).left/\∀ i,0<=(o.foldl (allocM b l) z).steps.getD i 0/\(i<l.length->(o.foldl (allocM b l) z).steps.getD i 0<=(cutS b l i).most)
 | [],z,_,_,_,_,hz,_,hm=>⟨rfl,rfl,hz,fun i=>⟨(hm i).1,fun hi=>by
  rcases (hm i).2 hi with h | h
  ·exact h
  ·cases h⟩⟩
 | k::o,z,hn,ho,h0,hlen,hz,hmo,hm=>by
  obtain ⟨n1,n2⟩:=List.nodup_cons.1 hn
  have hk:=ho k sQ
  have hkl:k.toNat<z.steps.length:=by omega
  have hk0:=h0 k sQ
  have hmk:=hmo k sQ
  rw [List.foldl_cons]
  obtain ⟨v,hv⟩:∃ v,v=min z.left (cutS b l k.toNat).most:=⟨_,rfl⟩
  have hz':allocM b l z k=⟨z.steps.set k.toNat v,z.squares+v*(cutS b l k.toNat).busy,z.left - v⟩:=by rw [hv]; rfl
  have hs:∀ i,(z.steps.set k.toNat v).getD i 0=if i=k.toNat then v else z.steps.getD i 0:=fun i=>xD hkl
  obtain ⟨r1,r2,r3,r4⟩:=xq o (allocM b l z k) n2 (fun x hx=>ho x (by simp [hx])) (fun x hx=>by
   rw [hz']
   show (z.steps.set k.toNat v).getD x.toNat 0=0
   have hx0:=ho x (by simp [hx])
   have hne:x≠k:=fun e=>n1 (e ▸ hx)
   rw [hs,if_neg oQ]
   exact h0 x (by simp [hx])) (by rw [hz']; show (z.steps.set k.toNat v).length=_; rw [List.length_set]; exact hlen) (by rw [hz']; show 0<=z.left - v; omega) (fun x hx=>hmo x (by simp [hx])) (fun i=>by
   rw [hz']
   show 0<=(z.steps.set k.toNat v).getD i 0/\(i<l.length->(z.steps.set k.toNat v).getD i 0<=_\/_)
   rw [hs]
   by_cases e:i=k.toNat
   ·rw [if_pos e]
    exact ⟨by omega,fun _=>.inl (by rw [e]; omega)⟩
   ·rw [if_neg e]
    refine ⟨(hm i).1,fun hi=>?_⟩
    rcases (hm i).2 hi with h | h
    ·exact .inl h
    ·rcases lI.1 h with h | h
     ·omega
     ·exact .inr h)
  have e1:sumF (fun i=>(allocM b l z k).steps.getD i 0) l.length=sumF (fun i=>z.steps.getD i 0) l.length+v:=by
   rw [hz']
   rw [jO (f:=fun i=>z.steps.getD i 0) (k:=k.toNat) l.length oQ (fun i hi=>by show (z.steps.set k.toNat v).getD i 0=_; rw [hs,if_neg hi])]
   show _ - z.steps.getD k.toNat 0+(z.steps.set k.toNat v).getD k.toNat 0=_
   rw [hs,if_pos rfl,hk0]
   omega
  have e2:sumF (fun i=>(allocM b l z k).steps.getD i 0*(cutS b l i).busy) l.length=sumF (fun i=>z.steps.getD i 0*(cutS b l i).busy) l.length+v*(cutS b l k.toNat).busy:=by
   rw [hz']
   rw [jO (f:=fun i=>z.steps.getD i 0*(cutS b l i).busy) (k:=k.toNat) l.length oQ (fun i hi=>by show (z.steps.set k.toNat v).getD i 0*_=_; rw [hs,if_neg hi])]
   show _ - z.steps.getD k.toNat 0*_+(z.steps.set k.toNat v).getD k.toNat 0*_=_
   rw [hs,if_pos rfl,hk0,Int.zero_mul]
   omega
  rw [e1] at r1
  rw [e2] at r2
  rw [hz'] at r1 r2 r3 r4 ⊢
  dsimp only at r1 r2
  refine ⟨by omega,by omega,r3,r4⟩
theorem jB (b:RBk) (l:List Int):∀ k,spoilM b l k=sumF (fun i=>(cutS b l i).spoil) k
 | 0=>rfl
 | k+1=>by
  show spoilM b l k+_=sumF _ k+_
  rw [jB b l k]
def needM (b:RBk) (l w:List Int) (k:Nat):Int:=sumF (fun i=>(cutS b l i).spoil+w.getD i 0*(cutS b l i).busy) k
theorem jM {b:RBk} (hb:ROk b) {l s w:List Int} {q:Int} (hl:CutsOk b l) (hs:StOk b s) (h:hangM b l s=some (w,q)):fitsM b l=true/\w.length=l.length/\sumF (fun i=>w.getD i 0) l.length=freshM b s/\q=needM b l w l.length/\∀ i,0<=w.getD i 0/\(i<l.length->w.getD i 0<=(cutS b l i).most):=by
 obtain ⟨hwl,_⟩:=zhT hb hl hs h
 unfold hangM at h
 split at h
 ·cases h
 ·rename_i hf
  dsimp only at h
  split at h
  ·cases h
  ·rename_i hle
   have hr:∀ i,(alloc0 b l (freshM b s)).steps.getD i 0=0:=fun i=>by
    show (mB l.length (0:Int)).getD i 0=0
    rw [lE,List.getElem?_replicate]
    split <;> rfl
   obtain ⟨r1,r2,r3,r4⟩:=xq (b:=b) (l:=l) (ordM b l) (alloc0 b l (freshM b s)) (jS b l) (fun k hk=>zdO hk) (fun k _=>hr _) (by show (mB l.length (0:Int)).length=_; rw [List.length_replicate]) (zcl hb hs).1 (fun k hk=>by
    have:=zdO hk
    exact (hb.sms.fld _ (hl.lt (k:=k.toNat) oQ).2.2).2.2.1) (fun i=>by
    rw [hr]
    refine ⟨Int.le_refl _,fun hi=>.inl ?_⟩
    exact (hb.sms.fld _ (hl.lt hi).2.2).2.2.1)
   have z1:sumF (fun i=>(alloc0 b l (freshM b s)).steps.getD i 0) l.length=0:=by
    rw [ji (g:=fun _=>0) l.length (fun i _=>hr i)]
    have:=jC (f:=fun _=>0) (n:=0) (fun _ _=>rfl) l.length
    rwa [mO] at this
   have z2:sumF (fun i=>(alloc0 b l (freshM b s)).steps.getD i 0*(cutS b l i).busy) l.length=0:=by
    rw [ji (g:=fun _=>0) l.length (fun i _=>by rw [hr i,Int.zero_mul])]
    have:=jC (f:=fun _=>0) (n:=0) (fun _ _=>rfl) l.length
    rwa [mO] at this
   rw [z1] at r1
   rw [z2] at r2
   have q1:(alloc0 b l (freshM b s)).left=freshM b s:=rfl
   have q2:(alloc0 b l (freshM b s)).squares=spoilM b l l.length:=rfl
   cases h
   refine ⟨by simpa using hf,hwl,?_,?_,r4⟩
   ·unfold allocA at hle ⊢
    omega
   ·unfold needM
    rw [jG,<- jB]
    unfold allocA
    omega
def manyM (b:RBk) (l:List Int) (i:Nat):Int:=if i+1<l.length then zN l (i+1) - zN l i else zN l 0 - zN l i+b.seams.length
def nowS (b:RBk) (s:List Int) (x:Nat):Int:=sumF (nowM b s) x
end Go.Vel
namespace Go.Vel
open Go Go.Conc Go.Proofs
def u16A (x:Fin 65536):AV:=.v (.int .u16 (x.1:Int))
def u16O (l:List (Fin 65536)):AObj:=.cells (l.flatMap fun x=>[u16A x]) 212 false
def choM (l:List (Fin 65536)) (i:Nat):Int:=match l[i]? with | some x=>x.1 | none=>0
def chosenM (x:RBand) (n:Int):Int:=x.low+n % (x.high - x.low+1)
def realM (b:RBk) (ps:List (Fin 65536)):Nat->List Int
 | 0=>[]
 | i+1=>realM b ps i++[chosenM (bd b i) (choM ps i)]
instance:Cal tp 139:={}
instance:Cal tp 140:={}
instance:zF tp 91 212 1:={}
instance:zi tp 212 false 1:={}
instance:Und tp 212 (.int .u16):={}
instance:Und tp 91 (.slice 212):={}
theorem x9 {main T} (hT:zo tp main T) {gm} {b:RBk} {s h e j c m:Nat} {st:List Int} {et:TypeId} (hb:ROk b) (hs:StOk b st) (hc:c<b.seams.length) (hm:m<=b.seams.length) :
  zA tp T gm 73 [.agg (zE b s h e),intA c,intA m,.sl j 0 st.length] [(s,zk b),(j,.cells (st.map intA) et false)] (fun r K'=>r=intA (togM b st c m)/\K'=[(s,zk b),(j,.cells (st.map intA) et false)]):=by
 refine zp 35 hT Tryz.func73 fun Y hret=>?_
 refine au [] ?_
 have hsl:=hb.sms.len
 have hst:=hs.len
 refine au [4,5,21] ?_
 intro jb hjb
 refine au [2,3,4,5,2,3,4,4,5,2,3,13] ?_
 refine TK.maskL [1,2,3,4,9,10] ?_
 refine TK.kp [(s,_),(j,_),(jb,_)] ?_
 refine TK.loopN (fun n env K=>∃ (i:Nat),n=m - i/\i<=m/\env=.any::intA c::intA m::.sl j 0 st.length::.ptr jb 0::naL 4 (intA (togM b st c i)::intA i::naL 24 [])/\K=[(s,zk b),(j,.cells (st.map intA) et false),(jb,.cells (zE b s h e) 26 true)]) m ⟨0,rfl,mN _,rfl,rfl⟩ fun n env K hI hnext=>?_
 obtain ⟨i,rfl,hi,rfl,rfl⟩:=hI
 refine TK.na nQ ?_
 refine au [4,4,5,1,1,6,3,20] ?_
 refine ⟨fun hc0=>?_,fun hc0=>?_⟩
 ·have hil:i<m:=by simp at hc0; omega
  have hkl:(c+i) % b.seams.length<b.seams.length:=Nat.mod_lt _ oQ
  have htb:=za8 hb hs (c:=c) i
  have hwd:=hb.wide hkl
  have hsb:=hs.bnd _ hkl
  refine au [12,4,13,4,5,1,1,23,7,9,28] ?_
  refine TK.a Z (q_rem Z Z Z oQ oQ) ?_
  refine au [2,3] ?_
  rw [show ((c:Int)+(i:Int)) % (b.seams.length:Int)=(((c+i) % b.seams.length:Nat):Int) by rw [<- Int.natCast_add,<- Int.natCast_emod]]
  have htn:togM b st c i+wideM b ((c+i) % b.seams.length) - zN st ((c+i) % b.seams.length)=togM b st c (i+1):=by show _=togM b st c i+(wideM b _ - st.getD _ 0); unfold zN; omega
  have hsb2:0<=zN st ((c+i) % b.seams.length)/\zN st ((c+i) % b.seams.length)<=5:=⟨hsb.1,hsb.2.1⟩
  refine TK.draw [0,1,2,5,6,7,8,3,4,9,10] [0,1,2,3,4,5,6,7,8,9,10] (by kernel_rfl) (by kernel_rfl) ?_
  refine TD.z [9] Z (zh Z Z) ?_
  refine TD.y [4] Z (hq:=z8 Z Z zi.h (mC _) Z) (h:=?_)
  refine TD.z [11] Z (zh Z Z) ?_
  refine TD.z [3] Z (zh Z Z) ?_
  refine TD.z [11] Z (zh Z Z) ?_
  refine TD.z [29,30] Z (zQ Z Z Z zF.h oQ oQ) ?_
  refine TD.y [31] Z (hq:=zm Z Z zi.h (mC _) (yh (i:=(c+i) % b.seams.length) (z5 oQ) Z)) (h:=?_)
  refine TD.cl (pend':=[⟨8,[31],[(_,_)]⟩,⟨7,[29,30],[]⟩,⟨6,[11],[]⟩,⟨5,[3],[]⟩,⟨0,[9],[]⟩]) [25,26] Z Z Z Z Z (zfx hT (i:=(c+i) % b.seams.length) hb.rnd hb.sms hkl) (fun r1 K2 h3=>⟨?_,?_⟩)
  ·rcases h3 with ⟨rfl,rfl⟩
   all_goals simp
  obtain ⟨rfl,rfl⟩:=h3
  try simp only [cA]
  refine TD.norm tQ ?_
  refine TD.z [24,27] Z (q_add Z Z Z oQ) ?_
  refine TD.z [28,32] Z (q_sub Z Z Z oQ) ?_
  refine TD.as (pend':=[]) [33] Z Z (zD Z Z) ?_
  refine TD.fin ?_
  refine au [14,5,1,23,2,3] ?_
  refine TK.maskL [1,2,3,4,9,10] ?_
  refine TK.kp [(s,_),(j,_),(jb,_)] ?_
  exact hnext _ _ _ oQ ⟨i+1,rfl,by omega,by rw [htn]; rfl,rfl⟩
 obtain rfl:i=m:=by simp at hc0; omega
 refine au [16,4,5,1,2,3] ?_
 refine TK.rt hret [(s,_),(j,_)] ?_
 exact ⟨rfl,rfl⟩
end Go.Vel
namespace Go.Vel
open Go Go.Conc
def fS (f:Int->Int):List Int->Int
 | []=>0
 | k::o=>f k+fS f o
theorem xu (f:Int->Int):∀ a c,fS f (a++c)=fS f a+fS f c
 | [],c=>by show fS f c=0+fS f c; omega
 | k::a,c=>by show f k+fS f (a++c)=f k+fS f a+fS f c; rw [xu f a c]; omega
theorem qy (f:Int->Int) {a c:List Int} (h:a.Perm c):fS f a=fS f c:=by
 induction h with
 | nil=>rfl
 | cons x _ ih=>show f x+_=f x+_; rw [ih]
 | swap x y l=>show f y+(f x+fS f l)=f x+(f y+fS f l); omega
 | trans _ _ h1 h2=>exact h1.trans h2
theorem qd (f:Int->Int):∀ n,fS f (idxM n)=sumF (fun i=>f i) n
 | 0=>rfl
 | n+1=>by
  have e:idxM (n+1)=idxM n++[(n:Int)]:=by unfold idxM; rw [List.range_succ,lM]; rfl
  rw [e,xu,qd f n]
  show _+(f n+0)=_+f n
  omega
theorem xf (f:Int->Int) (b:RBk) (l:List Int):fS f (ordM b l)=sumF (fun i=>f i) l.length:=by
 rw [<- qd]
 unfold ordM sortR
 refine qy f ?_
 have h:=jN (lt:=busyLt b l) (l:=idxM l.length) (idxM l.length).length (mL _)
 rwa [lW] at h
theorem fS_le {f g:Int->Int}:∀ o:List Int,(∀ k∈o,f k<=g k)->fS f o<=fS g o
 | [],_=>Int.le_refl _
 | k::o,h=>by
  have h1:=h k sQ
  have h2:=fS_le o (fun x hx=>h x (by simp [hx]))
  show f k+_<=g k+_
  omega
theorem fS_nn {f:Int->Int}:∀ o:List Int,(∀ k∈o,0<=f k)->0<=fS f o
 | [],_=>Int.le_refl _
 | k::o,h=>by
  have h1:=h k sQ
  have h2:=fS_nn o (fun x hx=>h x (by simp [hx]))
  show 0<=f k+_
  omega
def gC (m c:Int->Int):List Int->Int->Int
 | [],_=>0
 | k::o,n=>min n (m k)*c k+gC m c o (n - min n (m k))
theorem xT {m c:Int->Int}:∀ o:List Int,(∀ k∈o,0<=m k)->gC m c o 0=0
 | [],_=>rfl
 | k::o,h=>by
  have h1:=h k sQ
  show min 0 (m k)*c k+gC m c o (0 - min 0 (m k))=0
  rw [Int.min_eq_left h1,Int.zero_mul,Int.sub_zero,xT o (fun x hx=>h x (by simp [hx]))]
  rfl
theorem jJ {m c:Int->Int} {c0:Int}:∀ (o:List Int) (n d:Int),(∀ k∈o,c0<=c k/\0<=m k)->0<=d->d<=n->n<=fS m o->gC m c o (n - d)+d*c0<=gC m c o n
 | [],n,d,_,h1,h2,h3=>by
  have h3:n<=0:=h3
  have:d=0:=by omega
  subst this
  show (0:Int)+0*c0<=0
  rw [Int.zero_mul]; decide
 | k::o,n,d,h,h1,h2,h3=>by
  have hk:=h k sQ
  have ho:∀ x∈o,c0<=c x/\0<=m x:=fun x hx=>h x (by simp [hx])
  have h3:n<=m k+fS m o:=h3
  have hz:gC m c o 0=0:=xT o (fun x hx=>(ho x hx).2)
  show min (n - d) (m k)*c k+gC m c o (n - d - min (n - d) (m k))+d*c0<=min n (m k)*c k+gC m c o (n - min n (m k))
  by_cases hA:m k<=n - d
  ·rw [Int.min_eq_right hA,Int.min_eq_right oQ]
   have:=jJ o (n - m k) d ho h1 oQ oQ
   rw [show n - d - m k=n - m k - d by omega]
   omega
  ·rw [Int.min_eq_left (show n - d<=m k by omega),Int.sub_self,hz]
   by_cases hB:n<=m k
   ·rw [Int.min_eq_left hB,Int.sub_self,hz]
    have e:n*c k=(n - d)*c k+d*c k:=by rw [<- Int.add_mul]; congr 1; omega
    have q:=Int.mul_le_mul_of_nonneg_left hk.1 h1
    omega
   ·rw [Int.min_eq_right oQ]
    have ih:=jJ o (n - m k) (n - m k) ho oQ oQ oQ
    rw [Int.sub_self,hz] at ih
    obtain ⟨e,he⟩:∃ e,e=m k - (n - d):=⟨_,rfl⟩
    have e1:m k*c k=(n - d)*c k+e*c k:=by rw [<- Int.add_mul]; congr 1; omega
    have e2:d*c0=e*c0+(n - m k)*c0:=by rw [<- Int.add_mul]; congr 1; omega
    have q:=Int.mul_le_mul_of_nonneg_left hk.1 (show 0<=e by omega)
    omega
theorem qe {m c x:Int->Int}:∀ (o:List Int) (n:Int),o.Pairwise (fun a d=>c a<=c d)->(∀ k∈o,0<=x k/\x k<=m k)->n=fS x o->gC m c o n<=fS (fun k=>x k*c k) o
 | [],n,_,_,_=>Int.le_refl _
 | k::o,n,hp,h,hn=>by
  obtain ⟨p1,p2⟩:=List.pairwise_cons.1 hp
  have hk:=h k sQ
  have ho:∀ y∈o,0<=x y/\x y<=m y:=fun y hy=>h y (by simp [hy])
  have hn:n=x k+fS x o:=hn
  have h0:=fS_nn o (fun y hy=>(ho y hy).1)
  have hcap:=fS_le o (fun y hy=>(ho y hy).2)
  have ih:=qe o (fS x o) p2 ho rfl
  obtain ⟨a,ha⟩:∃ a,a=min n (m k):=⟨_,rfl⟩
  have sh:=jJ (m:=m) (c:=c) (c0:=c k) o (fS x o) (a - x k) (fun y hy=>⟨p1 y hy,by have:=ho y hy; omega⟩) oQ oQ hcap
  show min n (m k)*c k+gC m c o (n - min n (m k))<=x k*c k+_
  rw [<- ha,show n - a=fS x o - (a - x k) by omega]
  have e:a*c k=x k*c k+(a - x k)*c k:=by rw [<- Int.add_mul]; congr 1; omega
  omega
theorem jX {lt:Int->Int->Bool} {K:Int->Int} {x:Int} {S:List Int} (hlt:∀ y∈S,lt x y=decide (K x<K y)) (hS:S.Pairwise fun a c=>K a<=K c):∀ j,j<=S.length->(∀ i y,j<=i->S[i]? =some y->K x<K y)->(insJ lt x S j).Pairwise fun a c=>K a<=K c
 | 0,_,h=>by
  refine List.pairwise_cons.2 ⟨fun y hy=>?_,hS⟩
  obtain ⟨i,hi,rfl⟩:=List.getElem_of_mem hy
  have:=h i _ (mN _) (lA hi)
  omega
 | j+1,hj,h=>by
  have hg:S[j]? =some S[j]:=lA oQ
  have hm:S[j]∈S:=List.getElem_mem _
  unfold insJ
  rw [hg]
  dsimp only
  by_cases hl:lt x S[j]=true
  ·rw [if_pos hl]
   rw [hlt _ hm] at hl
   refine jX hlt hS j oQ fun i y hi hy=>?_
   by_cases e:i=j
   ·subst e
    rw [hg] at hy
    cases hy
    exact of_decide_eq_true hl
   ·exact h i y oQ hy
  ·rw [if_neg hl]
   rw [hlt _ hm] at hl
   have hl:¬ K x<K S[j]:=by simpa using hl
   have hS':=hS
   rw [<- List.take_append_drop (j+1) S] at hS'
   obtain ⟨p1,p2,p3⟩:=List.pairwise_append.1 hS'
   have hd:∀ y∈S.drop (j+1),K x<=K y:=fun y hy=>by
    obtain ⟨i,hi,rfl⟩:=List.getElem_of_mem hy
    rw [List.getElem_drop]
    have:=h (j+1+i) _ oQ (lA (by rw [List.length_drop] at hi; omega))
    omega
   have ht:∀ a∈S.take (j+1),K a<=K x:=fun a ha=>by
    have p1':=p1
    rw [yP hg] at ha p1'
    rcases lT.1 ha with ha | ha
    ·have:=(List.pairwise_append.1 p1').2.2 a ha S[j] sQ
     omega
    ·rw [lS.1 ha]; omega
   refine List.pairwise_append.2 ⟨p1,List.pairwise_cons.2 ⟨hd,p2⟩,fun a ha c hc=>?_⟩
   rcases lI.1 hc with rfl | hc
   ·exact ht a ha
   ·exact p3 a ha c hc
theorem jU {lt:Int->Int->Bool} {K:Int->Int} {l:List Int} (hlt:∀ x∈l,∀ y∈l,lt x y=decide (K x<K y)):∀ i,i<=l.length->(sortN lt l i).Pairwise fun a c=>K a<=K c
 | 0,_=>.nil
 | i+1,h=>by
  have hg:l[i]? =some l[i]:=lA oQ
  rw [wA hg]
  refine jX (fun y hy=>hlt _ (List.getElem_mem _) y (uR i oQ y hy)) (jU hlt i oQ) _ (mL _) fun k y hk hy=>?_
  rw [lU hk] at hy
  cases hy
def pw:Nat->Int
 | 0=>10000
 | 1=>1000
 | 2=>100
 | 3=>10
 | _=>1
def wgt (b:RBk) (l:List Int) (k:Int):Int:=(cutS b l k.toNat).busy*1000000+pw k.toNat
theorem qC {b:RBk} {l:List Int} (hl:l.length<=5):(ordM b l).Pairwise fun a c=>wgt b l a<=wgt b l c:=by
 have hs:(ordM b l).Pairwise fun a c=>(cutS b l a.toNat).busy*10 - a<=(cutS b l c.toNat).busy*10 - c:=by
  unfold ordM sortR
  refine jU (K:=fun a=>(cutS b l a.toNat).busy*10 - a) (fun x hx y hy=>?_) _ (mL _)
  have h1:=zbi hx
  have h2:=zbi hy
  unfold busyLt
  rw [Bool.eq_iff_iff]
  simp only [Bool.or_eq_true,mX,decide_eq_true_eq]
  omega
 refine hs.imp_of_mem ?_
 intro a c ha hc h
 have h1:=zdO ha
 have h2:=zdO hc
 unfold wgt
 obtain ⟨i,rfl⟩:=Int.eq_ofNat_of_zero_le h1.1
 obtain ⟨j,rfl⟩:=Int.eq_ofNat_of_zero_le h2.1
 simp only [mZ] at h ⊢
 have hi:i=0\/i=1\/i=2\/i=3\/i=4:=by omega
 have hj:j=0\/j=1\/j=2\/j=3\/j=4:=by omega
 rcases hi with rfl | rfl | rfl | rfl | rfl <;> rcases hj with rfl | rfl | rfl | rfl | rfl <;> simp only [pw] <;> omega
theorem jI {b:RBk} {l:List Int} (C:Nat->Int):∀ (o:List Int) (z:Alloc),o.Nodup->(∀ k∈o,0<=k/\k<l.length)->(∀ k∈o,z.steps.getD k.toNat 0=0)->z.steps.length=l.length ->
  sumF (fun i=>(o.foldl (allocM b l) z).steps.getD i 0*C i) l.length=sumF (fun i=>z.steps.getD i 0*C i) l.length+gC (fun k=>(cutS b l k.toNat).most) (fun k=>C k.toNat) o z.left
 | [],z,_,_,_,_=>by show _=_+(0:Int); rw [Int.add_zero]; rfl
 | k::o,z,hn,ho,h0,hlen=>by
  obtain ⟨n1,n2⟩:=List.nodup_cons.1 hn
  have hk:=ho k sQ
  have hkl:k.toNat<z.steps.length:=by omega
  have hk0:=h0 k sQ
  rw [List.foldl_cons]
  obtain ⟨v,hv⟩:∃ v,v=min z.left (cutS b l k.toNat).most:=⟨_,rfl⟩
  have hz':allocM b l z k=⟨z.steps.set k.toNat v,z.squares+v*(cutS b l k.toNat).busy,z.left - v⟩:=by rw [hv]; rfl
  have hs:∀ i,(z.steps.set k.toNat v).getD i 0=if i=k.toNat then v else z.steps.getD i 0:=fun i=>xD hkl
  have r:=jI (b:=b) (l:=l) C o (allocM b l z k) n2 (fun x hx=>ho x (by simp [hx])) (fun x hx=>by
   rw [hz']
   show (z.steps.set k.toNat v).getD x.toNat 0=0
   have hx0:=ho x (by simp [hx])
   have hne:x≠k:=fun e=>n1 (e ▸ hx)
   rw [hs,if_neg oQ]
   exact h0 x (by simp [hx])) (by rw [hz']; show (z.steps.set k.toNat v).length=_; rw [List.length_set]; exact hlen)
  have e2:sumF (fun i=>(allocM b l z k).steps.getD i 0*C i) l.length=sumF (fun i=>z.steps.getD i 0*C i) l.length+v*C k.toNat:=by
   rw [hz']
   rw [jO (f:=fun i=>z.steps.getD i 0*C i) (k:=k.toNat) l.length oQ (fun i hi=>by show (z.steps.set k.toNat v).getD i 0*_=_; rw [hs,if_neg hi])]
   show _ - z.steps.getD k.toNat 0*_+(z.steps.set k.toNat v).getD k.toNat 0*_=_
   rw [hs,if_pos rfl,hk0,Int.zero_mul]
   omega
  rw [r,e2,hz']
  show _+gC _ _ o (z.left - v)=_+(min z.left (cutS b l k.toNat).most*C k.toNat+gC _ _ o (z.left - min z.left (cutS b l k.toNat).most))
  rw [<- hv]
  omega
theorem xc {b:RBk} {l:List Int}:∀ (o:List Int) (z:Alloc),(∀ k∈o,0<=(cutS b l k.toNat).most)->0<=z.left->(o.foldl (allocM b l) z).left=max 0 (z.left - fS (fun k=>(cutS b l k.toNat).most) o)
 | [],z,_,h=>by show z.left=max 0 (z.left - 0); omega
 | k::o,z,hm,h=>by
  have hk:=hm k sQ
  rw [List.foldl_cons,xc o _ (fun x hx=>hm x (by simp [hx])) (by show 0<=z.left - min z.left (cutS b l k.toNat).most; omega)]
  show max 0 (z.left - min z.left (cutS b l k.toNat).most - _)=max 0 (z.left - ((cutS b l k.toNat).most+_))
  have h0:=fS_nn (f:=fun k=>(cutS b l k.toNat).most) o (fun x hx=>hm x (by simp [hx]))
  omega
def mostS (b:RBk) (l:List Int) (k:Nat):Int:=sumF (fun i=>(cutS b l i).most) k
theorem xW {b:RBk} (hb:ROk b) {l:List Int} (hl:CutsOk b l):∀ k∈ordM b l,0<=(cutS b l k.toNat).most:=fun k hk=>by
 have:=zdO hk
 exact (hb.sms.fld _ (hl.lt (k:=k.toNat) oQ).2.2).2.2.1
theorem jK {b:RBk} (hb:ROk b) {l s:List Int} (hl:CutsOk b l) (hs:StOk b s):(hangM b l s).isSome=(fitsM b l&&decide (freshM b s<=mostS b l l.length)):=by
 have hleft:=xc (b:=b) (l:=l) (ordM b l) (alloc0 b l (freshM b s)) (xW hb hl) (zcl hb hs).1
 rw [xf] at hleft
 simp only [mZ] at hleft
 have e:(alloc0 b l (freshM b s)).left=freshM b s:=rfl
 unfold hangM
 by_cases hf:fitsM b l=false
 ·rw [if_pos hf,hf]; rfl
 ·rw [if_neg hf,show fitsM b l=true by simpa using hf,Bool.true_and]
  dsimp only
  unfold allocA mostS
  by_cases h:0<((ordM b l).foldl (allocM b l) (alloc0 b l (freshM b s))).left
  ·rw [if_pos h,decide_eq_false oQ]; rfl
  ·rw [if_neg h,decide_eq_true oQ]; rfl
theorem xJ (f g:Nat->Int) (c:Int):∀ n,sumF (fun i=>f i*c+g i) n=sumF f n*c+sumF g n
 | 0=>by show (0:Int)=0*c+0; rw [Int.zero_mul]; rfl
 | n+1=>by
  show sumF (fun i=>f i*c+g i) n+(f n*c+g n)=(sumF f n+f n)*c+(sumF g n+g n)
  rw [xJ f g c n,Int.add_mul]
  omega
def numW (x:List Int) (n:Nat):Int:=sumF (fun i=>x.getD i 0*pw i) n
theorem qA:∀ (n:Nat) (x y:List Int),n<=5->x.length=n->y.length=n->(∀ i,0<=x.getD i 0/\x.getD i 0<=9)->(∀ i,0<=y.getD i 0/\y.getD i 0<=9)->lexM x y<0->numW x n<numW y n
 | 0,[],[],_,_,_,_,_,h=>by simp [lexM] at h
 | 1,[a],[p],_,_,_,hx,hy,h=>by
  simp only [lexM] at h
  show 0+a*10000<0+p*10000
  split at h
  ·omega
  ·split at h <;> omega
 | 2,[a,c],[p,q],_,_,_,hx,hy,h=>by
  have a0:=hx 0; have a1:=hx 1; have b0:=hy 0; have b1:=hy 1
  simp only [List.getD_cons_zero,List.getD_cons_succ] at a0 a1 b0 b1
  simp only [lexM] at h
  show 0+a*10000+c*1000<0+p*10000+q*1000
  repeat' (split at h)
  all_goals omega
 | 3,[a,c,d],[p,q,r],_,_,_,hx,hy,h=>by
  have a0:=hx 0; have a1:=hx 1; have a2:=hx 2; have b0:=hy 0; have b1:=hy 1; have b2:=hy 2
  simp only [List.getD_cons_zero,List.getD_cons_succ] at a0 a1 a2 b0 b1 b2
  simp only [lexM] at h
  show 0+a*10000+c*1000+d*100<0+p*10000+q*1000+r*100
  repeat' (split at h)
  all_goals omega
 | 4,[a,c,d,e],[p,q,r,s],_,_,_,hx,hy,h=>by
  have a0:=hx 0; have a1:=hx 1; have a2:=hx 2; have a3:=hx 3; have b0:=hy 0; have b1:=hy 1; have b2:=hy 2; have b3:=hy 3
  simp only [List.getD_cons_zero,List.getD_cons_succ] at a0 a1 a2 a3 b0 b1 b2 b3
  simp only [lexM] at h
  show 0+a*10000+c*1000+d*100+e*10<0+p*10000+q*1000+r*100+s*10
  repeat' (split at h)
  all_goals omega
 | 5,[a,c,d,e,f],[p,q,r,s,t],_,_,_,hx,hy,h=>by
  have a0:=hx 0; have a1:=hx 1; have a2:=hx 2; have a3:=hx 3; have a4:=hx 4; have b0:=hy 0; have b1:=hy 1; have b2:=hy 2; have b3:=hy 3; have b4:=hy 4
  simp only [List.getD_cons_zero,List.getD_cons_succ] at a0 a1 a2 a3 a4 b0 b1 b2 b3 b4
  simp only [lexM] at h
  show 0+a*10000+c*1000+d*100+e*10+f*1<0+p*10000+q*1000+r*100+s*10+t*1
  repeat' (split at h)
  all_goals omega
 | n+6,_,_,h5,_,_,_,_,_=>by omega
theorem qg {x:List Int} {n:Nat} (h5:n<=5) (hx:∀ i,0<=x.getD i 0/\x.getD i 0<=9):0<=numW x n/\numW x n<100000:=by
 have a0:=hx 0; have a1:=hx 1; have a2:=hx 2; have a3:=hx 3; have a4:=hx 4
 have h:n=0\/n=1\/n=2\/n=3\/n=4\/n=5:=by omega
 rcases h with rfl | rfl | rfl | rfl | rfl | rfl <;> simp only [numW,sumF,pw] <;> omega
theorem xe (b:RBk) (l x:List Int):sumF (fun i=>x.getD i 0*wgt b l i) l.length=sumF (fun i=>x.getD i 0*(cutS b l i).busy) l.length*1000000+numW x l.length:=by
 unfold numW
 rw [<- xJ]
 refine ji _ fun i _=>?_
 unfold wgt
 rw [mZ,Int.mul_add,Int.mul_assoc]
theorem cheapest {b:RBk} (hb:ROk b) {l s w:List Int} {q:Int} (hl:CutsOk b l) (hs:StOk b s) (h:hangM b l s=some (w,q)) {x:List Int} (hxl:x.length=l.length) (hx:∀ i,0<=x.getD i 0/\(i<l.length->x.getD i 0<=(cutS b l i).most)) (hsum:sumF (fun i=>x.getD i 0) l.length=freshM b s):needM b l w l.length<=needM b l x l.length/\(needM b l w l.length<needM b l x l.length\/decide (lexM x w<0)=false):=by
 have hn5:l.length<=5:=by have:=hl.len; have:=hb.sms.len; omega
 obtain ⟨hfit,hwl,hws,hq,hwb⟩:=jM hb hl hs h
 have nine:∀ {y:List Int},y.length=l.length->(∀ i,0<=y.getD i 0/\(i<l.length->y.getD i 0<=(cutS b l i).most))->∀ i,0<=y.getD i 0/\y.getD i 0<=9:=fun {y} hyl hy i=>by
  refine ⟨(hy i).1,?_⟩
  by_cases hi:i<l.length
  ·have h1:=(hy i).2 hi
   have h2:=(hb.sms.fld _ (hl.lt hi).2.2).2.2.2.1
   unfold cutS at h1
   omega
  ·rw [lE,lU oQ]
   decide
 have key:sumF (fun i=>w.getD i 0*wgt b l i) l.length<=sumF (fun i=>x.getD i 0*wgt b l i) l.length:=by
  have hr:∀ i,(alloc0 b l (freshM b s)).steps.getD i 0=0:=fun i=>by
   show (mB l.length (0:Int)).getD i 0=0
   rw [lE,List.getElem?_replicate]
   split <;> rfl
  have hc:=jI (b:=b) (l:=l) (fun i=>wgt b l i) (ordM b l) (alloc0 b l (freshM b s)) (jS b l) (fun k hk=>zdO hk) (fun k _=>hr _) (by show (mB l.length (0:Int)).length=_; rw [List.length_replicate])
  have hw:w=((ordM b l).foldl (allocM b l) (alloc0 b l (freshM b s))).steps:=by
   unfold hangM at h
   split at h
   ·cases h
   ·dsimp only at h
    split at h
    ·cases h
    ·cases h; rfl
  have z2:sumF (fun i=>(alloc0 b l (freshM b s)).steps.getD i 0*wgt b l i) l.length=0:=by
   rw [ji (g:=fun _=>0) l.length (fun i _=>by rw [hr i,Int.zero_mul])]
   have:=jC (f:=fun _=>0) (n:=0) (fun _ _=>rfl) l.length
   rwa [mO] at this
  rw [<- hw,z2,Int.zero_add] at hc
  rw [hc]
  have ho:=qe (m:=fun k=>(cutS b l k.toNat).most) (c:=wgt b l) (x:=fun k=>x.getD k.toNat 0) (ordM b l) (freshM b s) (qC hn5) (fun k hk=>by
   have:=zdO hk
   exact ⟨(hx _).1,(hx _).2 oQ⟩) (by rw [xf]; simp only [mZ]; exact hsum.symm)
  rw [xf] at ho
  simp only [mZ] at ho
  refine Int.le_trans (Int.le_of_eq ?_) ho
  show gC _ _ _ (freshM b s)=_
  congr 1
 rw [xe,xe] at key
 have n1:=qg hn5 (nine hwl hwb)
 have n2:=qg hn5 (nine hxl hx)
 unfold needM
 rw [jG,jG]
 refine ⟨by omega,?_⟩
 by_cases hlt:sumF (fun i=>w.getD i 0*(cutS b l i).busy) l.length<sumF (fun i=>x.getD i 0*(cutS b l i).busy) l.length
 ·exact .inl oQ
 ·right
  refine decide_eq_false fun hlex=>?_
  have:=qA l.length x w hn5 hxl hwl (nine hxl hx) (nine hwl hwb) hlex
  omega
theorem xS:∀ (r:List Int) (x:Int),r.foldl min x<=x/\(∀ y∈r,r.foldl min x<=y)/\(r.foldl min x=x\/r.foldl min x∈r)
 | [],x=>⟨Int.le_refl _,fun y hy=>(by cases hy),.inl rfl⟩
 | z::r,x=>by
  obtain ⟨h1,h2,h3⟩:=xS r (min x z)
  rw [List.foldl_cons]
  refine ⟨by omega,fun y hy=>?_,?_⟩
  ·rcases lI.1 hy with rfl | hy
   ·omega
   ·exact h2 y hy
  ·rcases h3 with h3 | h3
   ·rw [h3]
    by_cases e:x<=z
    ·left; omega
    ·right; rw [Int.min_eq_right oQ]; simp
   ·right; simp [h3]
theorem xR:∀ (r:List Int) (x:Int),x<=r.foldl max x/\(∀ y∈r,y<=r.foldl max x)/\(r.foldl max x=x\/r.foldl max x∈r)
 | [],x=>⟨Int.le_refl _,fun y hy=>(by cases hy),.inl rfl⟩
 | z::r,x=>by
  obtain ⟨h1,h2,h3⟩:=xR r (max x z)
  rw [List.foldl_cons]
  refine ⟨by omega,fun y hy=>?_,?_⟩
  ·rcases lI.1 hy with rfl | hy
   ·omega
   ·exact h2 y hy
  ·rcases h3 with h3 | h3
   ·rw [h3]
    by_cases e:z<=x
    ·left; omega
    ·right; rw [Int.max_eq_right oQ]; simp
   ·right; simp [h3]
theorem ql {xs:List Int} (hne:xs≠[]):(∀ y∈xs,(spreadM xs).1<=y/\y<=(spreadM xs).2)/\(spreadM xs).1∈xs/\(spreadM xs).2∈xs:=by
 cases xs with
 | nil=>exact absurd rfl hne
 | cons x r =>
  obtain ⟨a1,a2,a3⟩:=xS r x
  obtain ⟨c1,c2,c3⟩:=xR r x
  show (∀ y∈x::r,r.foldl min x<=y/\y<=r.foldl max x)/\r.foldl min x∈x::r/\r.foldl max x∈x::r
  refine ⟨fun y hy=>?_,?_,?_⟩
  ·rcases lI.1 hy with rfl | hy
   ·exact ⟨a1,c1⟩
   ·exact ⟨a2 y hy,c2 y hy⟩
  ·rcases a3 with h | h
   ·rw [h]; simp
   ·simp [h]
  ·rcases c3 with h | h
   ·rw [h]; simp
   ·simp [h]
theorem sq_in {b:RBk} {all:List (List Int)} {l:List Int} (hne:all≠[]) (h:sqOk b all l=true):(∀ s∈all,∀ w q,hangM b l s=some (w,q)->sqLo b all l<=q/\q<=sqHi b all l)/\(∃ s∈all,∃ w,hangM b l s=some (w,sqLo b all l))/\∃ s∈all,∃ w,hangM b l s=some (w,sqHi b all l):=by
 have hall:=(jF b all l).1 h
 have hlt:¬ (waysM b all l).length<all.length:=fun hh=>by
  unfold sqOk squaresM at h
  rw [if_pos hh] at h
  cases h
 have e:squaresM b all l=some (spreadM ((waysM b all l).map (·.2))):=by unfold squaresM; rw [if_neg hlt]
 have hnn:(waysM b all l).map (·.2)≠[]:=fun hh=>by
  have h1:=congrArg List.length hh
  rw [lJ] at h1
  have h2:0<all.length:=List.length_pos_iff.2 hne
  simp only [List.length_nil] at h1
  omega
 obtain ⟨g1,g2,g3⟩:=ql hnn
 unfold sqLo sqHi
 rw [e]
 show (∀ s∈all,∀ w q,hangM b l s=some (w,q)->(spreadM _).1<=q/\q<=(spreadM _).2)/\(∃ s∈all,∃ w,hangM b l s=some (w,(spreadM _).1))/\∃ s∈all,∃ w,hangM b l s=some (w,(spreadM _).2)
 have back:∀ q,q∈(waysM b all l).map (·.2)->∃ s∈all,∃ w,hangM b l s=some (w,q):=fun q hq=>by
  obtain ⟨⟨w,q'⟩,hz,rfl⟩:=lY.1 hq
  obtain ⟨s,hs,hz⟩:=List.mem_filterMap.1 hz
  exact ⟨s,hs,w,hz⟩
 exact ⟨fun s hs w q hq=>g1 q (lY.2 ⟨(w,q),List.mem_filterMap.2 ⟨s,hs,hq⟩,rfl⟩),back _ g2,back _ g3⟩
theorem xX {b o:RBk} {all:List (List Int)} {l:List Int} (hne:all≠[]) (hb:sqOk b all l=true) (h:∀ s∈all,∀ w q,hangM b l s=some (w,q)->∃ w' q',hangM o l s=some (w',q')/\q'<=q):sqOk o all l=true/\sqLo o all l<=sqLo b all l/\sqHi o all l<=sqHi b all l:=by
 have hall:=(jF b all l).1 hb
 have ho:sqOk o all l=true:=(jF o all l).2 fun s hs=>by
  obtain ⟨⟨w,q⟩,hz⟩:=Option.isSome_iff_exists.1 (hall s hs)
  obtain ⟨w',q',h1,_⟩:=h s hs w q hz
  rw [h1]; rfl
 obtain ⟨b1,⟨s1,hs1,w1,e1⟩,_⟩:=sq_in hne hb
 obtain ⟨o1,_,s2,hs2,w2,e2⟩:=sq_in hne ho
 refine ⟨ho,?_,?_⟩
 ·obtain ⟨w',q',g1,g2⟩:=h s1 hs1 w1 _ e1
  have:=(o1 s1 hs1 w' q' g1).1
  omega
 ·obtain ⟨⟨w,q⟩,hz⟩:=Option.isSome_iff_exists.1 (hall s2 hs2)
  obtain ⟨w',q',g1,g2⟩:=h s2 hs2 w q hz
  rw [e2] at g1
  cases g1
  have:=(b1 s2 hs2 w q hz).2
  omega
theorem xv {b:RBk} (hb:ROk b) {l s w:List Int} {q:Int} (hl:CutsOk b l) (hs:StOk b s) (h:hangM b l s=some (w,q)):q=spoilM b l l.length+gC (fun k=>(cutS b l k.toNat).most) (fun k=>(cutS b l k.toNat).busy) (ordM b l) (freshM b s)/\freshM b s<=fS (fun k=>(cutS b l k.toNat).most) (ordM b l):=by
 obtain ⟨hfit,hwl,hsum,hq,_⟩:=jM hb hl hs h
 have hfo:=jK hb hl hs
 rw [h,hfit,Bool.true_and] at hfo
 have hle:freshM b s<=mostS b l l.length:=of_decide_eq_true hfo.symm
 have hr:∀ i,(alloc0 b l (freshM b s)).steps.getD i 0=0:=fun i=>by
  show (mB l.length (0:Int)).getD i 0=0
  rw [lE,List.getElem?_replicate]
  split <;> rfl
 have hc:=jI (b:=b) (l:=l) (fun i=>(cutS b l i).busy) (ordM b l) (alloc0 b l (freshM b s)) (jS b l) (fun k hk=>zdO hk) (fun k _=>hr _) (by show (mB l.length (0:Int)).length=_; rw [List.length_replicate])
 have hw:w=((ordM b l).foldl (allocM b l) (alloc0 b l (freshM b s))).steps:=by
  unfold hangM at h
  split at h
  ·cases h
  ·dsimp only at h
   split at h
   ·cases h
   ·cases h; rfl
 have z2:sumF (fun i=>(alloc0 b l (freshM b s)).steps.getD i 0*(cutS b l i).busy) l.length=0:=by
  rw [ji (g:=fun _=>0) l.length (fun i _=>by rw [hr i,Int.zero_mul])]
  have:=jC (f:=fun _=>0) (n:=0) (fun _ _=>rfl) l.length
  rwa [mO] at this
 rw [<- hw,z2,Int.zero_add] at hc
 refine ⟨?_,?_⟩
 ·rw [hq]
  unfold needM
  rw [jG,<- jB,hc]
  rfl
 ·rw [xf]
  simp only [mZ]
  exact hle
theorem x7 {b:RBk} (hb:ROk b) {r:Int} (h1:b.round<=r) (h2:r<=40) {l s w:List Int} {q:Int} (hl:CutsOk b l) (hs:StOk b s) (h:hangM (atRound b r) l s=some (w,q)):∃ w' q',hangM b l s=some (w',q')/\q'<=q:=by
 have hrb:=hb.rnd.round
 have hbr:=zb9 hb (r:=r) oQ h2
 have hsome:(hangM (atRound b b.round) l s).isSome=true:=jL h1 (by rw [h]; rfl)
 have hsome:(hangM b l s).isSome=true:=hsome
 obtain ⟨⟨w',q'⟩,hz⟩:=Option.isSome_iff_exists.1 hsome
 refine ⟨w',q',hz,?_⟩
 obtain ⟨c1,_⟩:=xv hb hl hs hz
 obtain ⟨c2,c3⟩:=xv hbr (l:=l) (s:=s) ⟨hl.pos,hl.bnd,hl.asc⟩ ⟨hs.len,hs.bnd⟩ h
 have hm:=xW hb hl
 have hf0:=(zcl hb hs).1
 have hfr:freshM (atRound b r) s=freshM b s+(r - b.round):=by
  unfold freshM
  show r - b.steps+_=b.round - b.steps+_+(r - b.round)
  omega
 have sh:=jJ (m:=fun k=>(cutS b l k.toNat).most) (c:=fun k=>(cutS b l k.toNat).busy) (c0:=0) (ordM b l) (freshM (atRound b r) s) (r - b.round) (fun k hk=>by
  have:=zdO hk
  exact ⟨(hb.sms.fld _ (hl.lt (k:=k.toNat) oQ).2.2).2.2.2.2.1,hm k hk⟩) oQ oQ c3
 rw [Int.mul_zero,Int.add_zero,show freshM (atRound b r) s - (r - b.round)=freshM b s by omega] at sh
 have e2:q=spoilM b l l.length+gC (fun k=>(cutS b l k.toNat).most) (fun k=>(cutS b l k.toNat).busy) (ordM b l) (freshM (atRound b r) s):=by
  rw [c2,jB,jB]; rfl
 omega
structure Wider (b o:RBk):Prop where
 steps:o.steps=b.steps
 round:o.round=b.round
 roll:b.roll<=o.roll
 rolls:b.rolls<=o.rolls
 len:o.seams.length=b.seams.length
 shr:o.shrinks=b.shrinks
 mes:o.measures=b.measures
 sm:∀ i,i<b.seams.length->(sm o i).step=(sm b i).step/\(sm o i).busy=(sm b i).busy/\(sm o i).spoil=(sm b i).spoil/\(sm o i).whole=(sm b i).whole/\(sm b i).most<=(sm o i).most
theorem Wider.at {b o:RBk} (h:Wider b o) (r:Int):Wider (atRound b r) (atRound o r):=⟨h.steps,rfl,h.roll,h.rolls,h.len,h.shr,h.mes,h.sm⟩
theorem Wider.wide {b o:RBk} (h:Wider b o) {i:Nat} (hi:i<b.seams.length):wideM o i=wideM b i:=by
 unfold wideM
 rw [h.len,h.steps,(h.sm i hi).1,(h.sm 0 oQ).1]
 by_cases e:i+1<b.seams.length
 ·rw [if_pos e,if_pos e,(h.sm _ e).1]
 ·rw [if_neg e,if_neg e]
theorem Wider.tog {b o:RBk} (h:Wider b o) (h0:0<b.seams.length) (s:List Int) (c:Nat):∀ k,togM o s c k=togM b s c k
 | 0=>rfl
 | k+1=>by
  unfold togM nowM
  rw [h.tog h0 s c k,h.len,h.wide (Nat.mod_lt _ h0)]
theorem Wider.from {b o:RBk} (h:Wider b o) (h0:0<b.seams.length):∀ (r:List RBand) (p:List Int),fromM o p r=fromM b p r
 | [],p=>by
  unfold fromM rightM
  rw [h.mes]
  simp only [h.tog h0]
 | x::r,p=>by
  unfold fromM
  congr 1
  funext n
  exact h.from h0 r _
theorem Wider.states {b o:RBk} (h:Wider b o) (h0:0<b.seams.length):zf o=zf b:=by
 unfold zf
 rw [h.shr]
 exact h.from h0 _ _
theorem Wider.cuts {b o:RBk} (h:Wider b o) {l:List Int} (hl:CutsOk b l):CutsOk o l:=⟨hl.pos,fun n hn=>by rw [h.len]; exact hl.bnd n hn,hl.asc⟩
theorem Wider.cut {b o:RBk} (h:Wider b o) {l:List Int} (hl:CutsOk b l) {k:Nat} (hk:k<l.length):(cutS o l k).step=(cutS b l k).step/\(cutS o l k).busy=(cutS b l k).busy/\(cutS o l k).spoil=(cutS b l k).spoil/\(cutS o l k).whole=(cutS b l k).whole/\(cutS b l k).most<=(cutS o l k).most:=h.sm _ (hl.lt hk).2.2
theorem Wider.st {b o:RBk} (h:Wider b o) {s:List Int} (hs:StOk b s):StOk o s:=⟨by rw [h.len]; exact hs.len,fun i hi=>by
 rw [h.len] at hi
 rw [h.wide hi]
 exact hs.bnd i hi⟩
theorem Wider.fits {b o:RBk} (h:Wider b o) {l:List Int} (hl:CutsOk b l) (hf:fitsM b l=true):fitsM o l=true:=by
 unfold fitsM at hf ⊢
 rw [mX,decide_eq_true_eq,List.all_eq_true] at hf ⊢
 refine ⟨by have:=h.rolls; omega,fun k hk=>?_⟩
 have h1:=hf.2 k hk
 have hkl:=List.mem_range.1 hk
 rw [mX,decide_eq_true_eq] at h1 ⊢
 rw [(h.cut hl hkl).2.2.2.1]
 refine ⟨h1.1,?_⟩
 have e:(stripM o l k).2=(stripM b l k).2:=by
  unfold stripM endM
  dsimp only
  rw [h.steps,(h.cut hl hkl).1,(h.cut hl hl.pos).1]
  by_cases e:k+1<l.length
  ·rw [if_pos e,if_pos e,(h.cut hl e).1]
  ·rw [if_neg e,if_neg e]
 rw [e]
 have:=h.roll
 omega
theorem Wider.hang {b o:RBk} (h:Wider b o) (hb:ROk b) (ho:ROk o) {l s w:List Int} {q:Int} (hl:CutsOk b l) (hs:StOk b s) (hz:hangM b l s=some (w,q)):∃ w' q',hangM o l s=some (w',q')/\q'<=q:=by
 obtain ⟨hfit,hwl,hsum,hq,hws⟩:=jM hb hl hs hz
 have hfo:=jK hb hl hs
 rw [hz,hfit,Bool.true_and] at hfo
 have hle:freshM b s<=mostS b l l.length:=of_decide_eq_true hfo.symm
 have hfr:freshM o s=freshM b s:=by unfold freshM; rw [h.round,h.steps]
 have hms:∀ n,n<=l.length->mostS b l n<=mostS o l n:=by
  intro n
  induction n with
  | zero=>intro _; exact Int.le_refl _
  | succ n ih =>
   intro hn
   have h1:=ih oQ
   have h2:=(h.cut hl (k:=n) oQ).2.2.2.2
   show mostS b l n+(cutS b l n).most<=mostS o l n+(cutS o l n).most
   omega
 have hfo2:=jK ho (h.cuts hl) (h.st hs)
 have hms:=hms l.length (mL _)
 rw [h.fits hl hfit,Bool.true_and,decide_eq_true (show freshM o s<=mostS o l l.length by omega)] at hfo2
 obtain ⟨⟨w',q'⟩,hz2⟩:=Option.isSome_iff_exists.1 hfo2
 refine ⟨w',q',hz2,?_⟩
 obtain ⟨_,_,_,hq2,_⟩:=jM ho (h.cuts hl) (h.st hs) hz2
 have:=(cheapest ho (h.cuts hl) (h.st hs) hz2 (x:=w) hwl (fun i=>⟨(hws i).1,fun hi=>by have h1:=(hws i).2 hi; have h2:=(h.cut hl hi).2.2.2.2; omega⟩) (by rw [hsum,hfr])).1
 have e:needM o l w l.length=needM b l w l.length:=by
  unfold needM
  refine ji _ fun i hi=>?_
  rw [(h.cut hl hi).2.1,(h.cut hl hi).2.2.1]
 omega
theorem Wider.sq {b o:RBk} (h:Wider b o) (hb:ROk b) (ho:ROk o) {all:List (List Int)} (hne:all≠[]) (hall:okAll b all) {l:List Int} (hl:CutsOk b l) (hs:sqOk b all l=true):sqOk o all l=true/\sqHi o all l<=sqHi b all l:=by
 obtain ⟨h1,_,h3⟩:=xX (o:=o) hne hs fun s hs w q hz=>h.hang hb ho hl (hall s hs) hz
 exact ⟨h1,h3⟩
theorem Wider.best {b o:RBk} (h:Wider b o) (hb:ROk b) (ho:ROk o) {all:List (List Int)} (hne:all≠[]) (hall:okAll b all) {c:Nat} {bt:List Int×Int->List Int×Int->Bool} (hp:PlanA b all bt c):¬ NoPlan o all:=fun hn=>by
 have h1:=(h.sq hb ho hne hall (zeD hb hp.1 hp.2.1) hp.2.2.1).1
 have h2:=hn c hp.1 (by rw [h.len]; exact hp.2.1)
 rw [h.len,h1] at h2
 cases h2
theorem Wider.bestLe {b o:RBk} (h:Wider b o) (hb:ROk b) (ho:ROk o) {all:List (List Int)} (hne:all≠[]) (hall:okAll b all) {c d:Nat} (hp:PlanA b all cheaperM c) (hq:PlanA o all cheaperM d):sqHi o all (zw d o.seams.length)<=sqHi b all (zw c b.seams.length):=by
 obtain ⟨h1,h2⟩:=h.sq hb ho hne hall (zeD hb hp.1 hp.2.1) hp.2.2.1
 have h3:=(xB (d:=c) hq hp.1 (by rw [h.len]; exact hp.2.1) (by rw [h.len]; exact h1)).1
 rw [h.len] at h3 ⊢
 omega
theorem Wider.fewLe {b o:RBk} (h:Wider b o) (hb:ROk b) (ho:ROk o) {all:List (List Int)} (hne:all≠[]) (hall:okAll b all) {c d:Nat} (hp:PlanA b all shorterM c) (hq:PlanA o all shorterM d):(zw d o.seams.length).length<=(zw c b.seams.length).length:=by
 obtain ⟨h1,h2⟩:=h.sq hb ho hne hall (zeD hb hp.1 hp.2.1) hp.2.2.1
 have h3:=qz (d:=c) hq hp.1 (by rw [h.len]; exact hp.2.1) (by rw [h.len]; exact h1)
 rw [h.len] at h3 ⊢
 rcases mR (zw c b.seams.length).length (zw d b.seams.length).length with hlt | hge
 ·have:smallerM (zw c b.seams.length) (zw d b.seams.length)=true:=(kJ _ _).2 (.inl hlt)
  rw [h3] at this
  cases this
 ·exact hge
theorem Wider.canAt {b o:RBk} (h:Wider b o) (hb:ROk b) (ho:ROk o) {all:List (List Int)} (hne:all≠[]) (hall:okAll b all) {r:Int} (h1:b.steps<=r) (h2:r<=40) (hc:canAt b all r=true):canAt o all r=true:=by
 unfold Go.Vel.canAt at hc ⊢
 rw [List.any_eq_true] at hc ⊢
 obtain ⟨c,c1,c2⟩:=hc
 rw [mX,decide_eq_true_eq] at c2
 have hcl:=List.mem_range.1 c1
 have hbr:=zb9 hb (r:=r) h1 h2
 have hor:=zb9 ho (r:=r) (by rw [h.steps]; exact h1) h2
 refine ⟨c,by rw [h.len]; exact c1,?_⟩
 rw [mX,decide_eq_true_eq,h.len]
 exact ⟨c2.1,((h.at r).sq hbr hor hne (zgN hall r) (zeD hbr c2.1 hcl) c2.2).1⟩
theorem Wider.widest {b o:RBk} (h:Wider b o) (hb:ROk b) (ho:ROk o) {all:List (List Int)} (hne:all≠[]) (hall:okAll b all) (hs:(widestM b all).isSome=true):(widestM o all).isSome=true/\(widestM b all).getD 0<=(widestM o all).getD 0:=by
 have hst:=hb.rnd.steps
 obtain ⟨n,hn⟩:=Option.isSome_iff_exists.1 hs
 have hbd:=qo oQ hn
 have hc:=xn (b:=b) (all:=all) oQ hbd.1 hbd.2
 rw [hn] at hc
 simp only [Option.isSome_some,Option.getD_some,Int.le_refl,decide_true,Bool.and_true] at hc
 have hco:=h.canAt hb ho hne hall hbd.1 hbd.2 hc
 rw [xn (b:=o) (by rw [h.steps]; omega) (by rw [h.steps]; exact hbd.1) hbd.2,mX,decide_eq_true_eq] at hco
 rw [hn]
 exact hco
theorem xH {b:RBk} (hb:ROk b) {r:Int} (h1:b.round<=r) (h2:r<=40) {all:List (List Int)} (hne:all≠[]) (hall:okAll b all) {l:List Int} (hl:CutsOk b l) (hs:sqOk (atRound b r) all l=true):sqOk b all l=true/\sqLo b all l<=sqLo (atRound b r) all l/\sqHi b all l<=sqHi (atRound b r) all l:=xX (b:=atRound b r) (o:=b) hne hs fun s hs w q hz=>x7 hb h1 h2 hl (hall s hs) hz
theorem jW {b:RBk} {l:List Int} (hne:zf b≠[]):(canM b l=1↔∀ s∈zf b,(hangM b l s).isSome=true)/\(canM b l=2↔∀ s∈zf b,hangM b l s=none):=by
 have hpos:0<(zf b).length:=List.length_pos_iff.2 hne
 have hle:=zd1 b (zf b) l
 have k1:(waysM b (zf b) l).length=(zf b).length↔∀ s∈zf b,(hangM b l s).isSome=true:=by
  rw [<- jF]
  unfold sqOk squaresM
  by_cases h:(waysM b (zf b) l).length<(zf b).length
  ·rw [if_pos h]; simp; omega
  ·rw [if_neg h]; simp; omega
 have k2:(waysM b (zf b) l).length=0↔∀ s∈zf b,hangM b l s=none:=by
  rw [List.length_eq_zero_iff]
  unfold waysM
  rw [List.filterMap_eq_nil_iff]
 unfold canM
 by_cases e1:(waysM b (zf b) l).length=(zf b).length
 ·rw [if_pos e1]
  refine ⟨⟨fun _=>k1.1 e1,fun _=>rfl⟩,⟨fun h=>(by cases h),fun h=>?_⟩⟩
  have:=k2.2 h
  omega
 ·rw [if_neg e1]
  by_cases e2:(waysM b (zf b) l).length=0
  ·rw [if_pos e2]
   exact ⟨⟨fun h=>(by cases h),fun h=>absurd (k1.2 h) e1⟩,⟨fun _=>k2.1 e2,fun _=>rfl⟩⟩
  ·rw [if_neg e2]
   exact ⟨⟨fun h=>(by cases h),fun h=>absurd (k1.2 h) e1⟩,⟨fun h=>(by cases h),fun h=>absurd (k2.2 h) e2⟩⟩
theorem qk {b:RBk} {r:Int} (h1:b.round<=r) {l:List Int} (hne:zf b≠[]):(canM b l=2->canM (atRound b r) l=2)/\(canM (atRound b r) l=1->canM b l=1):=by
 have hne2:zf (atRound b r)≠[]:=by rw [jA]; exact hne
 have up:∀ s,(hangM (atRound b r) l s).isSome=true->(hangM b l s).isSome=true:=fun s hs=>jL (b:=b) (r:=b.round) h1 hs
 refine ⟨fun h=>(jW hne2).2.2 fun s hs=>?_,fun h=>(jW hne).1.2 fun s hs=>?_⟩
 ·rw [jA] at hs
  have h0:=(jW hne).2.1 h s hs
  cases hz:hangM (atRound b r) l s with
  | none=>rfl
  | some z =>
   have:=up s (by rw [hz]; rfl)
   rw [h0] at this
   cases this
 ·exact up s ((jW hne2).1.1 h s (by rw [jA]; exact hs))
theorem xl {b:RBk} (hb:ROk b) {r:Int} (h1:b.round<=r) (h2:r<=40) {all:List (List Int)} (hne:all≠[]) (hall:okAll b all) {d:Nat} (hq:PlanA (atRound b r) all cheaperM d):¬ NoPlan b all/\∀ c,PlanA b all cheaperM c->sqHi b all (zw c b.seams.length)<=sqHi (atRound b r) all (zw d b.seams.length):=by
 obtain ⟨q1,_,q3⟩:=xH hb h1 h2 hne hall (zeD hb hq.1 hq.2.1) hq.2.2.1
 refine ⟨fun hn=>?_,fun c hp=>?_⟩
 ·have:=hn d hq.1 hq.2.1
  rw [show sqOk b all (zw d b.seams.length)=true from q1] at this
  cases this
 ·have:=(xB (d:=d) hp hq.1 hq.2.1 q1).1
  exact Int.le_trans this q3
def preS (b:RBk):Nat->List (List Int)
 | 0=>[[]]
 | i+1=>(preS b i).flatMap fun p=>(numsM (bd b i)).map fun n=>p++[n]
def extL:List (List Int)->List RBand->List (List Int)
 | L,[]=>L
 | L,x::r=>extL (L.flatMap fun p=>(numsM x).map fun n=>p++[n]) r
theorem xt:∀ (r:List RBand) (L:List (List Int)) (x:RBand),extL L (r++[x])=(extL L r).flatMap fun p=>(numsM x).map fun n=>p++[n]
 | [],L,x=>rfl
 | y::r,L,x=>xt r _ x
theorem xC (b:RBk):∀ (r:List RBand) (L:List (List Int)),(L.flatMap fun p=>fromM b p r)=(extL L r).filter (rightM b)
 | [],L=>by
  unfold extL
  induction L with
  | nil=>rfl
  | cons p L ih =>
   rw [List.flatMap_cons,ih]
   unfold fromM
   by_cases h:rightM b p=true
   ·rw [if_pos h,List.filter_cons_of_pos h]; rfl
   ·rw [if_neg h,List.filter_cons_of_neg h]; rfl
 | x::r,L=>by
  have key:∀ p,fromM b p (x::r)=(numsM x).flatMap fun n=>fromM b (p++[n]) r:=fun p=>by
   conv=>lhs; unfold fromM
  unfold extL
  rw [<- xC b r]
  induction L with
  | nil=>rfl
  | cons p L ih=>rw [List.flatMap_cons,ih,List.flatMap_cons,List.flatMap_append,List.flatMap_map,key]
theorem xE (b:RBk):∀ i,i<=b.shrinks.length->preS b i=extL [[]] (b.shrinks.take i)
 | 0,_=>by rw [List.take_zero]; rfl
 | i+1,h=>by
  rw [yP (ko (b:=b) (i:=i) oQ),xt,<- xE b i oQ]
  rfl
theorem xZ (b:RBk):(preS b b.shrinks.length).filter (rightM b)=zf b:=by
 rw [xE b _ (mL _),lW,<- xC]
 rw [List.flatMap_cons,List.flatMap_nil,lR]
 rfl
theorem xb {b:RBk} (hb:ROk b):∀ i,i<=b.shrinks.length->∀ p∈preS b i,p.length=i/\PreB b p
 | 0,_,p,hp=>by rw [lS.1 hp]; exact ⟨rfl,zdR b⟩
 | i+1,h,p,hp=>by
  obtain ⟨q,hq,hp⟩:=List.mem_flatMap.1 hp
  obtain ⟨n,hn,rfl⟩:=lY.1 hp
  obtain ⟨h1,h2⟩:=xb hb i oQ q hq
  have hbd:=hb.cls.bnd i (by have:=hb.cls.len; omega)
  rw [zgb hbd.2.1] at hn
  exact ⟨by rw [lF,h1]; rfl,zcS h2 oQ (by rw [h1]; exact hn.1) (by rw [h1]; exact hn.2)⟩
theorem jQ:∀ (k:Nat) (n:Int),(numsF n k).length=k
 | 0,_=>rfl
 | k+1,n=>by unfold numsF; rw [lZ,jQ k]
theorem jE {f:List Int->List (List Int)} (hf:∀ p,(f p).length<=3):∀ L:List (List Int),(L.flatMap f).length<=L.length*3
 | []=>mN _
 | p::L=>by
  rw [List.flatMap_cons,lF,lZ]
  have h1:=hf p
  have h2:=jE hf L
  omega
theorem xF {b:RBk} (hb:ROk b):∀ i,i<=b.shrinks.length->(preS b i).length<=3 ^ i
 | 0,_=>mL _
 | i+1,h=>by
  have h1:=xF hb i oQ
  have hbd:=hb.cls.bnd i (by have:=hb.cls.len; omega)
  have h2:=jE (f:=fun p=>(numsM (bd b i)).map fun n=>p++[n]) (fun p=>by
   rw [lJ]
   unfold numsM
   rw [jQ]
   omega) (preS b i)
  rw [Nat.pow_succ]
  show ((preS b i).flatMap _).length<=_
  omega
end Go.Vel
namespace Go.Vel
open Go Go.Conc Go.Proofs
section
variable {P:Program} {gm:Nat->Option Nat} {T:Goroutine->Hp->Prop} {Y:KX P gm T} {ds:List Nat} {k:List Item} {env env':List AV} {K:KV}
theorem TK.nilRow {t e:TypeId} {x:Option Addr} {s j:Nat} {K':Nat->KV} (hu:∀ j',Upd K j (.row [.v (.slice x 0 0)] t s) j (.row [.sl j' 0 0] t s) (K' j')) (h:∀ j',j'∉keys K->TK Y ds k env ((j',.cells [] e false)::K' j')):TK Y ds k env K:=fun A hA φ H ts h1 h2 h3 h4 h5 h6=>by
 have hk:A.length∉keys K:=fun hm=>absurd (hA.view.lt hm) (Nat.lt_irrefl _)
 have hH:=h5.virtO (o:=.cells [] e false) (fun φ n hl=>absurd rfl hl) (fun hl=>hl rfl)
 have hag:=yk φ A.length ⟨0,0,0⟩
 have hlen:(A++[AObj.cells [] e false]).length=A.length+1:=by simp
 have hds:dsC (upd3 φ A.length ⟨0,0,0⟩) ds=dsC φ ds:=by
  unfold dsC
  exact List.map_congr_left fun d hd'=>by rw [hag d (h4 d hd')]
 have hj:=hA.view.get (hu A.length).mem
 have hjl:j<A.length:=(lD.1 hj).1
 have hj2:(A++[AObj.cells [] e false])[j]? =some (.row [.v (.slice x 0 0)] t s):=by rw [List.getElem?_append_left hjl]; exact hj
 have hstep:=hA.step (.push hA.view hA.nd (.cells [] e false))
 have hstep2:=hstep.step (.set hstep.view hstep.nd (Upd.tail (hu A.length)))
 rw [<- hds]
 refine h _ hk _ hstep2 _ H ts (h1.trans hag h2) (by simp; omega) (by simpa using h3.mono hag oQ) (fun d hd=>by have:=h4 d hd; simp; omega) (hH.turn hj2 (fun ho=>?_) (fun h=>h) (fun _=>rfl) (fun hs=>hs)) (by simpa using h6.mono hag oQ)
 obtain ⟨q0,q1,q2⟩:=ho
 refine ⟨fun hc=>absurd (q0 hc) sQ,q1,fun hc=>?_⟩
 obtain ⟨cur,p1,p2,p3,p4,p5⟩:=q2 hc
 refine ⟨cur,p1,p2,p3,by simpa using p4,fun t' a ha=>?_⟩
 cases t' with
 | zero =>
  simp only [List.getElem?_cons_zero,Option.some.injEq] at ha
  subst ha
  obtain ⟨y,hy,hr⟩:=p5 0 _ rfl
  refine ⟨y,hy,?_⟩
  rw [inv_v hr]
  exact .sl sQ (mN _) fun hp=>absurd hp (Nat.lt_irrefl _)
 | succ t'=>simp at ha
theorem jV:∀ R L:KV,Split (R++L) R L
 | [],L=>.none L
 | x::R,L=>.left (jV R L)
theorem TK.dropP {R L:KV} (hp:K.Perm (R++L)) (h:TK Y ds k env R):TK Y ds k env K:=TK.perm hp (TK.keep (jV R L) h)
end
def objsL (P:List (Nat×List Int)):KV:=P.map fun x=>(x.1,.cells (x.2.map intA) 3 false)
def refsL (P:List (Nat×List Int)):List AV:=P.map fun x=>.sl x.1 0 x.2.length
theorem xx {P:List (Nat×List Int)} {x:Nat×List Int} (h:x∈P):(x.1,AObj.cells (x.2.map intA) 3 false)∈objsL P:=lY.2 ⟨x,h,rfl⟩
theorem xo {P:List (Nat×List Int)} {k:Nat} {n:Int} (hk:k<P.length) (h:n=(k:Int)) {e:TypeId} {sz:Nat}:takeO (.row (refsL P) e sz) (n.toNat*1) 1=some [.sl P[k].1 0 P[k].2.length]:=by
 subst h
 rw [mZ,Nat.mul_one]
 simp only [takeO,AObj.look]
 rw [if_pos (by simp [refsL]; omega)]
 simp [List.take_one,refsL,hk]
theorem ints1 (xs:List Int):(xs.map intA).all oneA=true:=by
 rw [List.all_map]; exact List.all_eq_true.2 fun _ _=>rfl
theorem xU {P:List (Nat×List Int)} {A:List (List Int)} (h:P.map (·.2)=A) {k:Nat} (hk:k<P.length):A[k]? =some P[k].2:=by
 rw [<- h]
 simp [hk]
theorem x6 {K:KV} {x:Nat×AObj}:x∈K->∃ R,Rem K x R:=by
 induction K with
 | nil=>intro h; cases h
 | cons y K ih =>
  intro h
  rcases lI.1 h with rfl | h
  ·exact ⟨_,.head⟩
  ·obtain ⟨R,hR⟩:=ih h
   exact ⟨_,.tail hR⟩
def stepS (b:RBk) (i:Nat) (p:List Int):List (List Int):=(numsM (bd b i)).map fun n=>p++[n]
theorem qu (x:RBand):∀ t,t<(x.high+1 - x.low).toNat->(numsM x)[t]? =some (x.low+t):=by
 have key:∀ (k:Nat) (n:Int) (t:Nat),t<k->(numsF n k)[t]? =some (n+t):=by
  intro k
  induction k with
  | zero=>intro n t h; omega
  | succ k ih =>
   intro n t h
   unfold numsF
   cases t with
   | zero=>simp
   | succ t =>
    rw [List.getElem?_cons_succ,ih (n+1) t oQ]
    congr 1
    omega
 exact fun t h=>key _ _ t h
theorem jR (x:RBand):(numsM x).length=(x.high+1 - x.low).toNat:=by
 unfold numsM
 rw [jQ]
theorem qh {α:Type} {A:List α} {x:α} {L M:List α}:(x::(A++(L++M))).Perm (A++M++(x::L)):=by
 have h1:(A++(L++M)).Perm ((A++M)++L):=by
  rw [List.append_assoc]
  exact List.Perm.append_left A lH
 exact (List.Perm.cons x h1).trans (List.perm_middle (a:=x) (l₁:=A++M) (l₂:=L)).symm
instance:Cal tp 162:={}
instance:Cal tp 73:={}
theorem xM {main T} (hT:zo tp main T) {gm} {b:RBk} {s h e j:Nat} {st:List Int} {et:TypeId} {m:RMeas} (hb:ROk b) (hs:StOk b st) (hm:0<=m.cloth/\m.cloth<b.seams.length/\1<=m.many/\m.many<=b.seams.length) :
  zA tp T gm 162 [.agg (zE b s h e),.agg (measC m),.sl j 0 st.length] [(s,zk b),(j,.cells (st.map intA) et false)] (fun r K'=>r=zP (decide (togM b st m.cloth.toNat m.many.toNat=m.wide))/\K'=[(s,zk b),(j,.cells (st.map intA) et false)]):=by
 refine zp 17 hT Tryz.func162 fun Y hret=>?_
 refine au [] ?_
 obtain ⟨mc,mm,mw⟩:=m
 dsimp only at hm
 obtain ⟨c,rfl⟩:=Int.eq_ofNat_of_zero_le hm.1
 obtain ⟨k,rfl⟩:=Int.eq_ofNat_of_zero_le (show 0<=mm by omega)
 refine au [4,5,21] ?_
 intro jb hjb
 refine au [21] ?_
 intro jm hjm
 refine au [2,3,4] ?_
 refine TK.draw [0,1,2,3,4,5,7,8,6,9,10] [0,1,2,3,4,5,6,7,8,9,10] (by kernel_rfl) (by kernel_rfl) ?_
 refine TD.y [3] Z (hq:=z8 Z Z zi.h (mC _) Z) (h:=?_)
 refine TD.z [4] Z (zg Z Z zl.h dQ) ?_
 refine TD.y [8] Z (hq:=zm Z Z zi.h (mC _) Z) (h:=?_)
 refine TD.z [4] Z (zg Z Z zl.h dQ) ?_
 refine TD.y [10] Z (hq:=zm Z Z zi.h (mC _) Z) (h:=?_)
 refine TD.z [2] Z (zh Z Z) ?_
 refine TD.z [4] Z (zg Z Z zl.h dQ) ?_
 refine TD.y [14] Z (hq:=zm Z Z zi.h (mC _) Z) (h:=?_)
 refine TD.cl (pend':=[⟨8,[14],[(_,_)]⟩,⟨7,[4],[]⟩,⟨3,[4],[]⟩,⟨1,[4],[]⟩]) [7,9,11,12] Z Z Z Z Z (x9 hT (c:=c) (m:=k) hb hs oQ oQ) (fun r1 K2 h3=>⟨?_,?_⟩)
 ·rcases h3 with ⟨rfl,rfl⟩
  all_goals simp
 obtain ⟨rfl,rfl⟩:=h3
 try simp only [cA]
 refine TD.norm tQ ?_
 refine TD.z [13,15] Z (q_cmp Z Z Z Z) ?_
 refine TD.as (pend':=[]) [16] Z Z (zD Z Z) ?_
 refine TD.fin ?_
 refine au [] ?_
 refine TK.rt hret [(s,_),(j,_)] ?_
 exact ⟨rfl,rfl⟩
theorem qj {main T} (hT:zo tp main T) {gm} {b:RBk} {s h e j:Nat} {st:List Int} {et:TypeId} (hb:ROk b) (hs:StOk b st) :
  zA tp T gm 141 [.agg (zE b s h e),.sl j 0 st.length] [(s,zk b),(e,zq b),(j,.cells (st.map intA) et false)] (fun r K'=>r=zP (rightM b st)/\K'=[(s,zk b),(e,zq b),(j,.cells (st.map intA) et false)]):=by
 refine zp 22 hT Tryz.func141 fun Y hret=>?_
 refine au [] ?_
 have hml:=hb.mes.len
 refine au [4,5,21] ?_
 intro jb hjb
 refine au [2,3,4,4,5,2,3,13] ?_
 refine TK.maskL [1,2,5] ?_
 refine TK.kp [(s,_),(e,_),(j,_),(jb,_)] ?_
 refine TK.loopN (fun n env K=>∃ (i:Nat),n=b.measures.length - i/\i<=b.measures.length/\(∀ m∈b.measures.take i,decide (togM b st m.cloth.toNat m.many.toNat=m.wide)=true)/\env=.any::.sl j 0 st.length::.ptr jb 0::naL 2 (intA i::naL 16 [])/\K=[(s,zk b),(e,zq b),(j,.cells (st.map intA) et false),(jb,.cells (zE b s h e) 26 true)]) b.measures.length ⟨0,rfl,mN _,fun m hm=>by simp at hm,rfl,rfl⟩ fun n env K hI hnext=>?_
 obtain ⟨i,rfl,hi,hri,rfl,rfl⟩:=hI
 refine TK.na nQ ?_
 refine au [4,4,5,1,7,9,28,6,3,20] ?_
 refine ⟨fun hc0=>?_,fun hc0=>?_⟩
 ·have hil:i<b.measures.length:=by simp at hc0; omega
  obtain ⟨x,hx⟩:∃ x,b.measures[i]? =some x:=⟨_,lA hil⟩
  have hxb:=hb.mes.bnd x (lN hx)
  refine au [12,4,13,4] ?_
  refine TK.draw [0,1,2,3,4,5,6,7,8] [0,1,2,3,4,5,6,7,8] (by kernel_rfl) (by kernel_rfl) ?_
  refine TD.y [2] Z (hq:=z8 Z Z zi.h (mC _) Z) (h:=?_)
  refine TD.z [2] Z (zg Z Z zl.h dQ) ?_
  refine TD.y [14] Z (hq:=zm Z Z zi.h (mC _) Z) (h:=?_)
  refine TD.z [5] Z (zh Z Z) ?_
  refine TD.z [15,16] Z (zQ Z Z Z zF.h oQ oQ) ?_
  refine TD.y [17] Z (hq:=z8 Z Z zi.h (mC _) (zcE (i:=i) hx Z)) (h:=?_)
  refine TD.z [1] Z (zh Z Z) ?_
  refine TD.cl (pend':=[⟨4,[15,16],[]⟩,⟨3,[5],[]⟩,⟨2,[14],[(_,_)]⟩,⟨1,[2],[]⟩]) [13,18,19] Z Z Z Z Z (xM hT (m:=x) hb hs ⟨hxb.1,hxb.2.1,hxb.2.2.1,hxb.2.2.2.1⟩) (fun r1 K2 h3=>⟨?_,?_⟩)
  ·rcases h3 with ⟨rfl,rfl⟩
   all_goals simp
  obtain ⟨rfl,rfl⟩:=h3
  try simp only [cA]
  refine TD.norm tQ ?_
  refine TD.z [20] Z (q_not Z Z) ?_
  refine TD.fin ?_
  refine au [20] ?_
  refine ⟨fun hc1=>?_,fun hc1=>?_⟩
  ·refine au [4,5,2,3] ?_
   refine TK.rt hret [(s,_),(e,_),(j,_)] ?_
   exact ⟨by rw [show rightM b st=false from List.all_eq_false.2 ⟨x,lN hx,by simpa using hc1⟩],rfl⟩
  refine au [12,14,5,1,23,2,3] ?_
  refine TK.maskL [1,2,5] ?_
  refine TK.kp [(s,_),(e,_),(j,_),(jb,_)] ?_
  exact hnext _ _ _ oQ ⟨i+1,rfl,by omega,fun m hm=>by
   rw [yP hx] at hm
   rcases lT.1 hm with hm | hm
   ·exact hri m hm
   ·rw [lS.1 hm]; simpa using hc1,rfl,rfl⟩
 obtain rfl:i=b.measures.length:=by simp at hc0; omega
 refine au [16,4,5,2,3] ?_
 refine TK.rt hret [(s,_),(e,_),(j,_)] ?_
 exact ⟨by rw [show rightM b st=true from List.all_eq_true.2 fun m hm=>hri m (by rw [lW]; exact hm)],rfl⟩
theorem qx {main T} (hT:zo tp main T) {gm} {b:RBk} {s h e:Nat} {P:List (Nat×List Int)} {x:Nat×List Int} (hb:ROk b) (hs:StOk b x.2) (hx:x∈P):zA tp T gm 141 [.agg (zE b s h e),.sl x.1 0 x.2.length] ((s,zk b)::(e,zq b)::objsL P) (fun r K'=>r=zP (rightM b x.2)/\K'=(s,zk b)::(e,zq b)::objsL P):=by
 obtain ⟨R,hR⟩:=x6 (xx hx)
 exact (qj hT hb hs).frameP (R:=R) (List.Perm.cons _ (List.Perm.cons _ hR.perm))
instance:ApOf tp 104 27 1 24:={}
instance:Cal tp 141:={}
instance:zF tp 104 27 1:={}
instance:TyZ tp 27 [.slice none 0 0]:={}
instance:Und tp 104 (.slice 27):={}
theorem x8 {main T} (hT:zo tp main T) {gm} {b:RBk} {s h e:Nat} (hb:ROk b) :
  zA tp T gm 77 [.agg (zE b s h e)] [(s,zk b),(h,zB b),(e,zq b)] (fun r K'=>∃ (jr:Nat) (Q:List (Nat×List Int)),r=.row jr (zf b).length/\K'=(jr,.row (refsL Q) 27 1)::[(s,zk b),(h,zB b),(e,zq b)]):=by
 refine zp 73 hT Tryz.func77 fun Y hret=>?_
 refine au [] ?_
 have hsl:=hb.sms.len
 have hcl:=hb.cls.len
 have h243:∀ i,i<=5->3 ^ i<=243:=fun i hi=>Nat.le_trans (Nat.pow_le_pow_right dQ hi) dQ
 refine au [4,5,21] ?_
 intro jb hjb
 refine au [2,3,4,5] ?_
 refine TK.newR Z Z Z (zt (l:=[_]) Z zF.h TyZ.h dQ dQ Z) (fun _=>zu rfl tQ) fun j0 hj0=>?_
 refine au [2] ?_
 refine TK.nilRow (e:=3) (fun _=>uQ) fun je hje=>?_
 refine au [3,4,4,5,2,3,13] ?_
 refine TK.maskL [1,3,4] ?_
 refine TK.kp [(j0,_),(h,_),(jb,_),(s,_),(e,_),(je,_)] ?_
 refine TK.loopN (fun n env K=>∃ (i ja:Nat) (P:List (Nat×List Int)),n=b.shrinks.length - i/\i<=b.shrinks.length/\P.map (·.2)=preS b i/\env=.any::.ptr jb 0::.any::.row ja P.length::intA i::naL 68 []/\K=(ja,.row (refsL P) 27 1)::(h,zB b)::(jb,.cells (zE b s h e) 26 true)::(s,zk b)::(e,zq b)::objsL P) b.shrinks.length ⟨0,j0,[(je,[])],rfl,mN _,rfl,rfl,rfl⟩ fun n env K hI hnext=>?_
 obtain ⟨i,ja,P,rfl,hi,hP,rfl,rfl⟩:=hI
 have hPl:P.length=(preS b i).length:=by rw [<- hP,lJ]
 have hPb:P.length<=243:=by have:=xF hb i hi; have:=h243 i oQ; omega
 refine TK.na nQ ?_
 refine au [4,4,5,1,7,9,28,6,3,20] ?_
 refine ⟨fun hc0=>?_,fun hc0=>?_⟩
 ·have hil:i<b.shrinks.length:=by simp at hc0; omega
  have hbd:=hb.cls.bnd i oQ
  refine au [12,4,13,4,5,2] ?_
  refine TK.virt 5 27 1 Z fun jn0 hjn0=>?_
  refine au [3,4,4,5,2,3,13] ?_
  refine TK.maskL [1,3,4,5,6] ?_
  refine TK.perm (K':=(jn0,.row [] 27 1)::(ja,.row (refsL P) 27 1)::(h,zB b)::(jb,.cells (zE b s h e) 26 true)::(s,zk b)::(e,zq b)::(objsL P++objsL [])) (by simp [objsL]) ?_
  refine TK.loopN (fun n env K=>∃ (q jn:Nat) (Q:List (Nat×List Int)),n=P.length - q/\q<=P.length/\Q.map (·.2)=((preS b i).take q).flatMap (stepS b i)/\env=.any::.ptr jb 0::.any::.row ja P.length::intA i::.row jn Q.length::intA q::naL 66 []/\K=(jn,.row (refsL Q) 27 1)::(ja,.row (refsL P) 27 1)::(h,zB b)::(jb,.cells (zE b s h e) 26 true)::(s,zk b)::(e,zq b)::(objsL P++objsL Q)) P.length ⟨0,jn0,[],rfl,mN _,rfl,rfl,rfl⟩ fun n env K hI2 hnext2=>?_
  obtain ⟨q,jn,Q,rfl,hq,hQ,rfl,rfl⟩:=hI2
  refine TK.na nQ ?_
  refine au [4,4,5,1,1,28,6,3,20] ?_
  refine ⟨fun hc1=>?_,fun hc1=>?_⟩
  ·have hql:q<P.length:=by simp at hc1; omega
   have hg:(preS b i)[q]? =some P[q].2:=xU hP hql
   obtain ⟨pq,hpq⟩:∃ pq,pq=P[q]:=⟨_,rfl⟩
   rw [<- hpq] at hg
   have hpl:=(xb hb i hi pq.2 (lN hg)).1
   have hmp:pq∈P:=hpq ▸ List.getElem_mem hql
   refine au [12,4,13,4,5,7,9,1,36,7] ?_
   refine TK.a Z (zm Z Z zi.h mQ (ym (c:=0) (bd_at b (i:=i) hil Z) dQ Z)) ?_
   refine au [2,3,13] ?_
   refine TK.maskL [1,3,4,5,6,7] ?_
   refine TK.loopN (fun n env K=>∃ (t jn:Nat) (Q:List (Nat×List Int)),n=((bd b i).high+1 - (bd b i).low).toNat - t/\t<=((bd b i).high+1 - (bd b i).low).toNat/\Q.map (·.2)=((preS b i).take q).flatMap (stepS b i)++((numsM (bd b i)).take t).map (fun n=>P[q].2++[n])/\env=.any::.ptr jb 0::.any::.row ja P.length::intA i::.row jn Q.length::intA q::intA ((bd b i).low+(t:Int))::naL 65 []/\K=(jn,.row (refsL Q) 27 1)::(ja,.row (refsL P) 27 1)::(h,zB b)::(jb,.cells (zE b s h e) 26 true)::(s,zk b)::(e,zq b)::(objsL P++objsL Q)) ((bd b i).high+1 - (bd b i).low).toNat ⟨0,jn,Q,rfl,mN _,by rw [hQ,List.take_zero,List.map_nil,lR],by rw [show (bd b i).low+((0:Nat):Int)=(bd b i).low by omega]; rfl,rfl⟩ fun n env K hI3 hnext3=>?_
   obtain ⟨t,jn,Q,rfl,ht,hQ,rfl,rfl⟩:=hI3
   rw [<- hpq] at hQ
   have hQl:Q.length<=1000:=by
    have h1:=congrArg List.length hQ
    rw [lJ,lF,lJ,List.length_take,jR] at h1
    have h2:=jE (f:=stepS b i) (fun p=>by unfold stepS; rw [lJ,jR]; omega) ((preS b i).take q)
    rw [List.length_take] at h2
    omega
   refine TK.na nQ ?_
   refine au [4,4,5,1,7,9,1,36,7] ?_
   refine TK.a Z (zm Z Z zi.h mQ (ym (c:=1) (bd_at b (i:=i) hil Z) dQ Z)) ?_
   refine au [6,3,20] ?_
   refine ⟨fun hc2=>?_,fun hc2=>?_⟩
   ·have htl:t<((bd b i).high+1 - (bd b i).low).toNat:=by simp at hc2; omega
    have hmx:(pq.1,AObj.cells (pq.2.map intA) 3 false)∈objsL P++objsL Q:=List.mem_append_left _ (xx hmp)
    refine au [12,4,13,5,1] ?_
    refine TK.newR Z Z Z (zt (l:=[]) Z zF.h TyZ.h dQ dQ Z) (fun _=>zu rfl tQ) fun j9 hj9=>?_
    refine au [1,1,37] ?_
    refine TK.a Z (zm Z Z zi.h mQ (xo hql Z)) ?_
    rw [<- hpq]
    refine TK.appG (ln:=pq.2.map intA) Z Z Z ApOf.h Z mQ Z Z Z (fun hp=>vu mQ oQ (wl (n:=pq.2.length) (size:=1) sQ oQ)) (fun h=>by simp [lK h]) (ints1 _) (by unfold maxLen; omega) oQ (fun _=>uQ) (fun _=>zu rfl tQ) fun j6=>?_
    simp only [lC,mO]
    refine au [1] ?_
    refine TK.newR Z Z Z (zt (l:=[_]) Z zF.h TyZ.h dQ dQ Z) (fun _=>zu rfl tQ) fun j1 hj1=>?_
    refine TK.appR Z Z Z (a_app Z ApOf.h Z mQ sQ Z (yu (ln:=[_]) mQ dQ sQ Z) oQ Z (by unfold maxLen; omega) oQ) (fun _=>uQ) (fun _=>zu rfl tQ) fun j3=>?_
    refine TK.asSl 49 Z mQ ?_
    refine TK.frzRow (j:=j3) ?_
    refine au [] ?_
    refine TK.newR Z Z Z (zt (l:=[_]) Z zF.h TyZ.h dQ dQ Z) (fun _=>zu rfl tQ) fun j2 hj2=>?_
    refine TK.appR Z Z Z (a_app Z ApOf.h Z mQ (by simp [refsL]) Z (yu (ln:=[_]) mQ dQ sQ Z) oQ Z (by unfold maxLen; omega) oQ) (fun _=>uQ) (fun _=>zu rfl tQ) fun j4=>?_
    refine au [2,3,14,5,1,23,2,3] ?_
    refine TK.maskL [1,3,4,5,6,7] ?_
    refine TK.kp (((j4,_)::(j3,_)::(ja,_)::(h,_)::(jb,_)::(s,_)::(e,_)::(objsL P++objsL Q))) ?_
    refine TK.perm (K':=(j4,.row (refsL Q++[.sl j3 0 (pq.2.length+1)]) 27 1)::(ja,.row (refsL P) 27 1)::(h,zB b)::(jb,.cells (zE b s h e) 26 true)::(s,zk b)::(e,zq b)::(objsL P++(objsL Q++[(j3,.cells (pq.2.map intA++[intA ((bd b i).low+(t:Int))]) 3 false)]))) ?_ ?_
    ·rw [<- List.append_assoc]
     exact List.Perm.cons _ (List.perm_append_singleton (j3,_) ((ja,.row (refsL P) 27 1)::(h,zB b)::(jb,.cells (zE b s h e) 26 true)::(s,zk b)::(e,zq b)::(objsL P++objsL Q))).symm
    exact hnext3 _ _ _ oQ ⟨t+1,j4,Q++[(j3,pq.2++[(bd b i).low+(t:Int)])],rfl,by omega,by rw [lM,hQ,<- hpq,yP (qu _ t htl),lM,List.append_assoc]; rfl,by rw [lF,show (bd b i).low+(t:Int)+1=(bd b i).low+((t+1:Nat):Int) by omega]; rfl,by simp [refsL,objsL]⟩
   obtain rfl:t=((bd b i).high+1 - (bd b i).low).toNat:=by simp at hc2; omega
   refine au [16,14,5,1,23,2,3] ?_
   refine TK.maskL [1,3,4,5,6] ?_
   refine TK.kp (((jn,_)::(ja,_)::(h,_)::(jb,_)::(s,_)::(e,_)::(objsL P++objsL Q))) ?_
   exact hnext2 _ _ _ oQ ⟨q+1,jn,Q,rfl,by omega,by rw [hQ,show (numsM (bd b i)).take ((bd b i).high+1 - (bd b i).low).toNat=numsM (bd b i) from List.take_of_length_le (by rw [jR]; exact mL _),yP hg,List.flatMap_append]; simp [stepS],rfl,rfl⟩
  obtain rfl:q=P.length:=by simp at hc1; omega
  have hQ:Q.map (·.2)=preS b (i+1):=by rw [hQ,hPl,lW]; rfl
  refine au [16,5,1,2,3,14,5,1,23,2,3] ?_
  refine TK.maskL [1,3,4] ?_
  refine TK.kp (((jn,_)::(ja,_)::(h,_)::(jb,_)::(s,_)::(e,_)::(objsL P++objsL Q))) ?_
  refine TK.dropP (R:=(jn,.row (refsL Q) 27 1)::(h,zB b)::(jb,.cells (zE b s h e) 26 true)::(s,zk b)::(e,zq b)::objsL Q) (L:=(ja,.row (refsL P) 27 1)::objsL P) ?_ ?_
  ·exact List.Perm.cons _ (qh (A:=(h,zB b)::(jb,.cells (zE b s h e) 26 true)::(s,zk b)::(e,zq b)::[]) (x:=(ja,.row (refsL P) 27 1)) (L:=objsL P) (M:=objsL Q))
  exact hnext _ _ _ oQ ⟨i+1,jn,Q,rfl,by omega,hQ,rfl,rfl⟩
 obtain rfl:i=b.shrinks.length:=by simp at hc0; omega
 refine au [16,4,5,2] ?_
 refine TK.virt 8 27 1 Z fun jo0 hjo0=>?_
 refine au [3,4,4,5,2,3,13] ?_
 refine TK.maskL [1,3,8,9] ?_
 refine TK.loopN (fun n env K=>∃ (q jo:Nat) (Q:List (Nat×List Int)),n=P.length - q/\q<=P.length/\Q.map (·.2)=((preS b b.shrinks.length).take q).filter (rightM b)/\env=.any::.ptr jb 0::.any::.row ja P.length::naL 4 (.row jo Q.length::intA q::naL 63 [])/\K=(jo,.row (refsL Q) 27 1)::(ja,.row (refsL P) 27 1)::(h,zB b)::(jb,.cells (zE b s h e) 26 true)::(s,zk b)::(e,zq b)::objsL P) P.length ⟨0,jo0,[],rfl,mN _,rfl,rfl,rfl⟩ fun n env K hI4 hnext4=>?_
 obtain ⟨q,jo,Q,rfl,hq,hQ,rfl,rfl⟩:=hI4
 have hQl:(Q.map (·.2)).length=Q.length:=lJ ..
 have hQb:Q.length<=243:=by
  rw [<- hQl,hQ]
  have h1:=List.length_filter_le (rightM b) ((preS b b.shrinks.length).take q)
  rw [List.length_take] at h1
  omega
 refine TK.na nQ ?_
 refine au [4,4,5,1,1,28,6,3,20] ?_
 refine ⟨fun hc3=>?_,fun hc3=>?_⟩
 ·have hql:q<P.length:=by simp at hc3; omega
  have hg:(preS b b.shrinks.length)[q]? =some P[q].2:=xU hP hql
  have hmp:P[q]∈P:=List.getElem_mem hql
  obtain ⟨hpl,hpb⟩:=xb hb _ (mL _) P[q].2 (lN hg)
  have hst:StOk b P[q].2:=zeV hb ⟨hpl,fun i hi=>hpb.2 i oQ⟩
  refine au [12,4,13,4] ?_
  refine TK.draw [0,1,2,3,4,5] [0,1,2,3,4,5] (by kernel_rfl) (by kernel_rfl) ?_
  refine TD.y [1] Z (hq:=z8 Z Z zi.h (mC _) Z) (h:=?_)
  refine TD.z [3] Z (zh Z Z) ?_
  refine TD.z [9] Z (zh Z Z) ?_
  refine TD.y [60,61] Z (hq:=kA Z Z Z zF.h (mC _) oQ oQ) (h:=?_)
  refine TD.y [62] Z (hq:=zm Z Z zi.h (mC _) (xo hql Z)) (h:=?_)
  refine TD.cl (pend':=[⟨3,[60,61],[(_,_)]⟩,⟨2,[9],[]⟩,⟨1,[3],[]⟩]) [59,63] Z Z Z Z Z (qx hT hb hst hmp) (fun r3 K4 h5=>⟨?_,?_⟩)
  ·rcases h5 with ⟨rfl,rfl⟩
   all_goals simp
  obtain ⟨rfl,rfl⟩:=h5
  try simp only [cA]
  refine TD.norm tQ ?_
  refine TD.perm (lH (l₁:=(s,_)::(e,_)::objsL P)) ?_
  simp only [cA]
  refine TD.fin ?_
  refine au [20] ?_
  refine ⟨fun hc4=>?_,fun hc4=>?_⟩
  ·refine au [5,1,1,1,37] ?_
   refine TK.a Z (zm Z Z zi.h mQ (xo hql Z)) ?_
   refine TK.newR Z Z Z (zt (l:=[_]) Z zF.h TyZ.h dQ dQ Z) (fun _=>zu rfl tQ) fun j6 hj6=>?_
   refine TK.appR Z Z Z (a_app Z ApOf.h Z mQ (by simp [refsL]) Z (yu (ln:=[_]) mQ dQ sQ Z) oQ Z (by unfold maxLen; omega) oQ) (fun _=>uQ) (fun _=>zu rfl tQ) fun jo2=>?_
   refine au [2,3,14,5,1,23,2,3] ?_
   refine TK.maskL [1,3,8,9] ?_
   refine TK.kp (((jo2,_)::(ja,_)::(h,_)::(jb,_)::(s,_)::(e,_)::objsL P)) ?_
   exact hnext4 _ _ _ oQ ⟨q+1,jo2,Q++[P[q]],rfl,by omega,by rw [lM,hQ,yP hg,List.filter_append,List.filter_cons_of_pos hc4]; rfl,by rw [lF]; rfl,by simp [refsL] <;> rfl⟩
  refine au [12,14,5,1,23,2,3] ?_
  refine TK.maskL [1,3,8,9] ?_
  refine TK.kp (((jo,_)::(ja,_)::(h,_)::(jb,_)::(s,_)::(e,_)::objsL P)) ?_
  exact hnext4 _ _ _ oQ ⟨q+1,jo,Q,rfl,by omega,by rw [hQ,yP hg,List.filter_append,List.filter_cons_of_neg (by rw [hc4]; decide),List.filter_nil,lR],rfl,rfl⟩
 obtain rfl:q=P.length:=by simp at hc3; omega
 rw [hPl] at hQ
 refine au [16,4,5,1,2,3] ?_
 refine TK.rt hret [(jo,_),(s,_),(h,_),(e,_)] ?_
 exact ⟨jo,Q,by rw [<- xZ,<- hQl,hQ,lW] <;> rfl,rfl⟩
def moreB (b:RBk) (ro ra:Int) (sms:List RSeam):RBk:={ b with rolls:=ro,roll:=ra,seams:=sms }
def mostX (x:RSeam) (v:Int):RSeam:={ x with most:=v }
theorem qw {xs:List RSeam} {i:Nat} {n:Int} {x:RSeam} {v:Int} {e:TypeId} (h:xs[i]? =some x) (hn:n=(i:Int)):putO (.row (xs.flatMap seamC) e 5) (n.toNat*5+1) [intA v]=some (.row ((xs.set i (mostX x v)).flatMap seamC) e 5):=by
 subst hn
 unfold putO
 dsimp only
 have hl:=yy seamC 5 (fun _=>rfl) xs
 obtain ⟨hi,_⟩:=lD.1 h
 rw [if_pos ⟨by rw [hl]; simp; omega,by simp,rfl⟩]
 have key:∀ (xs:List RSeam) (i:Nat),xs[i]? =some x->setL (xs.flatMap seamC) (i*5+1) [intA v]=(xs.set i (mostX x v)).flatMap seamC:=by
  intro xs
  induction xs with
  | nil=>intro i hi; simp at hi
  | cons y r ih =>
   intro i hi
   cases i with
   | zero=>cases hi; rfl
   | succ i =>
    rw [List.set_cons_succ,List.flatMap_cons,List.flatMap_cons,<- ih i (by simpa using hi)]
    rw [show (i+1)*5+1=(seamC y).length+(i*5+1) by show _=5+_; omega]
    show (seamC y++r.flatMap seamC).set ((seamC y).length+(i*5+1)) (intA v)=seamC y++(r.flatMap seamC).set (i*5+1) (intA v)
    rw [List.set_append_right _ _ oQ]
    congr 2
    omega
 rw [show (i:Int).toNat*5+1=i*5+1 by rw [mZ],key xs i h]
theorem xh {b:RBk} {ro ra:Int} {i:Nat} {v:Int} (h1:b.rolls<=ro) (h2:b.roll<=ra) (hi:i<b.seams.length) (h3:(sm b i).most<=v):Wider b (moreB b ro ra (b.seams.set i (mostX (sm b i) v)))/\∀ k,k<b.seams.length->sm (moreB b ro ra (b.seams.set i (mostX (sm b i) v))) k=if i=k then mostX (sm b i) v else sm b k:=by
 have hs:∀ k,k<b.seams.length->sm (moreB b ro ra (b.seams.set i (mostX (sm b i) v))) k=if i=k then mostX (sm b i) v else sm b k:=fun k hk=>by
  have h4:(b.seams.set i (mostX (sm b i) v))[k]? =some (sm (moreB b ro ra (b.seams.set i (mostX (sm b i) v))) k):=yV (b:=moreB b ro ra (b.seams.set i (mostX (sm b i) v))) (by show k<(b.seams.set i _).length; rw [List.length_set]; exact hk)
  rw [lX] at h4
  by_cases e:i=k
  ·rw [if_pos e] at h4 ⊢
   rw [if_pos hi] at h4
   exact (Option.some.inj h4).symm
  ·rw [if_neg e] at h4 ⊢
   rw [yV hk] at h4
   exact (Option.some.inj h4).symm
 refine ⟨⟨rfl,rfl,h2,h1,by show (b.seams.set i _).length=_; rw [List.length_set],rfl,rfl,fun k hk=>?_⟩,hs⟩
 rw [hs k hk]
 by_cases e:i=k
 ·rw [if_pos e]; subst e; exact ⟨rfl,rfl,rfl,rfl,h3⟩
 ·rw [if_neg e]; exact ⟨rfl,rfl,rfl,rfl,Int.le_refl _⟩
theorem qB {b:RBk} (hb:ROk b) {ro ra:Int} {i:Nat} {v:Int} (h1:b.rolls<=ro/\ro<=5) (h2:b.roll<=ra/\ra<=24) (hi:i<b.seams.length) (h3:(sm b i).most<=v/\v<=9):ROk (moreB b ro ra (b.seams.set i (mostX (sm b i) v))):=by
 obtain ⟨hw,hs⟩:=xh h1.1 h2.1 hi h3.1
 have hr:=hb.rnd
 have hlen:=hw.len
 refine ⟨⟨hr.steps,hr.round,⟨by have:=hr.roll; show (1:Int)<=ra; omega,h2.2⟩,⟨by have:=hr.rolls; show (1:Int)<=ro; omega,h1.2⟩⟩,⟨by rw [hlen]; exact hb.sms.len,fun k hk=>?_,fun k j hkj hj=>?_⟩,⟨by rw [hlen]; exact hb.cls.len,fun k hk=>?_⟩,⟨hb.mes.len,fun m hm=>?_⟩⟩
 ·rw [hlen] at hk
  have hf:=hb.sms.fld k hk
  have hfi:=hb.sms.fld i hi
  have hq:=hw.sm k hk
  have hmk:(sm (moreB b ro ra (b.seams.set i (mostX (sm b i) v))) k).most<=9:=by
   rw [hs k hk]
   by_cases e:i=k
   ·rw [if_pos e]; exact h3.2
   ·rw [if_neg e]; omega
  show _/\_<b.steps/\_
  omega
 ·rw [hlen] at hj
  rw [(hw.sm k oQ).1,(hw.sm j hj).1]
  exact hb.sms.asc k j hkj hj
 ·rw [hlen] at hk
  rw [hw.wide hk]
  exact hb.cls.bnd k hk
 ·rw [hlen]
  exact hb.mes.bnd m hm
theorem qf {Ψ:Goroutine->World->Prop} {b:RBk} {s h e s2:Nat} {ro ra:Int} {sms:List RSeam} (hck:zr b=0) (hok:zr (moreB b ro ra sms)=0) (hne:zf b≠[]) (hw:Wider b (moreB b ro ra sms)) :
  zA tp (BT tp Ψ) gmR 78 [.agg (zE b s h e),.agg (zE (moreB b ro ra sms) s2 h e)] [(0,zy),(s,zk b),(h,zB b),(e,zq b),(s2,zk (moreB b ro ra sms))] (fun r K'=>r=zP true/\K'=[(0,zy),(s,zk b),(h,zB b),(e,zq b),(s2,zk (moreB b ro ra sms))]):=by
 have hT:=kH (P:=tp) Ψ
 refine zp 123 hT Tryz.func78 fun Y hret=>?_
 refine au [] ?_
 have hbb:=zZ hck
 have hob:=zZ hok
 have hl:b.seams.length<=100:=by have:=hbb.sms.len; omega
 have hm:b.measures.length<=100:=by have:=hbb.mes.len; omega
 have hl2:(moreB b ro ra sms).seams.length<=100:=by have:=hob.sms.len; omega
 have hm2:(moreB b ro ra sms).measures.length<=100:=hm
 have hpos:0<b.seams.length:=by have:=hbb.sms.len; omega
 have hst:=hw.states hpos
 have hne2:zf (moreB b ro ra sms)≠[]:=by rw [hst]; exact hne
 have hall:okAll b (zf b):=fun s hs=>(y7 hbb hs).1
 refine au [4,5,21] ?_
 intro jb hjb
 refine au [21] ?_
 intro jb2 hjb2
 refine au [2,3,4,5,8] ?_
 refine TK.cl Z Z Z Z ((zgP hl hm).mono (fun _ _ h=>or3 h hck hne)) ?_
 rintro r1 K2 h3
 rcases h3 with ⟨hno,rfl,rfl⟩ | ⟨c,jc,ec,hp,rfl,rfl⟩
 ·refine au [1,10,10,10,10,2,2,2,2,3,4,5,8] ?_
  refine TK.cl Z Z Z Z ((zgP (b:=(moreB b ro ra sms)) (s:=s2) (h:=h) (e:=e) hl2 hm2).mono (fun _ _ h=>or3 h hok hne2)) ?_
  rintro r4 K5 h6
  rcases h6 with ⟨hno2,rfl,rfl⟩ | ⟨d,jd,ed,hq,rfl,rfl⟩
  ·refine au [] ?_
   refine au [1,10,10,10,10,2,2,2,2,3,4,5,8] ?_
   refine TK.cl Z Z Z Z ((zeO hl hm).mono (fun _ _ h=>or3 h hck hne)) ?_
   rintro r7 K8 h9
   rcases h9 with ⟨hnf,rfl,rfl⟩ | ⟨f,jf,ef,hf,rfl,rfl⟩
   ·refine au [] ?_
    refine au [1,10,10,10,2,2,2,3,4,5,8] ?_
    refine TK.cl Z Z Z Z ((zeO (b:=(moreB b ro ra sms)) (s:=s2) (h:=h) (e:=e) hl2 hm2).mono (fun _ _ h=>or3 h hok hne2)) ?_
    rintro r10 K11 h12
    rcases h12 with ⟨hnf2,rfl,rfl⟩ | ⟨g,jg,eg,hg,rfl,rfl⟩
    ·refine au [] ?_
     refine au [1,10,10,10,2,2,2,3,4,5,8] ?_
     refine TK.cl Z Z Z Z ((zfy hl hm).mono (fun _ _ h=>or3 h hck hne)) ?_
     rintro r13 K14 ⟨rfl,rfl⟩
     refine au [1,10,10,10,2,2,2,3,4,5,8] ?_
     refine TK.cl Z Z Z Z ((zfy (b:=(moreB b ro ra sms)) (s:=s2) (h:=h) (e:=e) hl2 hm2).mono (fun _ _ h=>or3 h hok hne2)) ?_
     rintro r16 K17 ⟨rfl,rfl⟩
     refine au [] ?_
     rw [hst]
     refine au [1,10,10,10,2,2,2,3,4,5,1,6,1,1,6,26,1,1,6,26,1,1,6,26,1,1,6,26,1,1,6,26,1,1,30,1,11,11,11,11,11,11,26,26,1,1,30,1,11,11,11,11,11,11,11,11,26,26,1,1,30,1] ?_
     refine TK.sp 114 (fun g7_52=>?_) (fun g7_52=>?_)
     ·refine au [11,11,11,11,11,11,26,26,2,3] ?_
      refine TK.rt hret [(0,_),(s,_),(h,_),(e,_),(s2,_)] ?_
      exact ⟨by first | rfl | simp [w2],rfl⟩
     have hws:(widestM b (zf b)).isSome=true:=by simpa using g7_52
     obtain ⟨w1,w2⟩:=hw.widest hbb hob hne hall hws
     rw [w1]
     refine au [1,1,1,1,6,26,25,26,2,3] ?_
     refine TK.rt hret [(0,_),(s,_),(h,_),(e,_),(s2,_)] ?_
     exact ⟨by first | rfl | simp [w2],rfl⟩
    ·refine au [] ?_
     exact (jD hg hno2).elim
   ·refine au [] ?_
    exact (jD hf hno).elim
  ·refine au [] ?_
   refine au [1,10,10,10,10,2,2,2,2,3,4,5,8] ?_
   refine TK.cl Z Z Z Z ((zeO hl hm).mono (fun _ _ h=>or3 h hck hne)) ?_
   rintro r19 K20 h21
   rcases h21 with ⟨hnf,rfl,rfl⟩ | ⟨f,jf,ef,hf,rfl,rfl⟩
   ·refine au [] ?_
    refine au [1,10,10,10,2,2,2,3,4,5,8] ?_
    refine TK.cl Z Z Z Z ((zeO (b:=(moreB b ro ra sms)) (s:=s2) (h:=h) (e:=e) hl2 hm2).mono (fun _ _ h=>or3 h hok hne2)) ?_
    rintro r22 K23 h24
    rcases h24 with ⟨hnf2,rfl,rfl⟩ | ⟨g,jg,eg,hg,rfl,rfl⟩
    ·refine au [] ?_
     exact (jD hq hnf2).elim
    ·refine au [] ?_
     refine au [1,10,10,10,2,2,2,3,4,5,8] ?_
     refine TK.cl Z Z Z Z ((zfy hl hm).mono (fun _ _ h=>or3 h hck hne)) ?_
     rintro r25 K26 ⟨rfl,rfl⟩
     refine au [1,10,10,10,2,2,2,3,4,5,8] ?_
     refine TK.cl Z Z Z Z ((zfy (b:=(moreB b ro ra sms)) (s:=s2) (h:=h) (e:=e) hl2 hm2).mono (fun _ _ h=>or3 h hok hne2)) ?_
     rintro r28 K29 ⟨rfl,rfl⟩
     refine au [] ?_
     rw [hst]
     refine au [1,10,10,10,2,2,2,3,4,5,1,6,1,1,6,26,1,1,6,26,1,1,6,26,1,1,6,26,1,1,6,26,1,1,30,1,11,11,11,11,11,11,26,26,1,1,30,1,11,11,11,11,11,11,11,11,26,26,1,1,30,1] ?_
     refine TK.sp 114 (fun g7_52=>?_) (fun g7_52=>?_)
     ·refine au [11,11,11,11,11,11,26,26,2,3] ?_
      refine TK.rt hret [(0,_),(s,_),(h,_),(e,_),(s2,_)] ?_
      exact ⟨by first | rfl | simp [w2],rfl⟩
     have hws:(widestM b (zf b)).isSome=true:=by simpa using g7_52
     obtain ⟨w1,w2⟩:=hw.widest hbb hob hne hall hws
     rw [w1]
     refine au [1,1,1,1,6,26,25,26,2,3] ?_
     refine TK.rt hret [(0,_),(s,_),(h,_),(e,_),(s2,_)] ?_
     exact ⟨by first | rfl | simp [w2],rfl⟩
   ·refine au [] ?_
    exact (jD hf hno).elim
 ·refine au [1,10,10,10,10,2,2,2,2,3,4,5,8] ?_
  refine TK.cl Z Z Z Z ((zgP (b:=(moreB b ro ra sms)) (s:=s2) (h:=h) (e:=e) hl2 hm2).mono (fun _ _ h=>or3 h hok hne2)) ?_
  rintro r31 K32 h33
  rcases h33 with ⟨hno2,rfl,rfl⟩ | ⟨d,jd,ed,hq,rfl,rfl⟩
  ·refine au [] ?_
   rw [hst] at hno2; exact (hw.best hbb hob hne hall hp hno2).elim
  ·refine au [] ?_
   have hle:=hw.bestLe hbb hob hne hall hp (hst ▸ hq)
   refine au [1,10,10,10,10,2,2,2,2,3,4,5,8] ?_
   refine TK.cl Z Z Z Z ((zeO hl hm).mono (fun _ _ h=>or3 h hck hne)) ?_
   rintro r34 K35 h36
   rcases h36 with ⟨hnf,rfl,rfl⟩ | ⟨f,jf,ef,hf,rfl,rfl⟩
   ·refine au [] ?_
    exact (jD hp hnf).elim
   ·refine au [] ?_
    refine au [1,10,10,10,2,2,2,3,4,5,8] ?_
    refine TK.cl Z Z Z Z ((zeO (b:=(moreB b ro ra sms)) (s:=s2) (h:=h) (e:=e) hl2 hm2).mono (fun _ _ h=>or3 h hok hne2)) ?_
    rintro r37 K38 h39
    rcases h39 with ⟨hnf2,rfl,rfl⟩ | ⟨g,jg,eg,hg,rfl,rfl⟩
    ·refine au [] ?_
     exact (jD hq hnf2).elim
    ·refine au [] ?_
     have hfl:=hw.fewLe hbb hob hne hall hf (hst ▸ hg)
     refine au [1,10,10,10,2,2,2,3,4,5,8] ?_
     refine TK.cl Z Z Z Z ((zfy hl hm).mono (fun _ _ h=>or3 h hck hne)) ?_
     rintro r40 K41 ⟨rfl,rfl⟩
     refine au [1,10,10,10,2,2,2,3,4,5,8] ?_
     refine TK.cl Z Z Z Z ((zfy (b:=(moreB b ro ra sms)) (s:=s2) (h:=h) (e:=e) hl2 hm2).mono (fun _ _ h=>or3 h hok hne2)) ?_
     rintro r43 K44 ⟨rfl,rfl⟩
     refine au [] ?_
     rw [hst]
     refine au [1,10,10,10,2,2,2,3,4,5,1,6,1,1,6,26,1,1,6,26,1,1,6,26,1,1,6,26,1,1,6,26,1,1,30,1,1,1,1,1,6,26,25,26,1] ?_
     refine TK.sp 97 (fun g7_35=>?_) (fun g7_35=>?_)
     ·refine au [1,30,1,1,1,1,28,1,28,6,26,25,26,1] ?_
      refine TK.sp 111 (fun g7_49=>?_) (fun g7_49=>?_)
      ·refine au [1,30,1] ?_
       refine TK.sp 114 (fun g7_52=>?_) (fun g7_52=>?_)
       ·refine au [11,11,11,11,11,11,26,26,2,3] ?_
        refine TK.rt hret [(0,_),(s,_),(h,_),(e,_),(s2,_)] ?_
        exact ⟨by first | rfl | simp [w2],rfl⟩
       have hws:(widestM b (zf b)).isSome=true:=by simpa using g7_52
       obtain ⟨w1,w2⟩:=hw.widest hbb hob hne hall hws
       rw [w1]
       refine au [1,1,1,1,6,26,25,26,2,3] ?_
       refine TK.rt hret [(0,_),(s,_),(h,_),(e,_),(s2,_)] ?_
       exact ⟨by first | rfl | simp [w2],rfl⟩
      simp at g7_49; omega
     simp [hst] at g7_35; omega
theorem zA.tail {P:Program} {T:Goroutine->Hp->Prop} {gm:Nat->Option Nat} {g:FuncId} {args:List AV} {K:KV} {Post Post':AV->KV->Prop} (h:zA P T gm g args K Post) (hp:∀ r K',Post r K'->∃ X K2,K'=X++K2/\Post' r K2):zA P T gm g args K Post':=fun A hv hn=>(h A hv hn).mono fun r A' ⟨K',h1,h2⟩=>by
 obtain ⟨X,K2,rfl,h3⟩:=hp r K' h2
 have hnd:=h1.nd
 rw [ya] at hnd
 exact ⟨K2,⟨h1.view.sub fun x hx=>List.mem_append_right _ hx,(List.nodup_append.1 hnd).2.1,fun i hi=>h1.own i (by rw [ya]; exact List.mem_append_right _ hi),h1.kept,h1.len⟩,h3⟩
theorem qm {main:Bool} {T:Goroutine->Hp->Prop} {b:RBk} {s h e j:Nat} {l:List Int} {et:TypeId} (hT:zo tp main T) (hck:zr b=0) (hne:zf b≠[]) (hcc:CutsOk b l):zA tp T gmR 54 [.agg (zE b s h e),.sl j 0 l.length] [(0,zy),(s,zk b),(h,zB b),(e,zq b),(j,.cells (l.map intA) et false)] (fun r K'=>r=.tup [.agg [intA (sqLo b (zf b) l),intA (sqHi b (zf b) l)],intA (if sqOk b (zf b) l=true then 0 else 8)]/\K'=[(0,zy),(s,zk b),(h,zB b),(e,zq b),(j,.cells (l.map intA) et false)]) :=
 (uv hT (by have:=(zZ hck).sms.len; omega) (by have:=(zZ hck).mes.len; omega) (by have:=hcc.len; have:=(zZ hck).sms.len; omega)).mono fun r K' hh=>or3 hh (xz hck hcc) hne
theorem xA {Ψ:Goroutine->World->Prop} {b:RBk} {s h e:Nat} (hck:zr b=0) (hne:zf b≠[]):zA tp (BT tp Ψ) gmR 32 [.agg (zE b s h e)] [(0,zy),(s,zk b),(h,zB b),(e,zq b)] (fun r K'=>∃ v p t,r=.tup [v,intA p,zP t,intA 0]/\K'=[(0,zy),(s,zk b),(h,zB b),(e,zq b)]/\((t=false/\NoPlan b (zf b))\/(t=true/\∃ c,PlanA b (zf b) cheaperM c/\p=sqHi b (zf b) (zw c b.seams.length)))) :=
 (zgP (by have:=(zZ hck).sms.len; omega) (by have:=(zZ hck).mes.len; omega)).tail fun r K' hh=>by
  rcases or3 hh hck hne with ⟨hno,rfl,rfl⟩ | ⟨c,jc,ec,hp,rfl,rfl⟩
  ·exact ⟨[],_,rfl,_,_,_,rfl,rfl,.inl ⟨rfl,hno⟩⟩
  ·exact ⟨[_],_,rfl,_,_,_,rfl,rfl,.inr ⟨rfl,c,hp,rfl⟩⟩
theorem TK.share {P:Program} {gm:Nat->Option Nat} {T:Goroutine->Hp->Prop} {Y:KX P gm T} {ds:List Nat} {k k':List Item} {env:List AV} {K:KV} {X:Type} {D:X->Prop} {E:X->List AV} {KK:X->KV} (main:(∀ x,D x->TK Y ds k' (E x) (KK x))->TK Y ds k env K) (tail:∀ x,D x->TK Y ds k' (E x) (KK x)):TK Y ds k env K:=main tail
instance:Cal tp 77:={}
instance:Cal tp 78:={}
theorem xL {b:RBk} {s h e:Nat} {k1:Int} (hk1:0<=k1/\k1<256) {k2:Int} (hk2:0<=k2/\k2<256) {k3:Int} (hk3:0<=k3/\k3<256) {k4:Int} (hk4:0<=k4/\k4<256) {k5:Int} (hk5:0<=k5/\k5<256) {k6:Int} (hk6:0<=k6/\k6<256):Top tp gmR 15 [.agg (zE b s h e),.v (.int .u8 k1),.v (.int .u8 k2),.v (.int .u8 k3),.v (.int .u8 k4),.v (.int .u8 k5),.v (.int .u8 k6)] [(0,zy),(s,zk b),(h,zB b),(e,zq b)] (fun r _=>r=zP true):=by
 refine topI 208 Tryz.func15 fun R Y hret=>?_
 have hT:=kH (P:=tp) (AtRet tp 15 R)
 refine au [4,5,21] ?_
 intro jb hjb
 refine au [2,3,4,4,5,8] ?_
 refine TK.cl Z Z Z Z (zja hT) ?_
 rintro r1 K2 ⟨rfl,rfl⟩
 refine au [30,1] ?_
 refine TK.sp 38 (fun g1_4=>?_) (fun g1_4=>?_)
 ·refine au [11,11,11,11,26,3,18,4,5] ?_
  refine TK.cl Z Z Z Z (zi5) ?_
  rintro r4 K5 ⟨rfl,rfl⟩
  refine au [2,3] ?_
  refine TK.rt hret [] ?_
  rfl
 have hgr:greatM b=false/\zr b=0:=by cases hq:greatM b <;> simp [hq] at g1_4; exact ⟨rfl,g1_4⟩
 obtain ⟨hgr,hck⟩:=hgr
 have hbb:=zZ hck
 have hl:b.seams.length<=100:=by have:=hbb.sms.len; omega
 have hm:b.measures.length<=100:=by have:=hbb.mes.len; omega
 have hl2:b.shrinks.length<=100:=by have:=hbb.cls.len; omega
 have hst:=hbb.rnd.steps
 obtain ⟨n1,rfl⟩:=Int.eq_ofNat_of_zero_le hk1.1
 obtain ⟨n2,rfl⟩:=Int.eq_ofNat_of_zero_le hk2.1
 obtain ⟨n3,rfl⟩:=Int.eq_ofNat_of_zero_le hk3.1
 obtain ⟨n4,rfl⟩:=Int.eq_ofNat_of_zero_le hk4.1
 obtain ⟨n5,rfl⟩:=Int.eq_ofNat_of_zero_le hk5.1
 obtain ⟨n6,rfl⟩:=Int.eq_ofNat_of_zero_le hk6.1
 have hsl:=hbb.sms.len
 refine au [8] ?_
 refine TK.cl Z Z Z Z (x8 hT hbb) ?_
 rintro r7 K8 ⟨jr,Q,rfl,rfl⟩
 refine au [28,6,25,3,20] ?_
 refine ⟨fun hc0=>?_,fun hc0=>?_⟩
 ·
  refine au [4,5] ?_
  refine TK.cl Z Z Z Z (zi5) ?_
  rintro r10 K11 ⟨rfl,rfl⟩
  refine au [2,3] ?_
  refine TK.rt hret [] ?_
  rfl
 have hne:zf b≠[]:=fun hh=>by rw [hh] at hc0; simp at hc0
 have hall:okAll b (zf b):=fun s hs=>(y7 hbb hs).1
 have hrd:=hbb.rnd.round
 have hrl:=hbb.rnd.roll
 have hrs:=hbb.rnd.rolls
 refine au [12,4,5,8,22] ?_
 intro jx hjx
 refine au [17,3,4] ?_
 refine TK.draw [0,1,2,3,4,5,6,7,8,9,10,11,12,13,14,15,16,17] [0,1,2,3,4,5,6,7,8,9,10,11,12,13,14,15,16,17] (by kernel_rfl) (by kernel_rfl) ?_
 refine TD.z [7] Z (zg Z Z zl.h dQ) ?_
 refine TD.y [46] Z (hq:=zm Z Z zi.h (mC _) Z) (h:=?_)
 refine TD.z [1] Z (zh Z Z) ?_
 refine TD.z [48] Z (yU Z Z Und.h Und.h (wK oQ)) ?_
 refine TD.z [49] Z (q_rem Z Z Z oQ oQ) ?_
 refine TD.z [47,50] Z (q_add Z Z Z oQ) ?_
 refine TD.z [51] Z (zcZ Z Z Z) ?_
 refine TD.z [7] Z (zg Z Z zl.h dQ) ?_
 refine TD.y [53] Z (hq:=zm Z Z zi.h (mC _) Z) (h:=?_)
 refine TD.z [2] Z (zh Z Z) ?_
 refine TD.z [55] Z (yU Z Z Und.h Und.h (wK oQ)) ?_
 refine TD.z [56] Z (q_rem Z Z Z oQ oQ) ?_
 refine TD.z [54,57] Z (q_add Z Z Z oQ) ?_
 refine TD.z [58] Z (zcZ Z Z Z) ?_
 refine TD.z [15] Z (zg Z Z zl.h dQ) ?_
 refine TD.s (pend':=[⟨13,[58],[]⟩,⟨12,[54,57],[]⟩,⟨11,[56],[]⟩,⟨10,[55],[]⟩,⟨9,[2],[]⟩,⟨8,[53],[(_,_)]⟩,⟨7,[7],[]⟩]) [52,60] Z Z (zX Z Z zi.h Z Z mQ Z) ?_
 refine TD.z [15] Z (zg Z Z zl.h dQ) ?_
 refine TD.s (pend':=[]) [59,61] Z Z (zX Z Z zi.h Z Z mQ Z) ?_
 refine TD.fin ?_
 refine au [4] ?_
 have hfl:=yy seamC 5 (fun _=>rfl) b.seams
 refine TK.normK (K':=[(jx,.cells [intA b.steps,intA b.round,intA (min 24 (b.roll+(n2:Int) % 6)),intA (min 5 (b.rolls+(n1:Int) % 3)),.sl s 0 b.seams.length,.sl h 0 b.shrinks.length,.sl e 0 b.measures.length] 26 true),_,_,_,_,(jb,.cells (zE b s h e) 26 true),_]) (by simp only [setL,zE,List.drop_zero,List.take,List.set,List.drop,List.cons_append,lC,List.length]; rfl) ?_
 refine au [5] ?_
 refine TK.newR Z Z Z (zt (l:=[]) Z zF.h TyZ.h dQ dQ Z) (fun _=>zu rfl tQ) fun j13 hj13=>?_
 refine au [7,9] ?_
 refine TK.appG (ln:=b.seams.flatMap seamC) Z Z Z ApOf.h Z mQ Z Z Z (fun hp=>vu mQ oQ (wl hfl oQ)) (fun h=>lK oQ) (kz seamC (fun _=>rfl) _) (by unfold maxLen; omega) oQ (fun _=>uQ) (fun _=>zu rfl tQ) fun s2=>?_
 simp only [lC,mO]
 refine au [7,17,3,4,5,1] ?_
 refine TK.a Z (yU Z Z Und.h Und.h (wK oQ)) ?_
 refine au [7,9,28] ?_
 refine TK.a Z (q_rem Z Z Z oQ oQ) ?_
 refine au [2,3,4] ?_
 have hil:=Nat.mod_lt n4 (show 0<b.seams.length by omega)
 rw [show (n4:Int) % (b.seams.length:Int)=((n4 % b.seams.length:Nat):Int) from rfl]
 generalize n4 % b.seams.length=i at hil ⊢
 have hf1:=hbb.sms.fld i hil
 refine TK.draw [0,1,2,3,4,5,6,7,8,9,10,11,12,13,14,15,16] [0,1,2,3,4,5,6,7,8,9,10,11,12,13,14,15,16] (by kernel_rfl) (by kernel_rfl) ?_
 refine TD.z [15] Z (zg Z Z zl.h dQ) ?_
 refine TD.y [73] Z (hq:=zm Z Z zi.h (mC _) Z) (h:=?_)
 refine TD.z [16] Z (zh Z Z) ?_
 refine TD.z [7] Z (zg Z Z zl.h dQ) ?_
 refine TD.y [76] Z (hq:=zm Z Z zi.h (mC _) Z) (h:=?_)
 refine TD.z [16] Z (zh Z Z) ?_
 refine TD.z [77,78] Z (zQ Z Z Z zF.h oQ oQ) ?_
 refine TD.z [79] Z (zg Z Z zl.h dQ) ?_
 refine TD.y [80] Z (hq:=zm Z Z zi.h (mC _) (ym (c:=1) (sm_at b (i:=i) hil Z) dQ Z)) (h:=?_)
 refine TD.z [3] Z (zh Z Z) ?_
 refine TD.z [82] Z (yU Z Z Und.h Und.h (wK oQ)) ?_
 refine TD.z [83] Z (q_rem Z Z Z oQ oQ) ?_
 refine TD.z [81,84] Z (q_add Z Z Z oQ) ?_
 refine TD.z [85] Z (zcZ Z Z Z) ?_
 refine TD.y [74,75] Z (hq:=kA Z Z Z zF.h (mC _) oQ oQ) (h:=?_)
 refine TD.as (pend':=[]) [87] Z Z (zg Z Z zl.h dQ) ?_
 refine TD.s (pend':=[]) [86,88] Z Z (zX Z Z zi.h Z Z mQ (qw (i:=i) (yV hil) Z)) ?_
 refine TD.fin ?_
 refine au [4,4] ?_
 obtain ⟨ro,hro⟩:∃ ro,ro=min 5 (b.rolls+(n1:Int) % 3):=⟨_,rfl⟩
 obtain ⟨ra,hra⟩:∃ ra,ra=min 24 (b.roll+(n2:Int) % 6):=⟨_,rfl⟩
 obtain ⟨v,hv⟩:∃ v,v=min 9 ((sm b i).most+(n3:Int) % 4):=⟨_,rfl⟩
 rw [<- hro,<- hra,<- hv]
 obtain ⟨hwd,_⟩:=xh (b:=b) (ro:=ro) (ra:=ra) (i:=i) (v:=v) oQ oQ hil oQ
 have hok:=qv (qB hbb (ro:=ro) (ra:=ra) (i:=i) (v:=v) oQ oQ hil oQ)
 refine TK.unrowAt (c:=jx) (i:=4) (j:=s2) Z mQ uQ ?_
 refine TK.frzRow (j:=s2) ?_
 rw [show b.seams.length=(b.seams.set i (mostX (sm b i) v)).length by simp]
 refine au [5,8,8] ?_
 refine TK.cl Z Z Z Z (qf hck hok hne hwd) ?_
 rintro r14 K15 ⟨rfl,rfl⟩
 refine au [30,3,20] ?_
 refine ⟨fun hc1=>?_,fun hc1=>?_⟩
 ·exact absurd hc1 dQ
 refine au [12,4] ?_
 refine' TK.share (X:=Nat×Nat×TypeId×List Int) (D:=fun x=>CutsOk b x.2.2.2) (E:=fun x=>naL 5 (.v (.int .u8 (n5:Int))::.any::.ptr jb 0::naL 9 (.sl x.1 0 x.2.2.2.length::.ptr x.2.1 0::naL 189 []))) (KK:=fun x=>[(0,zy),(s,zk b),(h,zB b),(e,zq b),(jb,.cells (zE b s h e) 26 true),(x.1,.cells (x.2.2.2.map intA) x.2.2.1 false),(x.2.1,.cells (zE b s h e) 26 true)]) ?_ ?_
 rotate_left
 ·intro H
  refine TK.draw [0,1,3,2,4,5,6] [0,1,2,4,5,3,6] (by kernel_rfl) (by kernel_rfl) ?_
  refine TD.y [7] Z (hq:=z8 Z Z zi.h (mC _) Z) (h:=?_)
  refine TD.z [6] Z (zh Z Z) ?_
  refine TD.y [7] Z (hq:=z8 Z Z zi.h (mC _) Z) (h:=?_)
  refine TD.c2 (i1:=2) (i2:=4) (pend1:=[⟨3,[7],[(_,_)]⟩]) (pend2:=[⟨3,[7],[(_,_)]⟩,⟨1,[6],[]⟩,⟨0,[7],[(_,_)]⟩]) (L1:=[4,5,6]) (L2:=[2,5,6]) [93,94] [] Z Z Z Z Z Z Z ?_ ?_
  ·refine we Z Z Cal.h Z (xQ hT hsl oQ) (by repeat (first | exact Split.none _ | exact Split.all _ | (apply Split.rem; repeat (first | exact Rem.head | apply Rem.tail)) | apply Split.right)) fun r17 K18 h19=>⟨?_,?_⟩
   ·rcases h19 with ⟨jo,eo,rfl,rfl⟩
    all_goals simp
   obtain ⟨jo,eo,rfl,rfl⟩:=h19
   try simp only [cA]
   refine TD.norm (env':=[_,_,_,_,_,_,_,_,_,_,_,_,_,_,_,_,_,_,_,_,_,_,_,_,_,_,_,_,_,_,_,_,_,_,_,_,_,_,_,_,_,_,_,_,_,_,_,_,_,_,_,_,_,_,_,_,_,_,_,_,_,_,_,_,_,_,_,_,_,_,_,_,_,_,_,_,_,_,_,_,_,_,_,_,_,_,_,_,_,_,_,_,_,_,_,_,_,_,_,_,_,_,_,_,_,_,_,_,_,_,_,_,_,_,_,_,_,_,_,_,_,_,_,_,_,_,_,_,_,_,_,_,_,_,_,_,_,_,_,_,_,_,_,_,_,_,_,_,_,_,_,_,_,_,_,_,_,_,_,_,_,_,_,_,_,_,_,_,_,_,_,_,_,_,_,_,_,_,_,_,_,_,_,_,_,_,_,_,_,_,_,_,_,_,_,_,_,_,_,_,_,_,_,_,_,_,_,_]) Z ?_
   obtain ⟨d0,hd0,hd1,hdo⟩:=xi (c:=n6) hsl.1 hsl.2
   have hcc:CutsOk b (otherM n6 b.seams.length):=hdo ▸ zeD hbb hd0 hd1
   clear hdo
   generalize otherM n6 b.seams.length=l at hcc ⊢
   refine TD.cnewP (pend':=[⟨3,[7],[(_,_)]⟩]) [] Z Z Z Z Z (yK Z TyZA.h) (fun _=>zu rfl tQ) sQ fun jy hjy=>?_
   refine TD.as (pend':=[⟨3,[7],[(_,_)]⟩]) [95] Z Z (zD Z Z) ?_
   refine TD.s (pend':=[]) [18,96] Z Z (zX Z Z zi.h Z Z mQ Z) ?_
   refine TD.fin ?_
   refine au [4] ?_
   refine TK.maskL [5,7,17,18] ?_
   refine TK.kp [(0,_),(s,_),(h,_),(e,_),(jb,_),(jo,_),(jy,_)] ?_
   exact H (jo,jy,eo,l) hcc
  ·refine vl Z (yK Z TyZA.h) (fun _=>zu rfl tQ) sQ fun jy hjy=>?_
   refine TD.cl (pend':=[⟨3,[7],[(_,_)]⟩]) [93,94] Z Z Z Z Z (xQ hT hsl oQ) (fun r86 K87 h88=>⟨?_,?_⟩)
   ·rcases h88 with ⟨jo,eo,rfl,rfl⟩
    all_goals simp
   obtain ⟨jo,eo,rfl,rfl⟩:=h88
   try simp only [cA]
   refine TD.norm tQ ?_
   obtain ⟨d0,hd0,hd1,hdo⟩:=xi (c:=n6) hsl.1 hsl.2
   have hcc:CutsOk b (otherM n6 b.seams.length):=hdo ▸ zeD hbb hd0 hd1
   clear hdo
   generalize otherM n6 b.seams.length=l at hcc ⊢
   refine TD.as (pend':=[⟨3,[7],[(_,_)]⟩]) [95] Z Z (zD Z Z) ?_
   refine TD.s (pend':=[]) [18,96] Z Z (zX Z Z zi.h Z Z mQ Z) ?_
   refine TD.fin ?_
   refine au [4] ?_
   refine TK.maskL [5,7,17,18] ?_
   refine TK.kp [(0,_),(s,_),(h,_),(e,_),(jb,_),(jo,_),(jy,_)] ?_
   exact H (jo,jy,eo,l) hcc
 ·rintro ⟨jo,jy,eo,l⟩ hcc
  refine TK.na nQ ?_
  dsimp only at hcc ⊢
  refine au [5,7,9,1] ?_
  refine TK.a Z (yU Z Z Und.h Und.h (wK oQ)) ?_
  refine TK.a Z (q_rem Z Z Z oQ oQ) ?_
  refine au [23] ?_
  refine TK.a Z (zcZ Z Z Z) ?_
  refine au [7,17,3,4] ?_
  obtain ⟨r1,hr1⟩:∃ r1,r1=min 40 (b.round+(n5:Int) % 4):=⟨_,rfl⟩
  rw [<- hr1]
  have hr2:b.round<=r1/\r1<=40:=by omega
  have hckr:=xK hck (r:=r1) oQ hr2.2
  have hner:zf (atRound b r1)≠[]:=by rw [jA]; exact hne
  have hccr:CutsOk (atRound b r1) l:=⟨hcc.pos,hcc.bnd,hcc.asc⟩
  have hcan:=qk (b:=b) (r:=r1) hr2.1 (l:=l) hne
  have hstr:=jA b r1
  refine au [5,8,1] ?_
  refine TK.cl Z Z Z Z (xO hT hck hne hcc) ?_
  rintro r89 K90 ⟨rfl,rfl⟩
  refine au [1,10,10,2,2,3,4,5,8,1] ?_
  refine TK.cl Z Z Z Z (xO hT (b:=atRound b r1) (s:=s) (h:=h) (e:=e) hckr hner hccr) ?_
  rintro r92 K93 ⟨rfl,rfl⟩
  refine au [1,10,10,2,2,3,4,5,8,1] ?_
  refine TK.cl Z Z Z Z (qm hT hck hne hcc) ?_
  rintro r95 K96 ⟨rfl,rfl⟩
  refine au [1,10,10,22] ?_
  intro jz hjz
  refine au [17,2,3,4,5,8,1] ?_
  refine TK.cl Z Z Z Z (qm hT (b:=atRound b r1) (s:=s) (h:=h) (e:=e) hckr hner hccr) ?_
  rintro r98 K99 ⟨rfl,rfl⟩
  refine au [] ?_
  rw [hstr]
  refine au [1,10,10,22] ?_
  intro ju hju
  refine au [17,2,3,4,5,8] ?_
  refine TK.cl Z Z Z Z (xA hck hne) ?_
  rintro r101 K102 ⟨v1,p1,t1,rfl,rfl,hb1⟩
  refine au [1,10,10,10,10,2,2,2,2,3,4,5,8] ?_
  refine TK.cl Z Z Z Z (xA (b:=atRound b r1) (s:=s) (h:=h) (e:=e) hckr hner) ?_
  rintro r104 K105 ⟨v2,p2,t2,rfl,rfl,hb2⟩
  refine au [] ?_
  rw [hstr] at hb2
  refine au [1,10,10,10,10,2,2,2,2,3,4,4,5,1,6,1,1,6,25,1,1,6,25,1,1,6,25,1,1,6,1] ?_
  refine' TK.share (X:=Unit) (D:=fun x=>True) (E:=fun x=>naL 23 (.ptr jz 0::(intA (if sqOk b (zf b) l=true then 0 else 8))::.ptr ju 0::(intA (if sqOk (atRound b r1) (zf b) l=true then 0 else 8))::.any::intA p1::zP t1::naL 2 (intA p2::zP t2::naL 174 []))) (KK:=fun x=>[(jz,.cells [intA (sqLo b (zf b) l),intA (sqHi b (zf b) l)] 51 true),(ju,.cells [intA (sqLo (atRound b r1) (zf b) l),intA (sqHi (atRound b r1) (zf b) l)] 51 true),(0,zy),(s,zk b),(h,zB b),(e,zq b)]) ?_ ?_
  rotate_left
  ·intro H
   refine TK.sp 160 (fun g18_18=>?_) (fun g18_18=>?_)
   ·refine au [1,6,26,25,1] ?_
    refine TK.sp 165 (fun g18_23=>?_) (fun g18_23=>?_)
    ·first | exact absurd g18_23 dQ | (simp at g18_18 g18_23; exact (g18_23 (hcan.1 g18_18)).elim)
    refine au [1,6,1] ?_
    refine TK.sp 168 (fun g18_26=>?_) (fun g18_26=>?_)
    ·refine au [1,6,26,25,3,20] ?_
     refine ⟨fun hc2=>?_,fun hc2=>?_⟩
     ·first | exact absurd hc2 dQ | (simp at g18_26 hc2; exact (hc2 (hcan.2 g18_26)).elim)
     refine au [12,4] ?_
     refine TK.maskL [23,24,25,26,28,29,32,33] ?_
     refine TK.kp [(jz,_),(ju,_),(0,_),(s,_),(h,_),(e,_)] ?_
     exact H () trivial
    refine au [11,11,25,25,3,19,12,4] ?_
    refine TK.maskL [23,24,25,26,28,29,32,33] ?_
    refine TK.kp [(jz,_),(ju,_),(0,_),(s,_),(h,_),(e,_)] ?_
    exact H () trivial
   refine au [11,11,25,25,1,1,6,1] ?_
   refine TK.sp 168 (fun g18_26=>?_) (fun g18_26=>?_)
   ·refine au [1,6,26,25,3,20] ?_
    refine ⟨fun hc2=>?_,fun hc2=>?_⟩
    ·first | exact absurd hc2 dQ | (simp at g18_26 hc2; exact (hc2 (hcan.2 g18_26)).elim)
    refine au [12,4] ?_
    refine TK.maskL [23,24,25,26,28,29,32,33] ?_
    refine TK.kp [(jz,_),(ju,_),(0,_),(s,_),(h,_),(e,_)] ?_
    exact H () trivial
   refine au [11,11,25,25,3,19,12,4] ?_
   refine TK.maskL [23,24,25,26,28,29,32,33] ?_
   refine TK.kp [(jz,_),(ju,_),(0,_),(s,_),(h,_),(e,_)] ?_
   exact H () trivial
  ·rintro _ _
   refine TK.na nQ ?_
   refine au [5,1,6,1] ?_
   refine TK.sp 175 (fun g20_3=>?_) (fun g20_3=>?_)
   ·refine au [11,11,11,11,11,11,11,11,11,11,11,11,11,11,11,11,26,1,1,30,1] ?_
    refine TK.sp 196 (fun g20_24=>?_) (fun g20_24=>?_)
    ·refine au [11,11,11,11,11,11,26,26,1] ?_
     refine TK.cl Z Z Z Z (zi5) ?_
     rintro r143 K144 ⟨rfl,rfl⟩
     refine au [26,2,3] ?_
     refine TK.rt hret [] ?_
     rfl
    have ht2:t2=true:=by simpa using g20_24
    obtain ⟨ht1,hpp⟩:t1=true/\p1<=p2:=by
     rcases hb2 with ⟨h,_⟩ | ⟨_,d,hq,rfl⟩
     ·rw [ht2] at h; cases h
     ·obtain ⟨q1,q2⟩:=xl hbb hr2.1 hr2.2 hne hall hq
      rcases hb1 with ⟨_,hn⟩ | ⟨h,c,hp,rfl⟩
      ·exact (q1 hn).elim
      ·exact ⟨h,q2 c hp⟩
    rw [ht1]
    refine au [1,1,1,1,6,26,25,26,1] ?_
    refine TK.sp 205 (fun g20_33=>?_) (fun g20_33=>?_)
    ·refine TK.cl Z Z Z Z (zi5) ?_
     rintro r146 K147 ⟨rfl,rfl⟩
     refine au [26,2,3] ?_
     refine TK.rt hret [] ?_
     rfl
    simp at g20_33; omega
   have hq2:sqOk (atRound b r1) (zf b) l=true:=by
    cases hq:sqOk (atRound b r1) (zf b) l with
    | true=>rfl
    | false=>rw [hq] at g20_3; simp at g20_3
   obtain ⟨hq1,hlo,hhi⟩:=xH hbb hr2.1 hr2.2 hne hall hcc hq2
   rw [if_pos hq1]
   refine au [1,6,1,7,9,7,9,6,26,1] ?_
   refine TK.sp 185 (fun g20_13=>?_) (fun g20_13=>?_)
   ·refine au [7,9,7,9,6,26,25,1] ?_
    refine TK.sp 193 (fun g20_21=>?_) (fun g20_21=>?_)
    ·refine au [1,30,1] ?_
     refine TK.sp 196 (fun g20_24=>?_) (fun g20_24=>?_)
     ·refine au [11,11,11,11,11,11,26,26,1] ?_
      refine TK.cl Z Z Z Z (zi5) ?_
      rintro r149 K150 ⟨rfl,rfl⟩
      refine au [26,2,3] ?_
      refine TK.rt hret [] ?_
      rfl
     have ht2:t2=true:=by simpa using g20_24
     obtain ⟨ht1,hpp⟩:t1=true/\p1<=p2:=by
      rcases hb2 with ⟨h,_⟩ | ⟨_,d,hq,rfl⟩
      ·rw [ht2] at h; cases h
      ·obtain ⟨q1,q2⟩:=xl hbb hr2.1 hr2.2 hne hall hq
       rcases hb1 with ⟨_,hn⟩ | ⟨h,c,hp,rfl⟩
       ·exact (q1 hn).elim
       ·exact ⟨h,q2 c hp⟩
     rw [ht1]
     refine au [1,1,1,1,6,26,25,26,1] ?_
     refine TK.sp 205 (fun g20_33=>?_) (fun g20_33=>?_)
     ·refine TK.cl Z Z Z Z (zi5) ?_
      rintro r152 K153 ⟨rfl,rfl⟩
      refine au [26,2,3] ?_
      refine TK.rt hret [] ?_
      rfl
     simp at g20_33; omega
    simp at g20_21; omega
   simp at g20_13; omega
end Go.Vel
end
