/- The law RollBest: by the cuts of Best the canvas surely can be hung, and needs as many squares at most as is told; no other cuts are better; by those of Fewest it surely can be hung, and by no fewer. It holds of every program, tape and world that the statements name, as each theorem says. -/
import Derived.Test.YtamcohjpanjdiaaGreatDoorK7
import Derived.Test.YtamcohjpanjdiaaGreatDoorK8
import Derived.Test.YtamcohjpanjdiaaGreatDoorK10
section
set_option linter.all false
set_option maxRecDepth 20000
set_option maxHeartbeats 60000000
open Go.Proofs.Tryz renaming prog -> tp
open List renaming getElem?_eq_getElem -> lA
open List.Mem renaming head -> mC
open Nat renaming le_refl -> mL, zero_le -> mN, lt_or_ge -> mR
namespace Go.Vel
open Go Go.Conc Go.Proofs
instance:EqG tp 49:={}
instance:EqG tp 94:={}
instance:FlatF tp 49 [(3,0),(3,1),(3,2)]:={}
instance:FlatF tp 94 [(3,0),(3,1),(3,2),(3,3),(4,4)]:={}
instance:Und tp 4 .bool:={}
end Go.Vel
namespace Go.Vel
open Go Go.Conc
end Go.Vel
namespace Go.Vel
open Go Go.Conc Go.Proofs
instance:Cal tp 19:={}
instance:Cal tp 44:={}
instance:Cal tp 49:={}
end Go.Vel
namespace Go.Vel
open Go Go.Conc
theorem jV:∀ m:Fin 6,∀ k:Fin 5,k.1<m.1->zw (2 ^ k.1) m.1=[(k.1:Int)]:=by decide
theorem jS:∀ i,zw 0 i=[]
 | 0=>rfl
 | i+1=>by unfold zw; rw [jS i,Nat.zero_div]; rfl
theorem jC (c m:Nat):∀ i,i<=m->zw (c % 2 ^ m) i=zw c i
 | 0,_=>rfl
 | i+1,h=>by
  unfold zw
  rw [jC c m i oQ]
  have h1:=Nat.testBit_mod_two_pow c m i
  rw [Nat.testBit_eq_decide_div_mod_eq,Nat.testBit_eq_decide_div_mod_eq,decide_eq_true (show i<m by omega),Bool.true_and] at h1
  have h2:(c % 2 ^ m / 2 ^ i % 2=1)=(c / 2 ^ i % 2=1):=propext (by simpa using h1)
  simp only [h2]
def otherM (c n:Nat):List Int:=if zw c n=[] then [((c % n:Nat):Int)] else zw c n
theorem jD {c n:Nat} (h1:1<=n) (h5:n<=5):∃ d,0<d/\d<2 ^ n/\otherM c n=zw d n:=by
 unfold otherM
 split
 ·have hm:=Nat.mod_lt c h1
  exact ⟨2 ^ (c % n),Nat.two_pow_pos _,Nat.pow_lt_pow_right dQ hm,(jV ⟨n,by omega⟩ ⟨c % n,by omega⟩ hm).symm⟩
 ·rename_i h
  refine ⟨c % 2 ^ n,?_,Nat.mod_lt _ (Nat.two_pow_pos _),(jC c n n (mL _)).symm⟩
  rcases Nat.eq_zero_or_pos (c % 2 ^ n) with h0 | h0
  ·exact absurd (by rw [<- jC c n n (mL _),h0]; exact jS n) h
  ·exact h0
theorem xa {b:RBk} {l:List Int} (h:sqOk b (zf b) l=true):canM b l=1:=by
 have hw:(waysM b (zf b) l).length=(zf b).length:=by
  have:=zd1 b (zf b) l
  unfold sqOk squaresM at h
  by_cases hl:(waysM b (zf b) l).length<(zf b).length
  ·rw [if_pos hl] at h; cases h
  ·omega
 unfold canM
 rw [if_pos hw]
theorem jB (x:List Int):smallerM x x=false:=by
 cases h:smallerM x x with
 | false=>rfl
 | true=>rw [kJ,zf4] at h; omega
theorem jU {b:RBk} {all:List (List Int)} {c d:Nat} (h:PlanA b all cheaperM c) (h0:0<d) (h1:d<2 ^ b.seams.length) (hs:sqOk b all (zw d b.seams.length)=true):sqHi b all (zw c b.seams.length)<=sqHi b all (zw d b.seams.length)/\(sqHi b all (zw c b.seams.length)<sqHi b all (zw d b.seams.length)\/smallerM (zw d b.seams.length) (zw c b.seams.length)=false):=by
 rcases h.2.2.2 d h0 h1 hs with e | e
 ·obtain ⟨e1,e2⟩:=Prod.mk.inj e
  exact ⟨by omega,.inr (by rw [e1]; exact jB _)⟩
 ·rw [kT] at e
  dsimp only at e
  rcases e with e | ⟨e,e2⟩
  ·exact ⟨by omega,.inl e⟩
  ·exact ⟨by omega,.inr (ziE e2)⟩
theorem jY {b:RBk} {all:List (List Int)} {c d:Nat} (h:PlanA b all shorterM c) (h0:0<d) (h1:d<2 ^ b.seams.length) (hs:sqOk b all (zw d b.seams.length)=true):smallerM (zw d b.seams.length) (zw c b.seams.length)=false:=by
 rcases h.2.2.2 d h0 h1 hs with e | e
 ·rw [(Prod.mk.inj e).1]; exact jB _
 ·exact ziE e
theorem jP {b:RBk} {all:List (List Int)} {c:Nat} {bt:List Int×Int->List Int×Int->Bool} (h:PlanA b all bt c) (hn:NoPlan b all):False:=by
 have:=hn c h.1 h.2.1
 rw [h.2.2.1] at this
 cases this
end Go.Vel
namespace Go.Vel
open Go Go.Conc Go.Proofs
section
variable {P:Program} {gm:Nat->Option Nat} {V:KV} {env:List AV} {o:Oper}
theorem xe {t yt:TypeId} {x y:Operand} {k':IntKind} {a b:Nat} (ho:o.op=.binOp .shr t x y yt) (hx:zn gm env x=some (.v (.int .u8 a))) (hy:zn gm env y=some (.v (.int k' b))) (h0:b<=6):Qk P gm env V o (.v (.int .u8 ((a / 2 ^ b:Nat):Int))):=fun A _=>by
 refine vq ho (by rw [zx hx]; rfl) (by rw [zx hy]; rfl) ?_
 rw [u7]
 show zR P (Op.shift .shr .u8 a k' b)=_
 unfold Op.shift
 rw [if_neg oQ]
 show some (Value.int .u8 ((a:Int).fdiv (2 ^ min (b:Int).toNat 8)))=_
 rw [Int.toNat_natCast,Nat.min_eq_left oQ,show ((a:Int).fdiv (2 ^ b))=((a / 2 ^ b:Nat):Int) by rw [Int.fdiv_eq_ediv_of_nonneg _ (by exact_mod_cast mN (2 ^ b))]; norm_cast]
theorem xd {t yt:TypeId} {x y:Operand} {a:Nat} (ho:o.op=.binOp .and t x y yt) (hx:zn gm env x=some (.v (.int .u8 a))) (hy:zn gm env y=some (.v (.int .u8 1))) (h:a<256):Qk P gm env V o (.v (.int .u8 ((a % 2:Nat):Int))):=by
 refine wQ ho hx hy ?_
 show some (Value.int .u8 (IntKind.u8.wrap ((BitVec.ofInt 8 (a:Int) &&& BitVec.ofInt 8 1).toNat:Int)))=_
 have:(BitVec.ofInt 8 (a:Int) &&& BitVec.ofInt 8 1).toNat=a % 2:=by
  rw [BitVec.toNat_and]
  have e1:(BitVec.ofInt 8 (a:Int)).toNat=a:=by
   rw [BitVec.toNat_ofInt]
   omega
  rw [e1]
  show a &&& 1=a % 2
  exact Nat.and_one_is_mod a
 rw [this]
 have h2:a % 2=0\/a % 2=1:=by omega
 rcases h2 with h2 | h2 <;> rw [h2] <;> rfl
end
theorem jR {c i:Nat} (h:c / 2 ^ i % 2=1):zw c (i+1)=zw c i++[(i:Int)]:=by
 show zw c i++_=_
 rw [if_pos h]
theorem jQ {c i:Nat} (h:¬ c / 2 ^ i % 2=1):zw c (i+1)=zw c i:=by
 show zw c i++_=_
 rw [if_neg h,List.append_nil]
theorem jW {l:List Int} (hp:l.Pairwise (· < ·)) {i j:Nat} (hij:i<j) (hj:j<l.length):zN l i<zN l j:=by
 have e1:=z5 (l:=l) (k:=i) oQ
 have e2:=z5 hj
 rw [lA oQ] at e1
 rw [lA hj] at e2
 rw [<- Option.some.inj e1,<- Option.some.inj e2]
 exact List.pairwise_iff_getElem.1 hp i j oQ hj hij
theorem xc {x y:Int} {r t:List Int} (h:¬ x=y):decide (lexM (x::r) (y::t)<0)=decide (x<y):=by
 refine decide_eq_decide.2 ?_
 simp only [lexM]
 by_cases h1:x<y
 ·rw [if_pos h1]; simp [h1]
 ·rw [if_neg h1,if_pos oQ]; simp [h1]
theorem jO {xs ys:List Int} {i:Nat} (hi:i<=xs.length) (hi2:i<=ys.length) (h:xs.length<=i\/ys.length<=i):decide (lexM (xs.drop i) (ys.drop i)<0)=decide ((xs.length:Int)<ys.length):=by
 refine decide_eq_decide.2 ?_
 rcases mR i xs.length with h1 | h1
 ·have h2:ys.length<=i:=by omega
  rw [zH (z5 h1),List.drop_eq_nil_of_le h2]
  simp only [lexM]
  omega
 ·rw [List.drop_eq_nil_of_le h1]
  rcases mR i ys.length with h2 | h2
  ·rw [zH (z5 h2)]
   simp only [lexM]
   omega
  ·rw [List.drop_eq_nil_of_le h2]
   simp only [lexM]
   omega
instance:Cal tp 62:={}
instance:Cal tp 75:={}
theorem jN {main T} (hT:zo tp main T) {gm} {b:RBk} {s h e c:Nat} (hn:1<=b.seams.length/\b.seams.length<=5) (hc:c<256) :
  zA tp T gm 50 [.agg (zE b s h e),.v (.int .u8 (c:Int))] [] (fun r K'=>∃ (jo:Nat) (eo:TypeId),r=.sl jo 0 (otherM c b.seams.length).length/\K'=[(jo,.cells ((otherM c b.seams.length).map intA) eo false)]):=by
 refine zp 34 hT Tryz.func50 fun Y hret=>?_
 refine au [4,5,21] ?_
 intro jb hjb
 refine au [2,3,4,5,2] ?_
 refine TK.virt 5 3 1 Z fun jr0 hjr0=>?_
 refine au [3,4,4,5,2,3,13] ?_
 refine TK.maskL [1,2,5,6] ?_
 refine TK.kp [(jr0,_),(jb,_)] ?_
 refine TK.loopN (fun n env K=>∃ (i jr:Nat),n=b.seams.length - i/\i<=b.seams.length/\env=.any::.v (.int .u8 (c:Int))::.ptr jb 0::naL 2 (.row jr (zw c i).length::intA i::naL 27 [])/\K=[(jr,.row ((zw c i).map intA) 3 1),(jb,.cells (zE b s h e) 26 true)]) b.seams.length ⟨0,jr0,rfl,mN _,rfl,rfl⟩ fun n env K hI hnext=>?_
 obtain ⟨i,jr,rfl,hi,rfl,rfl⟩:=hI
 have hbl:=wC c i
 refine TK.na nQ ?_
 refine au [4,4,5,1,7,9,28,6,3,20] ?_
 refine ⟨fun hc0=>?_,fun hc0=>?_⟩
 ·have hil:i<b.seams.length:=by simp at hc0; omega
  refine au [12,4,13,4,5,1,1] ?_
  refine TK.a Z (xe Z Z Z oQ) ?_
  refine TK.a Z (xd Z Z Z (by have:=Nat.div_le_self c (2 ^ i); omega)) ?_
  refine au [6,3,20] ?_
  refine ⟨fun hc1=>?_,fun hc1=>?_⟩
  ·have hbit:c / 2 ^ i % 2=1:=by have h:=eq_of_beq hc1; omega
   refine au [5,1,1] ?_
   refine TK.newR Z Z Z (zt (l:=[_]) Z zF.h TyZ.h dQ dQ Z) (fun _=>zu rfl tQ) fun j1 hj1=>?_
   refine TK.appR Z Z Z (a_app Z ApOf.h Z mQ sQ Z (yu (ln:=[_]) mQ dQ sQ Z) oQ Z (by unfold maxLen; omega) oQ) (fun _=>uQ) (fun _=>zu rfl tQ) fun jr2=>?_
   refine au [2,3,14,5,1,23,2,3] ?_
   refine TK.maskL [1,2,5,6] ?_
   refine TK.kp [(jr2,_),(jb,_)] ?_
   exact hnext _ _ _ oQ ⟨i+1,jr2,rfl,by omega,by rw [jR hbit,List.length_append]; rfl,by rw [jR hbit,List.map_append]; rfl⟩
  have hbit:¬ c / 2 ^ i % 2=1:=fun h=>by rw [h] at hc1; simp at hc1
  refine au [12,14,5,1,23,2,3] ?_
  refine TK.maskL [1,2,5,6] ?_
  refine TK.kp [(jr,_),(jb,_)] ?_
  exact hnext _ _ _ oQ ⟨i+1,jr,rfl,by omega,by rw [jQ hbit] <;> rfl,by rw [jQ hbit] <;> rfl⟩
 obtain rfl:i=b.seams.length:=by simp at hc0; omega
 refine au [16,4,4,5,1,28,6,3,20] ?_
 refine ⟨fun hc2=>?_,fun hc2=>?_⟩
 ·have hb0:zw c b.seams.length=[]:=by have h:=eq_of_beq hc2; exact List.eq_nil_of_length_eq_zero oQ
  have hot:otherM c b.seams.length=[((c % b.seams.length:Nat):Int)]:=if_pos hb0
  refine au [4,5,1] ?_
  refine TK.a Z (yU Z Z Und.h Und.h (wK oQ)) ?_
  refine au [7,9,28] ?_
  refine TK.a Z (q_rem Z Z Z oQ oQ) ?_
  refine TK.newR Z Z Z (zt (l:=[_]) Z zF.h TyZ.h dQ dQ Z) (fun _=>zu rfl tQ) fun jo hjo=>?_
  refine au [2] ?_
  refine TK.asSl 4 Z mQ ?_
  refine TK.frzRow (j:=jo) ?_
  refine au [3] ?_
  refine TK.rt hret [(jo,_)] ?_
  exact ⟨jo,_,by rw [hot]; rfl,by rw [hot]; rfl⟩
 have hb0:zw c b.seams.length≠[]:=fun hh=>by rw [hh] at hc2; simp at hc2
 have hot:otherM c b.seams.length=zw c b.seams.length:=if_neg hb0
 refine TK.asSl 5 Z mQ ?_
 refine TK.frzRow (j:=jr) ?_
 refine au [12,4,5,1,2,3] ?_
 refine TK.rt hret [(jr,_)] ?_
 exact ⟨jr,_,by rw [hot],by rw [hot]⟩
theorem jT {main T} (hT:zo tp main T) {gm} {j:Nat} {et:TypeId} {l:List Int} {n:Int} (hb:∀ x∈l,0<=x/\x<n) (hp:l.Pairwise (· < ·)) (hl:l.length<=1000) (hn:n<=1000) :
  zA tp T gm 62 [.sl j 0 l.length,intA n] [(j,.cells (l.map intA) et false)] (fun r K'=>r=intA 0/\K'=[(j,.cells (l.map intA) et false)]):=by
 refine zp 34 hT Tryz.func62 fun Y hret=>?_
 refine au [4,5,2,3,4,4,5,2,3,13] ?_
 refine TK.maskL [0,1,5] ?_
 refine TK.loopN (fun n0 env K=>∃ (i:Nat),n0=l.length - i/\i<=l.length/\env=[.sl j 0 l.length,intA n,.any,.any,.any,intA i,.any,.any,.any,.any,.any,.any,.any,.any,.any,.any,.any,.any,.any,.any,.any,.any,.any,.any,.any,.any,.any,.any,.any,.any,.any,.any,.any,.any]/\K=[(j,.cells (l.map intA) et false)]) l.length ⟨0,rfl,mN _,rfl,rfl⟩ fun n0 env K hI hnext=>?_
 obtain ⟨i,rfl,hi,rfl,rfl⟩:=hI
 refine au [4,4,5,1,1,28,6,3,20] ?_
 refine ⟨fun hc0=>?_,fun hc0=>?_⟩
 ·have hil:i<l.length:=by simp at hc0; omega
  have hx:=hb _ (zgU hil)
  refine au [12,4,13,4,4,5,1,1,36] ?_
  refine TK.a Z (zm Z Z zi.h mQ (yh (i:=i) (z5 hil) Z)) ?_
  refine au [1,24] ?_
  refine TK.cl Z Z Z Z (yz hT) ?_
  rintro r1 K2 ⟨rfl,rfl⟩
  refine au [30,3,20] ?_
  refine ⟨fun hc1=>?_,fun hc1=>?_⟩
  ·simp [betw] at hc1; omega
  refine au [12,4] ?_
  refine TK.draw [0,1,2,3,4,5,6,7,8,9,10,11,12,13] [0,1,2,3,4,5,6,7,8,9,10,11,12,13] (by kernel_rfl) (by kernel_rfl) ?_
  refine TD.z [5] Z (zh Z Z) ?_
  refine TD.z [20] Z (q_cmp Z Z Z Z) ?_
  refine TD.z [21] Z (zh Z Z) ?_
  refine TD.sp 22 (fun g6_3=>?_) (fun g6_3=>?_)
  ·have hgi:0<i:=by have:=of_decide_eq_true g6_3; omega
   have hlt:zN l (i - 1)<zN l i:=jW hp oQ hil
   refine TD.z [0,22] Z (zh Z Z) ?_
   refine TD.z [5,22] Z (zh Z Z) ?_
   refine TD.z [22,23,24] Z (zQ Z Z Z zF.h oQ oQ) ?_
   refine TD.y [22,25] Z (hq:=zm Z Z zi.h (mC _) (yh (i:=i) (z5 hil) Z)) (h:=?_)
   refine TD.z [0,22] Z (zh Z Z) ?_
   refine TD.z [5,22] Z (zh Z Z) ?_
   refine TD.z [22,28] Z (q_sub Z Z Z oQ) ?_
   refine TD.z [22,27,29] Z (zQ Z Z Z zF.h oQ oQ) ?_
   refine TD.y [22,30] Z (hq:=zm Z Z zi.h (mC _) (yh (i:=i - 1) (z5 oQ) oQ)) (h:=?_)
   refine TD.z [22,26,31] Z (q_cmp Z Z Z Z) ?_
   refine TD.z [22,32] Z (yE Z Z Z) ?_
   refine TD.fin ?_
   refine au [20] ?_
   refine ⟨fun hc2=>?_,fun hc2=>?_⟩
   ·simp at hc2; omega
   refine au [12,14,5,1,23,2,3] ?_
   refine TK.maskL [0,1,5] ?_
   exact hnext _ _ _ oQ ⟨i+1,rfl,by omega,rfl,rfl⟩
  refine TD.u [0,22] Z ?_
  refine TD.u [5,22] Z ?_
  refine TD.u [22,23,24] Z ?_
  refine TD.u [22,25] Z ?_
  refine TD.u [0,22] Z ?_
  refine TD.u [5,22] Z ?_
  refine TD.u [22,28] Z ?_
  refine TD.u [22,27,29] Z ?_
  refine TD.u [22,30] Z ?_
  refine TD.u [22,26,31] Z ?_
  refine TD.z [22,32] Z (yf Z Z Z) ?_
  refine TD.fin ?_
  refine au [19,12,14,5,1,23,2,3] ?_
  refine TK.maskL [0,1,5] ?_
  exact hnext _ _ _ oQ ⟨i+1,rfl,by omega,rfl,rfl⟩
 obtain rfl:i=l.length:=by simp at hc0; omega
 refine au [16,4,5,2,3] ?_
 refine TK.rt hret [(j,_)] ?_
 exact ⟨rfl,rfl⟩
theorem jA {main T} (hT:zo tp main T) {gm} {b:RBk} {s h e j:Nat} {et:TypeId} {l:List Int} (hl:CutsOk b l) (hn:b.seams.length<=100) :
  zA tp T gm 76 [.agg (zE b s h e),.sl j 0 l.length] [(j,.cells (l.map intA) et false)] (fun r K'=>r=intA 0/\K'=[(j,.cells (l.map intA) et false)]):=by
 refine zp 13 hT Tryz.func76 fun Y hret=>?_
 refine au [4,5,21] ?_
 intro jb hjb
 refine au [2,3,4,4,5,1,28,6,3,20] ?_
 refine ⟨fun hc0=>?_,fun hc0=>?_⟩
 ·have h1:=hl.pos; have h2:=eq_of_beq hc0; omega
 refine au [12,4,5,1,7,9,28] ?_
 refine TK.cl Z Z Z Z (jT hT (fun x hx=>by have:=hl.bnd x hx; omega) hl.asc (by have:=hl.len; omega) oQ) ?_
 rintro r1 K2 ⟨rfl,rfl⟩
 refine au [2,3] ?_
 refine TK.rt hret [(j,_)] ?_
 exact ⟨rfl,rfl⟩
theorem jK {main T} (hT:zo tp main T) {gm} {j j2:Nat} {xs ys:List Int} {e1 e2:TypeId} (hl:xs.length<=1000) (hl2:ys.length<=1000) :
  zA tp T gm 75 [.sl j 0 xs.length,.sl j2 0 ys.length] [(j,.cells (xs.map intA) e1 false),(j2,.cells (ys.map intA) e2 false)] (fun r K'=>r=zP (decide (lexM xs ys<0))/\K'=[(j,.cells (xs.map intA) e1 false),(j2,.cells (ys.map intA) e2 false)]):=by
 refine zp 41 hT Tryz.func75 fun Y hret=>?_
 refine au [4,5,2,3,4,4,5,2,3,13] ?_
 refine TK.maskL [0,1,5] ?_
 refine TK.loopN (fun n env K=>∃ (i:Nat),n=xs.length - i/\i<=xs.length/\i<=ys.length/\lexM (xs.drop i) (ys.drop i)=lexM xs ys/\env=.sl j 0 xs.length::.sl j2 0 ys.length::naL 3 (intA i::naL 35 [])/\K=[(j,.cells (xs.map intA) e1 false),(j2,.cells (ys.map intA) e2 false)]) xs.length ⟨0,rfl,mN _,mN _,rfl,rfl,rfl⟩ fun n env K hI hnext=>?_
 obtain ⟨i,rfl,hi,hi2,hinv,rfl,rfl⟩:=hI
 refine TK.na nQ ?_
 refine au [4,4,5,1,1,28,6,1] ?_
 refine TK.sp 10 (fun g2_5=>?_) (fun g2_5=>?_)
 ·have hil:i<xs.length:=by have:=of_decide_eq_true g2_5; omega
  refine au [1,1,28,6,26,3,20] ?_
  refine ⟨fun hc0=>?_,fun hc0=>?_⟩
  ·have hjl:i<ys.length:=by have:=of_decide_eq_true hc0; omega
   refine au [12,4,13,4] ?_
   refine TK.draw [0,1,2,3,4,5,6,7,8] [0,1,2,3,4,5,6,7,8] (by kernel_rfl) (by kernel_rfl) ?_
   refine TD.z [0] Z (zh Z Z) ?_
   refine TD.z [5] Z (zh Z Z) ?_
   refine TD.z [18,19] Z (zQ Z Z Z zF.h oQ oQ) ?_
   refine TD.y [20] Z (hq:=zm Z Z zi.h (mC _) (yh (i:=i) (z5 hil) Z)) (h:=?_)
   refine TD.z [1] Z (zh Z Z) ?_
   refine TD.z [5] Z (zh Z Z) ?_
   refine TD.z [22,23] Z (zQ Z Z Z zF.h oQ oQ) ?_
   refine TD.y [24] Z (hq:=zm Z Z zi.h (mC _) (yh (i:=i) (z5 hjl) Z)) (h:=?_)
   refine TD.z [21,25] Z (q_cmp Z Z Z Z) ?_
   refine TD.fin ?_
   refine au [20] ?_
   refine ⟨fun hc1=>?_,fun hc1=>?_⟩
   ·refine au [4] ?_
    refine TK.draw [0,1,2,3,4,5,6,7,8,9] [0,1,2,3,4,5,6,7,8,9] (by kernel_rfl) (by kernel_rfl) ?_
    refine TD.z [0] Z (zh Z Z) ?_
    refine TD.z [5] Z (zh Z Z) ?_
    refine TD.z [27,28] Z (zQ Z Z Z zF.h oQ oQ) ?_
    refine TD.y [29] Z (hq:=zm Z Z zi.h (mC _) (yh (i:=i) (z5 hil) Z)) (h:=?_)
    refine TD.z [1] Z (zh Z Z) ?_
    refine TD.z [5] Z (zh Z Z) ?_
    refine TD.z [31,32] Z (zQ Z Z Z zF.h oQ oQ) ?_
    refine TD.y [33] Z (hq:=zm Z Z zi.h (mC _) (yh (i:=i) (z5 hjl) Z)) (h:=?_)
    refine TD.z [30,34] Z (q_cmp Z Z Z Z) ?_
    refine TD.as (pend':=[]) [35] Z Z (zD Z Z) ?_
    refine TD.fin ?_
    refine au [] ?_
    refine TK.rt hret [(j,_),(j2,_)] ?_
    exact ⟨by rw [<- hinv,zH (z5 hil),zH (z5 hjl),xc (by simpa using hc1)] <;> rfl,rfl⟩
   refine au [12,14,5,1,23,2,3] ?_
   refine TK.maskL [0,1,5] ?_
   exact hnext _ _ _ oQ ⟨i+1,rfl,by omega,by omega,by rw [<- hinv,zH (z5 hil),zH (z5 hjl)]; simp only [lexM]; simp at hc1; rw [if_neg oQ,if_neg oQ],rfl,rfl⟩
  have hjl:=of_decide_eq_false hc0
  refine au [16,4,5,1,28,1,28,6,2,3] ?_
  refine TK.rt hret [(j,_),(j2,_)] ?_
  exact ⟨by rw [<- hinv,jO hi hi2 (.inr oQ)] <;> rfl,rfl⟩
 have hil:=of_decide_eq_false g2_5
 refine au [11,11,11,11,25,3,19,16,4,5,1,28,1,28,6,2,3] ?_
 refine TK.rt hret [(j,_),(j2,_)] ?_
 exact ⟨by rw [<- hinv,jO hi hi2 (.inl oQ)] <;> rfl,rfl⟩
theorem ji {main T} (hT:zo tp main T) {gm} {j j2:Nat} {xs ys:List Int} {e1 e2:TypeId} (hl:xs.length<=1000) (hl2:ys.length<=1000) :
  zA tp T gm 65 [.sl j 0 xs.length,.sl j2 0 ys.length] [(j,.cells (xs.map intA) e1 false),(j2,.cells (ys.map intA) e2 false)] (fun r K'=>r=zP (smallerM xs ys)/\K'=[(j,.cells (xs.map intA) e1 false),(j2,.cells (ys.map intA) e2 false)]):=by
 refine zp 22 hT Tryz.func65 fun Y hret=>?_
 refine au [4,5,2,3,4,5,1,28,1,28,6,1] ?_
 refine TK.sp 10 (fun g1_6=>?_) (fun g1_6=>?_)
 ·refine au [11,11,11,11,11,11,11,11,11,11,26,2,3] ?_
  refine TK.rt hret [(j,_),(j2,_)] ?_
  exact ⟨by simp at g1_6; simp [smallerM,g1_6],rfl⟩
 refine au [1,28,1,28,6,1] ?_
 refine TK.sp 16 (fun g1_12=>?_) (fun g1_12=>?_)
 ·refine au [1,1] ?_
  refine TK.cl Z Z Z Z (jK hT hl hl2) ?_
  rintro r1 K2 ⟨rfl,rfl⟩
  refine au [26,25,2,3] ?_
  refine TK.rt hret [(j,_),(j2,_)] ?_
  exact ⟨by simp at g1_6 g1_12; unfold smallerM; rw [decide_eq_false (show ¬ xs.length<ys.length by omega),decide_eq_true (show xs.length=ys.length by omega)]; rfl,rfl⟩
 refine au [11,11,11,25,25,2,3] ?_
 refine TK.rt hret [(j,_),(j2,_)] ?_
 exact ⟨by simp at g1_6 g1_12; unfold smallerM; rw [decide_eq_false (show ¬ xs.length<ys.length by omega),decide_eq_false (show ¬ xs.length=ys.length by omega)]; rfl,rfl⟩
theorem or3n {x:Int} {A B C D:Prop} (h:(x≠0/\A)\/(x=0/\D/\B)\/(x=0/\¬ D/\C)) (hx:x=0) (hd:D):B:=by
 rcases h with ⟨h,_⟩ | ⟨_,_,h⟩ | ⟨_,h,_⟩
 ·exact absurd hx h
 ·exact h
 ·exact absurd hd h
theorem jM {b:RBk}:∀ (l:List Int) (last:Option Int),(∀ n∈l,0<=n/\n<b.seams.length/\∀ k,last=some k->k<n)->l.Pairwise (· < ·)->cutsL b last l=0
 | [],_,_,_=>rfl
 | n::r,last,h,hp=>by
  obtain ⟨h1,h2,h3⟩:=h n sQ
  obtain ⟨p1,p2⟩:=List.pairwise_cons.1 hp
  have ht:thereM b n=0:=by unfold thereM; rw [if_pos (by simp [betw]; omega)]
  unfold cutsL
  rw [if_neg (by rw [ht]; decide),if_neg]
  ·exact jM r _ (fun m hm=>⟨(h m (by simp [hm])).1,(h m (by simp [hm])).2.1,fun k hk=>by cases hk; exact p1 m hm⟩) p2
  ·cases last with
   | none=>simp [notAft]
   | some k=>have:=h3 k rfl; simp [notAft]; omega
theorem xb {b:RBk} {l:List Int} (h:CutsOk b l):cutsM b l=0:=by
 unfold cutsM
 have:=h.pos
 rw [if_neg oQ]
 exact jM l none (fun n hn=>⟨(h.bnd n hn).1,(h.bnd n hn).2,fun k hk=>by cases hk⟩) h.asc
theorem jH {b:RBk} {l:List Int} (hc:zr b=0) (h:CutsOk b l):bar2 (zr b) (cutsM b l)=0:=by
 rw [kF hc,xb h]
section
variable {main:Bool} {T:Goroutine->Hp->Prop} {b:RBk} {s h e j:Nat} {l:List Int} {et:TypeId}
theorem jJ (hT:zo tp main T) (hck:zr b=0) (hne:zf b≠[]) (hcc:CutsOk b l):zA tp T gmR 54 [.agg (zE b s h e),.sl j 0 l.length] [(0,zy),(s,zk b),(h,zB b),(e,zq b),(j,.cells (l.map intA) et false)] (fun r K'=>(sqOk b (zf b) l=true/\r=.tup [.agg [intA (sqLo b (zf b) l),intA (sqHi b (zf b) l)],intA 0]/\K'=[(0,zy),(s,zk b),(h,zB b),(e,zq b),(j,.cells (l.map intA) et false)])\/(sqOk b (zf b) l=false/\r=.tup [.agg [intA (sqLo b (zf b) l),intA (sqHi b (zf b) l)],intA 8]/\K'=[(0,zy),(s,zk b),(h,zB b),(e,zq b),(j,.cells (l.map intA) et false)])) :=
 (uv hT (by have:=(zZ hck).sms.len; omega) (by have:=(zZ hck).mes.len; omega) (by have:=hcc.len; have:=(zZ hck).sms.len; omega)).mono fun r K' hh=>by
  have hh:=or3 hh (jH hck hcc) hne
  cases hq:sqOk b (zf b) l with
  | true=>rw [if_pos hq] at hh; exact .inl ⟨rfl,hh⟩
  | false=>rw [if_neg (by rw [hq]; decide)] at hh; exact .inr ⟨rfl,hh⟩
theorem jX (hT:zo tp main T) (hck:zr b=0) (hne:zf b≠[]) (hcc:CutsOk b l):zA tp T gmR 70 [.agg (zE b s h e),.sl j 0 l.length] [(0,zy),(s,zk b),(h,zB b),(e,zq b),(j,.cells (l.map intA) et false)] (fun r K'=>r=.tup [intA (canM b l),intA 0]/\K'=[(0,zy),(s,zk b),(h,zB b),(e,zq b),(j,.cells (l.map intA) et false)]) :=
 (zcg hT (by have:=(zZ hck).sms.len; omega) (by have:=(zZ hck).mes.len; omega) (by have:=hcc.len; have:=(zZ hck).sms.len; omega)).mono fun r K' hh=>or3 hh (jH hck hcc) hne
end
instance:Cal tp 50:={}
instance:Cal tp 65:={}
instance:Cal tp 76:={}
theorem jL {b:RBk} {s h e:Nat} {k:Int} (hk:0<=k/\k<256):Top tp gmR 13 [.agg (zE b s h e),.v (.int .u8 k)] [(0,zy),(s,zk b),(h,zB b),(e,zq b)] (fun r _=>r=zP true):=by
 refine topI 164 Tryz.func13 fun R Y hret=>?_
 have hT:=kH (P:=tp) (AtRet tp 13 R)
 refine au [4,5,21] ?_
 intro jb hjb
 refine au [2,3,4,4,5,8] ?_
 refine TK.cl Z Z Z Z (zja hT) ?_
 rintro r1 K2 ⟨rfl,rfl⟩
 refine au [30,3,20] ?_
 refine ⟨fun hc0=>?_,fun hc0=>?_⟩
 ·refine au [4,5] ?_
  refine TK.cl Z Z Z Z (zi5) ?_
  rintro r4 K5 ⟨rfl,rfl⟩
  refine au [2,3] ?_
  refine TK.rt hret [] ?_
  rfl
 have hgr:greatM b=false/\zr b=0:=by cases hq:greatM b <;> simp [hq] at hc0; exact ⟨rfl,hc0⟩
 obtain ⟨hgr,hck⟩:=hgr
 have hbb:=zZ hck
 have hl:b.seams.length<=100:=by have:=hbb.sms.len; omega
 have hm:b.measures.length<=100:=by have:=hbb.mes.len; omega
 have hl2:b.shrinks.length<=100:=by have:=hbb.cls.len; omega
 have hst:=hbb.rnd.steps
 obtain ⟨kn,rfl⟩:=Int.eq_ofNat_of_zero_le hk.1
 have hsl:=hbb.sms.len
 refine au [12,4,5,8] ?_
 refine TK.cl Z Z Z Z (zgP hl hm) ?_
 rintro r7 K8 h9
 rcases h9 with ⟨hbar,rfl,rfl⟩ | ⟨hbar,hnil,rfl,rfl⟩ | ⟨hbar,hne,⟨hno,rfl,rfl⟩ | ⟨c,jc,ec,hpl,rfl,rfl⟩⟩
 ·refine au [] ?_
  exact absurd hck hbar
 ·refine au [1,10,10,10,10,2,2,2,2,3,4,5,8] ?_
  refine TK.cl Z Z Z Z ((zeO hl hm).mono (fun _ _ h=>or3n h hck hnil)) ?_
  rintro r10 K11 ⟨rfl,rfl⟩
  refine au [1,10,10,10,2,2,2,3,4,4,5,1,1,6,3,20] ?_
  refine ⟨fun hc1=>?_,fun hc1=>?_⟩
  ·exact absurd hc1 dQ
  refine au [12,4,4,5,1,6,3,20] ?_
  refine ⟨fun hc2=>?_,fun hc2=>?_⟩
  ·
   refine au [4,5,1,6,1,1,28,1,28,23,1,23,6,26,1,1,30,26,1,1,30,26,1] ?_
   refine TK.cl Z Z Z Z (zi5) ?_
   rintro r13 K14 ⟨rfl,rfl⟩
   refine au [26,2,3] ?_
   refine TK.rt hret [] ?_
   rfl
  exact absurd hc2 dQ
 ·refine au [1,10,10,10,10,2,2,2,2,3,4,5,8] ?_
  refine TK.cl Z Z Z Z ((zeO hl hm).mono (fun _ _ h=>or3 h hck hne)) ?_
  rintro r16 K17 h18
  rcases h18 with ⟨hno2,rfl,rfl⟩ | ⟨f,jf,ef,hpf,rfl,rfl⟩
  ·refine au [] ?_
   refine au [1,10,10,10,2,2,2,3,4,4,5,1,1,6,3,20] ?_
   refine ⟨fun hc1=>?_,fun hc1=>?_⟩
   ·exact absurd hc1 dQ
   refine au [12,4,4,5,1,6,3,20] ?_
   refine ⟨fun hc2=>?_,fun hc2=>?_⟩
   ·exact absurd hc2 dQ
   refine au [12,4,4,5,1,1,34,1,1,30,1,1,28,1,28,23,1,23,6,26,25,3,20] ?_
   refine ⟨fun hc3=>?_,fun hc3=>?_⟩
   ·exact absurd hc3 dQ
   refine au [12,4,4,5,1,3,20] ?_
   refine ⟨fun hc4=>?_,fun hc4=>?_⟩
   ·exact absurd hc4 dQ
   refine au [12,4,5,8,1] ?_
   refine TK.cl Z Z Z Z (jN hT hsl oQ) ?_
   rintro r19 K20 ⟨jo,eo,rfl,rfl⟩
   refine au [] ?_
   obtain ⟨d,hd0,hd1,hdo⟩:=jD (c:=kn) hsl.1 hsl.2
   have hcc:CutsOk b (otherM kn b.seams.length):=hdo ▸ zeD hbb hd0 hd1
   refine au [2,3,4,5,8,1] ?_
   refine TK.cl Z Z Z Z (jJ hT hck hne hcc) ?_
   rintro r22 K23 h24
   rcases h24 with ⟨hok2,rfl,rfl⟩ | ⟨hok2,rfl,rfl⟩
   ·refine au [] ?_
    rw [hdo,hno d hd0 hd1] at hok2; cases hok2
   ·refine au [1,10,10,22] ?_
    intro jy hjy
    refine au [17,2,3,4,4,5,1,6,3,20] ?_
    refine ⟨fun hc7=>?_,fun hc7=>?_⟩
    ·
     refine au [4,5,1,6,1] ?_
     refine TK.cl Z Z Z Z (zi5) ?_
     rintro r25 K26 ⟨rfl,rfl⟩
     refine au [26,2,3] ?_
     refine TK.rt hret [] ?_
     rfl
    exact absurd hc7 dQ
  ·refine au [] ?_
   exact (jP hpf hno).elim
 ·refine au [1,10,10,10,10,2,2,2,2,3,4,5,8] ?_
  refine TK.cl Z Z Z Z ((zeO hl hm).mono (fun _ _ h=>or3 h hck hne)) ?_
  rintro r28 K29 h30
  rcases h30 with ⟨hno2,rfl,rfl⟩ | ⟨f,jf,ef,hpf,rfl,rfl⟩
  ·refine au [] ?_
   exact (jP hpl hno2).elim
  ·refine au [] ?_
   refine au [1,10,10,10,2,2,2,3,4,4,5,1,1,6,3,20] ?_
   refine ⟨fun hc1=>?_,fun hc1=>?_⟩
   ·exact absurd hc1 dQ
   refine au [12,4,4,5,1,6,3,20] ?_
   refine ⟨fun hc2=>?_,fun hc2=>?_⟩
   ·exact absurd hc2 dQ
   refine au [12,4,4,5,1,1,34,1,1,30,1,11,11,11,11,11,11,11,11,25,25,3,19,12,4,4,5,1,3,20] ?_
   refine ⟨fun hc4=>?_,fun hc4=>?_⟩
   ·
    refine au [4,4,5,8,1] ?_
    refine TK.cl Z Z Z Z (jA hT (zeD hbb hpl.1 hpl.2.1) hl) ?_
    rintro r31 K32 ⟨rfl,rfl⟩
    refine au [6,1,8,1] ?_
    refine TK.cl Z Z Z Z (jA hT (zeD hbb hpf.1 hpf.2.1) hl) ?_
    rintro r34 K35 ⟨rfl,rfl⟩
    refine au [6,25,3,20] ?_
    refine ⟨fun hc5=>?_,fun hc5=>?_⟩
    ·exact absurd hc5 dQ
    refine au [12,4,5,8,1] ?_
    refine TK.cl Z Z Z Z (jJ hT hck hne (zeD hbb hpl.1 hpl.2.1)) ?_
    rintro r37 K38 h39
    rcases h39 with ⟨hok,rfl,rfl⟩ | ⟨hok,rfl,rfl⟩
    ·refine au [1,10,10,22] ?_
     intro jx hjx
     refine au [17,2,3,4,5,8,1] ?_
     refine TK.cl Z Z Z Z (jX hT hck hne (zeD hbb hpf.1 hpf.2.1)) ?_
     rintro r40 K41 ⟨rfl,rfl⟩
     refine au [] ?_
     rw [xa hpf.2.2.1]
     refine au [1,10,10,2,2,3,4,5,1,6,1,1,6,25,1,7,9,1,6,25,1] ?_
     refine TK.sp 116 (fun g16_13=>?_) (fun g16_13=>?_)
     ·simp at g16_13
     refine au [1,6,25,3,20] ?_
     refine ⟨fun hc6=>?_,fun hc6=>?_⟩
     ·exact absurd hc6 dQ
     refine au [12,4,5,8,1] ?_
     refine TK.cl Z Z Z Z (jN hT hsl oQ) ?_
     rintro r43 K44 ⟨jo,eo,rfl,rfl⟩
     refine au [] ?_
     obtain ⟨d,hd0,hd1,hdo⟩:=jD (c:=kn) hsl.1 hsl.2
     have hcc:CutsOk b (otherM kn b.seams.length):=hdo ▸ zeD hbb hd0 hd1
     refine au [2,3,4,5,8,1] ?_
     refine TK.cl Z Z Z Z (jJ hT hck hne hcc) ?_
     rintro r46 K47 h48
     rcases h48 with ⟨hok2,rfl,rfl⟩ | ⟨hok2,rfl,rfl⟩
     ·refine au [] ?_
      rw [hdo] at hok2
      have hlow:=jU hpl hd0 hd1 hok2
      have hfew:=jY hpf hd0 hd1 hok2
      rw [<- hdo] at hlow hfew
      refine au [1,10,10,22] ?_
      intro jy hjy
      refine au [17,2,3,4,4,5,1,6,3,20] ?_
      refine ⟨fun hc7=>?_,fun hc7=>?_⟩
      ·exact absurd hc7 dQ
      refine au [12,4,5,1,1,7,9,1,6,26,1] ?_
      refine TK.sp 143 (fun g22_8=>?_) (fun g22_8=>?_)
      ·refine au [7,9,1,6,1] ?_
       refine TK.sp 148 (fun g22_13=>?_) (fun g22_13=>?_)
       ·refine au [11,11,11,11,26,26,1,1,1] ?_
        refine TK.cl Z Z Z Z (ji hT (by rw [hdo]; have:=wC d b.seams.length; omega) (by have:=wC f b.seams.length; omega)) ?_
        rintro r49 K50 ⟨rfl,rfl⟩
        refine au [30,26,1] ?_
        refine TK.sp 161 (fun g22_26=>?_) (fun g22_26=>?_)
        ·refine TK.cl Z Z Z Z (zi5) ?_
         rintro r52 K53 ⟨rfl,rfl⟩
         refine au [26,2,3] ?_
         refine TK.rt hret [] ?_
         rfl
        simp [hfew] at g22_26
       have hsm2:smallerM (otherM kn b.seams.length) (zw c b.seams.length)=false:=by simp at g22_13; exact hlow.2.resolve_left oQ
       refine au [1,1] ?_
       refine TK.cl Z Z Z Z (ji hT (by rw [hdo]; have:=wC d b.seams.length; omega) (by have:=wC c b.seams.length; omega)) ?_
       rintro r55 K56 ⟨rfl,rfl⟩
       refine au [30,25,26,1] ?_
       refine TK.sp 155 (fun g22_20=>?_) (fun g22_20=>?_)
       ·refine au [1,1] ?_
        refine TK.cl Z Z Z Z (ji hT (by rw [hdo]; have:=wC d b.seams.length; omega) (by have:=wC f b.seams.length; omega)) ?_
        rintro r58 K59 ⟨rfl,rfl⟩
        refine au [30,26,1] ?_
        refine TK.sp 161 (fun g22_26=>?_) (fun g22_26=>?_)
        ·refine TK.cl Z Z Z Z (zi5) ?_
         rintro r61 K62 ⟨rfl,rfl⟩
         refine au [26,2,3] ?_
         refine TK.rt hret [] ?_
         rfl
        simp [hfew] at g22_26
       simp [hsm2] at g22_20
      simp at g22_8; omega
     ·refine au [1,10,10,22] ?_
      intro jy hjy
      refine au [17,2,3,4,4,5,1,6,3,20] ?_
      refine ⟨fun hc7=>?_,fun hc7=>?_⟩
      ·
       refine au [4,5,1,6,1] ?_
       refine TK.cl Z Z Z Z (zi5) ?_
       rintro r64 K65 ⟨rfl,rfl⟩
       refine au [26,2,3] ?_
       refine TK.rt hret [] ?_
       rfl
      exact absurd hc7 dQ
    ·refine au [] ?_
     rw [hpl.2.2.1] at hok; cases hok
   exact absurd hc4 dQ
end Go.Vel
end
