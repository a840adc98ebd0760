/- The law RollClashes: the measures of Clash alone have no state, without any one of them they have, and no others are fewer or less. It holds of every program, tape and world that the statements name, as each theorem says. -/
import Derived.Test.YtamcohjpanjdiaaGreatDoorV7
import Derived.Test.YtamcohjpanjdiaaGreatDoorV8
import Derived.Test.YtamcohjpanjdiaaGreatDoorV9
import Derived.Test.YtamcohjpanjdiaaGreatDoorV11
section
set_option linter.all false
set_option maxRecDepth 20000
set_option maxHeartbeats 60000000
namespace Go.Vel
open Go Go.Conc Go.Proofs
instance:EqG Tryz.prog 49:=⟨by kernel_rfl⟩
instance:EqG Tryz.prog 94:=⟨by kernel_rfl⟩
instance:FlatF Tryz.prog 49 [(3,0),(3,1),(3,2)]:=⟨by kernel_rfl⟩
instance:FlatF Tryz.prog 94 [(3,0),(3,1),(3,2),(3,3),(4,4)]:=⟨by kernel_rfl⟩
instance {a0 a1 a2 a3 a4 a5 a6 a7 a8 a9 a10 a11 a12 a13 a14 a15 a16 a17 a18 a19 a20 a21 a22 a23 a24 a25 a26 a27 a28 a29 a30 a31 a32 a33 a34 a35 a36 a37 a38 a39 a40 a41 a42 a43 a44 a45 a46 a47 a48 a49 a50 a51 a52:Oper}:RgL #[a0,a1,a2,a3,a4,a5,a6,a7,a8,a9,a10,a11,a12,a13,a14,a15,a16,a17,a18,a19,a20,a21,a22,a23,a24,a25,a26,a27,a28,a29,a30,a31,a32,a33,a34,a35,a36,a37,a38,a39,a40,a41,a42,a43,a44,a45,a46,a47,a48,a49,a50,a51,a52] [0,1,2,3,4,5,6,7,8,9,10,11,12,13,14,15,16,17,18,19,20,21,22,23,24,25,26,27,28,29,30,31,32,33,34,35,36,37,38,39,40,41,42,43,44,45,46,47,48,49,50,51,52]:=⟨rfl⟩
instance:Und Tryz.prog 4 .bool:=⟨by kernel_rfl⟩
end Go.Vel
namespace Go.Vel
open Go Go.Conc
end Go.Vel
namespace Go.Vel
open Go Go.Conc Go.Proofs
instance:Cal Tryz.prog 19:=⟨by kernel_rfl⟩
instance:Cal Tryz.prog 44:=⟨by kernel_rfl⟩
instance:Cal Tryz.prog 49:=⟨by kernel_rfl⟩
instance {a0 a1 a2 a3 a4 a5 a6 a7 a8 a9 a10 a11 a12 a13 a14 a15 a16 a17 a18 a19 a20 a21:Oper}:RgL #[a0,a1,a2,a3,a4,a5,a6,a7,a8,a9,a10,a11,a12,a13,a14,a15,a16,a17,a18,a19,a20,a21] [0,1,2,3,4,5,6,7,8,9,10,11,12,13,14,15,16,17,18,19,20,21]:=⟨rfl⟩
end Go.Vel
namespace Go.Vel
open Go Go.Conc
theorem bits_mod (c m:Nat):∀ i,i<=m->bitsM (c % 2 ^ m) i=bitsM c i
 | 0,_=>rfl
 | i+1,h=>by
  unfold bitsM
  rw [bits_mod c m i oQ]
  have h1:=Nat.testBit_mod_two_pow c m i
  rw [Nat.testBit_eq_decide_div_mod_eq,Nat.testBit_eq_decide_div_mod_eq,decide_eq_true (show i<m by omega),Bool.true_and] at h1
  have h2:(c % 2 ^ m / 2 ^ i % 2=1)=(c / 2 ^ i % 2=1):=propext (by simpa using h1)
  simp only [h2]
def otherM (c n:Nat):List Int:=if bitsM c n=[] then [((c % n:Nat):Int)] else bitsM c n
theorem smaller_irr (x:List Int):smallerM x x=false:=by
 cases h:smallerM x x with
 | false=>rfl
 | true=>rw [smaller_iff,lex_self] at h; omega
theorem seamsL_1 {b:RBk}:∀ (l:List RSeam) (last:Int),(∀ s∈l,seamB b s=true/\last<s.step)->(l.Pairwise fun s t=>s.step<t.step)->seamsL b last l=0
 | [],_,_,_=>rfl
 | s::r,last,h,hp=>by
  obtain ⟨p1,p2⟩:=List.pairwise_cons.1 hp
  have h1:=h s sQ
  unfold seamsL
  rw [if_neg (by rw [h1.1]; decide),if_neg oQ]
  exact seamsL_1 r _ (fun t ht=>⟨(h t (by simp [ht])).1,p1 t ht⟩) p2
theorem clothsL_1 {b:RBk}:∀ (l:List RBand) (i:Nat),(∀ k x,l[k]? =some x->bandB x=true/\x.high<wideM b (i+k))->clothsL b i l=0
 | [],_,_=>rfl
 | x::r,i,h=>by
  have h1:=h 0 x rfl
  unfold clothsL
  rw [if_neg (by rw [h1.1]; decide),if_neg (by have:=h1.2; rw [Nat.add_zero] at this; omega)]
  exact clothsL_1 r _ fun k y hy=>by
   have:=h (k+1) y (by simpa using hy)
   rwa [show i+(k+1)=i+1+k by omega] at this
theorem measL_1 {b:RBk}:∀ (l:List RMeas),(∀ m∈l,0<=m.cloth/\m.cloth<b.seams.length/\1<=m.many/\m.many<=b.seams.length/\0<=m.wide/\m.wide<=24)->measL b l=0
 | [],_=>rfl
 | m::r,h=>by
  have h1:=h m sQ
  have h2:thereM b m.cloth=0:=by unfold thereM; rw [if_pos (by simp [betw]; omega)]
  have h3:measB b m=true:=by simp only [measB,betw,Bool.and_eq_true,decide_eq_true_eq]; omega
  unfold measL
  rw [if_neg (by rw [h2]; decide),if_neg (by rw [h3]; decide)]
  exact measL_1 r fun y hy=>h y (by simp [hy])
theorem ok_check {b:RBk} (h:ROk b):checkM b=0:=by
 have hr:=h.rnd
 have h1:roundsM b=0:=by
  unfold roundsM
  rw [if_pos]
  simp only [betw,Bool.and_eq_true,decide_eq_true_eq]
  exact ⟨⟨⟨hr.steps,hr.round⟩,hr.roll⟩,hr.rolls⟩
 have hs:=h.sms
 have sat:∀ i,(hi:i<b.seams.length)->b.seams[i]=sm b i:=fun i hi=>by
  have:=sm_get hi
  rw [List.getElem?_eq_getElem hi] at this
  exact Option.some.inj this
 have h2:seamsM b=0:=by
  have hbl:betw b.seams.length 1 5=true:=by
   have:=hs.len
   simp only [betw,Bool.and_eq_true,decide_eq_true_eq]
   omega
  unfold seamsM
  rw [if_neg (by rw [hbl]; decide)]
  refine seamsL_1 _ _ (fun s hm=>?_) (List.pairwise_iff_getElem.2 fun i j hi hj hij=>by rw [sat i hi,sat j hj]; exact hs.asc i j hij hj)
  obtain ⟨i,hi,rfl⟩:=List.getElem_of_mem hm
  rw [sat i hi]
  have:=hs.fld i hi
  exact ⟨by simp only [seamB,betw,Bool.and_eq_true,decide_eq_true_eq]; omega,by omega⟩
 have h3:clothsM b=0:=by
  unfold clothsM
  rw [if_neg (by rw [h.cls.len]; simp)]
  refine clothsL_1 _ _ fun k x hx=>?_
  have hk:k<b.shrinks.length:=by
   rcases Nat.lt_or_ge k b.shrinks.length with h | h
   ·exact h
   ·rw [List.getElem?_eq_none h] at hx; cases hx
  rw [bd_get hk] at hx
  cases hx
  have:=h.cls.bnd k (by have:=h.cls.len; omega)
  exact ⟨by simp only [bandB,isBd,Bool.and_eq_true,decide_eq_true_eq]; omega,by rw [Nat.zero_add]; exact this.2.2.2.2⟩
 have h4:measM b=0:=by
  unfold measM
  have:=h.mes.len
  rw [if_neg oQ]
  exact measL_1 _ h.mes.bnd
 unfold checkM
 rw [if_neg (by rw [h1]; decide),if_neg (by rw [h2]; decide),if_neg (by rw [h3]; decide)]
 exact h4
end Go.Vel
namespace Go.Vel
open Go Go.Conc Go.Proofs
section
variable {P:Program} {gm:Nat->Option Nat} {V:KV} {env:List AV} {o:Oper}
theorem q_shrU {t yt:TypeId} {x y:Operand} {k':IntKind} {a b:Nat} (ho:o.op=.binOp .shr t x y yt) (hx:opndO gm env x=some (.v (.int .u8 a))) (hy:opndO gm env y=some (.v (.int k' b))) (h0:b<=6):Qk P gm env V o (.v (.int .u8 ((a / 2 ^ b:Nat):Int))):=fun A _=>by
 refine ok_bin ho (by rw [opndO_eq hx]; rfl) (by rw [opndO_eq hy]; rfl) ?_
 rw [eqg_int]
 show pureS P (Op.shift .shr .u8 a k' b)=_
 unfold Op.shift
 rw [if_neg oQ]
 show some (Value.int .u8 ((a:Int).fdiv (2 ^ min (b:Int).toNat 8)))=_
 rw [Int.toNat_natCast,Nat.min_eq_left oQ,show ((a:Int).fdiv (2 ^ b))=((a / 2 ^ b:Nat):Int) by rw [Int.fdiv_eq_ediv_of_nonneg _ (by exact_mod_cast Nat.zero_le (2 ^ b))]; norm_cast]
theorem q_andU {t yt:TypeId} {x y:Operand} {a:Nat} (ho:o.op=.binOp .and t x y yt) (hx:opndO gm env x=some (.v (.int .u8 a))) (hy:opndO gm env y=some (.v (.int .u8 1))) (h:a<256):Qk P gm env V o (.v (.int .u8 ((a % 2:Nat):Int))):=by
 refine ok_int ho hx hy ?_
 show some (Value.int .u8 (IntKind.u8.wrap ((BitVec.ofInt 8 (a:Int) &&& BitVec.ofInt 8 1).toNat:Int)))=_
 have:(BitVec.ofInt 8 (a:Int) &&& BitVec.ofInt 8 1).toNat=a % 2:=by
  rw [BitVec.toNat_and]
  have e1:(BitVec.ofInt 8 (a:Int)).toNat=a:=by
   rw [BitVec.toNat_ofInt]
   omega
  rw [e1]
  show a &&& 1=a % 2
  exact Nat.and_one_is_mod a
 rw [this]
 have h2:a % 2=0\/a % 2=1:=by omega
 rcases h2 with h2 | h2 <;> rw [h2] <;> rfl
end
theorem bits_T {c i:Nat} (h:c / 2 ^ i % 2=1):bitsM c (i+1)=bitsM c i++[(i:Int)]:=by
 show bitsM c i++_=_
 rw [if_pos h]
theorem bits_F {c i:Nat} (h:¬ c / 2 ^ i % 2=1):bitsM c (i+1)=bitsM c i:=by
 show bitsM c i++_=_
 rw [if_neg h,List.append_nil]
theorem asc_cut {l:List Int} (hp:l.Pairwise (· < ·)) {i j:Nat} (hij:i<j) (hj:j<l.length):cutN l i<cutN l j:=by
 have e1:=cut_get (l:=l) (k:=i) oQ
 have e2:=cut_get hj
 rw [List.getElem?_eq_getElem oQ] at e1
 rw [List.getElem?_eq_getElem hj] at e2
 rw [<- Option.some.inj e1,<- Option.some.inj e2]
 exact List.pairwise_iff_getElem.1 hp i j oQ hj hij
theorem lex_ne {x y:Int} {r t:List Int} (h:¬ x=y):decide (lexM (x::r) (y::t)<0)=decide (x<y):=by
 refine decide_eq_decide.2 ?_
 simp only [lexM]
 by_cases h1:x<y
 ·rw [if_pos h1]; simp [h1]
 ·rw [if_neg h1,if_pos oQ]; simp [h1]
theorem lex_end {xs ys:List Int} {i:Nat} (hi:i<=xs.length) (hi2:i<=ys.length) (h:xs.length<=i\/ys.length<=i):decide (lexM (xs.drop i) (ys.drop i)<0)=decide ((xs.length:Int)<ys.length):=by
 refine decide_eq_decide.2 ?_
 rcases Nat.lt_or_ge i xs.length with h1 | h1
 ·have h2:ys.length<=i:=by omega
  rw [drop_cons (cut_get h1),List.drop_eq_nil_of_le h2]
  simp only [lexM]
  omega
 ·rw [List.drop_eq_nil_of_le h1]
  rcases Nat.lt_or_ge i ys.length with h2 | h2
  ·rw [drop_cons (cut_get h2)]
   simp only [lexM]
   omega
  ·rw [List.drop_eq_nil_of_le h2]
   simp only [lexM]
   omega
instance:Cal Tryz.prog 62:=⟨by kernel_rfl⟩
instance:Cal Tryz.prog 75:=⟨by kernel_rfl⟩
theorem climbs_ok {main:Bool} {T:Goroutine->Hp->Prop} (hT:Shut Tryz.prog main T) {gm:Nat->Option Nat} {j:Nat} {et:TypeId} {l:List Int} {n:Int} (hb:∀ x∈l,0<=x/\x<n) (hp:l.Pairwise (· < ·)) (hl:l.length<=1000) (hn:n<=1000) :
  CallK Tryz.prog T gm 62 [.sl j 0 l.length,intA n] [(j,.cells (l.map intA) et false)] (fun r K'=>r=intA 0/\K'=[(j,.cells (l.map intA) et false)]):=by
 refine callK_in 34 hT Tryz.func62 fun Y hret=>?_
 refine au [4,5,2,3,4,4,5,2,3,13] ?_
 refine TK.maskL [0,1,5] ?_
 refine TK.loopN (fun n0 env K=>∃ (i:Nat),n0=l.length - i/\i<=l.length/\env=[.sl j 0 l.length,intA n,.any,.any,.any,intA i,.any,.any,.any,.any,.any,.any,.any,.any,.any,.any,.any,.any,.any,.any,.any,.any,.any,.any,.any,.any,.any,.any,.any,.any,.any,.any,.any,.any]/\K=[(j,.cells (l.map intA) et false)]) l.length ⟨0,rfl,Nat.zero_le _,rfl,rfl⟩ fun n0 env K hI hnext=>?_
 obtain ⟨i,rfl,hi,rfl,rfl⟩:=hI
 refine au [4,4,5,1,1,28,6,3,20] ?_
 refine ⟨fun hc0=>?_,fun hc0=>?_⟩
 ·have hil:i<l.length:=by simp at hc0; omega
  have hx:=hb _ (cut_mem hil)
  refine au [12,4,13,4,4,5,1,1,36] ?_
  refine TK.a rfl (q_load1 rfl rfl TySz.h mQ (ints_at (i:=i) (cut_get hil) rfl)) ?_
  refine au [1,24] ?_
  refine TK.cl rfl rfl rfl rfl (betweenR_ok hT) ?_
  rintro r1 K2 ⟨rfl,rfl⟩
  refine au [30,3,20] ?_
  refine ⟨fun hc1=>?_,fun hc1=>?_⟩
  ·simp [betw] at hc1; omega
  refine au [12,4] ?_
  refine TK.draw [0,1,2,3,4,5,6,7,8,9,10,11,12,13] [0,1,2,3,4,5,6,7,8,9,10,11,12,13] (by kernel_rfl) (by kernel_rfl) ?_
  refine TD.z [5] rfl (q_move rfl rfl) ?_
  refine TD.z [20] rfl (q_cmp rfl rfl rfl rfl) ?_
  refine TD.z [21] rfl (q_move rfl rfl) ?_
  refine TD.sp 22 (fun g6_3=>?_) (fun g6_3=>?_)
  ·have hgi:0<i:=by have:=of_decide_eq_true g6_3; omega
   have hlt:cutN l (i - 1)<cutN l i:=asc_cut hp oQ hil
   refine TD.z [0,22] rfl (q_move rfl rfl) ?_
   refine TD.z [5,22] rfl (q_move rfl rfl) ?_
   refine TD.z [22,23,24] rfl (q_indexSl rfl rfl rfl SlEl.h oQ oQ) ?_
   refine TD.y [22,25] rfl (hq:=q_load1 rfl rfl TySz.h (List.Mem.head _) (ints_at (i:=i) (cut_get hil) rfl)) (h:=?_)
   refine TD.z [0,22] rfl (q_move rfl rfl) ?_
   refine TD.z [5,22] rfl (q_move rfl rfl) ?_
   refine TD.z [22,28] rfl (q_sub rfl rfl rfl oQ) ?_
   refine TD.z [22,27,29] rfl (q_indexSl rfl rfl rfl SlEl.h oQ oQ) ?_
   refine TD.y [22,30] rfl (hq:=q_load1 rfl rfl TySz.h (List.Mem.head _) (ints_at (i:=i - 1) (cut_get oQ) oQ)) (h:=?_)
   refine TD.z [22,26,31] rfl (q_cmp rfl rfl rfl rfl) ?_
   refine TD.z [22,32] rfl (q_pickT rfl rfl rfl) ?_
   refine TD.fin ?_
   refine au [20] ?_
   refine ⟨fun hc2=>?_,fun hc2=>?_⟩
   ·simp at hc2; omega
   refine au [12,14,5,1,23,2,3] ?_
   refine TK.maskL [0,1,5] ?_
   exact hnext _ _ _ oQ ⟨i+1,rfl,by omega,rfl,rfl⟩
  refine TD.u [0,22] rfl ?_
  refine TD.u [5,22] rfl ?_
  refine TD.u [22,23,24] rfl ?_
  refine TD.u [22,25] rfl ?_
  refine TD.u [0,22] rfl ?_
  refine TD.u [5,22] rfl ?_
  refine TD.u [22,28] rfl ?_
  refine TD.u [22,27,29] rfl ?_
  refine TD.u [22,30] rfl ?_
  refine TD.u [22,26,31] rfl ?_
  refine TD.z [22,32] rfl (q_pickF rfl rfl rfl) ?_
  refine TD.fin ?_
  refine au [19,12,14,5,1,23,2,3] ?_
  refine TK.maskL [0,1,5] ?_
  exact hnext _ _ _ oQ ⟨i+1,rfl,by omega,rfl,rfl⟩
 obtain rfl:i=l.length:=by simp at hc0; omega
 refine au [16,4,5,2,3] ?_
 refine TK.rt hret [(j,_)] ?_
 exact ⟨rfl,rfl⟩
theorem earlierR_ok {main:Bool} {T:Goroutine->Hp->Prop} (hT:Shut Tryz.prog main T) {gm:Nat->Option Nat} {j j2:Nat} {xs ys:List Int} {e1 e2:TypeId} (hl:xs.length<=1000) (hl2:ys.length<=1000) :
  CallK Tryz.prog T gm 75 [.sl j 0 xs.length,.sl j2 0 ys.length] [(j,.cells (xs.map intA) e1 false),(j2,.cells (ys.map intA) e2 false)] (fun r K'=>r=boolA (decide (lexM xs ys<0))/\K'=[(j,.cells (xs.map intA) e1 false),(j2,.cells (ys.map intA) e2 false)]):=by
 refine callK_in 41 hT Tryz.func75 fun Y hret=>?_
 refine au [4,5,2,3,4,4,5,2,3,13] ?_
 refine TK.maskL [0,1,5] ?_
 refine TK.loopN (fun n env K=>∃ (i:Nat),n=xs.length - i/\i<=xs.length/\i<=ys.length/\lexM (xs.drop i) (ys.drop i)=lexM xs ys/\env=[.sl j 0 xs.length,.sl j2 0 ys.length,.any,.any,.any,intA i,.any,.any,.any,.any,.any,.any,.any,.any,.any,.any,.any,.any,.any,.any,.any,.any,.any,.any,.any,.any,.any,.any,.any,.any,.any,.any,.any,.any,.any,.any,.any,.any,.any,.any,.any]/\K=[(j,.cells (xs.map intA) e1 false),(j2,.cells (ys.map intA) e2 false)]) xs.length ⟨0,rfl,Nat.zero_le _,Nat.zero_le _,rfl,rfl,rfl⟩ fun n env K hI hnext=>?_
 obtain ⟨i,rfl,hi,hi2,hinv,rfl,rfl⟩:=hI
 refine au [4,4,5,1,1,28,6,1] ?_
 refine TK.sp 10 (fun g2_5=>?_) (fun g2_5=>?_)
 ·have hil:i<xs.length:=by have:=of_decide_eq_true g2_5; omega
  refine au [1,1,28,6,26,3,20] ?_
  refine ⟨fun hc0=>?_,fun hc0=>?_⟩
  ·have hjl:i<ys.length:=by have:=of_decide_eq_true hc0; omega
   refine au [12,4,13,4] ?_
   refine TK.draw [0,1,2,3,4,5,6,7,8] [0,1,2,3,4,5,6,7,8] (by kernel_rfl) (by kernel_rfl) ?_
   refine TD.z [0] rfl (q_move rfl rfl) ?_
   refine TD.z [5] rfl (q_move rfl rfl) ?_
   refine TD.z [18,19] rfl (q_indexSl rfl rfl rfl SlEl.h oQ oQ) ?_
   refine TD.y [20] rfl (hq:=q_load1 rfl rfl TySz.h (List.Mem.head _) (ints_at (i:=i) (cut_get hil) rfl)) (h:=?_)
   refine TD.z [1] rfl (q_move rfl rfl) ?_
   refine TD.z [5] rfl (q_move rfl rfl) ?_
   refine TD.z [22,23] rfl (q_indexSl rfl rfl rfl SlEl.h oQ oQ) ?_
   refine TD.y [24] rfl (hq:=q_load1 rfl rfl TySz.h (List.Mem.head _) (ints_at (i:=i) (cut_get hjl) rfl)) (h:=?_)
   refine TD.z [21,25] rfl (q_cmp rfl rfl rfl rfl) ?_
   refine TD.fin ?_
   refine au [20] ?_
   refine ⟨fun hc1=>?_,fun hc1=>?_⟩
   ·refine au [4] ?_
    refine TK.draw [0,1,2,3,4,5,6,7,8,9] [0,1,2,3,4,5,6,7,8,9] (by kernel_rfl) (by kernel_rfl) ?_
    refine TD.z [0] rfl (q_move rfl rfl) ?_
    refine TD.z [5] rfl (q_move rfl rfl) ?_
    refine TD.z [27,28] rfl (q_indexSl rfl rfl rfl SlEl.h oQ oQ) ?_
    refine TD.y [29] rfl (hq:=q_load1 rfl rfl TySz.h (List.Mem.head _) (ints_at (i:=i) (cut_get hil) rfl)) (h:=?_)
    refine TD.z [1] rfl (q_move rfl rfl) ?_
    refine TD.z [5] rfl (q_move rfl rfl) ?_
    refine TD.z [31,32] rfl (q_indexSl rfl rfl rfl SlEl.h oQ oQ) ?_
    refine TD.y [33] rfl (hq:=q_load1 rfl rfl TySz.h (List.Mem.head _) (ints_at (i:=i) (cut_get hjl) rfl)) (h:=?_)
    refine TD.z [30,34] rfl (q_cmp rfl rfl rfl rfl) ?_
    refine TD.as (pend':=[]) [35] rfl rfl (q_assign rfl rfl) ?_
    refine TD.fin ?_
    refine au [] ?_
    refine TK.rt hret [(j,_),(j2,_)] ?_
    exact ⟨by rw [<- hinv,drop_cons (cut_get hil),drop_cons (cut_get hjl),lex_ne (by simpa using hc1)] <;> rfl,rfl⟩
   refine au [12,14,5,1,23,2,3] ?_
   refine TK.maskL [0,1,5] ?_
   exact hnext _ _ _ oQ ⟨i+1,rfl,by omega,by omega,by rw [<- hinv,drop_cons (cut_get hil),drop_cons (cut_get hjl)]; simp only [lexM]; simp at hc1; rw [if_neg oQ,if_neg oQ],rfl,rfl⟩
  have hjl:=of_decide_eq_false hc0
  refine au [16,4,5,1,28,1,28,6,2,3] ?_
  refine TK.rt hret [(j,_),(j2,_)] ?_
  exact ⟨by rw [<- hinv,lex_end hi hi2 (.inr oQ)] <;> rfl,rfl⟩
 have hil:=of_decide_eq_false g2_5
 refine au [11,11,11,11,25,3,19,16,4,5,1,28,1,28,6,2,3] ?_
 refine TK.rt hret [(j,_),(j2,_)] ?_
 exact ⟨by rw [<- hinv,lex_end hi hi2 (.inl oQ)] <;> rfl,rfl⟩
theorem smallerR_ok {main:Bool} {T:Goroutine->Hp->Prop} (hT:Shut Tryz.prog main T) {gm:Nat->Option Nat} {j j2:Nat} {xs ys:List Int} {e1 e2:TypeId} (hl:xs.length<=1000) (hl2:ys.length<=1000) :
  CallK Tryz.prog T gm 65 [.sl j 0 xs.length,.sl j2 0 ys.length] [(j,.cells (xs.map intA) e1 false),(j2,.cells (ys.map intA) e2 false)] (fun r K'=>r=boolA (smallerM xs ys)/\K'=[(j,.cells (xs.map intA) e1 false),(j2,.cells (ys.map intA) e2 false)]):=by
 refine callK_in 22 hT Tryz.func65 fun Y hret=>?_
 refine au [4,5,2,3,4,5,1,28,1,28,6,1] ?_
 refine TK.sp 10 (fun g1_6=>?_) (fun g1_6=>?_)
 ·refine au [11,11,11,11,11,11,11,11,11,11,26,2,3] ?_
  refine TK.rt hret [(j,_),(j2,_)] ?_
  exact ⟨by simp at g1_6; simp [smallerM,g1_6],rfl⟩
 refine au [1,28,1,28,6,1] ?_
 refine TK.sp 16 (fun g1_12=>?_) (fun g1_12=>?_)
 ·refine au [1,1] ?_
  refine TK.cl rfl rfl rfl rfl (earlierR_ok hT hl hl2) ?_
  rintro r1 K2 ⟨rfl,rfl⟩
  refine au [26,25,2,3] ?_
  refine TK.rt hret [(j,_),(j2,_)] ?_
  exact ⟨by simp at g1_6 g1_12; unfold smallerM; rw [decide_eq_false (show ¬ xs.length<ys.length by omega),decide_eq_true (show xs.length=ys.length by omega)]; rfl,rfl⟩
 refine au [11,11,11,25,25,2,3] ?_
 refine TK.rt hret [(j,_),(j2,_)] ?_
 exact ⟨by simp at g1_6 g1_12; unfold smallerM; rw [decide_eq_false (show ¬ xs.length<ys.length by omega),decide_eq_false (show ¬ xs.length=ys.length by omega)]; rfl,rfl⟩
end Go.Vel
namespace Go.Vel
open Go Go.Conc
theorem asc_bits:∀ (m:Nat) (l:List Int),l.Pairwise (· < ·)->(∀ x∈l,0<=x/\x<m)->∃ d,d<2 ^ m/\l=bitsM d m
 | 0,l,_,h=>⟨0,by decide,by
  cases l with
  | nil=>rfl
  | cons x r=>have:=h x sQ; omega⟩
 | m+1,l,hp,h=>by
  by_cases hm:(m:Int)∈l
  ·obtain ⟨l1,l2,rfl⟩:=List.append_of_mem hm
   obtain ⟨p1,p2,p3⟩:=List.pairwise_append.1 hp
   have e2:l2=[]:=by
    cases l2 with
    | nil=>rfl
    | cons y r =>
     have h1:=(List.pairwise_cons.1 p2).1 y sQ
     have h2:=h y sQ
     omega
   subst e2
   obtain ⟨d,hd,rfl⟩:=asc_bits m l1 p1 (fun x hx=>⟨(h x (by simp [hx])).1,p3 x hx m sQ⟩)
   refine ⟨d+2 ^ m,by rw [Nat.pow_succ]; omega,?_⟩
   show _=bitsM (d+2 ^ m) m++_
   rw [<- bits_mod (d+2 ^ m) m m (Nat.le_refl _),Nat.add_mod_right,Nat.mod_eq_of_lt hd,Nat.add_div_right _ (Nat.two_pow_pos _),Nat.div_eq_of_lt hd]
   rfl
  ·obtain ⟨d,hd,rfl⟩:=asc_bits m l hp (fun x hx=>⟨(h x hx).1,by
    have h1:=h x hx
    have h2:x≠m:=fun e=>hm (e ▸ hx)
    omega⟩)
   refine ⟨d,by rw [Nat.pow_succ]; omega,?_⟩
   show _=bitsM d m++_
   rw [Nat.div_eq_of_lt hd]
   simp
theorem clash_spec (b:RBk):∀ k,(clashL b k=none->∀ d,d<k->badM b d=false)/\(∀ l,clashL b k=some l->∃ c,c<k/\badM b c=true/\l=bitsM c b.measures.length/\∀ d,d<k->badM b d=true->bitsM d b.measures.length=l\/smallerM l (bitsM d b.measures.length)=true)
 | 0=>⟨fun _ d h=>by omega,fun l h=>by cases h⟩
 | k+1=>by
  obtain ⟨i1,i2⟩:=clash_spec b k
  unfold clashL
  by_cases hb:badM b k=true
  ·rw [if_pos hb]
   cases hc:clashL b k with
   | none =>
    refine ⟨fun h=>(by cases h),fun l h=>?_⟩
    cases h
    refine ⟨k,by omega,hb,rfl,fun d hd hbd=>?_⟩
    by_cases e:d=k
    ·left; rw [e]
    ·have:=i1 hc d oQ
     rw [hbd] at this
     cases this
   | some l0 =>
    obtain ⟨c,q1,q2,q3,q4⟩:=i2 l0 hc
    dsimp only
    by_cases hs:smallerM (bitsM k b.measures.length) l0=true
    ·rw [if_pos hs]
     refine ⟨fun h=>(by cases h),fun l h=>?_⟩
     cases h
     refine ⟨k,by omega,hb,rfl,fun d hd hbd=>?_⟩
     by_cases e:d=k
     ·left; rw [e]
     ·rcases q4 d oQ hbd with h | h
      ·right; rw [h]; exact hs
      ·right; exact smaller_trans hs h
    ·rw [if_neg hs]
     refine ⟨fun h=>(by cases h),fun l h=>?_⟩
     cases h
     refine ⟨c,by omega,q2,q3,fun d hd hbd=>?_⟩
     by_cases e:d=k
     ·rw [e]
      rcases smaller_tot (bitsM k b.measures.length) l0 with h | h | h
      ·exact .inl h
      ·exact absurd h hs
      ·exact .inr h
     ·exact q4 d oQ hbd
  ·rw [if_neg hb]
   refine ⟨fun h d hd=>?_,fun l h=>?_⟩
   ·by_cases e:d=k
    ·rw [e]; simpa using hb
    ·exact i1 h d oQ
   ·obtain ⟨c,q1,q2,q3,q4⟩:=i2 l h
    refine ⟨c,by omega,q2,q3,fun d hd hbd=>?_⟩
    by_cases e:d=k
    ·rw [e] at hbd; exact absurd hbd hb
    ·exact q4 d oQ hbd
theorem only_full (xs:List RMeas):∀ i,i<=xs.length->onlyL xs (2 ^ xs.length - 1) i=xs.take i
 | 0,_=>by rw [List.take_zero]; rfl
 | i+1,h=>by
  unfold onlyL
  rw [only_full xs i oQ]
  have h1:=Nat.testBit_two_pow_sub_one xs.length i
  rw [Nat.testBit_eq_decide_div_mod_eq,decide_eq_true (show i<xs.length by omega)] at h1
  rw [if_pos (of_decide_eq_true h1),List.getElem?_eq_getElem oQ,take_snoc (x:=xs[i]) (List.getElem?_eq_getElem oQ)]
  rfl
theorem full_bad (b:RBk):badM b (2 ^ b.measures.length - 1)=(statesM b).isEmpty:=by
 unfold badM onlyB
 rw [only_full _ _ (Nat.le_refl _),List.take_length]
theorem from_ne {b:RBk} (hr:∀ s,rightM b s=true):∀ (r:List RBand) (p:List Int),(∀ x∈r,x.low<=x.high)->fromM b p r≠[]
 | [],p,_=>by unfold fromM; rw [if_pos (hr p)]; simp
 | x::r,p,h=>by
  unfold fromM
  intro he
  rw [List.flatMap_eq_nil_iff] at he
  have hx:=h x sQ
  exact from_ne hr r (p++[x.low]) (fun y hy=>h y (by simp [hy])) (he x.low ((nums_mem hx).2 ⟨Int.le_refl _,hx⟩))
theorem nil_bad {b:RBk} (hb:ROk b) {c:Nat} (h:bitsM c b.measures.length=[]):badM b c=false:=by
 have hl:=onlyL_len b.measures c _ (Nat.le_refl _)
 rw [h] at hl
 have hm:(onlyB b c).measures=[]:=List.eq_nil_of_length_eq_zero hl
 have hne:statesM (onlyB b c)≠[]:=from_ne (fun s=>by unfold rightM; rw [hm]; rfl) _ _ (fun x hx=>by
  obtain ⟨i,hi,rfl⟩:=List.getElem_of_mem hx
  have hi':i<b.shrinks.length:=hi
  have:=hb.cls.bnd i (by have:=hb.cls.len; omega)
  have e:=bd_get hi'
  rw [List.getElem?_eq_getElem hi'] at e
  have e:b.shrinks[i]=bd b i:=Option.some.inj e
  show b.shrinks[i].low<=b.shrinks[i].high
  rw [e]
  omega)
 unfold badM
 simpa using hne
theorem clash_law {b:RBk} (hb:ROk b) (h0:statesM b=[]):∃ l c,clashM b=some l/\c<2 ^ b.measures.length/\l=bitsM c b.measures.length/\badM b c=true/\l≠[]/\(∀ i,i<l.length->∃ d,l.eraseIdx i=bitsM d b.measures.length/\badM b d=false)/\∀ x,badM b (x % 2 ^ b.measures.length)=true->smallerM (bitsM x b.measures.length) l=false:=by
 obtain ⟨i1,i2⟩:=clash_spec b (2 ^ b.measures.length)
 have hp:=Nat.two_pow_pos b.measures.length
 cases hc:clashM b with
 | none =>
  have:=i1 hc (2 ^ b.measures.length - 1) oQ
  rw [full_bad,h0] at this
  cases this
 | some l =>
  obtain ⟨c,q1,q2,q3,q4⟩:=i2 l hc
  refine ⟨l,c,rfl,q1,q3,q2,fun he=>?_,fun i hi=>?_,fun x hx=>?_⟩
  ·rw [nil_bad hb (q3.symm.trans he)] at q2; cases q2
  ·have hsub:(l.eraseIdx i).Sublist l:=List.eraseIdx_sublist l i
   obtain ⟨d,hd,hd2⟩:=asc_bits b.measures.length (l.eraseIdx i) (List.Pairwise.sublist hsub (by rw [q3]; exact bits_asc _)) (fun x hx=>by
    have:=hsub.subset hx
    rw [q3] at this
    exact bits_mem _ _ this)
   refine ⟨d,hd2,?_⟩
   cases hbd:badM b d with
   | false=>rfl
   | true =>
    have hlen:(l.eraseIdx i).length<l.length:=by rw [List.length_eraseIdx_of_lt hi]; omega
    rcases q4 d hd hbd with h | h
    ·rw [<- hd2] at h; rw [h] at hlen; omega
    ·rw [<- hd2,smaller_iff] at h; omega
  ·rw [<- bits_mod x _ _ (Nat.le_refl _)]
   rcases q4 _ (Nat.mod_lt x hp) hx with h | h
   ·rw [h]; exact smaller_irr l
   ·exact smaller_anti h
end Go.Vel
namespace Go.Vel
open Go Go.Conc Go.Proofs
def msX (b:RBk) (n:Int):RMeas:=b.measures.getD n.toNat ⟨0,0,0⟩
def onlyT (b:RBk) (l:List Int) (i:Nat):List RMeas:=(l.take i).map (msX b)
def onlyX (b:RBk) (l:List Int):RBk:={ b with measures:=onlyT b l l.length }
theorem onlyT_snoc {b:RBk} {l:List Int} {i:Nat} (h:i<l.length):onlyT b l (i+1)=onlyT b l i++[msX b (cutN l i)]:=by
 unfold onlyT
 rw [take_snoc (cut_get h),List.map_append]
 rfl
theorem msX_get {b:RBk} {n:Int} (h:0<=n/\n<b.measures.length):b.measures[n.toNat]? =some (msX b n):=by
 unfold msX
 rw [List.getD_eq_getElem?_getD,List.getElem?_eq_getElem oQ]
 rfl
theorem only_bits (b:RBk) (c:Nat):onlyX b (bitsM c b.measures.length)=onlyB b c:=by
 have key:∀ i,i<=b.measures.length->(bitsM c i).map (msX b)=onlyL b.measures c i:=by
  intro i
  induction i with
  | zero=>intro _; rfl
  | succ i ih =>
   intro hi
   unfold bitsM onlyL
   rw [List.map_append,ih oQ]
   congr 1
   split
   ·have h1:=msX_get (b:=b) (n:=(i:Int)) oQ
    rw [Int.toNat_natCast] at h1
    rw [h1]
    rfl
   ·rfl
 unfold onlyX onlyB onlyT
 rw [List.take_length,key _ (Nat.le_refl _)]
theorem ints_one (xs:List Int):(xs.map intA).all oneA=true:=by
 rw [List.all_map]; exact List.all_eq_true.2 fun _ _=>rfl
theorem take_sub {l:List Int} {e:TypeId} {rw':Bool} {a m:Nat} (h:a+m<=l.length) (hp:0<m):takeO (.cells (l.map intA) e rw') a (m*1)=some (((l.drop a).take m).map intA):=by
 simp only [takeO,AObj.look,Nat.mul_one]
 rw [if_pos ⟨by omega,by rw [List.length_map]; omega⟩,List.map_take,List.map_drop]
theorem onlyX_len {b:RBk} {l:List Int}:(onlyX b l).measures.length=l.length:=by
 show (onlyT b l l.length).length=_
 unfold onlyT
 rw [List.length_map,List.take_length]
theorem bad_len {b:RBk} {d:Nat} (h:badM b d=false):0<(statesM (onlyX b (bitsM d b.measures.length))).length:=by
 rw [only_bits]
 unfold badM at h
 exact List.length_pos_iff.2 (by simpa using h)
theorem bad_nil {b:RBk} {d:Nat} (h:badM b d=true):statesM (onlyX b (bitsM d b.measures.length))=[]:=by
 rw [only_bits]
 unfold badM at h
 simpa using h
theorem onlyX_check {b:RBk} (hb:ROk b) (d:Nat):checkM (onlyX b (bitsM d b.measures.length))=0:=by
 rw [only_bits]
 exact ok_check (only_ok0 hb d)
theorem bits_in (b:RBk) (d:Nat):∀ x∈bitsM d b.measures.length,0<=x/\x<(b.measures.length:Int):=fun x hx=>bits_mem _ x hx
instance:Cal Tryz.prog 63:=⟨by kernel_rfl⟩
instance:Cal Tryz.prog 64:=⟨by kernel_rfl⟩
instance:Cal Tryz.prog 65:=⟨by kernel_rfl⟩
theorem onlyR_ok {main:Bool} {T:Goroutine->Hp->Prop} (hT:Shut Tryz.prog main T) {gm:Nat->Option Nat} {b:RBk} {s h e j:Nat} {et:TypeId} {l:List Int} (hb:∀ x∈l,0<=x/\x<b.measures.length) (hm:b.measures.length<=100) (hl:l.length<=100) :
  CallK Tryz.prog T gm 63 [.agg (rollC b s h e),.sl j 0 l.length] [(e,measO b),(j,.cells (l.map intA) et false)] (fun r K'=>∃ je,r=.agg (rollC (onlyX b l) s h je)/\K'=(je,measO (onlyX b l))::[(e,measO b),(j,.cells (l.map intA) et false)]):=by
 refine callK_in 29 hT Tryz.func63 fun Y hret=>?_
 refine au [4,5,21] ?_
 intro jb hjb
 refine au [22] ?_
 intro jr hjr
 refine au [3,4,5,8,22] ?_
 intro jo hjo
 refine au [17,3,4,5,7,17] ?_
 refine TK.normK (K':=[(jo,.cells [intA b.steps,intA b.round,intA b.roll,intA b.rolls,.sl s 0 b.seams.length,.sl h 0 b.shrinks.length,.v (.slice none 0 0)] 26 true),_,_,_,_]) (by simp only [setL,rollC,List.drop_zero,List.take,List.set]; rfl) ?_
 refine TK.virtAt (j:=jo) (i:=6) (e:=49) (size:=3) (l:=[intA b.steps,intA b.round,intA b.roll,intA b.rolls,.sl s 0 b.seams.length,.sl h 0 b.shrinks.length,.v (.slice none 0 0)]) rfl (fun _=>uQ) fun je0 hje0=>?_
 refine au [3,4,4,5,2,3,13] ?_
 refine TK.maskL [1,2,4,5,6] ?_
 refine TK.kp [(e,_),(j,_),(je0,_),(jo,_),(jr,_),(jb,_)] ?_
 refine TK.loopN (fun n env K=>∃ (i je:Nat),n=l.length - i/\i<=l.length/\env=[.any,.sl j 0 l.length,.ptr jb 0,.any,.ptr jr 0,.ptr jo 0,intA i,.any,.any,.any,.any,.any,.any,.any,.any,.any,.any,.any,.any,.any,.any,.any,.any,.any,.any,.any,.any,.any,.any]/\K=[(e,measO b),(j,.cells (l.map intA) et false),(je,.row ((onlyT b l i).flatMap measC) 49 3),(jo,.cells [intA b.steps,intA b.round,intA b.roll,intA b.rolls,.sl s 0 b.seams.length,.sl h 0 b.shrinks.length,.row je (onlyT b l i).length] 26 true),(jr,.cells z7R 26 true),(jb,.cells (rollC b s h e) 26 true)]) l.length ⟨0,je0,rfl,Nat.zero_le _,rfl,rfl⟩ fun n env K hI hnext=>?_
 obtain ⟨i,je,rfl,hi,rfl,rfl⟩:=hI
 have hfl:=flat_len measC 3 (fun _=>rfl) (onlyT b l i)
 have hol:(onlyT b l i).length=i:=by unfold onlyT; rw [List.length_map,List.length_take,Nat.min_eq_left hi]
 refine au [4,4,5,1,1,28,6,3,20] ?_
 refine ⟨fun hc0=>?_,fun hc0=>?_⟩
 ·have hil:i<l.length:=by simp at hc0; omega
  have hq:=hb _ (cut_mem hil)
  have hx:=msX_get hq
  refine au [12,4,13] ?_
  refine TK.draw [0,1,2,3,4,5,6,7,8,9,10,11,12,13] [0,1,2,3,4,5,6,7,8,9,10,11,12,13] (by kernel_rfl) (by kernel_rfl) ?_
  refine TD.z [5] rfl (q_fieldAddr rfl rfl FldOf.h dQ) ?_
  refine TD.y [15] rfl (hq:=q_load1 rfl rfl TySz.h (List.Mem.head _) rfl) (h:=?_)
  refine TD.z [2] rfl (q_fieldAddr rfl rfl FldOf.h dQ) ?_
  refine TD.y [17] rfl (hq:=q_load1 rfl rfl TySz.h (List.Mem.head _) rfl) (h:=?_)
  refine TD.z [1] rfl (q_move rfl rfl) ?_
  refine TD.z [6] rfl (q_move rfl rfl) ?_
  refine TD.z [19,20] rfl (q_indexSl rfl rfl rfl SlEl.h oQ oQ) ?_
  refine TD.y [21] rfl (hq:=q_load1 rfl rfl TySz.h (List.Mem.head _) (ints_at (i:=i) (cut_get hil) rfl)) (h:=?_)
  refine TD.z [18,22] rfl (q_indexSl rfl rfl rfl SlEl.h oQ oQ) ?_
  refine TD.y [23] rfl (hq:=q_load rfl rfl TySz.h (List.Mem.head _) (mes_at (i:=(cutN l i).toNat) hx oQ)) (h:=?_)
  refine TD.cnewR (pend':=[⟨8,[18,22],[]⟩,⟨7,[21],[(_,_)]⟩,⟨6,[19,20],[]⟩,⟨5,[6],[]⟩,⟨4,[1],[]⟩,⟨3,[17],[(_,_)]⟩,⟨2,[2],[]⟩,⟨1,[15],[(_,_)]⟩,⟨0,[5],[]⟩]) [24] rfl rfl rfl rfl rfl (n_buildSlice (l:=[_,_,_]) rfl SlEl.h TyZ.h dQ dQ rfl) (fun _=>putS rfl (by simp only [List.set]; rfl)) sQ fun j1 hj1=>?_
  refine TD.capp (pend':=[⟨8,[18,22],[]⟩,⟨7,[21],[(_,_)]⟩,⟨6,[19,20],[]⟩,⟨5,[6],[]⟩,⟨4,[1],[]⟩,⟨3,[17],[(_,_)]⟩,⟨2,[2],[]⟩,⟨0,[5],[]⟩]) [16,25] rfl rfl rfl rfl rfl (a_app rfl ApOf.h rfl mQ oQ rfl (src_row (ln:=[_,_,_]) mQ dQ sQ rfl) oQ rfl (by unfold maxLen; omega) oQ) (fun _=>uQ) (fun _=>putS rfl (by simp only [List.set]; rfl)) (fun _=>sQ) fun je2=>?_
  refine TD.z [5] rfl (q_fieldAddr rfl rfl FldOf.h dQ) ?_
  refine TD.s (pend':=[]) [26,27] rfl rfl (q_store rfl rfl TySz.h rfl rfl mQ rfl) ?_
  refine TD.fin ?_
  refine au [14,5,1,23,2,3] ?_
  refine TK.maskL [1,2,4,5,6] ?_
  refine TK.kp [(e,_),(j,_),(je2,_),(jo,_),(jr,_),(jb,_)] ?_
  exact hnext _ _ _ oQ ⟨i+1,je2,rfl,by omega,rfl,by rw [onlyT_snoc hil,flat_snoc,List.length_append]; rfl⟩
 obtain rfl:i=l.length:=by simp at hc0; omega
 refine au [16,4] ?_
 refine TK.unrowAt (c:=jo) (i:=6) (j:=je) rfl mQ uQ ?_
 refine TK.frzRow (j:=je) ?_
 refine au [5,8,17,3] ?_
 refine TK.rt hret [(je,_),(e,_),(j,_)] ?_
 exact ⟨je,rfl,rfl⟩
theorem dropR_ok {main:Bool} {T:Goroutine->Hp->Prop} (hT:Shut Tryz.prog main T) {gm:Nat->Option Nat} {j i:Nat} {et:TypeId} {l:List Int} (hi:i<l.length) (hll:l.length<=1000) :
  CallK Tryz.prog T gm 64 [.sl j 0 l.length,intA i] [(j,.cells (l.map intA) et false)] (fun r K'=>∃ j2,r=.sl j2 0 (l.eraseIdx i).length/\K'=[(j2,.cells ((l.eraseIdx i).map intA) 3 false),(j,.cells (l.map intA) et false)]):=by
 refine callK_in 15 hT Tryz.func64 fun Y hret=>?_
 refine au [4,5,2,3,4] ?_
 refine TK.draw [1,2,3,5,6,7,8,0,4,9,10] [0,1,2,3,4,5,6,7,8,9,10] (by kernel_rfl) (by kernel_rfl) ?_
 refine TD.z [0] rfl (q_move rfl rfl) ?_
 refine TD.z [1] rfl (q_move rfl rfl) ?_
 refine TD.z [6,7] rfl (q_sliceSl rfl rfl SlEl.h rfl rfl oQ oQ rfl) ?_
 refine TD.z [0] rfl (q_move rfl rfl) ?_
 refine TD.z [1] rfl (q_move rfl rfl) ?_
 refine TD.z [11] rfl (q_add rfl rfl rfl oQ) ?_
 refine TD.z [10,12] rfl (q_sliceSl rfl rfl SlEl.h rfl rfl oQ oQ rfl) ?_
 refine TD.cnewR (pend':=[⟨8,[10,12],[]⟩,⟨7,[11],[]⟩,⟨6,[1],[]⟩,⟨5,[0],[]⟩,⟨3,[6,7],[]⟩,⟨2,[1],[]⟩,⟨1,[0],[]⟩]) [] rfl rfl rfl rfl rfl (n_buildSlice (l:=[]) rfl SlEl.h TyZ.h dQ dQ rfl) (fun _=>putS rfl (by simp only [List.set]; rfl)) sQ fun jn hjn=>?_
 refine TD.cappG (ln:=(l.take i).map intA) (pend':=[⟨8,[10,12],[]⟩,⟨7,[11],[]⟩,⟨6,[1],[]⟩,⟨5,[0],[]⟩,⟨2,[1],[]⟩,⟨1,[0],[]⟩]) [5,8] rfl rfl rfl rfl rfl rfl ApOf.h rfl mQ rfl rfl rfl (fun hp=>src_sl mQ oQ ((take_sub (l:=l) (a:=0) (m:=i) oQ oQ))) (fun h=>by rw [show i=0 from h]; rfl) (ints_one _) (by unfold maxLen; omega) oQ (fun _=>uQ) (fun _=>putS rfl (by simp only [List.set]; rfl)) (fun _=>by simp) fun jm=>?_
 try simp only [List.nil_append,Nat.zero_add]
 refine TD.cappG (ln:=(l.drop (i+1)).map intA) (pend':=[⟨7,[11],[]⟩,⟨6,[1],[]⟩,⟨5,[0],[]⟩,⟨2,[1],[]⟩,⟨1,[0],[]⟩]) [9,13] rfl rfl rfl rfl rfl rfl ApOf.h rfl mQ (by rw [List.length_map,List.length_take,Nat.min_eq_left oQ]; simp) rfl rfl (fun hp=>src_sl mQ oQ ((by have h:=take_sub (l:=l) (e:=et) (rw':=false) (a:=i+1) (m:=l.length - (i+1)) oQ oQ; rw [List.take_of_length_le (by rw [List.length_drop]; omega)] at h; refine Eq.trans ?_ h; congr 1; omega))) (fun h=>by rw [List.drop_eq_nil_of_le oQ]; rfl) (ints_one _) (by unfold maxLen; omega) oQ (fun _=>uQ) (fun _=>putS rfl (by simp only [List.set]; rfl)) (fun _=>by simp) fun jr=>?_
 try simp only [List.nil_append,Nat.zero_add]
 refine TD.as (pend':=[]) [14] rfl rfl (q_assign rfl rfl) ?_
 refine TD.fin ?_
 refine TK.norm (env':=[_,_,_,_,.row jr _,_,_,_,_,_,_,_,_,_,_]) rfl ?_
 refine TK.asSl 4 rfl mQ ?_
 refine TK.frzRow (j:=jr) ?_
 refine au [] ?_
 refine TK.rt hret [(jr,_),(j,_)] ?_
 exact ⟨jr,by rw [List.eraseIdx_eq_take_drop_succ,List.length_append,List.length_take,List.length_drop,Nat.min_eq_left oQ] <;> rfl,by rw [List.eraseIdx_eq_take_drop_succ,List.map_append] <;> rfl⟩
theorem climbs0_ok {main:Bool} {T:Goroutine->Hp->Prop} (hT:Shut Tryz.prog main T) {gm:Nat->Option Nat} {n:Int} :
  CallK Tryz.prog T gm 62 [.v (.slice none 0 0),intA n] [] (fun r K'=>r=intA 0/\K'=[]):=by
 refine callK_in 34 hT Tryz.func62 fun Y hret=>?_
 refine au [4,5,2,3,4,4,5,2,3,13] ?_
 refine TK.maskL [0,5] ?_
 refine TK.loopN (fun n0 env K=>n0=0/\env=[.v (.slice none 0 0),.any,.any,.any,.any,intA 0,.any,.any,.any,.any,.any,.any,.any,.any,.any,.any,.any,.any,.any,.any,.any,.any,.any,.any,.any,.any,.any,.any,.any,.any,.any,.any,.any,.any]/\K=[]) 0 ⟨rfl,rfl,rfl⟩ fun n0 env K hI hnext=>?_
 obtain ⟨rfl,rfl,rfl⟩:=hI
 refine au [4,4,5,1,1,28,6,3,20] ?_
 refine ⟨fun hc0=>?_,fun hc0=>?_⟩
 ·exact absurd hc0 dQ
 refine au [16,4,5,2,3] ?_
 refine TK.rt hret [] ?_
 exact ⟨rfl,rfl⟩
theorem lawClashes_top {b:RBk} {s h e:Nat} {k:Int} (hk:0<=k/\k<256):Top Tryz.prog gmR 8 [.agg (rollC b s h e),.v (.int .u8 k)] [(0,checksG),(s,seamO b),(h,shrO b),(e,measO b)] (fun r _=>r=boolA true):=by
 refine topI 129 Tryz.func8 fun R Y hret=>?_
 have hT:=shut_BT (P:=Tryz.prog) (AtRet Tryz.prog 8 R)
 refine au [4,5,21] ?_
 intro jb hjb
 refine au [2,3,4,4,5,8] ?_
 refine TK.cl rfl rfl rfl rfl (fit_ok hT) ?_
 rintro r1 K2 ⟨rfl,rfl⟩
 refine au [30,3,20] ?_
 refine ⟨fun hc0=>?_,fun hc0=>?_⟩
 ·refine au [4,5] ?_
  refine TK.cl rfl rfl rfl rfl (hung_ok) ?_
  rintro r4 K5 ⟨rfl,rfl⟩
  refine au [2,3] ?_
  refine TK.rt hret [] ?_
  rfl
 have hgr:greatM b=false/\checkM b=0:=by cases hq:greatM b <;> simp [hq] at hc0; exact ⟨rfl,hc0⟩
 obtain ⟨hgr,hck⟩:=hgr
 have hbb:=check_ok0 hck
 have hl:b.seams.length<=100:=by have:=hbb.sms.len; omega
 have hm:b.measures.length<=100:=by have:=hbb.mes.len; omega
 have hl2:b.shrinks.length<=100:=by have:=hbb.cls.len; omega
 have hst:=hbb.rnd.steps
 obtain ⟨kn,rfl⟩:=Int.eq_ofNat_of_zero_le hk.1
 have hsl:=hbb.sms.len
 have hml:=hbb.mes.len
 refine au [12,4,5,8] ?_
 refine TK.cl rfl rfl rfl rfl (clash_ok hT hl hm) ?_
 rintro r7 K8 h9
 rcases h9 with ⟨hbar,rfl,rfl⟩ | ⟨hbar,hne,rfl,rfl⟩ | ⟨hbar,hnil,hno,rfl,rfl⟩ | ⟨hbar,hnil,l,jl,el,hcl,rfl,rfl⟩
 ·refine au [] ?_
  exact absurd hck hbar
 ·refine au [] ?_
  have hpos:0<(statesM b).length:=List.length_pos_iff.2 hne
  refine au [1,10,10,2,2,3,4,5,8] ?_
  refine TK.cl rfl rfl rfl rfl (statesApi_ok hT hl hm) ?_
  rintro r10 K11 ⟨rfl,rfl⟩
  refine au [] ?_
  rw [hck,if_pos rfl]
  refine au [1,10,10,2,2,3,4,4,5,1,6,1,1,6,25,1,1,7,9,28] ?_
  refine TK.cl rfl rfl rfl rfl (climbs0_ok hT) ?_
  rintro r13 K14 ⟨rfl,rfl⟩
  refine au [6,25,1,1,6,1,28,6,34,25,3,20] ?_
  refine ⟨fun hc1=>?_,fun hc1=>?_⟩
  ·first | (simp at hc1; omega) | (simp at hc1; exact (hne hc1).elim)
  refine au [12,4,4,5,1,6,3,20] ?_
  refine ⟨fun hc2=>?_,fun hc2=>?_⟩
  ·
   refine au [4,5] ?_
   refine TK.cl rfl rfl rfl rfl (hung_ok) ?_
   rintro r16 K17 ⟨rfl,rfl⟩
   refine au [2,3] ?_
   refine TK.rt hret [] ?_
   rfl
  simp at hc2; exact (hne hc2).elim
 ·refine au [] ?_
  obtain ⟨l,c,h1,_⟩:=clash_law hbb hnil; rw [hno] at h1; cases h1
 ·refine au [] ?_
  obtain ⟨l2,c,h1,hc2p,hlc,hbadc,hlne,hera,hsma⟩:=clash_law hbb hnil
  obtain rfl:l2=l:=by rw [hcl] at h1; exact (Option.some.inj h1).symm
  have hll:l2.length<=3:=by rw [hlc]; have:=bitsM_le c b.measures.length; omega
  have hlb:∀ x∈l2,0<=x/\x<(b.measures.length:Int):=by rw [hlc]; exact bits_in b c
  have hlp:l2.Pairwise (· < ·):=by rw [hlc]; exact bits_asc _
  have hl0:0<l2.length:=List.length_pos_iff.2 hlne
  refine au [1,10,10,2,2,3,4,5,8] ?_
  refine TK.cl rfl rfl rfl rfl (statesApi_ok hT hl hm) ?_
  rintro r19 K20 ⟨rfl,rfl⟩
  refine au [] ?_
  rw [hck,if_pos rfl,hnil]
  refine au [1,10,10,2,2,3,4,4,5,1,6,1,1,6,25,1,1,7,9,28] ?_
  refine TK.cl rfl rfl rfl rfl (climbs_ok hT hlb hlp oQ oQ) ?_
  rintro r22 K23 ⟨rfl,rfl⟩
  refine au [6,25,1,1,6,1,28,6,34,25,3,20] ?_
  refine ⟨fun hc1=>?_,fun hc1=>?_⟩
  ·first | (simp at hc1; omega) | (simp at hc1; exact (hlne hc1).elim)
  refine au [12,4,4,5,1,6,3,20] ?_
  refine ⟨fun hc2=>?_,fun hc2=>?_⟩
  ·exact absurd hc2 dQ
  refine au [12,4,4,5,8,1] ?_
  refine TK.cl rfl rfl rfl rfl (onlyR_ok hT hlb oQ oQ) ?_
  rintro r25 K26 ⟨je,rfl,rfl⟩
  refine au [] ?_
  refine TK.cl rfl rfl rfl rfl (statesApi_ok hT (b:=onlyX b l2) (s:=s) (h:=h) (e:=je) (show b.seams.length<=100 by omega) (by rw [onlyX_len]; omega)) ?_
  rintro r28 K29 ⟨rfl,rfl⟩
  refine au [] ?_
  rw [show checkM (onlyX b l2)=0 by rw [hlc]; exact onlyX_check hbb c,if_pos rfl,show statesM (onlyX b l2)=[] by rw [hlc]; exact bad_nil hbadc]
  refine au [1,10,10,2,2,3,4,5,1,6,1,1,6,25,3,20] ?_
  refine ⟨fun hc3=>?_,fun hc3=>?_⟩
  ·exact absurd hc3 dQ
  refine au [12,4,4,5,2,3,13] ?_
  refine TK.maskL [1,2,5,11] ?_
  refine TK.kp [(0,_),(s,_),(h,_),(e,_),(jb,_),(jl,_)] ?_
  refine TK.loopN (fun n env K=>∃ (i:Nat),n=l2.length - i/\i<=l2.length/\env=[.any,.v (.int .u8 (kn:Int)),.ptr jb 0,.any,.any,.sl jl 0 l2.length,.any,.any,.any,.any,.any,intA i,.any,.any,.any,.any,.any,.any,.any,.any,.any,.any,.any,.any,.any,.any,.any,.any,.any,.any,.any,.any,.any,.any,.any,.any,.any,.any,.any,.any,.any,.any,.any,.any,.any,.any,.any,.any,.any,.any,.any,.any,.any,.any,.any,.any,.any,.any,.any,.any,.any,.any,.any,.any,.any,.any,.any,.any,.any,.any,.any,.any,.any,.any,.any,.any,.any,.any,.any,.any,.any,.any,.any,.any,.any,.any,.any,.any,.any,.any,.any,.any,.any,.any,.any,.any,.any,.any,.any,.any,.any,.any,.any,.any,.any,.any,.any,.any,.any,.any,.any,.any,.any,.any,.any,.any,.any,.any,.any,.any,.any,.any,.any,.any,.any,.any,.any,.any,.any]/\K=[(0,checksG),(s,seamO b),(h,shrO b),(e,measO b),(jb,.cells (rollC b s h e) 26 true),(jl,.cells (l2.map intA) el false)]) l2.length ⟨0,rfl,Nat.zero_le _,rfl,rfl⟩ fun n env K hI hnext=>?_
  obtain ⟨i,rfl,hi,rfl,rfl⟩:=hI
  refine au [4,4,5,1,1,28,6,3,20] ?_
  refine ⟨fun hc4=>?_,fun hc4=>?_⟩
  ·have hil:i<l2.length:=by simp at hc4; omega
   obtain ⟨d,hed,hbd⟩:=hera i hil
   have hpd:=bad_len hbd
   have hele:(l2.eraseIdx i).length<=3:=by rw [List.length_eraseIdx_of_lt hil]; omega
   refine au [12,4,13,4] ?_
   refine TK.draw [0,1,2,3,4,5,6,7,8,9,10] [0,1,2,3,4,5,6,7,9,8,10] (by kernel_rfl) (by kernel_rfl) ?_
   refine TD.y [2] rfl (hq:=q_load rfl rfl TySz.h (List.Mem.head _) rfl) (h:=?_)
   refine TD.z [5] rfl (q_move rfl rfl) ?_
   refine TD.z [11] rfl (q_move rfl rfl) ?_
   refine TD.cl (pend':=[⟨0,[2],[(_,_)]⟩]) [78,79] rfl rfl rfl rfl rfl (dropR_ok hT hil oQ) (fun r31 K32 h33=>⟨?_,?_⟩)
   ·rcases h33 with ⟨jd,rfl,rfl⟩
    all_goals simp
   obtain ⟨jd,rfl,rfl⟩:=h33
   try simp only [List.cons_append,List.nil_append]
   refine TD.norm (by simp only [List.set]; rfl) ?_
   refine TD.cl (pend':=[]) [77,80] rfl rfl rfl rfl rfl (onlyR_ok hT (by rw [hed]; exact bits_in b d) oQ oQ) (fun r34 K35 h36=>⟨?_,?_⟩)
   ·rcases h36 with ⟨je,rfl,rfl⟩
    all_goals simp
   obtain ⟨je,rfl,rfl⟩:=h36
   try simp only [List.cons_append,List.nil_append]
   refine TD.norm (by simp only [List.set]; rfl) ?_
   refine TD.cl (pend':=[]) [81] rfl rfl rfl rfl rfl (statesApi_ok hT (b:=onlyX b (l2.eraseIdx i)) (s:=s) (h:=h) (e:=je) (show b.seams.length<=100 by omega) (by rw [onlyX_len]; omega)) (fun r37 K38 h39=>⟨?_,?_⟩)
   ·rcases h39 with ⟨rfl,rfl⟩
    all_goals simp
   obtain ⟨rfl,rfl⟩:=h39
   try simp only [List.cons_append,List.nil_append]
   refine TD.norm (by simp only [List.set]; rfl) ?_
   rw [hed,onlyX_check hbb d,if_pos rfl]
   refine TD.z [82] rfl (q_move rfl rfl) ?_
   refine TD.z [76] rfl (q_extract rfl rfl rfl) ?_
   refine TD.z [76] rfl (q_extract rfl rfl rfl) ?_
   refine TD.as (pend':=[⟨8,[76],[]⟩]) [83] rfl rfl (q_assign rfl rfl) ?_
   refine TD.as (pend':=[]) [84] rfl rfl (q_assign rfl rfl) ?_
   refine TD.fin ?_
   refine au [4,5,1,6,1,1,6,25,3,20] ?_
   refine ⟨fun hc5=>?_,fun hc5=>?_⟩
   ·simp at hc5; first | omega | (rw [hc5] at hpd; exact absurd hpd dQ)
   refine au [12,14,5,1,23,2,3] ?_
   refine TK.maskL [1,2,5,11] ?_
   refine TK.kp [(0,_),(s,_),(h,_),(e,_),(jb,_),(jl,_)] ?_
   exact hnext _ _ _ oQ ⟨i+1,rfl,by omega,rfl,rfl⟩
  obtain rfl:i=l2.length:=by simp at hc4; omega
  refine au [16,4,5,2] ?_
  refine TK.virt 14 3 1 rfl fun jv0 hjv0=>?_
  refine au [3,4,4,5,2,3,13] ?_
  refine TK.maskL [1,2,5,14,15] ?_
  refine TK.kp [(0,_),(s,_),(h,_),(e,_),(jb,_),(jl,_),(jv0,_)] ?_
  refine TK.loopN (fun n env K=>∃ (q jv:Nat),n=b.measures.length - q/\q<=b.measures.length/\env=[.any,.v (.int .u8 (kn:Int)),.ptr jb 0,.any,.any,.sl jl 0 l2.length,.any,.any,.any,.any,.any,.any,.any,.any,.row jv (bitsM kn q).length,intA q,.any,.any,.any,.any,.any,.any,.any,.any,.any,.any,.any,.any,.any,.any,.any,.any,.any,.any,.any,.any,.any,.any,.any,.any,.any,.any,.any,.any,.any,.any,.any,.any,.any,.any,.any,.any,.any,.any,.any,.any,.any,.any,.any,.any,.any,.any,.any,.any,.any,.any,.any,.any,.any,.any,.any,.any,.any,.any,.any,.any,.any,.any,.any,.any,.any,.any,.any,.any,.any,.any,.any,.any,.any,.any,.any,.any,.any,.any,.any,.any,.any,.any,.any,.any,.any,.any,.any,.any,.any,.any,.any,.any,.any,.any,.any,.any,.any,.any,.any,.any,.any,.any,.any,.any,.any,.any,.any,.any,.any,.any,.any,.any,.any]/\K=[(0,checksG),(s,seamO b),(h,shrO b),(e,measO b),(jb,.cells (rollC b s h e) 26 true),(jl,.cells (l2.map intA) el false),(jv,.row ((bitsM kn q).map intA) 3 1)]) b.measures.length ⟨0,jv0,rfl,Nat.zero_le _,rfl,rfl⟩ fun n env K hI hnext2=>?_
  obtain ⟨q,jv,rfl,hq,rfl,rfl⟩:=hI
  have hbl:=bitsM_le kn q
  refine au [4,4,5,1,7,9,28,6,3,20] ?_
  refine ⟨fun hc6=>?_,fun hc6=>?_⟩
  ·have hql:q<b.measures.length:=by simp at hc6; omega
   refine au [12,4,13,4,5,1,1] ?_
   refine TK.a rfl (q_shrU rfl rfl rfl oQ) ?_
   refine TK.a rfl (q_andU rfl rfl rfl (by have:=Nat.div_le_self kn (2 ^ q); omega)) ?_
   refine au [6,3,20] ?_
   refine ⟨fun hc7=>?_,fun hc7=>?_⟩
   ·have hbit:kn / 2 ^ q % 2=1:=by have h:=eq_of_beq hc7; omega
    refine au [5,1,1] ?_
    refine TK.newR rfl rfl rfl (n_buildSlice (l:=[_]) rfl SlEl.h TyZ.h dQ dQ rfl) (fun _=>putS rfl (by simp only [List.set]; rfl)) fun j40 hj40=>?_
    refine TK.appR rfl rfl rfl (a_app rfl ApOf.h rfl mQ sQ rfl (src_row (ln:=[_]) mQ dQ sQ rfl) oQ rfl (by unfold maxLen; omega) oQ) (fun _=>uQ) (fun _=>putS rfl (by simp only [List.set]; rfl)) fun jw=>?_
    refine au [2,3,14,5,1,23,2,3] ?_
    refine TK.maskL [1,2,5,14,15] ?_
    refine TK.kp [(0,_),(s,_),(h,_),(e,_),(jb,_),(jl,_),(jw,_)] ?_
    exact hnext2 _ _ _ oQ ⟨q+1,jw,rfl,by omega,by rw [bits_T hbit,List.length_append]; rfl,by rw [bits_T hbit,List.map_append]; rfl⟩
   have hbit:¬ kn / 2 ^ q % 2=1:=fun h=>by rw [h] at hc7; simp at hc7
   refine au [12,14,5,1,23,2,3] ?_
   refine TK.maskL [1,2,5,14,15] ?_
   refine TK.kp [(0,_),(s,_),(h,_),(e,_),(jb,_),(jl,_),(jv,_)] ?_
   exact hnext2 _ _ _ oQ ⟨q+1,jv,rfl,by omega,by rw [bits_F hbit] <;> rfl,by rw [bits_F hbit] <;> rfl⟩
  obtain rfl:q=b.measures.length:=by simp at hc6; omega
  refine TK.asSl 14 rfl mQ ?_
  refine TK.frzRow (j:=jv) ?_
  refine au [] ?_
  have hck2:=onlyX_check hbb kn
  refine au [16,4,5,8,1] ?_
  refine TK.cl rfl rfl rfl rfl (onlyR_ok hT (bits_in b kn) oQ oQ) ?_
  rintro r41 K42 ⟨je,rfl,rfl⟩
  refine au [] ?_
  refine TK.cl rfl rfl rfl rfl (statesApi_ok hT (b:=onlyX b (bitsM kn b.measures.length)) (s:=s) (h:=h) (e:=je) (show b.seams.length<=100 by omega) (by rw [onlyX_len]; omega)) ?_
  rintro r44 K45 ⟨rfl,rfl⟩
  refine au [] ?_
  rw [hck2,if_pos rfl]
  refine au [1,10,10,2,2,3,4,5,1,6,1,1,6,1] ?_
  refine TK.sp 119 (fun g25_6=>?_) (fun g25_6=>?_)
  ·refine au [11,11,11,11,26,26,1] ?_
   refine TK.cl rfl rfl rfl rfl (hung_ok) ?_
   rintro r47 K48 ⟨rfl,rfl⟩
   refine au [26,2,3] ?_
   refine TK.rt hret [] ?_
   rfl
  have hbk:badM b (kn % 2 ^ b.measures.length)=true:=by
   have h1:=of_decide_eq_false g25_6
   have h2:statesM (onlyX b (bitsM kn b.measures.length))=[]:=List.eq_nil_of_length_eq_zero oQ
   rw [only_bits] at h2
   unfold badM
   rw [<- only_bits,bits_mod _ _ _ (Nat.le_refl _),only_bits,h2]
   rfl
  have hsk:=hsma kn hbk
  refine au [1,1] ?_
  refine TK.cl rfl rfl rfl rfl (smallerR_ok hT oQ oQ) ?_
  rintro r50 K51 ⟨rfl,rfl⟩
  refine au [30,25,26,1] ?_
  refine TK.sp 126 (fun g25_13=>?_) (fun g25_13=>?_)
  ·refine TK.cl rfl rfl rfl rfl (hung_ok) ?_
   rintro r53 K54 ⟨rfl,rfl⟩
   refine au [26,2,3] ?_
   refine TK.rt hret [] ?_
   rfl
  first | exact absurd g25_13 dQ | simp [hsk] at g25_13
end Go.Vel
end
