/- Texts for the statements of chapter 8: what all of them need, part 10. It holds of every program, tape and world that the statements name, as each theorem says. -/
import Derived.Test.YtlmglkmfkcbakaaGreatDoorS5
import Derived.Test.YtlmglkmfkcbakaaGreatDoorS6
import Derived.Test.YtlmglkmfkcbakaaGreatDoorS7
import Derived.Test.YtlmglkmfkcbakaaGreatDoorS8
open Go renaming Goroutine -> gG
open Bool renaming true -> tt, false -> ff
section
set_option linter.all false
set_option maxRecDepth 20000
set_option maxHeartbeats 60000000
open Go.Proofs.Tryz renaming prog -> tp
open List renaming getElem?_eq_getElem -> lA, length_map -> lJ, map_append -> lM, append_nil -> lR, mem_singleton -> lS, mem_append -> lT, getElem?_eq_none -> lU, take_length -> lW, mem_map -> lY, length_cons -> lZ
open List.Mem renaming head -> mC
open Nat renaming le_refl -> mL, zero_le -> mN, zero_add -> mO
open Bool renaming and_eq_true -> mX
open Go.Vel.TK renaming maskL -> bA, rt -> bB, kp -> bC, cl -> bD, loopN -> bE, na -> bG, a -> bH, dq -> bL, frzRow -> bY
open Go.Vel.TD renaming s -> bR, y -> bT
namespace Go.Vel
open Go Go.Conc Go.Proofs
open Go.Sort
theorem zm0 {main T} (hT:zt tp main T) {gm} {j n a b:Nat} {d:Array Int} (hd:d.size=n) (hn:n<=100000) (hab:a<b) (hb:b<=n) :
  zr tp T gm 134 [.sl j 0 n,za a,za b] [(j,.row (d.toList.map za) 3 1)] (fun r K'=>∃ q,partialInsertionSort ltInt d a b=q/\r=zC q.2/\K'=[(j,.row (q.1.toList.map za) 3 1)]):=by
 refine zn 133 hT Tryz.func134 fun Y Wz=>?_;refine au 13035422352301423542 ?_;refine bA [0,1,2,7,8] ?_;refine bE (fun n1 Wq K=>∃ (s i:Nat) (d1:Array Int),n1=s/\s<=5/\a<i/\i<=b/\d1.size=n/\partialIns ltInt a b s i d1=partialInsertionSort ltInt d a b/\Wq=.sl j 0 n::za a::za b::naL 4 (za i::za (5 - (s:Int))::naL 124 [])/\K=[(j,.row (d1.toList.map za) 3 1)]) 5 ⟨5,a+1,d,rfl,mL _,oQ,oQ,hd,rfl,rfl,rfl⟩ fun n1 Wq K hI Wj=>?_;obtain ⟨s1,i,d1,hn1,hs5,hai,hib,hs1,heq,rfl,rfl⟩:=hI;subst n1;refine bG nQ ?_;refine au 9371422 ?_;constructor<;>intro Jz
 ·obtain ⟨s,rfl⟩:∃ s,s1=s+1:=⟨s1 - 1,by simp at Jz; omega⟩;refine au 13021302120 ?_;refine bA [0,1,2,7,8] ?_;refine bE (fun n1 Wq K=>∃ (u:Nat),n1=b - u/\i<=u/\u<=b/\scanSorted ltInt d1 b u=scanSorted ltInt d1 b i/\Wq=.sl j 0 n::za a::za b::naL 4 (za u::za (5 - ((s+1:Nat):Int))::naL 124 [])/\K=[(j,.row (d1.toList.map za) 3 1)]) (b - i) ⟨i,rfl,mL _,hib,rfl,rfl,rfl⟩ fun n1 Wq K hI Ww=>?_;obtain ⟨u,rfl,hiu,hub,heqs,rfl,rfl⟩:=hI;refine bG nQ ?_;refine au 22 ?_;refine' TK.shr (X:=Unit) (D:=fun x=>scanSorted ltInt d1 b i=u) (E:=fun x=>.sl j 0 n::za a::za b::naL 4 (za u::za (5 - ((s+1:Nat):Int))::naL 124 [])) (KK:=fun x=>[(j,.row (d1.toList.map za) 3 1)]) ?_ ?_;rotate_left
  ·intro H;refine bL [0,1,2,3,4,5,6,7,8,9,10,11,12,13,14,15] ?_;refine ad [[1,7],[1,2],[4,17,18],[1,19]] ?_;refine TD.sp 20 (fun g5_4=>?_) (fun g5_4=>?_)
   ·have hg:u<b:=by simp at g5_4; omega
    refine ad [[1,0,20],[1,7,20],[2,20,21,22]] ?_;refine bT [20,23] Z (hq:=zj Z Z ze.h (mC _) (zT (i:=u) oQ oQ)) (h:=?_);refine ad [[1,0,20],[1,7,20],[9,20,26],[2,20,25,27]] ?_;refine bT [20,28] Z (hq:=zj Z Z ze.h (mC _) (zT (i:=u - 1) oQ oQ)) (h:=?_);refine TD.clE (Wx:=[_,_,_,_,_,_,_,_,_,_]) [20,24,29] Z Z Z Z Z (kf hT) ?_;refine TD.z [20,30] Z (q_not Z Z) ?_;refine ad [[7,20,31],[14]] ?_;refine au 9 ?_;constructor<;>intro Jx
    ·rw [ss_go hg Jx] at heqs;refine au 1403523014130120 ?_;refine bA [0,1,2,7,8] ?_;refine bC [(j,_)] ?_;exact Ww _ _ _ oQ ⟨u+1,rfl,oQ,oQ,heqs,rfl,rfl⟩
    have hf:scanSorted ltInt d1 b i=u:=by rw [<- heqs]; exact zjU (.inr Jx)
    refine au 22160 ?_;refine bA [0,1,2,7,8] ?_;refine bC [(j,_)] ?_;exact H () hf
   have hf:scanSorted ltInt d1 b i=u:=by rw [<- heqs]; exact zjU (.inl (by simp at g5_4; omega))
   refine ad [[11,0,20],[11,7,20],[11,20,21,22],[11,20,23],[11,0,20],[11,7,20],[11,20,26],[11,20,25,27],[11,20,28],[11,20,24,29],[11,20,30],[6,20,31],[14]] ?_;refine au 22160190 ?_;refine bA [0,1,2,7,8] ?_;refine bC [(j,_)] ?_;exact H () hf
  ·rintro _ hsc;refine bG nQ ?_;refine au 937114 ?_;constructor<;>intro hc2
   ·have hq1:partialInsertionSort ltInt d a b=(d1,tt):=heq.symm.trans (pi_T hsc (by simp at hc2; omega));refine au 3542 ?_;refine bB Wz [(j,_)] ?_;exact ⟨_,hq1,rfl,rfl⟩
   have hub2:¬ u=b:=fun h=>by rw [h] at hc2; simp at hc2
   refine au 93724011422120 ?_;constructor<;>intro hc3
   ·have hq1:partialInsertionSort ltInt d a b=(d1,ff):=heq.symm.trans (pi_F hsc hub2 (by simp at hc3; omega));refine au 3542 ?_;refine bB Wz [(j,_)] ?_;exact ⟨_,hq1,rfl,rfl⟩
   have h50:¬ b - a<50:=by simp at hc3; omega
   refine au 2120 ?_;refine bL [0,1,5,6,7,8,9,10,11,12,13,14,15,2,3,4,16,17] ?_;refine ad [[1,0],[1,7],[1,0],[1,7],[9,45],[1,0],[1,7],[9,48],[2,47,49]] ?_;refine bT [50] Z (hq:=zj Z Z ze.h (mC _) (zT (i:=u - 1) oQ oQ)) (h:=?_);refine ad [[1,0],[1,7],[2,52,53]] ?_;refine bT [54] Z (hq:=zj Z Z ze.h (mC _) (zT (i:=u) oQ oQ)) (h:=?_);refine ad [[2,42,43]] ?_;refine bR (Wx:=[_,_,_,_,_,_]) [51,56] Z Z (zE Z Z ze.h Z Z mQ (kF (k:=u) oQ oQ)) ?_;refine ad [[2,44,46]] ?_;refine bR (Wx:=[]) [55,57] Z Z (zE Z Z ze.h Z Z mQ (kG (i:=u) (j:=u - 1) oQ oQ)) ?_;refine ad [[14]] ?_;refine au 22 ?_;refine' TK.shr (X:=Array Int) (D:=fun x=>x.size=n/\x=if u - a>=2 then shiftDown ltInt (u - 1) (swp d1 u (u - 1)) else swp d1 u (u - 1)) (E:=fun x=>.sl j 0 n::za a::za b::naL 4 (za u::za (5 - ((s+1:Nat):Int))::naL 124 [])) (KK:=fun x=>[(j,.row (x.toList.map za) 3 1)]) ?_ ?_;rotate_left
   ·intro H;obtain ⟨d2,hd2⟩:∃ d2,d2=swp d1 u (u - 1):=⟨_,rfl⟩;have hs2:d2.size=n:=by rw [hd2]; exact kK hs1
    rw [<- hd2];refine au 937240114 ?_;constructor<;>intro hc4
    ·have h2:u - a>=2:=by simp at hc4; omega
     refine au 13035240142 ?_;refine bA [0,1,2,7,8,9] ?_;refine bE (fun n1 Wq K=>∃ (v:Nat) (d3:Array Int),n1=v/\v<=u - 1/\d3.size=n/\shiftDown ltInt v d3=shiftDown ltInt (u - 1) d2/\Wq=.sl j 0 n::za a::za b::naL 4 (za u::za (5 - ((s+1:Nat):Int))::za v::naL 123 [])/\K=[(j,.row (d3.toList.map za) 3 1)]) (u - 1) ⟨u - 1,d2,rfl,mL _,hs2,rfl,by rw [show (u:Int) - 1=((u - 1:Nat):Int) by omega] <;> rfl,rfl⟩ fun n1 Wq K hI hnext2=>?_;obtain ⟨v,d3,hnv,hvu,hs3,heq3,rfl,rfl⟩:=hI;subst n1;refine bG nQ ?_;refine au 9371422 ?_;constructor<;>intro hc5
     ·obtain ⟨q,rfl⟩:∃ q,v=q+1:=⟨v - 1,by simp at hc5; omega⟩;refine au 221302120 ?_;refine bL [0,1,2,3,4,5,6,7,8,9,10] ?_;refine ad [[1,0],[1,9],[2,68,69]] ?_;refine bT [70] Z (hq:=zj Z Z ze.h (mC _) (zT (i:=q+1) oQ oQ)) (h:=?_);refine ad [[1,0],[1,9],[9,73],[2,72,74]] ?_;refine bT [75] Z (hq:=zj Z Z ze.h (mC _) (zT (i:=q) oQ oQ)) (h:=?_);refine TD.clE (Wx:=[_,_,_,_,_,_,_]) [71,76] Z Z Z Z Z (kf hT) ?_;refine TD.z [77] Z (q_not Z Z) ?_;refine ad [[14]] ?_;refine au 9 ?_;constructor<;>intro hc6
      ·have hx3:d3.size=n/\d3=if u - a>=2 then shiftDown ltInt (u - 1) d2 else d2:=⟨hs3,by rw [if_pos h2,<- heq3]; exact (zni hc6).symm⟩
       refine au 2160 ?_;refine bA [0,1,2,7,8] ?_;refine bC [(j,_)] ?_;exact H _ (hd2 ▸ hx3)
      refine au 120 ?_;refine bL [0,1,5,6,7,8,9,10,11,12,13,14,15,2,3,4,16,17] ?_;refine ad [[1,0],[1,9],[1,0],[1,9],[9,82],[1,0],[1,9],[9,85],[2,84,86]] ?_;refine bT [87] Z (hq:=zj Z Z ze.h (mC _) (zT (i:=q) oQ oQ)) (h:=?_);refine ad [[1,0],[1,9],[2,89,90]] ?_;refine bT [91] Z (hq:=zj Z Z ze.h (mC _) (zT (i:=q+1) oQ oQ)) (h:=?_);refine ad [[2,79,80]] ?_;refine bR (Wx:=[_,_,_,_,_,_]) [88,93] Z Z (zE Z Z ze.h Z Z mQ (kF (k:=q+1) oQ oQ)) ?_;refine ad [[2,81,83]] ?_;refine bR (Wx:=[]) [92,94] Z Z (zE Z Z ze.h Z Z mQ (kG (i:=q+1) (j:=q) oQ oQ)) ?_;refine ad [[14]] ?_;refine au 3524014140 ?_;refine bA [0,1,2,7,8,9] ?_;refine bC [(j,_)] ?_;exact hnext2 _ _ _ oQ ⟨q,swp d3 (q+1) q,rfl,oQ,kK hs3,(sd_go hc6).symm.trans heq3,by rw [show ((q+1:Nat):Int) - 1=(q:Int) by omega]; rfl,rfl⟩
     obtain rfl:v=0:=by simp at hc5; omega
     have hx3:d3.size=n/\d3=if u - a>=2 then shiftDown ltInt (u - 1) d2 else d2:=⟨hs3,by rw [if_pos h2,<- heq3]; rfl⟩
     refine au 2160 ?_;refine bA [0,1,2,7,8] ?_;refine bC [(j,_)] ?_;exact H _ (hd2 ▸ hx3)
    have hx3:d2.size=n/\d2=if u - a>=2 then shiftDown ltInt (u - 1) d2 else d2:=⟨hs2,(if_neg (by simp at hc4; omega)).symm⟩
    refine au 2120 ?_;refine bA [0,1,2,7,8] ?_;refine bC [(j,_)] ?_;exact H _ (hd2 ▸ hx3)
   ·rintro d3 ⟨hs3,hd3e⟩;refine bG nQ ?_;refine' TK.shr (X:=Array Int) (D:=fun x=>x.size=n/\x=if b - u>=2 then shiftUp ltInt b (u+1) d3 else d3) (E:=fun x=>.sl j 0 n::za a::za b::naL 4 (za u::za (5 - ((s+1:Nat):Int))::naL 124 [])) (KK:=fun x=>[(j,.row (x.toList.map za) 3 1)]) ?_ ?_;rotate_left
    ·intro H;refine au 937240114 ?_;constructor<;>intro hc7
     ·have h3:b - u>=2:=by simp at hc7; omega
      refine au 13035230142 ?_;refine bA [0,1,2,7,8,10] ?_;refine bE (fun n1 Wq K=>∃ (v:Nat) (d4:Array Int),n1=b - v/\u+1<=v/\v<=b/\d4.size=n/\shiftUp ltInt b v d4=shiftUp ltInt b (u+1) d3/\Wq=.sl j 0 n::za a::za b::naL 4 (za u::za (5 - ((s+1:Nat):Int))::.any::za v::naL 122 [])/\K=[(j,.row (d4.toList.map za) 3 1)]) (b - (u+1)) ⟨u+1,d3,rfl,mL _,oQ,hs3,rfl,rfl,rfl⟩ fun n1 Wq K hI hnext3=>?_;obtain ⟨v,d4,rfl,huv,hvb,hs4,heq4,rfl,rfl⟩:=hI;refine bG nQ ?_;refine au 93711422 ?_;constructor<;>intro hc8
      ·have hvl:v<b:=by simp at hc8; omega
       refine au 221302120 ?_;refine bL [0,1,2,3,4,5,6,7,8,9,10] ?_;refine ad [[1,0],[1,10],[2,106,107]] ?_;refine bT [108] Z (hq:=zj Z Z ze.h (mC _) (zT (i:=v) oQ oQ)) (h:=?_);refine ad [[1,0],[1,10],[9,111],[2,110,112]] ?_;refine bT [113] Z (hq:=zj Z Z ze.h (mC _) (zT (i:=v - 1) oQ oQ)) (h:=?_);refine TD.clE (Wx:=[_,_,_,_,_,_,_]) [109,114] Z Z Z Z Z (kf hT) ?_;refine TD.z [115] Z (q_not Z Z) ?_;refine ad [[14]] ?_;refine au 9 ?_;constructor<;>intro hc9
       ·have hx4:d4.size=n/\d4=if b - u>=2 then shiftUp ltInt b (u+1) d3 else d3:=⟨hs4,by rw [if_pos h3,<- heq4]; exact (znq hvl hc9).symm⟩
        refine au 140160 ?_;refine bA [0,1,2,7,8] ?_;refine bC [(j,_)] ?_;exact H _ hx4
       refine au 120 ?_;refine bL [0,1,5,6,7,8,9,10,11,12,13,14,15,2,3,4,16,17] ?_;refine ad [[1,0],[1,10],[1,0],[1,10],[9,120],[1,0],[1,10],[9,123],[2,122,124]] ?_;refine bT [125] Z (hq:=zj Z Z ze.h (mC _) (zT (i:=v - 1) oQ oQ)) (h:=?_);refine ad [[1,0],[1,10],[2,127,128]] ?_;refine bT [129] Z (hq:=zj Z Z ze.h (mC _) (zT (i:=v) oQ oQ)) (h:=?_);refine ad [[2,117,118]] ?_;refine bR (Wx:=[_,_,_,_,_,_]) [126,131] Z Z (zE Z Z ze.h Z Z mQ (kF (k:=v) oQ oQ)) ?_;refine ad [[2,119,121]] ?_;refine bR (Wx:=[]) [130,132] Z Z (zE Z Z ze.h Z Z mQ (kG (i:=v) (j:=v - 1) oQ oQ)) ?_;refine ad [[14]] ?_;refine au 3523014140 ?_;refine bA [0,1,2,7,8,10] ?_;refine bC [(j,_)] ?_;exact hnext3 _ _ _ oQ ⟨v+1,swp d4 v (v - 1),rfl,oQ,oQ,kK hs4,(su_go hvl hc9).symm.trans heq4,rfl,rfl⟩
      have hx4:d4.size=n/\d4=if b - u>=2 then shiftUp ltInt b (u+1) d3 else d3:=⟨hs4,by rw [if_pos h3,<- heq4]; exact (zo3 (by simp at hc8; omega)).symm⟩
      refine au 140160 ?_;refine bA [0,1,2,7,8] ?_;refine bC [(j,_)] ?_;exact H _ hx4
     have hx4:d3.size=n/\d3=if b - u>=2 then shiftUp ltInt b (u+1) d3 else d3:=⟨hs3,(if_neg (by simp at hc7; omega)).symm⟩
     refine au 140120 ?_;refine bA [0,1,2,7,8] ?_;refine bC [(j,_)] ?_;exact H _ hx4
    ·rintro d4 ⟨hd4,hd4e⟩;refine bG nQ ?_;refine au 3523014 ?_;refine bA [0,1,2,7,8] ?_;refine bC [(j,_)] ?_;exact Wj _ _ _ oQ ⟨s,u,d4,rfl,oQ,oQ,oQ,hd4,(pi_go hsc hub2 h50 hd3e hd4e).symm.trans heq,by rw [show (5:Int) - ((s+1:Nat):Int)+1=5 - (s:Int) by omega] <;> rfl,rfl⟩
 obtain rfl:s1=0:=by simp at Jz; omega
 have hq1:partialInsertionSort ltInt d a b=(d1,ff):=heq.symm;refine au 3542160 ?_;refine bB Wz [(j,_)] ?_;exact ⟨_,hq1,rfl,rfl⟩
instance:TyZA tp 267 [.v (.int .u64 0)]:={}
instance:Und tp 267 (.int .u64):={}
theorem zix {main T} (hT:zt tp main T) {gm} {j n a b:Nat} {d:Array Int} (hd:d.size=n) (hn:n<65536) (h8:a+8<=b) (hb:b<=n) :
  zr tp T gm 131 [.sl j 0 n,za a,za b] [(j,.row (d.toList.map za) 3 1)] (fun r K'=>∃ d',PermIn a b d d'/\K'=[(j,.row (d'.toList.map za) 3 1)]):=by
 refine zn 65 hT Tryz.func131 fun Y Wz=>?_;refine au 2352401142 ?_;rw [show (b:Int) - (a:Int)=((b - a:Nat):Int) by omega];refine au 93714 ?_;constructor<;>intro Jz
 ·refine au 142 ?_;refine bH Z (yu Z Z Und.h Und.h (zbk (n:=b - a) oQ)) ?_;refine au 220 ?_;intro jx hjx;refine au 1423170 ?_;refine bD Z Z Z Z (zk2 hT (n:=b - a) oQ oQ) ?_;rintro r1 K2 ⟨M,hM1,hM2,rfl,rfl⟩;refine au 114235 ?_;refine bH Z (q_quo Z Z Z oQ oQ oQ) ?_;refine bH Z (q_mul Z Z Z oQ) ?_;refine au 13035240230 ?_;refine bA [0,1,6,7,8,9] ?_;obtain ⟨s0,hs0⟩:∃ s0:Nat,s0=a+(b - a) / 4*2 - 1:=⟨_,rfl⟩;refine bC [(j,_),(jx,_)] ?_;refine bE (fun n1 Wq K=>∃ (t:Nat) (x:Int) (d1:Array Int),n1=3 - t/\t<=3/\PermIn a b d d1/\d1.size=n/\Wq=.sl j 0 n::za a::naL 4 (za ((b - a:Nat):Int)::.ptr jx 0::.v (.int .u64 (M:Int))::za (s0+t:Nat)::naL 55 [])/\K=[(j,.row (d1.toList.map za) 3 1),(jx,.cells [.v (.int .u64 x)] 267 tt)]) 3 ⟨0,_,d,rfl,oQ,permIn_refl d a b,hd,by rw [show (a:Int)+((b - a:Nat):Int) / 4*2 - 1=((s0+0:Nat):Int) by omega] <;> rfl,rfl⟩ fun n1 Wq K hI Wj=>?_;obtain ⟨t,x,d1,rfl,ht,hperm,hs1,rfl,rfl⟩:=hI;refine bG nQ ?_;refine au 111422 ?_;refine bH Z (q_quo Z Z Z oQ oQ oQ) ?_;refine bH Z (q_mul Z Z Z oQ) ?_;refine au 937230230 ?_;constructor<;>intro Jx
  ·have ht3:t<3:=by simp at Jx; omega
   refine au 421302120 ?_;refine bD Z Z Z Z (zk1 hT) ?_;rintro r4 K5 ⟨y,hy0,hy1,rfl,rfl⟩;refine au 1 ?_;refine bH Z (znb Z Z Z oQ) ?_;rw [show (M:Int) - 1=((M - 1:Nat):Int) by omega];refine bH Z (zm8 Z Z Z) ?_;refine' TK.shr (X:=Nat) (D:=fun x=>x<b - a) (E:=fun x=>.sl j 0 n::za a::naL 4 (za ((b - a:Nat):Int)::.ptr jx 0::.v (.int .u64 (M:Int))::za (s0+t:Nat)::za x::naL 54 [])) (KK:=fun x=>[(j,.row (d1.toList.map za) 3 1),(jx,.cells [.v (.int .u64 y)] 267 tt)]) ?_ ?_;rotate_left
   ·intro H;have hw:=zlY y (b:=M - 1) oQ;obtain ⟨w,hwe⟩:∃ w:Nat,andW y ((M - 1:Nat):Int)=(w:Int):=⟨(andW y ((M - 1:Nat):Int)).toNat,oQ⟩;rw [hwe] at hw ⊢;refine bH Z (yu Z Z Und.h Und.h (kg oQ)) ?_;refine au 9371142235 ?_;constructor<;>intro hc2
    ·have hwl:b - a<=w:=by simp at hc2; omega
     refine au 240114 ?_;rw [show (w:Int) - ((b - a:Nat):Int)=((w - (b - a):Nat):Int) by omega];refine au 35 ?_;refine bA [0,1,6,7,8,9,10] ?_;refine bC [(j,_),(jx,_)] ?_;exact H _ oQ
    have hwl:w<b - a:=by simp at hc2; omega
    refine au 120 ?_;refine bA [0,1,6,7,8,9,10] ?_;refine bC [(j,_),(jx,_)] ?_;exact H _ oQ
   ·rintro o ho;refine bG nQ ?_;refine bL [0,1,6,7,8,9,10,11,12,13,14,15,16,17,2,3,4,5,18,19] ?_;refine ad [[1,0],[1,9],[1,0],[1,1],[1,10],[8,50,51],[1,0],[1,1],[1,10],[8,54,55],[2,53,56]] ?_;refine bT [57] Z (hq:=zj Z Z ze.h (mC _) (zT (i:=a+o) oQ oQ)) (h:=?_);refine ad [[1,0],[1,9],[2,59,60]] ?_;refine bT [61] Z (hq:=zj Z Z ze.h (mC _) (zT (i:=s0+t) oQ oQ)) (h:=?_);refine ad [[2,47,48]] ?_;refine bR (Wx:=[_,_,_,_,_,_,_]) [58,63] Z Z (zE Z Z ze.h Z Z mQ (kF (k:=s0+t) oQ oQ)) ?_;refine ad [[2,49,52]] ?_;refine bR (Wx:=[]) [62,64] Z Z (zE Z Z ze.h Z Z mQ (kG (i:=s0+t) (j:=a+o) oQ oQ)) ?_;refine ad [[14]] ?_;refine au 3523014140 ?_;refine bA [0,1,6,7,8,9] ?_;refine bC [(j,_),(jx,_)] ?_;exact Wj _ _ _ oQ ⟨t+1,y,swp d1 (s0+t) (a+o),rfl,oQ,permIn_trans _ _ _ a b hperm (swp_permIn d1 a b _ _ oQ oQ oQ oQ oQ),kK hs1,rfl,rfl⟩
  refine au 160 ?_;refine TK.rt0 Wz [(j,_)] ?_;exact ⟨d1,hperm,rfl⟩
 simp at Jz; omega
theorem zm1 {main T} (hT:zt tp main T) {gm} {j n:Nat} (hn:n<65536):∀ (m a b:Nat) (lim:Int) (d:Array Int),b - a=m->d.size=n->a<=b->b<=n->0<=lim/\lim<=1000->Below ltInt a b d ->
  zr tp T gm 108 [.sl j 0 n,za a,za b,za lim] [(j,.row (d.toList.map za) 3 1)] (fun r K'=>∃ d',PermIn a b d d'/\SortedIn ltInt a b d'/\K'=[(j,.row (d'.toList.map za) 3 1)]):=by
 intro m
 induction m using Nat.strongRecOn with | ind m ih=>?_
 intro a b lim d hm hd hab hb hlim hB;refine zn 134 hT Tryz.func108 fun Y Wz=>?_;refine au 13035423542 ?_;refine bA [0,1,2,3,8,9] ?_;refine bE (fun n1 Wq K=>∃ (u v:Nat) (l:Int) (w1 w2:Bool) (d1:Array Int),n1=v - u/\v - u<=m/\u<=v/\v<=n/\(0<=l/\l<=1000)/\d1.size=n/\Below ltInt u v d1/\(∀ R,PermIn u v d1 R->SortedIn ltInt u v R->PermIn a b d R/\SortedIn ltInt a b R)/\Wq=.sl j 0 n::za u::za v::za l::naL 4 (zC w1::zC w2::naL 124 [])/\K=[(j,.row (d1.toList.map za) 3 1)]) (b - a) ⟨a,b,lim,tt,tt,d,rfl,oQ,hab,hb,hlim,hd,hB,fun R h1 h2=>⟨h1,h2⟩,rfl,rfl⟩ fun n1 Wq K hI Wj=>?_;obtain ⟨u,v,l,w1,w2,d1,rfl,hm1,huv,hvn,hl,hs1,hB1,Qj,rfl,rfl⟩:=hI;refine bG nQ ?_;refine au 22352401142130 ?_;rw [show (v:Int) - (u:Int)=((v - u:Nat):Int) by omega];refine au 93714 ?_;constructor<;>intro Jz
 ·have hq:=insertionSort_holds swo_ltInt d1 u v huv oQ;have hz:=Qj _ hq.1 hq.2;refine au 11142 ?_;refine bD Z Z Z Z (zmu hT (d:=d1) hs1 oQ huv hvn) ?_;rintro r1 K2 rfl;refine au 3 ?_;refine bB Wz [(j,_)] ?_;exact ⟨_,hz.1,hz.2,rfl⟩
 have h12:12<v - u:=by simp at Jz; omega
 refine au 9371422120 ?_;constructor<;>intro Jx
 ·have hq:=heapSort_holds swo_ltInt d1 u v huv oQ;have hz:=Qj _ hq.1 hq.2;refine au 11142 ?_;refine bD Z Z Z Z (zkJ hT (d:=d1) hs1 oQ oQ hvn) ?_;rintro r4 K5 rfl;refine au 3 ?_;refine bB Wz [(j,_)] ?_;exact ⟨_,hz.1,hz.2,rfl⟩
 refine' TK.shr (X:=Int×Array Int) (D:=fun x=>(0<=x.1/\x.1<=1000)/\PermIn u v d1 x.2) (E:=fun x=>.sl j 0 n::za u::za v::za x.1::naL 4 (zC w1::zC w2::za ((v - u:Nat):Int)::naL 123 [])) (KK:=fun x=>[(j,.row (x.2.toList.map za) 3 1)]) ?_ ?_;rotate_left
 ·intro H;have hl0:l≠0:=fun h=>by rw [h] at Jx; simp at Jx
  refine au 933001422120 ?_;constructor<;>intro hc2
  ·refine au 11142 ?_;refine bD Z Z Z Z (zix hT (d:=d1) hs1 hn oQ hvn) ?_;rintro r7 K8 ⟨d2,hp2,rfl⟩;refine au 235240143 ?_;refine bA [0,1,2,3,8,9,10] ?_;refine bC [(j,_)] ?_;exact H (l - 1,d2) ⟨by omega,hp2⟩
  have hp2:=permIn_refl d1 u v;refine au 2120 ?_;refine bA [0,1,2,3,8,9,10] ?_;refine bC [(j,_)] ?_;exact H (l,d1) ⟨by omega,hp2⟩
 ·rintro ⟨l2,d2⟩ ⟨hl2,hp2⟩; dsimp only at hl2 hp2 ⊢; have hs2:d2.size=n:=hp2.1.trans hs1; have hB2:=hB1.perm oQ hp2; have hfin2:∀ R,PermIn u v d2 R->SortedIn ltInt u v R->PermIn a b d R/\SortedIn ltInt a b R:=fun R h1 h2=>Qj R (permIn_trans _ _ _ u v hp2 h1) h2;refine bG nQ ?_;refine' TK.shr (X:=Nat×Int×Array Int) (D:=fun x=>(u<=x.1/\x.1<v)/\PermIn u v d2 x.2.2) (E:=fun x=>.sl j 0 n::za u::za v::za l2::naL 4 (zC w1::zC w2::za ((v - u:Nat):Int)::za x.1::za x.2.1::naL 121 [])) (KK:=fun x=>[(j,.row (x.2.2.toList.map za) 3 1)]) ?_ ?_;rotate_left
  ·intro H;refine au 1114 ?_;refine bD Z Z Z Z (zm3 hT (d:=d2) hs2 oQ oQ hvn) ?_;rintro r214 K215 ⟨p,hh,hp1,hpv,rfl,rfl⟩;refine au 9371422355661 ?_;constructor<;>intro hc3
   ·have hp3:=reverseRange_holds d2 u v huv oQ;refine au 11142 ?_;refine bD Z Z Z Z (znf hT (d:=d2) hs2 oQ oQ hvn) ?_;rintro r217 K218 rfl;refine au 5240240112401423 ?_;rw [show (v:Int) - 1 - ((p:Int) - (u:Int))=((v - 1 - (p - u):Nat):Int) by omega];refine au 223543 ?_;refine bA [0,1,2,3,8,9,10,11,12] ?_;refine bC [(j,_)] ?_;exact H (v - 1 - (p - u),1,_) ⟨by omega,hp3⟩
   have hp3:=permIn_refl d2 u v;refine au 22120 ?_;refine bA [0,1,2,3,8,9,10,11,12] ?_;refine bC [(j,_)] ?_;exact H (p,hh,d2) ⟨by omega,hp3⟩
  ·rintro ⟨p,hh,d3⟩ ⟨⟨hpu,hpv⟩,hp3⟩; dsimp only at hpu hpv hp3 ⊢; have hs3:d3.size=n:=hp3.1.trans hs2; have hB3:=hB2.perm oQ hp3; have hfin3:∀ R,PermIn u v d3 R->SortedIn ltInt u v R->PermIn a b d R/\SortedIn ltInt a b R:=fun R h1 h2=>hfin2 R (permIn_trans _ _ _ u v hp3 h1) h2;refine bG nQ ?_;refine' TK.shr (X:=Array Int) (D:=fun x=>PermIn u v d3 x) (E:=fun x=>.sl j 0 n::za u::za v::za l2::naL 4 (zC w1::zC w2::za ((v - u:Nat):Int)::za p::naL 122 [])) (KK:=fun x=>[(j,.row (x.toList.map za) 3 1)]) ?_ ?_;rotate_left
   ·intro H;refine au 114 ?_;refine TK.sp 62 (fun g15_2=>?_) (fun g15_2=>?_)
    ·refine au 12601 ?_;refine TK.sp 65 (fun g15_5=>?_) (fun g15_5=>?_)
     ·refine au 9326071 ?_;constructor<;>intro hc4
      ·refine au 11142 ?_;refine bD Z Z Z Z (zm0 hT (d:=d3) hs3 oQ oQ hvn) ?_;rintro r319 K320 ⟨q,hqe,rfl,rfl⟩;refine au 93 ?_;constructor<;>intro hc5
       ·have hpi:=partialInsertionSort_holds swo_ltInt d3 u v oQ oQ hB3;rw [hqe] at hpi;have hz:=hfin3 _ hpi.1 (hpi.2 hc5);refine au 0 ?_;refine bB Wz [(j,_)] ?_;exact ⟨_,hz.1,hz.2,rfl⟩
       have hp4:=(partialInsertionSort_holds swo_ltInt d3 u v oQ oQ hB3).1;rw [hqe] at hp4;refine au 22120 ?_;refine bA [0,1,2,3,8,9,10,11] ?_;refine bC [(j,_)] ?_;exact H _ hp4
      have hp4:=permIn_refl d3 u v;refine au 22120 ?_;refine bA [0,1,2,3,8,9,10,11] ?_;refine bC [(j,_)] ?_;exact H _ hp4
     have hp4:=permIn_refl d3 u v;refine au 22120190325088 ?_;refine bA [0,1,2,3,8,9,10,11] ?_;refine bC [(j,_)] ?_;exact H _ hp4
    have hp4:=permIn_refl d3 u v;refine au 2212019032508812508 ?_;refine bA [0,1,2,3,8,9,10,11] ?_;refine bC [(j,_)] ?_;exact H _ hp4
   ·rintro d4 hp4; have hs4:d4.size=n:=hp4.1.trans hs3; have hB4:=hB3.perm oQ hp4; have hfin4:∀ R,PermIn u v d4 R->SortedIn ltInt u v R->PermIn a b d R/\SortedIn ltInt a b R:=fun R h1 h2=>hfin3 R (permIn_trans _ _ _ u v hp4 h1) h2;refine bG nQ ?_;refine' TK.shr (X:=Unit) (D:=fun x=>True) (E:=fun x=>.sl j 0 n::za u::za v::za l2::naL 4 (zC w1::zC w2::za ((v - u:Nat):Int)::za p::naL 122 [])) (KK:=fun x=>[(j,.row (d4.toList.map za) 3 1)]) ?_ ?_;rotate_left
    ·intro H;refine bL [0,1,2,3,4,5,6,7,8,9,10,11,12,13,14] ?_;refine ad [[1,1],[4,73],[1,74]] ?_;refine TD.sp 75 (fun g17_3=>?_) (fun g17_3=>?_)
     ·have hu0:0<u:=by simp at g17_3; omega
      refine ad [[1,0,75],[1,1,75],[9,75,77],[2,75,76,78]] ?_;refine bT [75,79] Z (hq:=zj Z Z ze.h (mC _) (zT (i:=u - 1) oQ oQ)) (h:=?_);refine ad [[1,0,75],[1,11,75],[2,75,81,82]] ?_;refine bT [75,83] Z (hq:=zj Z Z ze.h (mC _) (zT (i:=p) oQ oQ)) (h:=?_);refine TD.clE (Wx:=[_,_,_,_,_,_,_,_,_]) [75,80,84] Z Z Z Z Z (kf hT) ?_;refine TD.z [75,85] Z (q_not Z Z) ?_;refine ad [[7,75,86],[14]] ?_;refine au 9 ?_;constructor<;>intro hc6
      ·have hnl:ltInt d4[u - 1]! d4[p]! =ff:=by cases hh:ltInt d4[u - 1]! d4[p]! with
        | false=>rfl
        | true=>exact absurd (show (!ltInt d4[u - 1]! d4[p]!)=tt from hc6) (by rw [hh]; decide)
       refine au 111142 ?_;refine bD Z Z Z Z (zia hT (d:=d4) hs4 oQ hpu hpv hvn) ?_;rintro r397 K398 ⟨q,hqe,rfl,rfl⟩;refine au 0 ?_;obtain ⟨hr1,hr2,hr3,hr4,hr5⟩:=round_eq swo_ltInt (partitionEqual_holds ltInt) hu0 hpu hpv oQ hB4 hnl (show partitionEqual ltInt d4 u v p=(q.1,q.2) from hqe);refine au 1603514235 ?_;refine bA [0,1,2,3,8,9] ?_;refine bC [(j,_)] ?_;exact Wj _ _ _ oQ ⟨q.1,v,l2,w1,w2,q.2,rfl,oQ,oQ,hvn,hl2,hr3.trans hs4,hr4,fun R h1 h2=>(hr5 R h1 h2).elim fun h3 h4=>hfin4 R h3 h4,rfl,rfl⟩
      refine au 2120 ?_;refine bA [0,1,2,3,8,9,10,11] ?_;refine bC [(j,_)] ?_;exact H () trivial
     refine ad [[11,0,75],[11,1,75],[11,75,77],[11,75,76,78],[11,75,79],[11,0,75],[11,11,75],[11,75,81,82],[11,75,83],[11,75,80,84],[11,75,85],[6,75,86],[14]] ?_;refine au 2120190 ?_;refine bA [0,1,2,3,8,9,10,11] ?_;refine bC [(j,_)] ?_;exact H () trivial
    ·rintro _ _;refine bG nQ ?_;refine au 11114 ?_;refine bD Z Z Z Z (zlj hT (d:=d4) hs4 oQ hpu hpv hvn) ?_;rintro r409 K410 ⟨q,hqe,rfl,rfl⟩;refine au 0 ?_;obtain ⟨hr1,hr2,hr3,hr4,hr5,hr6,hr7⟩:=round_part swo_ltInt (partition_holds ltInt) hpu hpv oQ hB4 (show partition ltInt d4 u v p=(q.1,q.2.1,q.2.2) from hqe);refine au 235524011240114235142355661 ?_;rw [show (q.1:Int) - (u:Int)=((q.1 - u:Nat):Int) by omega,show (v:Int) - (q.1:Int)=((v - q.1:Nat):Int) by omega];refine au 14 ?_;refine bH Z (q_quo Z Z Z oQ oQ oQ) ?_;refine au 937114235 ?_;constructor<;>intro hc7
     ·refine au 1111423571142 ?_;refine bD Z Z Z Z (ih (q.1 - u) oQ u q.1 l2 q.2.2 Z (by rw [hr3]; exact hs4) hr1 oQ hl2 hr4) ?_;rintro r412 K413 ⟨L,hL1,hL2,rfl⟩;refine au 0 ?_;have hbl:=hr6 L hL1 hL2;refine au 14035230143 ?_;refine bA [0,1,2,3,8,9] ?_;refine bC [(j,_)] ?_;exact Wj _ _ _ oQ ⟨q.1+1,v,l2,_,q.2.1,L,rfl,oQ,oQ,hvn,hl2,hL1.1.trans (hr3.trans hs4),hbl.1,fun R h1 h2=>(hbl.2 R h1 h2).elim fun h3 h4=>hfin4 R h3 h4,rfl,rfl⟩
     refine au 1123011423571142 ?_;refine bD Z Z Z Z (ih (v - (q.1+1)) oQ (q.1+1) v l2 q.2.2 Z (by rw [hr3]; exact hs4) oQ hvn hl2 hr5) ?_;rintro r415 K416 ⟨L,hL1,hL2,rfl⟩;refine au 0 ?_;have hbl:=hr7 L hL1 hL2;refine au 14035143 ?_;refine bA [0,1,2,3,8,9] ?_;refine bC [(j,_)] ?_;exact Wj _ _ _ oQ ⟨u,q.1,l2,_,q.2.1,L,rfl,oQ,oQ,oQ,hl2,hL1.1.trans (hr3.trans hs4),hbl.1,fun R h1 h2=>(hbl.2 R h1 h2).elim fun h3 h4=>hfin4 R h3 h4,rfl,rfl⟩
theorem zjO {n:Nat} {xs:List Int} {d:Array Int} (hp:PermIn 0 n xs.toArray d) (hs:SortedIn ltInt 0 n d) (hn:xs.length=n):d.toList=xs.mergeSort fun x y=>decide (x<=y):=by
 subst hn;have:=sorted_unique_holds (lt:=ltInt) swo_ltInt (fun x y h1 h2=>by have h3:=of_decide_eq_false h1; have h4:=of_decide_eq_false h2; omega) xs.toArray d (by simpa using hp) (by simpa using hs);rw [this];congr 1;funext x y;unfold ltInt;by_cases h:x<=y
 ·rw [decide_eq_true h,decide_eq_false oQ]; rfl
 ·rw [decide_eq_false h,decide_eq_true oQ]; rfl
theorem zfK {main T} (hT:zt tp main T) {gm} {j n:Nat} {xs:List Int} (hn:xs.length=n) (h256:n<65536) :
  zr tp T gm 74 [.row j n] [(j,.row (xs.map za) 3 1)] (fun r K'=>K'=[(j,.row ((xs.mergeSort fun x y=>decide (x<=y)).map za) 3 1)]):=by
 refine zn 11 hT Tryz.func74 fun Y Wz=>?_;refine au 2 ?_;refine TK.asSl 0 Z (mC _) ?_;refine au 11143528014 ?_;refine bH Z (yu Z Z Und.h Und.h (zbk (n:=n) oQ)) ?_;refine bD Z Z Z Z (zbD hT (n:=n) oQ) ?_ (hs:=(.none _));rintro r1 K2 ⟨m,rfl,hm8,hm2,rfl⟩;refine au 0 ?_;refine bD Z Z Z Z (zm1 hT (j:=j) (n:=n) h256 n 0 n (m:Int) xs.toArray (Nat.sub_zero n) (by simpa using hn) (mN _) (mL _) oQ (.inl Z)) ?_;rintro r4 K5 ⟨d2,hp,hs,rfl⟩;refine au 3 ?_;refine TK.rt0 Wz [(j,_)] ?_;rw [zjO hp hs hn]
end Go.Vel
namespace Go.Vel
open Go Go.Conc
theorem zaR {xs:List Int} (hs:∀ i j,i<j->j<xs.length->zK xs i<=zK xs j):∀ p,p<=xs.length->(compN xs p).Pairwise (· < ·)/\(∀ z,z∈compN xs p↔z∈xs.take p)/\(∀ z∈compN xs p,0<p/\z<=zK xs (p - 1))
 | 0,_=>⟨.nil,fun z=>by simp [compN],fun z hz=>by cases hz⟩
 | 1,h=>by
  have e:xs.take 1=[zK xs 0]:=by rw [yL (ya (l:=xs) (k:=0) oQ)]; rfl
  refine ⟨?_,fun z=>Iff.rfl,fun z hz=>?_⟩
  ·show (xs.take 1).Pairwise _;rw [e]; exact List.pairwise_singleton _ _
  ·have hz:z∈xs.take 1:=hz;rw [e] at hz;exact ⟨by omega,by rw [lS.1 hz]; exact Int.le_refl _⟩
 | p+2,h=>by
  obtain ⟨h1,h2,h3⟩:=zaR hs (p+1) oQ;have hle:=hs p (p+1) oQ oQ;have ht:xs.take (p+2)=xs.take (p+1)++[zK xs (p+1)]:=yL (ya oQ);by_cases e:zK xs p=zK xs (p+1)
  ·rw [vU e];have hm:zK xs p∈xs.take (p+1):=by rw [yL (ya (l:=xs) (k:=p) oQ)]; simp
   refine ⟨h1,fun z=>?_,fun z hz=>⟨by omega,?_⟩⟩
   ·rw [ht,h2 z,lT,lS];exact ⟨.inl,fun hh=>hh.elim id fun hh=>by rw [hh,<- e]; exact hm⟩
   ·have:=(h3 z hz).2;rw [Nat.add_sub_cancel] at this;show z<=zK xs (p+1);omega
  ·rw [vV e];refine ⟨List.pairwise_append.2 ⟨h1,List.pairwise_singleton _ _,fun x hx y hy=>?_⟩,fun z=>?_,fun z hz=>⟨by omega,?_⟩⟩
   ·rw [lS.1 hy];have:=(h3 x hx).2;rw [Nat.add_sub_cancel] at this;omega
   ·rw [ht,lT,lT,h2 z]
   ·show z<=zK xs (p+1);rcases lT.1 hz with hz | hz
    ·have:=(h3 z hz).2;rw [Nat.add_sub_cancel] at this;omega
    ·rw [lS.1 hz]; exact Int.le_refl _
def msI (xs:List Int):List Int:=xs.mergeSort fun x y=>decide (x<=y)
theorem zc8 (xs:List Int):(msI xs).length=xs.length:=(List.mergeSort_perm ..).length_eq
theorem zmF {xs:List Int} {z:Int}:z∈msI xs↔z∈xs:=(List.mergeSort_perm ..).mem_iff
theorem zgW (xs:List Int):∀ i j,i<j->j<(msI xs).length->zK (msI xs) i<=zK (msI xs) j:=fun i j hij hj=>by
 have hp:(msI xs).Pairwise fun x y=>decide (x<=y)=tt:=List.pairwise_mergeSort (le:=fun x y:Int=>decide (x<=y)) (fun a b c h1 h2=>decide_eq_true (Int.le_trans (of_decide_eq_true h1) (of_decide_eq_true h2))) (fun a b=>by rcases Int.le_total a b with h | h <;> simp [h]) xs;have h1:=ya (l:=msI xs) (k:=i) oQ;have h2:=ya hj;have:=List.pairwise_iff_getElem.1 hp i j oQ hj hij;rw [lA oQ] at h1;rw [lA hj] at h2;rw [Option.some.inj h1,Option.some.inj h2] at this;exact of_decide_eq_true this
def setI (xs:List Int):List Int:=compM (msI xs)
theorem zlB (xs:List Int):(setI xs).Pairwise (· < ·):=(zaR (zgW xs) _ (mL _)).1
theorem zfD {xs:List Int} {z:Int}:z∈setI xs↔z∈xs:=by
 have:=(zaR (zgW xs) _ (mL _)).2.1 z;rw [lW] at this;exact this.trans zmF
theorem zfC (xs:List Int):(setI xs).length<=xs.length:=by
 have h:(setI xs).length<=(msI xs).length:=zaO (msI xs) _ (mL _);rwa [zc8] at h
def shrI (b:RBk) (n:Int):List Int:=setI ((zh b).map fun s=>zK s n.toNat)
theorem zfI {b:RBk} {n z:Int}:z∈shrI b n↔∃ s∈zh b,zK s n.toNat=z:=by
 unfold shrI;rw [zfD,lY]
end Go.Vel
namespace Go.Vel
open Go Go.Conc Go.Proofs
theorem zbN {main:Bool} {T:gG->Hp->Prop} (hT:zt tp main T)  {b:RBk} {s h e:Nat} (hl:b.sE.length<=100) (hm:b.mE.length<=100) {n:Int}  :
  zr tp T gmR 28 [.agg (zH b s h e),za n] [(0,zB),(s,zp b),(h,zF b),(e,zz b)] (fun r K'=>(bar2 (zy b) (ym b n)≠0/\r=.tup [.v (.slice none 0 0),za (bar2 (zy b) (ym b n))]/\K'=[(0,zB),(s,zp b),(h,zF b),(e,zz b)])\/(bar2 (zy b) (ym b n)=0/\zh b=[]/\r=.tup [.v (.slice none 0 0),za 9]/\K'=[(0,zB),(s,zp b),(h,zF b),(e,zz b)])\/(bar2 (zy b) (ym b n)=0/\zh b≠[]/\∃ jr zs,r=.tup [.sl jr 0 (shrI b n).length,za 0]/\K'=(jr,.cells ((shrI b n++zs).map za) 3 ff)::[(0,zB),(s,zp b),(h,zF b),(e,zz b)])):=by
 refine zn 40 hT Tryz.func28 fun Y Wz=>?_;refine au 21042 ?_;intro jb hjb;refine au 320168042355 ?_;refine TK.newR Z Z Z (zu (l:=[_]) Z zq.h TyZ.h dQ dQ Z) (fun _=>zx rfl tQ) fun ja hja=>?_;refine bD Z Z Z Z (uq hT (Kx:=[]) (p1:=ym b n) (fun h0=>yK Cal.h ((ui hT (b:=b) (s:=s) (h:=h) (e:=e) (n:=n) (zX h0).sms.len.2).frameP (R:=[(s,zp b)]) (List.Perm.refl _))) hl hm) ?_;rintro r1 K2 h3;rcases h3 with ⟨Wv,rfl,rfl⟩ | ⟨Wv,hnil,rfl,rfl⟩ | ⟨Wv,hne,a,rfl,rfl⟩
 ·refine au 220661 ?_;intro j6 hj6;refine au 937142235170 ?_;constructor<;>intro Jz
  ·
   refine au 355142 ?_;refine bB Wz [(0,_),(s,_),(h,_),(e,_)] ?_;exact .inl ⟨Wv,rfl,rfl⟩
  exact absurd Wv (by simpa using Jz)
 ·refine au 220661 ?_;intro j6 hj6;refine au 937142235170 ?_;constructor<;>intro Jz
  ·
   refine au 355142 ?_;refine bB Wz [(0,_),(s,_),(h,_),(e,_)] ?_;exact .inr (.inl ⟨Wv,hnil,rfl,rfl⟩)
  exact absurd Jz dQ
 ·refine au 220661 ?_;intro j6 hj6;refine au 937142235170 ?_;constructor<;>intro Jz
  ·exact absurd Jz sQ
  have hbb:=zX (kS Wv);have hth:=uX (kD Wv);have hs5:=hbb.sms.len;have Qx:0<(zh b).length:=List.length_pos_iff.2 hne;have Wb:=y7 hbb;refine au 542120 ?_;refine TK.virt 8 3 1 Z fun jt0 hjt0=>?_;refine au 130312806906704223 ?_;refine bA [1,4,5,6,8,23,24,25] ?_;refine bC [(a,_),(0,_),(s,_),(h,_),(e,_),(j6,_),(jt0,_)] ?_;refine bE (fun n1 Wq K=>∃ (i jt:Nat),n1=(zh b).length - i/\i<=(zh b).length/\Wq=.any::za n::naL 2 (.v (.slice none 0 0)::za 0::.ptr j6 0::.any::.row jt i::naL 14 (.sl a 0 (zh b).length::za (zh b).length::za i::naL 14 []))/\K=[(a,allO (zh b)),(0,zB),(s,zp b),(h,zF b),(e,zz b),(j6,.cells (knownC b s h e a (zh b).length) 154 tt),(jt,.row ((((zh b).take i).map fun s=>zK s n.toNat).map za) 3 1)]) (zh b).length ⟨0,jt0,rfl,mN _,rfl,rfl⟩ fun n1 Wq K hI Wj=>?_;obtain ⟨i,jt,rfl,hi,rfl,rfl⟩:=hI;refine bG nQ ?_;refine au 923742 ?_;constructor<;>intro Jx
  ·have Qb:i<(zh b).length:=by simp at Jx; omega
   obtain ⟨st,hst⟩:∃ st,(zh b)[i]? =some st:=⟨_,lA Qb⟩;refine au 360421302120 ?_;refine bH Z (zS Z Z ze.h mQ (zaJ (i:=i) hst Z)) ?_;refine au 220 ?_;intro j10 hj10;refine au 1143170 ?_;refine bH Z (yH Z Z Z ArEl.h oQ oQ) ?_;refine bH Z (zj Z Z ze.h mQ (st_at (i:=n.toNat) oQ oQ)) ?_;refine TK.newR Z Z Z (zu (l:=[_]) Z zq.h TyZ.h dQ dQ Z) (fun _=>zx rfl tQ) fun j4 hj4=>?_;refine TK.appR Z Z Z (a_app Z ApOf.h Z mQ (by simp; omega) Z (yq (ln:=[_]) mQ dQ sQ Z) oQ Z (by unfold maxLen; omega) oQ) (fun _=>uQ) (fun _=>zx rfl tQ) fun jt2=>?_;refine au 31230414035 ?_;refine bA [1,4,5,6,8,23,24,25] ?_;refine bC [(a,_),(0,_),(s,_),(h,_),(e,_),(j6,_),(jt2,_)] ?_;exact Wj _ _ _ oQ ⟨i+1,jt2,rfl,oQ,rfl,by rw [yL hst,lM,lM]; rfl⟩
  obtain rfl:i=(zh b).length:=by simp at Jx; omega
  rw [List.take_of_length_le (mL _)];have hsl2:(msI ((zh b).map fun s=>zK s n.toNat)).length=(zh b).length:=by rw [zc8,lJ]
  refine au 142160 ?_;refine bD Z Z Z Z (zfK hT (xs:=((zh b).map fun s=>zK s n.toNat)) sQ oQ) ?_;rintro r5 K6 rfl;refine au 1423 ?_;refine bD Z Z Z Z (uE hT (xs:=msI ((zh b).map fun s=>zK s n.toNat)) hsl2 oQ) ?_;rintro r8 K9 h10;rcases h10 with ⟨zs,rfl,rfl⟩ | ⟨rfl,hcm,rfl⟩
  ·refine au 0 ?_;refine bY (j:=jt) ?_;refine au 355 ?_;refine bB Wz [(jt,_),(0,_),(s,_),(h,_),(e,_)] ?_;exact .inr (.inr ⟨Wv,hne,jt,zs,rfl,rfl⟩)
  ·refine au 0 ?_;refine TK.asSl 39 Z (mC _) ?_;refine bY (j:=jt) ?_;refine au 355 ?_;refine bB Wz [(jt,_),(0,_),(s,_),(h,_),(e,_)] ?_;exact .inr (.inr ⟨Wv,hne,jt,[],by unfold shrI setI; rw [hcm,hsl2],by unfold shrI setI; rw [hcm,lR]⟩)
theorem zcc:∀ (l:List SkT) (n:Int),waysI l n=n*waysI l 1
 | [],n=>by simp [waysI]
 | x::l,n=>by
  show waysI l (n*waysX x)=n*waysI l (1*waysX x);rw [zcc l (n*waysX x),zcc l (1*waysX x),Int.one_mul,Int.mul_assoc]
theorem zdU {lo hi:Int} (h:lo<=hi):((numsT lo hi).length:Int)=hi - lo+1:=by
 unfold numsT;rw [lJ,List.length_range];omega
theorem zd9 {ag:VwT->Bool} {w:Nat} {st:Int}:∀ (l:List SkT) (n:Nat) (f s:List Int),(∀ x∈l,SkOk st x)->((viewT ag w l n f s).length:Int)<=waysI l 1
 | [],n,f,s,_=>by
  unfold viewT;split <;> simp [waysI]
 | x::l,n,f,s,h=>by
  have hx:=h x sQ;have hl:∀ y∈l,SkOk st y:=fun y hy=>h y (by simp [hy]);have h1:=(zdm 1 hl dQ).1;obtain ⟨B,hB⟩:∃ B:Nat,waysI l 1=B:=⟨_,(Int.toNat_of_nonneg oQ).symm⟩;have hin:∀ a c,(viewT ag w l (n+1) (f.set n a) (s.set n c)).length<=B:=fun a c=>by
   have:=zd9 (ag:=ag) (w:=w) l (n+1) (f.set n a) (s.set n c) hl;omega
  have h2:(viewT ag w (x::l) n f s).length<=(numsT x.flo x.fhi).length*((numsT x.slo x.shi).length*B):=kY fun a _=>kY fun c _=>hin a c;have h3:=Int.ofNat_le.2 h2;rw [Int.natCast_mul,Int.natCast_mul,zdU hx.fr.2.1,zdU hx.se.2.1,<- Int.mul_assoc] at h3;rw [show waysI (x::l) 1=waysI l (1*waysX x) from rfl,zcc,Int.one_mul,hB];exact h3
theorem zlW {b:StpB} (hb:StpOk b):(allT b).length<=3200:=by
 unfold allT allI;have hn:=hb.ns;have hp:=pow4 hn.2;refine Nat.le_trans (kY (n:=200) fun w _=>?_) ?_
 ·split
  ·have h1:=zd9 (ag:=agreeT b.steps b.sks) (w:=w) b.sks 0 zero4 zero4 hb.sk;have h2:=hb.wy;unfold viewsT;omega
  ·exact mN _
 ·rw [List.length_range]; omega
def stI (vs:List VwT) (i:Nat):List Int:=vs.map fun v=>v.st.getD i 0
def seatsT (b:StpB) (i:Nat):List Int:=setI (stI (allT b) i)
theorem za7 {b:StpB} {i:Nat} {x:Int}:x∈seatsT b i↔∃ v∈allT b,v.st.getD i 0=x:=by
 unfold seatsT;rw [zfD];unfold stI;rw [lY]
theorem za6 (b:StpB) (i:Nat):(seatsT b i).Pairwise (· < ·):=zlB _
theorem zhl (vs:List VwT) (i:Nat):(stI vs i).length=vs.length:=by unfold stI; rw [lJ]
theorem stI_S {vs:List VwT} {k i:Nat} {v:VwT} (h:vs[k]? =some v):stI (vs.take (k+1)) i=stI (vs.take k) i++[v.st.getD i 0]:=by
 unfold stI;rw [uh h,lM];rfl
theorem vw_at {vs:List VwT} {i p:Nat} {v:VwT} {e:TypeId} {s:Nat} (h:vs[i]? =some v) (hp:p=i*9):yj (.row (vs.flatMap vwC) e s) p 9=some (vwC v):=by
 have:=fl_at (f:=vwC) (c:=9) (fun _=>rfl) h (n:=(i:Int)) (e:=e) (rw':=ff) rfl dQ;rw [mO,Int.toNat_natCast] at this;rw [hp];exact this
theorem zjR {main:Bool} {T:gG->Hp->Prop} (hT:zt tp main T)  {vs:List VwT} {c0 c1 c2:AV} {i ja jh:Nat} (hi:i<4) (h2:vs.length<=3200) :
  zr tp T gmR 49 [.agg [c0,c1,c2,.row ja vs.length],.fn 50 [] [.ptr jh 0]] [(ja,.row (vs.flatMap vwC) 118 9),(jh,.cells [za (i:Int)] 3 tt)] (fun r K'=>∃ (jo:Nat) (zs:List Int),r=.sl jo 0 (setI (stI vs i)).length/\K'=[(jo,.cells (((setI (stI vs i))++zs).map za) 3 ff),(ja,.row (vs.flatMap vwC) 118 9),(jh,.cells [za (i:Int)] 3 tt)]):=by
 refine zn 26 hT Tryz.func49 fun Y Wz=>?_;refine au 21042 ?_;intro jb hjb;refine au 22354235 ?_;refine TK.virt 5 3 1 Z fun jo0 hjo0=>?_;refine au 130312806906704 ?_;refine bA [1,5,9,10,11] ?_;refine bC [(jo0,_),(ja,_),(jh,_)] ?_;refine bE (fun n1 Wq K=>∃ (k jo:Nat),n1=vs.length - k/\k<=vs.length/\Wq=.any::.fn 50 [] [.ptr jh 0]::naL 3 (.row jo k::naL 3 (.row ja vs.length::za vs.length::za k::naL 14 []))/\K=[(jo,.row ((stI (vs.take k) i).map za) 3 1),(ja,.row (vs.flatMap vwC) 118 9),(jh,.cells [za (i:Int)] 3 tt)]) vs.length ⟨0,jo0,rfl,mN _,rfl,rfl⟩ fun n1 Wq K hI Wj=>?_;obtain ⟨k,jo,rfl,hk,rfl,rfl⟩:=hI;have hkl2:(stI (vs.take k) i).length=k:=by rw [zhl,List.length_take]; omega
 refine bG nQ ?_;refine au 923742 ?_;constructor<;>intro Jz
 ·have hkl:k<vs.length:=by simp at Jz; omega
  obtain ⟨v,hv⟩:∃ v,vs[k]? =some v:=⟨_,lA hkl⟩;refine au 370421302120 ?_;refine bH Z (zS Z Z ze.h mQ (vw_at hv oQ)) ?_;refine au 220 ?_;intro j7 hj7;refine au 6801143170 ?_;refine TK.clE Z Z Z Z (zgq hT (v:=v) hi) ?_;refine au 0 ?_;refine TK.newR Z Z Z (zu (l:=[_]) Z zq.h TyZ.h dQ dQ Z) (fun _=>zx rfl tQ) fun j4 hj4=>?_;refine TK.appR Z Z Z (a_app Z ApOf.h Z mQ (by rw [lJ,hkl2,Nat.mul_one]) Z (yq (ln:=[_]) mQ dQ sQ Z) oQ Z (by unfold maxLen; omega) oQ) (fun _=>uQ) (fun _=>zx rfl tQ) fun j2=>?_;refine au 31230414035 ?_;refine bA [1,5,9,10,11] ?_;refine bC [(j2,_),(ja,_),(jh,_)] ?_;exact Wj _ _ _ oQ ⟨k+1,j2,rfl,oQ,rfl,by rw [stI_S hv,lM] <;> rfl⟩
 obtain rfl:k=vs.length:=by simp at Jz; omega
 rw [lW];have hsl0:(stI vs i).length=vs.length:=zhl vs i;have hsl2:(msI (stI vs i)).length=vs.length:=by rw [zc8,hsl0]
 refine au 142160 ?_;refine bD Z Z Z Z (zfK hT (xs:=stI vs i) hsl0 oQ) ?_;rintro r5 K6 rfl;refine au 1423 ?_;refine bD Z Z Z Z (uE hT (xs:=msI (stI vs i)) hsl2 oQ) ?_;rintro r8 K9 h10;rcases h10 with ⟨zs,rfl,rfl⟩ | ⟨rfl,hcm,rfl⟩
 ·refine au 0 ?_;refine bY (j:=jo) ?_;refine au 35 ?_;refine bB Wz [(jo,_),(ja,_),(jh,_)] ?_;exact ⟨jo,zs,rfl,rfl⟩
 ·refine au 0 ?_;refine TK.asSl 25 Z (mC _) ?_;refine bY (j:=jo) ?_;refine au 35 ?_;refine bB Wz [(jo,_),(ja,_),(jh,_)] ?_;exact ⟨jo,[],by unfold setI; rw [hcm,hsl2],by unfold setI; rw [hcm,lR]⟩
theorem zcM {main:Bool} {T:gG->Hp->Prop} (hT:zt tp main T)  {st wr:Int} {g:Nat} {Zq:List (Nat×SkT)} {i:Nat} (hb:StpOk (skB st wr Zq)) (hi0:i<Zq.length) (hne:allT (skB st wr Zq)≠[]) :
  zr tp T gmR 9 [.agg (stpC st wr g Zq),za (i:Int)] ((1,spChecksG)::(g,skO Zq)::mkK Zq) (fun r K'=>∃ (jo:Nat) (zs:List Int),r=.tup [.sl jo 0 (seatsT (skB st wr Zq) i).length,za 0]/\K'=(jo,.cells (((seatsT (skB st wr Zq) i)++zs).map za) 3 ff)::(1,spChecksG)::(g,skO Zq)::mkK Zq):=by
 refine zn 20 hT Tryz.func9 fun Y Wz=>?_;refine au 0 ?_;have hz:=zN hb;refine au 21042 ?_;intro jb hjb;refine au 210 ?_;intro jh hjh;refine au 32068042355 ?_;refine bD Z Z Z Z (zjQ hT hb hi0 hne) ?_ (hs:=(.rem .head (.right (.all _))));rintro r1 K2 ⟨ja,rfl,rfl⟩;refine au 0 ?_;refine TK.perm (K':=(jb,_)::(ja,_)::(jh,_)::(1,_)::(g,_)::mkK Zq) (List.perm_append_comm (l₁:=(ja,_)::(jh,_)::(1,_)::(g,_)::mkK Zq) (l₂:=[(jb,_)])) ?_;refine au 220661 ?_;intro jk hjk;refine au 937142235170 ?_;constructor<;>intro Jz
 ·exact absurd Jz dQ
 refine au 32068042120 ?_;refine bD Z Z Z Z (zjR hT (vs:=allT (skB st wr Zq)) oQ (zlW hb)) ?_ (hs:=(.right (.right (.rem .head (.rem .head (.none _))))));rintro r4 K5 ⟨jo,zs,rfl,rfl⟩;refine au 355 ?_;refine bB Wz (((jo,_)::(1,_)::(g,_)::mkK Zq)) ?_;exact ⟨jo,zs,rfl,rfl⟩
end Go.Vel
namespace Go.Vel
open Go Go.Conc
theorem zcg (b:RBk) (l:List Int):∀ (o:List Int) (z z':Alloc),z.left<=z'.left->(o.foldl (allocM b l) z).left<=(o.foldl (allocM b l) z').left
 | [],z,z',h=>h
 | k::o,z,z',h=>by
  rw [List.foldl_cons,List.foldl_cons];refine zcg b l o _ _ ?_;show z.left - min z.left (cutS b l k.toNat).most<=z'.left - min z'.left (cutS b l k.toNat).most;omega
theorem zhV {b:RBk} {r r':Int} (h:r<=r') {l s:List Int} (hs:(hangM (atRound b r') l s).isSome=tt):(hangM (atRound b r) l s).isSome=tt:=by
 unfold hangM at hs ⊢;by_cases hf:fitsM (atRound b r') l=ff
 ·rw [if_pos hf] at hs; cases hs
 ·have hf':¬ fitsM (atRound b r) l=ff:=hf;rw [if_neg hf] at hs;rw [if_neg hf'];dsimp only at hs ⊢;by_cases h0:0<(allocA (atRound b r') l (freshM (atRound b r') s)).left
  ·rw [if_pos h0] at hs; cases hs
  ·have hm:(allocA (atRound b r) l (freshM (atRound b r) s)).left<=(allocA (atRound b r') l (freshM (atRound b r') s)).left:=by
    refine zcg b l (ordM b l) _ _ ?_;show r - b.steps+_<=r' - b.steps+_;omega
   rw [if_neg oQ];rfl
theorem ug (b:RBk) (all:List (List Int)) (l:List Int):sqOk b all l=tt↔∀ s∈all,(hangM b l s).isSome=tt:=by
 unfold sqOk squaresM waysM;have key:(all.filterMap (hangM b l)).length<all.length↔¬ ∀ s∈all,(hangM b l s).isSome=tt:=by
  induction all with
  | nil=>simp
  | cons s r ih =>
   have hle:(r.filterMap (hangM b l)).length<=r.length:=List.length_filterMap_le _ _;cases hs:hangM b l s with
   | none =>
    rw [List.filterMap_cons_none hs];simp [hs];omega
   | some z =>
    rw [List.filterMap_cons_some hs,lZ,lZ,Nat.succ_lt_succ_iff,ih];simp [hs]
 by_cases h:(all.filterMap (hangM b l)).length<all.length
 ·rw [if_pos h];simp only [Option.isSome_none,Bool.false_eq_true,false_iff];exact key.1 h
 ·rw [if_neg h];simp only [Option.isSome_some,true_iff];exact Classical.not_not.1 fun hh=>h (key.2 hh)
theorem zhC {b:RBk} {all:List (List Int)} {r r':Int} (h:r<=r') (hc:canAt b all r'=tt):canAt b all r=tt:=by
 unfold canAt at hc ⊢;rw [List.any_eq_true] at hc ⊢;obtain ⟨c,h1,h2⟩:=hc;refine ⟨c,h1,?_⟩;rw [mX] at h2 ⊢;refine ⟨h2.1,?_⟩;rw [ug] at *
 exact fun s hs=>zhV h (h2.2 s hs)
theorem uH (b:RBk) (all:List (List Int)):∀ k,(∀ n,widestL b all k=some n->b.steps<=n/\n<b.steps+k/\canAt b all n=tt/\∀ r,n<r->r<b.steps+k->canAt b all r=ff)/\(widestL b all k=none->∀ r,b.steps<=r->r<b.steps+k->canAt b all r=ff)
 | 0=>⟨(fun n h=>by cases h),(fun _ r h1 h2=>by omega)⟩
 | k+1=>by
  obtain ⟨i1,i2⟩:=uH b all k;unfold widestL;by_cases hc:canAt b all (b.steps+k)=tt
  ·rw [if_pos hc];refine ⟨fun n h=>?_,fun h=>by cases h⟩;cases h;exact ⟨by omega,oQ,hc,fun r h1 h2=>by omega⟩
  ·rw [if_neg hc];have hc:canAt b all (b.steps+k)=ff:=by simpa using hc
   refine ⟨fun n h=>?_,fun h r h1 h2=>?_⟩
   ·obtain ⟨q1,q2,q3,q4⟩:=i1 n h;refine ⟨q1,oQ,q3,fun r h1 h2=>?_⟩;by_cases e:r=b.steps+k
    ·rw [e]; exact hc
    ·exact q4 r h1 oQ
   ·by_cases e:r=b.steps+k
    ·rw [e]; exact hc
    ·exact i2 h r h1 oQ
theorem zcT {b:RBk} {all:List (List Int)} (h2:b.steps<=40) {r:Int} (h0:b.steps<=r) (h1:r<=40):canAt b all r=((widestM b all).isSome&&decide (r<=(widestM b all).getD 0)):=by
 obtain ⟨i1,i2⟩:=uH b all (41 - b.steps).toNat;unfold widestM;cases h:widestL b all (41 - b.steps).toNat with
 | none =>
  rw [i2 h r h0 oQ]; rfl
 | some n =>
  obtain ⟨q1,q2,q3,q4⟩:=i1 n h;show canAt b all r=(tt&&decide (r<=n));rw [Bool.true_and];by_cases hr:r<=n
  ·rw [decide_eq_true hr];exact zhC hr q3
  ·rw [decide_eq_false hr];exact q4 r oQ oQ
theorem zj7 {b:RBk} {all:List (List Int)} (h2:b.steps<=40) {n:Int} (h:widestM b all=some n):b.steps<=n/\n<=40:=by
 obtain ⟨i1,_⟩:=uH b all (41 - b.steps).toNat;obtain ⟨q1,q2,_⟩:=i1 n h;omega
theorem zkj:∀ m:Fin 6,∀ k:Fin 5,k.1<m.1->zw (2 ^ k.1) m.1=[(k.1:Int)]:=by decide
theorem ziv:∀ i,zw 0 i=[]
 | 0=>rfl
 | i+1=>by unfold zw; rw [ziv i,Nat.zero_div]; rfl
theorem zbT (c m:Nat):∀ i,i<=m->zw (c % 2 ^ m) i=zw c i
 | 0,_=>rfl
 | i+1,h=>by
  unfold zw;rw [zbT c m i oQ];have h1:=Nat.testBit_mod_two_pow c m i;rw [Nat.testBit_eq_decide_div_mod_eq,Nat.testBit_eq_decide_div_mod_eq,decide_eq_true (show i<m by omega),Bool.true_and] at h1;have h2:(c % 2 ^ m / 2 ^ i % 2=1)=(c / 2 ^ i % 2=1):=propext (by simpa using h1);simp only [h2]
def otherM (c n:Nat):List Int:=if zw c n=[] then [((c % n:Nat):Int)] else zw c n
theorem zh9 {c n:Nat} (h1:1<=n) (h5:n<=5):∃ d,0<d/\d<2 ^ n/\otherM c n=zw d n:=by
 unfold otherM;split
 ·have hm:=Nat.mod_lt c h1;exact ⟨2 ^ (c % n),Nat.two_pow_pos _,Nat.pow_lt_pow_right dQ hm,(zkj ⟨n,oQ⟩ ⟨c % n,oQ⟩ hm).symm⟩
 ·rename_i h;refine ⟨c % 2 ^ n,?_,Nat.mod_lt _ (Nat.two_pow_pos _),(zbT c n n (mL _)).symm⟩;rcases Nat.eq_zero_or_pos (c % 2 ^ n) with h0 | h0
  ·exact absurd (by rw [<- zbT c n n (mL _),h0]; exact ziv n) h
  ·exact h0
theorem zbO (x:List Int):yB x x=ff:=by
 cases h:yB x x with
 | false=>rfl
 | true=>rw [kC,ze5] at h; omega
theorem zkh {b:RBk} {all:List (List Int)} {c d:Nat} (h:PlanA b all cheaperM c) (h0:0<d) (h1:d<2 ^ b.sE.length) (hs:sqOk b all (zw d b.sE.length)=tt):sqHi b all (zw c b.sE.length)<=sqHi b all (zw d b.sE.length)/\(sqHi b all (zw c b.sE.length)<sqHi b all (zw d b.sE.length)\/yB (zw d b.sE.length) (zw c b.sE.length)=ff):=by
 rcases h.2.2.2 d h0 h1 hs with e | e
 ·obtain ⟨e1,e2⟩:=Prod.mk.inj e;exact ⟨by omega,.inr (by rw [e1]; exact zbO _)⟩
 ·rw [kZ] at e;dsimp only at e;rcases e with e | ⟨e,e2⟩
  ·exact ⟨by omega,.inl e⟩
  ·exact ⟨by omega,.inr (za9 e2)⟩
theorem zmk {b:RBk} {all:List (List Int)} {c d:Nat} (h:PlanA b all shorterM c) (h0:0<d) (h1:d<2 ^ b.sE.length) (hs:sqOk b all (zw d b.sE.length)=tt):yB (zw d b.sE.length) (zw c b.sE.length)=ff:=by
 rcases h.2.2.2 d h0 h1 hs with e | e
 ·rw [(Prod.mk.inj e).1]; exact zbO _
 ·exact za9 e
theorem vO {b:RBk} {all:List (List Int)} {c:Nat} {bt:List Int×Int->List Int×Int->Bool} (h:PlanA b all bt c) (hn:NoPlan b all):False:=by
 have:=hn c h.1 h.2.1;rw [h.2.2.1] at this;cases this
theorem zfA {b:RBk}:∀ (l:List RSeam) (last:Int),(∀ s∈l,seamB b s=tt/\last<s.step)->(l.Pairwise fun s t=>s.step<t.step)->seamsL b last l=0
 | [],_,_,_=>rfl
 | s::r,last,h,hp=>by
  obtain ⟨p1,p2⟩:=List.pairwise_cons.1 hp;have h1:=h s sQ;unfold seamsL;rw [if_neg (by rw [h1.1]; decide),if_neg oQ];exact zfA r _ (fun t ht=>⟨(h t (by simp [ht])).1,p1 t ht⟩) p2
theorem zdB {b:RBk}:∀ (l:List RBand) (i:Nat),(∀ k x,l[k]? =some x->bandB x=tt/\x.high<wideM b (i+k))->clothsL b i l=0
 | [],_,_=>rfl
 | x::r,i,h=>by
  have h1:=h 0 x rfl;unfold clothsL;rw [if_neg (by rw [h1.1]; decide),if_neg (by have:=h1.2; rw [Nat.add_zero] at this; omega)];exact zdB r _ fun k y hy=>by
   have:=h (k+1) y (by simpa using hy);rwa [show i+(k+1)=i+1+k by omega] at this
theorem zgT {b:RBk}:∀ (l:List RMeas),(∀ m∈l,0<=m.cloth/\m.cloth<b.sE.length/\1<=m.many/\m.many<=b.sE.length/\0<=m.wide/\m.wide<=24)->measL b l=0
 | [],_=>rfl
 | m::r,h=>by
  have h1:=h m sQ;have h2:ym b m.cloth=0:=by unfold ym; rw [if_pos (by simp [betw]; omega)]
  have h3:measB b m=tt:=by simp only [measB,betw,mX,decide_eq_true_eq]; omega
  unfold measL;rw [if_neg (by rw [h2]; decide),if_neg (by rw [h3]; decide)];exact zgT r fun y hy=>h y (by simp [hy])
theorem zk8 {b:RBk} (h:ROk b):zy b=0:=by
 have hr:=h.rnd;have h1:roundsM b=0:=by
  unfold roundsM;rw [if_pos];simp only [betw,mX,decide_eq_true_eq];exact ⟨⟨⟨hr.steps,hr.round⟩,hr.roll⟩,hr.rolls⟩
 have hs:=h.sms;have sat:∀ i,(hi:i<b.sE.length)->b.sE[i]=sm b i:=fun i hi=>by
  have:=kb hi;rw [lA hi] at this;exact Option.some.inj this
 have h2:seamsM b=0:=by
  have hbl:betw b.sE.length 1 5=tt:=by
   have:=hs.len;simp only [betw,mX,decide_eq_true_eq];omega
  unfold seamsM;rw [if_neg (by rw [hbl]; decide)];refine zfA _ _ (fun s hm=>?_) (List.pairwise_iff_getElem.2 fun i j hi hj hij=>by rw [sat i hi,sat j hj]; exact hs.asc i j hij hj);obtain ⟨i,hi,rfl⟩:=List.getElem_of_mem hm;rw [sat i hi];have:=hs.fld i hi;exact ⟨by simp only [seamB,betw,mX,decide_eq_true_eq]; omega,oQ⟩
 have h3:clothsM b=0:=by
  unfold clothsM;rw [if_neg (by rw [h.cls.len]; simp)];refine zdB _ _ fun k x hx=>?_;have hk:k<b.sH.length:=by
   rcases Nat.lt_or_ge k b.sH.length with h | h
   ·exact h
   ·rw [lU h] at hx; cases hx
  rw [yT hk] at hx;cases hx;have:=h.cls.bnd k (by have:=h.cls.len; omega);exact ⟨by simp only [bandB,isBd,mX,decide_eq_true_eq]; omega,by rw [mO]; exact this.2.2.2.2⟩
 have h4:measM b=0:=by
  unfold measM;have:=h.mes.len;rw [if_neg oQ];exact zgT _ h.mes.bnd
 unfold zy;rw [if_neg (by rw [h1]; decide),if_neg (by rw [h2]; decide),if_neg (by rw [h3]; decide)];exact h4
end Go.Vel
namespace Go.Vel
open Go Go.Conc Go.Proofs
def u16A (x:Fin 65536):AV:=.v (.int .u16 (x.1:Int))
def u16O (l:List (Fin 65536)):AObj:=.cells (l.flatMap fun x=>[u16A x]) 181 ff
def choM (l:List (Fin 65536)) (i:Nat):Int:=match l[i]? with | some x=>x.1 | none=>0
def chosenM (x:RBand) (n:Int):Int:=x.low+n % (x.high - x.low+1)
theorem zgC (l:List (Fin 65536)) (i:Nat):0<=choM l i/\choM l i<65536:=by
 unfold choM;cases l[i]? with
 | none=>exact ⟨Int.le_refl _,by decide⟩
 | some x=>exact ⟨by show (0:Int)<=(x.1:Int); omega,by show (x.1:Int)<65536; have:=x.2; omega⟩
theorem zdy {x:RBand} (h:x.low<=x.high) (n:Int):x.low<=chosenM x n/\chosenM x n<=x.high:=by
 unfold chosenM;have h0:=Int.emod_nonneg n (show x.high - x.low+1≠0 by omega);have h1:=Int.emod_lt_of_pos n (show 0<x.high - x.low+1 by omega);omega
instance:zq tp 30 181 1:={}
instance:ze tp 181 ff 1:={}
instance:Und tp 181 (.int .u16):={}
instance:Und tp 30 (.slice 181):={}
theorem zdx {main T} (hT:zt tp main T) {gm} {j i:Nat} {ps:List (Fin 65536)} (hi:i<=1000) :
  zr tp T gm 43 [.sl j 0 ps.length,za i] [(j,u16O ps)] (fun r K'=>r=za (choM ps i)/\K'=[(j,u16O ps)]):=by
 refine zn 18 hT Tryz.func43 fun Y Wz=>?_;refine au 932507280111714223542 ?_;constructor<;>intro Jz
 ·have hge:ps.length<=i:=by simp at Jz; omega
  refine au 3542 ?_;refine bB Wz [(j,_)] ?_;exact ⟨by unfold choM; rw [lU hge],rfl⟩
 have Qp:i<ps.length:=by simp at Jz; omega
 obtain ⟨x,hx⟩:∃ x,ps[i]? =some x:=⟨_,lA Qp⟩;have hx2:=x.2;refine au 3601142120 ?_;refine bH Z (zj Z Z ze.h mQ (wS (c:=1) (f:=fun x=>[u16A x]) (fun _=>rfl) hx rfl dQ)) ?_;refine bH Z (yu Z Z Und.h Und.h (kg oQ)) ?_;refine au 35 ?_;refine bB Wz [(j,_)] ?_;exact ⟨by unfold choM; rw [hx],rfl⟩
theorem zdz {main T} (hT:zt tp main T) {gm} {x:RBand} {n:Int} (h : -100<=x.low/\x.low<=x.high/\x.high<=100) (hn:0<=n/\n<65536) :
  zr tp T gm 42 [.agg (bandC x),za n] [] (fun r K'=>r=za (chosenM x n)/\K'=[]):=by
 refine zn 16 hT Tryz.func42 fun Y Wz=>?_;refine au 0 ?_;have h0:=Int.emod_nonneg n (show x.high - x.low+1≠0 by omega);have h1:=Int.emod_lt_of_pos n (show 0<x.high - x.low+1 by omega);refine au 21042 ?_;intro jx hjx;refine au 235 ?_;refine bL [0,1,2,3,4,5,6,7,8,9,10,11] ?_;refine ad [[3,2],[10,5],[1,1],[3,2],[10,8],[3,2],[10,10],[9,9,11],[8,12]] ?_;refine TD.z [7,13] Z (q_rem Z Z Z oQ oQ) ?_;refine ad [[8,6,14],[13,15],[14]] ?_;refine au 0 ?_;refine bB Wz [] ?_;exact ⟨rfl,rfl⟩
end Go.Vel
end
