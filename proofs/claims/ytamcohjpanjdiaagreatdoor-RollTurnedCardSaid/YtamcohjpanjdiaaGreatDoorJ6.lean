/- Texts for the statements of chapter 8: what all of them need, part 7. It holds of every program, tape and world that the statements name, as each theorem says. -/
import Derived.Test.YtamcohjpanjdiaaGreatDoorJ3
import Derived.Test.YtamcohjpanjdiaaGreatDoorJ5
section
set_option linter.all false
set_option maxRecDepth 20000
set_option maxHeartbeats 60000000
open Go.Proofs.Tryz renaming prog -> tp
open List renaming getElem?_eq_getElem -> lA, getElem?_eq_some_iff -> lD, getD_eq_getElem?_getD -> lE, length_append -> lF, perm_append_comm -> lH, length_map -> lJ, map_append -> lM, mem_of_getElem? -> lN, getElem?_map -> lQ, append_nil -> lR, mem_append -> lT, take_length -> lW, length_cons -> lZ, replicate -> mB
open List.Mem renaming head -> mC
open Nat renaming le_refl -> mL, zero_le -> mN, le_trans -> mT
open Bool renaming not_eq_true' -> mV, not_eq_false' -> mW
open Int renaming toNat_natCast -> mZ
open Go.Vel.TK renaming maskL -> bA, rt -> bB, kp -> bC, cl -> bD, loopN -> bE, sp -> bF, na -> bG, a -> bH, newR -> bI, dq -> bL, perm -> bN, appR -> bO, frzRow -> bY
open Go.Vel.TD renaming cl -> bQ, s -> bR, norm -> bS, y -> bT, z -> bU, cnewP -> bX
namespace Go.Vel
open Go Go.Conc Go.Proofs
instance:Cal tp 123:={}
instance:Cal tp 124:={}
instance:Cal tp 128:={}
instance:Cal tp 144:={}
instance:zl tp 26 0 0 false 1:={}
instance:zl tp 26 1 1 false 1:={}
instance:zl tp 26 2 2 false 1:={}
instance:zl tp 26 3 3 false 1:={}
instance:zl tp 26 5 5 false 1:={}
instance:zl tp 26 6 6 false 1:={}
instance:zl tp 49 0 0 false 1:={}
instance:zl tp 49 1 1 false 1:={}
instance:zl tp 49 2 2 false 1:={}
instance:zl tp 51 0 0 false 1:={}
instance:zl tp 94 0 0 false 1:={}
instance:zl tp 94 1 1 false 1:={}
instance:zl tp 94 2 2 false 1:={}
instance:zl tp 94 3 3 false 1:={}
instance:zF tp 22 94 5:={}
instance:zF tp 23 51 2:={}
instance:zF tp 24 49 3:={}
instance:zi tp 113 true 7:={}
instance:zi tp 23 false 1:={}
instance:zi tp 24 false 1:={}
instance:zi tp 49 true 3:={}
instance:zi tp 94 true 5:={}
instance:TyZA tp 49 [.v (.int .i64 0),.v (.int .i64 0),.v (.int .i64 0)]:={}
instance:TyZA tp 94 [.v (.int .i64 0),.v (.int .i64 0),.v (.int .i64 0),.v (.int .i64 0),.v (.bool false)]:={}
instance:Und tp 23 (.slice 51):={}
instance:Und tp 24 (.slice 49):={}
theorem yy {main T} (hT:zo tp main T) {gm} {n lo hi:Int} :
  zA tp T gm 128 [intA n,intA lo,intA hi] [] (fun r K'=>r=zP (betw n lo hi)/\K'=[]):=by
 refine zp 15 hT Tryz.func128 fun Y hret=>?_;refine au 1711423542 ?_;refine bF 10 (fun g1_4=>?_) (fun g1_4=>?_)
 ·refine au 35260711 ?_;refine TK.rta hret ?_;exact ⟨by simp [zP,betw,g1_4],rfl⟩
 refine au 35250888 ?_;refine TK.rta hret ?_;exact ⟨by simp [zP,betw,g1_4],rfl⟩
theorem zbG {main T} (hT:zo tp main T) {gm} {x:RBand} {lo hi:Int} :
  zA tp T gm 124 [.agg (bandC x),intA lo,intA hi] [] (fun r K'=>r=zP (isBd x lo hi)/\K'=[]):=by
 refine zp 24 hT Tryz.func124 fun Y hret=>?_;refine au 21042 ?_;intro j1 hj1;refine au 1769067014235 ?_;refine bF 11 (fun g1_5=>?_) (fun g1_5=>?_)
 ·refine au 12607690670690670 ?_;refine bF 18 (fun g1_12=>?_) (fun g1_12=>?_)
  ·refine au 3526071690670 ?_;refine bB hret [] ?_;exact ⟨by simp_all [isBd,bandC] <;> (intros; omega),rfl⟩
  refine au 352508888 ?_;refine bB hret [] ?_;exact ⟨by simp_all [isBd,bandC] <;> (intros; omega),rfl⟩
 refine au 352508888125088888 ?_;refine bB hret [] ?_;exact ⟨by simp_all [isBd,bandC] <;> (intros; omega),rfl⟩
theorem zbu {main T} (hT:zo tp main T) {gm} {b:RBk} {s h e i:Nat} (hr:RndOk b) (hs:SmOk b) (hi:i<b.seams.length) :
  zA tp T gm 144 [.agg (zE b s h e),intA i] [(s,zk b)] (fun r K'=>r=intA (wideM b i)/\K'=[(s,zk b)]):=by
 refine zp 40 hT Tryz.func144 fun Y hret=>?_;refine au 0 ?_;have h5:=hs.len;have hst:=hr.steps;have f0:=hs.fld 0 oQ;have fi:=hs.fld i hi;refine au 21042 ?_;intro jb hjb;refine au 235 ?_;refine bL [0,1,2,3,4,5,6,7,8,9,10] ?_;refine ad [[3,2],[3,6],[10,7],[2,8],[3,9]] ?_;refine bT [10] Z (hq:=zm Z Z zi.h (mC _) (yn (c:=0) (sm_at (i:=0) b oQ Z) dQ Z)) (h:=?_);refine ad [[3,2],[3,12],[10,13],[8,11,14],[13,15],[14]] ?_;refine au 9372806906706702301422 ?_;constructor<;>intro hc0
 ·have hlt:i+1<b.seams.length:=by simp at hc0; omega
  have fn:=hs.fld (i+1) hlt;refine au 67036023016906706704 ?_;refine bH Z (zm Z Z zi.h mQ (yn (c:=0) (sm_at (i:=i+1) b hlt Z) dQ Z)) ?_;refine au 670360169067067014235 ?_;refine bH Z (zm Z Z zi.h mQ (yn (c:=0) (sm_at (i:=i) b hi Z) dQ Z)) ?_;refine au 35240 ?_;refine bB hret [(s,_)] ?_;exact ⟨by unfold wideM; rw [if_pos hlt],rfl⟩
 have hlt:¬ i+1<b.seams.length:=by simp at hc0; omega
 refine au 6703601690670670142120 ?_;refine bH Z (zm Z Z zi.h mQ (yn (c:=0) (sm_at (i:=i) b hi Z) dQ Z)) ?_;refine au 35240 ?_;refine bB hret [(s,_)] ?_;exact ⟨by unfold wideM; rw [if_neg hlt],rfl⟩
theorem uo {main T} (hT:zo tp main T) {gm} {b:RBk} {s h e:Nat} {n:Int} (hs:b.seams.length<=5) :
  zA tp T gm 123 [intA n,.agg (zE b s h e)] [] (fun r K'=>r=intA (thereM b n)/\K'=[]):=by
 refine zp 13 hT Tryz.func123 fun Y hret=>?_;refine au 21042 ?_;intro j1 hj1;refine au 240280690670670142235 ?_;refine bD Z Z Z Z (yy hT) ?_;rintro r2 K3 ⟨rfl,rfl⟩;refine au 93300 ?_;constructor<;>intro hc0
 ·refine au 3542 ?_;refine bB hret [] ?_;exact ⟨by simp at hc0; simp [thereM,hc0],rfl⟩
 refine au 3542120 ?_;refine bB hret [] ?_;exact ⟨by simp at hc0; simp [thereM,hc0],rfl⟩
theorem zfn {main T} (hT:zo tp main T) {gm} {b:RBk} {s h e:Nat} :
  zA tp T gm 251 [.agg (zE b s h e)] [] (fun r K'=>r=intA (roundsM b)/\K'=[]):=by
 refine zp 32 hT Tryz.func251 fun Y hret=>?_;refine au 21042 ?_;intro j1 hj1;refine au 69067067042235 ?_;refine bD Z Z Z Z (yy hT) ?_;rintro r2 K3 ⟨rfl,rfl⟩;refine au 1300 ?_;refine bF 8 (fun g1_6=>?_) (fun g1_6=>?_)
 ·refine au 3542180326088888126088888126088888888 ?_;refine bB hret [] ?_;simp only [mV,mW] at g1_6;exact ⟨by simp [roundsM,g1_6],rfl⟩
 refine au 690670670690670670 ?_;refine bD Z Z Z Z (yy hT) ?_;rintro r5 K6 ⟨rfl,rfl⟩;refine au 1250300 ?_;refine bF 18 (fun g1_16=>?_) (fun g1_16=>?_)
 ·refine au 3542180326088888126088888 ?_;refine bB hret [] ?_;simp only [mV,mW] at g1_6 g1_16;exact ⟨by simp [roundsM,g1_6,g1_16],rfl⟩
 refine au 690670670 ?_;refine bD Z Z Z Z (yy hT) ?_;rintro r8 K9 ⟨rfl,rfl⟩;refine au 1250300 ?_;refine bF 25 (fun g1_23=>?_) (fun g1_23=>?_)
 ·refine au 3542180326088888 ?_;refine bB hret [] ?_;simp only [mV,mW] at g1_6 g1_16 g1_23;exact ⟨by simp [roundsM,g1_6,g1_16,g1_23],rfl⟩
 refine au 690670670 ?_;refine bD Z Z Z Z (yy hT) ?_;rintro r11 K12 ⟨rfl,rfl⟩;refine au 93250300 ?_;constructor<;>intro hc0
 ·refine au 3542 ?_;refine bB hret [] ?_;simp only [mV,mW] at g1_6 g1_16 g1_23 hc0;exact ⟨by simp [roundsM,g1_6,g1_16,g1_23,hc0],rfl⟩
 refine au 3542120 ?_;refine bB hret [] ?_;simp only [mV,mW] at g1_6 g1_16 g1_23 hc0;exact ⟨by simp [roundsM,g1_6,g1_16,g1_23,hc0],rfl⟩
theorem zgv {main T} (hT:zo tp main T) {gm} {b:RBk} {s h e:Nat} (hr:RndOk b) (hl:b.seams.length<=100) :
  zA tp T gm 252 [.agg (zE b s h e)] [(s,zk b)] (fun r K'=>r=intA (seamsM b)/\K'=[(s,zk b)]):=by
 refine zp 49 hT Tryz.func252 fun Y hret=>?_;refine au 0 ?_;have hst:=hr.steps;refine au 21042 ?_;intro jb hjb;refine au 28069067067042235 ?_;refine bD Z Z Z Z (yy hT) ?_;rintro r1 K2 ⟨rfl,rfl⟩;refine au 93300 ?_;constructor<;>intro hc0
 ·refine au 3542 ?_;refine bB hret [(s,_)] ?_;simp only [mV,mW] at hc0;exact ⟨by simp [seamsM,hc0],rfl⟩
 simp only [mV,mW] at hc0;have hl5:=vN hc0;refine au 130312806906706704223542120 ?_;refine bA [1,2,3,14,15,16] ?_;refine bE (fun n env K=>∃ (i:Nat) (last:Int),n=b.seams.length - i/\i<=b.seams.length/\seamsL b last (b.seams.drop i)=seamsM b/\env=.any::.ptr jb 0::intA 0::intA last::naL 10 (.sl s 0 b.seams.length::intA b.seams.length::intA i::naL 32 [])/\K=[(jb,.cells (zE b s h e) 113 true),(s,zk b)]) b.seams.length ⟨0,-1,rfl,mN _,by unfold seamsM; rw [if_neg (by rw [hc0]; decide)]; rfl,rfl,rfl⟩ fun n env K hI hnext=>?_;obtain ⟨i,last,rfl,hi,hinv,rfl,rfl⟩:=hI;refine bG nQ ?_;refine au 923742 ?_;constructor<;>intro hc1
 ·have hil:i<b.seams.length:=by simp at hc1; omega
  refine au 360421302120 ?_;refine bH Z (ya Z Z zi.h mQ (sm_at (i:=i) b hil Z)) ?_;refine au 220 ?_;intro jx hjx;refine au 24069067067069067042213023170 ?_;refine bD Z Z Z Z (yy hT) ?_;rintro r4 K5 ⟨rfl,rfl⟩;refine au 935300 ?_;constructor<;>intro hc2
  ·refine au 9120 ?_;constructor<;>intro hc5
   ·refine au 3542 ?_;refine bB hret [(s,_)] ?_;exact ⟨by rw [<- hinv,zH (yW hil),seamsL,if_pos (by simp only [mV,mW] at hc2; simp [seamB,hc2])],rfl⟩
   exact absurd hc2 (by rw [hc5]; decide)
  refine au 69067042 ?_;refine bD Z Z Z Z (yy hT) ?_;rintro r7 K8 ⟨rfl,rfl⟩;refine au 935300 ?_;constructor<;>intro hc3
  ·refine au 9120 ?_;constructor<;>intro hc5
   ·refine au 3542 ?_;refine bB hret [(s,_)] ?_;exact ⟨by rw [<- hinv,zH (yW hil),seamsL,if_pos (by simp only [mV,mW] at hc2 hc3; simp [seamB,hc2,hc3])],rfl⟩
   exact absurd hc3 (by rw [hc5]; decide)
  refine au 69067042 ?_;refine bD Z Z Z Z (yy hT) ?_;rintro r10 K11 ⟨rfl,rfl⟩;refine au 935300 ?_;constructor<;>intro hc4
  ·refine au 9120 ?_;constructor<;>intro hc5
   ·refine au 3542 ?_;refine bB hret [(s,_)] ?_;exact ⟨by rw [<- hinv,zH (yW hil),seamsL,if_pos (by simp only [mV,mW] at hc2 hc3 hc4; simp [seamB,hc2,hc3,hc4])],rfl⟩
   exact absurd hc4 (by rw [hc5]; decide)
  refine au 6906704 ?_;refine bD Z Z Z Z (yy hT) ?_;rintro r13 K14 ⟨rfl,rfl⟩;refine au 935300 ?_;constructor<;>intro hc5
  ·refine au 3542 ?_;refine bB hret [(s,_)] ?_;exact ⟨by rw [<- hinv,zH (yW hil),seamsL,if_pos (by simp only [mV,mW] at hc2 hc3 hc4 hc5; simp [seamB,hc2,hc3,hc4,hc5])],rfl⟩
  have hsb:seamB b (sm b i)=true:=by simp only [mV,mW] at hc2 hc3 hc4 hc5; simp [seamB,hc2,hc3,hc4,hc5]
  refine au 9357169067042 ?_;constructor<;>intro hc6
  ·refine au 3542 ?_;refine bB hret [(s,_)] ?_;exact ⟨by rw [<- hinv,zH (yW hil),seamsL,if_neg (by rw [hsb]; decide),if_pos (of_decide_eq_true hc6)],rfl⟩
  refine au 312304140356906704140120 ?_;refine bA [1,2,3,14,15,16] ?_;refine bC [(jb,_),(s,_)] ?_;exact hnext _ _ _ oQ ⟨i+1,(sm b i).step,rfl,oQ,by rw [<- hinv,zH (yW hil),seamsL,if_neg (by rw [hsb]; decide),if_neg (of_decide_eq_false hc6)],rfl,rfl⟩
 obtain rfl:i=b.seams.length:=by simp at hc1; omega
 refine au 3542160 ?_;refine bB hret [(s,_)] ?_;exact ⟨by rw [<- hinv,List.drop_length]; rfl,rfl⟩
theorem zeK {main T} (hT:zo tp main T) {gm} {b:RBk} {s h e:Nat} (hr:RndOk b) (hs:SmOk b) :
  zA tp T gm 253 [.agg (zE b s h e)] [(s,zk b),(h,zB b)] (fun r K'=>r=intA (clothsM b)/\K'=[(s,zk b),(h,zB b)]):=by
 refine zp 41 hT Tryz.func253 fun Y hret=>?_;refine au 0 ?_;have hst:=hr.steps;have hl5:=hs.len;refine au 21042 ?_;intro jb hjb;refine au 93728069067067028069067067042235 ?_;constructor<;>intro hc0
 ·refine au 3542 ?_;refine bB hret [(s,_),(h,_)] ?_;exact ⟨by unfold clothsM; rw [if_pos (by simp at hc0; omega)],rfl⟩
 have hle:b.shrinks.length=b.seams.length:=by simp at hc0; omega
 refine au 13031280690670670422120 ?_;refine bA [1,2,16,17,18] ?_;refine bE (fun n env K=>∃ (i:Nat),n=b.shrinks.length - i/\i<=b.shrinks.length/\clothsL b i (b.shrinks.drop i)=clothsM b/\env=.any::.ptr jb 0::intA 0::naL 13 (.sl h 0 b.shrinks.length::intA b.shrinks.length::intA i::naL 22 [])/\K=[(jb,.cells (zE b s h e) 113 true),(s,zk b),(h,zB b)]) b.shrinks.length ⟨0,rfl,mN _,by unfold clothsM; rw [if_neg (by simpa using hle)]; rfl,rfl,rfl⟩ fun n env K hI hnext=>?_;obtain ⟨i,rfl,hi,hinv,rfl,rfl⟩:=hI;refine bG nQ ?_;refine au 923742 ?_;constructor<;>intro hc1
 ·have hil:i<b.shrinks.length:=by simp at hc1; omega
  refine au 3601421302120 ?_;refine bH Z (ya Z Z zi.h mQ (bd_at (i:=i) b hil Z)) ?_;refine au 220 ?_;intro jx hjx;refine au 68042213031705 ?_;refine bD Z Z Z Z (zbG hT) ?_;rintro r1 K2 ⟨rfl,rfl⟩;refine au 935300 ?_;constructor<;>intro hc2
  ·refine au 9120 ?_;constructor<;>intro hc3
   ·refine au 3542 ?_;refine bB hret [(s,_),(h,_)] ?_;exact ⟨by rw [<- hinv,zH (kq hil),clothsL,if_pos (by simp at hc2; simp [bandB,hc2] <;> omega)],rfl⟩
   exact absurd hc2 (by rw [hc3]; decide)
  have hbd:0<=(bd b i).low/\(bd b i).low<=(bd b i).high/\(bd b i).high<=5:=by simp [isBd] at hc2; omega
  refine au 93572406906706906704 ?_;constructor<;>intro hc3
  ·refine au 3542 ?_;refine bB hret [(s,_),(h,_)] ?_;exact ⟨by rw [<- hinv,zH (kq hil),clothsL,if_pos (by simp at hc2 hc3; simp [bandB,hc2] <;> omega)],rfl⟩
  have hbb:bandB (bd b i)=true:=by simp only [mV,mW] at hc2; have:=of_decide_eq_false hc3; simp [bandB,hc2]; omega
  refine au 2 ?_;refine bL [0,1,2,3,4,5,6] ?_;refine ad [[3,4],[10,34],[12,1],[1,3]] ?_;refine bQ (pend':=[⟨1,[34],[(_,_)]⟩,⟨0,[4],[]⟩]) [36,37] Z Z Z Z Z (zbu hT (i:=i) hr hs oQ) (fun r4 K5 h6=>⟨?_,?_⟩)
  ·rcases h6 with ⟨rfl,rfl⟩
   all_goals simp
  obtain ⟨rfl,rfl⟩:=h6;try simp only [cA]
  refine bS tQ ?_;refine ad [[4,35,38]] ?_;refine TD.as (pend':=[⟨1,[34],[(_,_)]⟩,⟨0,[4],[]⟩]) [39] Z Z (zD Z Z) ?_;refine ad [[14]] ?_;refine au 9 ?_;constructor<;>intro hc4
  ·refine au 3542 ?_;refine bB hret [(s,_),(h,_)] ?_;exact ⟨by rw [<- hinv,zH (kq hil),clothsL,if_neg (by rw [hbb]; decide),if_pos (of_decide_eq_true hc4)],rfl⟩
  refine au 312304140140120 ?_;refine bA [1,2,16,17,18] ?_;refine bC [(jb,_),(s,_),(h,_)] ?_;exact hnext _ _ _ oQ ⟨i+1,rfl,oQ,by rw [<- hinv,zH (kq hil),clothsL,if_neg (by rw [hbb]; decide),if_neg (of_decide_eq_false hc4)],rfl,rfl⟩
 obtain rfl:i=b.shrinks.length:=by simp at hc1; omega
 refine au 3542160 ?_;refine bB hret [(s,_),(h,_)] ?_;exact ⟨by rw [<- hinv,List.drop_length]; rfl,rfl⟩
theorem zdr {main T} (hT:zo tp main T) {gm} {b:RBk} {s h e:Nat} (hs:SmOk b) (hl:b.measures.length<=100) :
  zA tp T gm 254 [.agg (zE b s h e)] [(e,zq b)] (fun r K'=>r=intA (measM b)/\K'=[(e,zq b)]):=by
 refine zp 41 hT Tryz.func254 fun Y hret=>?_;refine au 0 ?_;have hl5:=hs.len;refine au 21042 ?_;intro jb hjb;refine au 93728069067067042235 ?_;constructor<;>intro hc0
 ·refine au 3542 ?_;refine bB hret [(e,_)] ?_;exact ⟨by unfold measM; rw [if_pos (by simp at hc0; omega)],rfl⟩
 refine au 13031280690670670422120 ?_;refine bA [1,2,13,14,15] ?_;refine bE (fun n env K=>∃ (i:Nat),n=b.measures.length - i/\i<=b.measures.length/\measL b (b.measures.drop i)=measM b/\env=.any::.ptr jb 0::intA 0::naL 10 (.sl e 0 b.measures.length::intA b.measures.length::intA i::naL 25 [])/\K=[(jb,.cells (zE b s h e) 113 true),(e,zq b)]) b.measures.length ⟨0,rfl,mN _,by unfold measM; rw [if_neg (by simp at hc0; omega)]; rfl,rfl,rfl⟩ fun n env K hI hnext=>?_;obtain ⟨i,rfl,hi,hinv,rfl,rfl⟩:=hI;refine bG nQ ?_;refine au 923742 ?_;constructor<;>intro hc1
 ·have hil:i<b.measures.length:=by simp at hc1; omega
  obtain ⟨x,hg⟩:∃ x,b.measures[i]? =some x:=⟨_,lA hil⟩;refine au 360421302120 ?_;refine bH Z (ya Z Z zi.h mQ (vb (c:=3) (f:=measC) (fun _=>rfl) hg rfl dQ)) ?_;refine au 220 ?_;intro jx hjx;refine au 6806906704223170 ?_;refine bD Z Z Z Z (uo hT oQ) ?_;rintro r1 K2 ⟨rfl,rfl⟩;refine au 93714235 ?_;constructor<;>intro hc2
  ·refine au 35142 ?_;refine bB hret [(e,_)] ?_;exact ⟨by rw [<- hinv,zH hg,measL,if_pos (by simpa using hc2)],rfl⟩
  refine au 28069067067069067042120 ?_;refine bD Z Z Z Z (yy hT) ?_;rintro r4 K5 ⟨rfl,rfl⟩;refine au 1300 ?_;refine bF 34 (fun g9_9=>?_) (fun g9_9=>?_)
  ·refine au 354218032608888 ?_;refine bB hret [(e,_)] ?_;exact ⟨by rw [<- hinv,zH hg,measL,if_neg (by simpa using hc2),if_pos (by simp only [mV,mW] at g9_9; simp [measB,g9_9])],rfl⟩
  refine au 690670 ?_;refine bD Z Z Z Z (yy hT) ?_;rintro r7 K8 ⟨rfl,rfl⟩;refine au 93250300 ?_;constructor<;>intro hc3
  ·refine au 3542 ?_;refine bB hret [(e,_)] ?_;exact ⟨by rw [<- hinv,zH hg,measL,if_neg (by simpa using hc2),if_pos (by simp only [mV,mW] at g9_9 hc3; simp [measB,g9_9,hc3])],rfl⟩
  refine au 312304140120 ?_;refine bA [1,2,13,14,15] ?_;refine bC [(jb,_),(e,_)] ?_;exact hnext _ _ _ oQ ⟨i+1,rfl,oQ,by rw [<- hinv,zH hg,measL,if_neg (by simpa using hc2),if_neg (by simp only [mV,mW] at g9_9 hc3; simp [measB,g9_9,hc3])],rfl,rfl⟩
 obtain rfl:i=b.measures.length:=by simp at hc1; omega
 refine au 3542160 ?_;refine bB hret [(e,_)] ?_;exact ⟨by rw [<- hinv,List.drop_length]; rfl,rfl⟩
end Go.Vel
namespace Go.Vel
open Go Go.Conc
section
variable {P:Program} {gm:Nat->Option Nat} {env:List AV} {A A':List AObj} {o:Oper} {V:KV}
theorem zhn {d x:Operand} {t t2 e:TypeId} {size i off dl m:Nat} {ln:List AV} (ho:o.op=.call { callee:=.builtin .copy,args:=#[d,x],argTypes:=#[t,t2] }) (ht:slElem P t=some (e,size)) (hd:zI gm env d=.sl i off dl) (hx:srcA A size (zI gm env x)=some (m,ln)) (hm:0<m) (hmd:m<=dl) (hs:storeA A i off ln=some A') :
  OpOk P gm env A o (.v (.int .i64 m)) A':=fun φ F H a hg hH hE=>by
 rw [yB ho];obtain ⟨bx,capx,ys,ex,hys,hln,hrn,hfirst⟩   := zdd (P:=P) hH hx (zz hg hE x);have hd':=zz hg hE d;rw [hd] at hd';obtain ⟨hi,cap,b,hlc,hb,ed⟩:=uJ hd';obtain ⟨ti,e1,e2,e3⟩:=kJ ht;simp only [builtin,List.map_toArray,List.map_cons,List.map_nil];refine wpS_v ?_;rw [ed,ex];unfold Builtin.copy_;dsimp only;show wpS P (underlying t >>= _) H _;refine zd _ _ _ (zC e1 ?_);dsimp only;refine zd _ _ _ ?_
 change wpS P (pure m) H _
 rw [yZ];have hmin:Nat.min m dl=m:=Nat.min_eq_left hmd;rw [hmin];refine zd _ _ _ (yh e2 ?_);rw [e3];refine zd _ _ _ ?_;rw [ex] at hfirst
 change wpS P (Builtin.firstCells size m (.slice bx m capx)) H _
 refine hfirst _ ?_;rw [hb oQ];dsimp only;refine zd _ _ _ (u7 hH hs hrn fun H' hH' hlen=>?_);exact ⟨_,φ,.inl rfl,Agr.refl _ _,oQ,hH',.v _⟩
theorem ziB {d x:Operand} {t t2 e:TypeId} {size i off dl m:Nat} {ln:List AV} {ob ob':AObj} (ho:o.op=.call { callee:=.builtin .copy,args:=#[d,x],argTypes:=#[t,t2] }) (hd:zn gm env d=some (.sl i off dl)) (ht:slElem P t=some (e,size)) (hx:srcO V size (zI gm env x) m ln) (hm:0<m) (hmd:m<=dl) (hi:(i,ob)∈V) (hs:putO ob off ln=some ob') :
  ∀ A,zM V A->OpOk P gm env A o (.v (.int .i64 m)) (A.set i ob'):=fun A hA=>zhn ho ht (zx hd) (hx A hA) hm hmd (uW (hA.get hi) hs)
end
theorem zgw {s:List Int} (h:s.length<=5) (e:TypeId) (hp:0<s.length):putO (.cells [intA 0,intA 0,intA 0,intA 0,intA 0] e true) 0 (s.map intA)=some (.cells (stC s) e true):=by
 unfold putO;dsimp only;rw [if_pos ⟨by simp; omega,by simpa using hp,by simp [oneA,oneCell]⟩];rcases s with _ | ⟨a,_ | ⟨b,_ | ⟨c,_ | ⟨d,_ | ⟨f,_ | ⟨g,r⟩⟩⟩⟩⟩⟩
 ·rfl
 ·rfl
 ·rfl
 ·rfl
 ·rfl
 ·rfl
 ·simp at h
theorem zfu {l:List Int} {e:TypeId} {rw':Bool} (hp:0<l.length):takeO (.cells (l.map intA) e rw') 0 (l.length*1)=some (l.map intA):=by
 simp only [takeO,AObj.look];rw [if_pos ⟨by omega,by rw [lJ]; omega⟩,List.drop_zero,Nat.mul_one,List.take_of_length_le sQ]
end Go.Vel
namespace Go.Vel
open Go Go.Conc Go.Proofs
def gmR:Nat->Option Nat
 | 0=>some 0
 | _=>none
def zy:AObj:=.cells [.fn 251 [] [],.fn 252 [] [],.fn 253 [] [],.fn 254 [] []] 122 false
def z7R:List AV:=[intA 0,intA 0,intA 0,intA 0,.v (.slice none 0 0),.v (.slice none 0 0),.v (.slice none 0 0)]
def bar2 (x y:Int):Int:=if x≠0 then x else y
def OpenR (b:RBk) (s h e:Nat) (bar:Int) (r:AV):Prop:=(bar=0/\r=.tup [.agg (zE b s h e),intA 0])\/(bar≠0/\r=.tup [.agg z7R,intA bar])
theorem vM {x y:Int} (h:x≠0):bar2 x y=x:=if_pos h
theorem kG {x y:Int} (h:x=0):bar2 x y=y:=if_neg (fun e=>e h)
theorem zbQ (b:RBk) (l:List Int) (i:Nat):((List.range (i+1)).map (stripM b l)).flatMap pairC=((List.range i).map (stripM b l)).flatMap pairC++pairC (stripM b l i):=by
 rw [List.range_succ,lM,List.flatMap_append];simp
theorem zgn (b:RBk) (l:List Int) (i:Nat):(((List.range i).map (stripM b l)).flatMap pairC).length=i*2:=by
 rw [yz pairC 2 (fun _=>rfl)]; simp
theorem zaQ {b:RBk} {l:List Int} {k:Nat} (hk:k<l.length) (h:(cutS b l k).whole=true\/b.roll<(stripM b l k).2):fitsM b l=false:=by
 unfold fitsM;rw [Bool.and_eq_false_iff];right;rw [List.all_eq_false];refine ⟨k,List.mem_range.2 hk,?_⟩;rcases h with h | h
 ·simp [h]
 ·simp; intro _; omega
theorem zft {b:RBk} {l:List Int} {i:Nat} (h:i<l.length):((List.range l.length).map (stripM b l))[i]? =some (stripM b l i):=by
 rw [lQ,List.getElem?_range h]; rfl
theorem zbp {α:Type} {f:α->List AV} {c:Nat} (hc:∀ x,(f x).length=c) {xs:List α} {x:α} {i:Nat} {n:Int} {e:TypeId} {sz:Nat} (h:xs[i]? =some x) (hn:n=(i:Int)) (h0:0<c):takeO (.row (xs.flatMap f) e sz) (n.toNat*c) c=some (f x):=by
 subst hn;obtain ⟨h1,h2⟩:=lD.1 h;have hle:(i+1)*c<=xs.length*c:=Nat.mul_le_mul_right _ h1;have:(i+1)*c=i*c+c:=Nat.succ_mul ..;simp only [takeO,AObj.look,mZ];rw [if_pos ⟨by omega,by rw [yz f c hc]; omega⟩,uH f c hc _ _ h1,h2]
theorem zbl {a b c d e f g h:Nat×AObj} {R:KV}:((f::R)++[a,b,c,d,e,g,h]).Perm (a::b::f::c::d::e::g::h::R):=by
 have q:((f::R)++[a,b,c,d,e,g,h]).Perm ([a,b,c,d,e,g,h]++(f::R)):=lH;refine q.trans ?_;have q2:([c,d,e,g,h]++f::R).Perm (f::([c,d,e,g,h]++R)):=List.perm_middle;exact (q2.cons b).cons a
instance:ArEl tp 122 4 116 false 1:={}
instance:ArEl tp 129 5 3 false 1:={}
instance:BlOf tp 113 [(0,7)]:={}
instance:Cal tp 24:={}
instance:Cal tp 251:={}
instance:Cal tp 252:={}
instance:Cal tp 253:={}
instance:Cal tp 254:={}
instance:zF tp 117 3 1:={}
instance:zF tp 123 3 1:={}
instance:zF tp 180 116 1:={}
instance:zi tp 116 false 1:={}
instance:zi tp 122 true 4:={}
instance:zi tp 129 true 5:={}
instance:zi tp 26 true 7:={}
instance:TyZ tp 113 [.int .i64 0,.int .i64 0,.int .i64 0,.int .i64 0,.slice none 0 0,.slice none 0 0,.slice none 0 0]:={}
instance:TyZA tp 113 [.v (.int .i64 0),.v (.int .i64 0),.v (.int .i64 0),.v (.int .i64 0),.v (.slice none 0 0),.v (.slice none 0 0),.v (.slice none 0 0)]:={}
instance:TyZA tp 129 [.v (.int .i64 0),.v (.int .i64 0),.v (.int .i64 0),.v (.int .i64 0),.v (.int .i64 0)]:={}
instance:Und tp 117 (.slice 3):={}
instance:Und tp 123 (.slice 3):={}
instance:Und tp 180 (.slice 116):={}
theorem vk {main:Bool} {T:Goroutine->Hp->Prop} (hT:zo tp main T)  {b:RBk} {s h e:Nat} (hl:b.seams.length<=100) (hm:b.measures.length<=100) :
  zA tp T gmR 24 [.agg (zE b s h e)] [(0,zy),(s,zk b),(h,zB b),(e,zq b)] (fun r K'=>r=intA (zr b)/\K'=[(0,zy),(s,zk b),(h,zB b),(e,zq b)]):=by
 refine zp 18 hT Tryz.func24 fun Y hret=>?_;refine au 21042 ?_;intro jb hjb;refine au 1303168042235 ?_;refine TK.loop ?_;refine au 923742 ?_;constructor<;>intro hc0
 ·
  refine au 421302120 ?_;refine bH Z (kR Z Z Z ArEl.h oQ oQ Z) ?_;refine au 44068014235 ?_;refine bD Z Z Z Z (zfn hT) ?_;rintro r1 K2 ⟨rfl,rfl⟩;refine au 93714235 ?_;constructor<;>intro hc1
  ·refine au 35142 ?_;refine bB hret [(0,_),(s,_),(h,_),(e,_)] ?_;exact ⟨by unfold zr; rw [if_pos (by simpa using hc1)],rfl⟩
  have q1:roundsM b=0:=by simpa using hc1
  have hr:=uk q1;refine au 312304140120 ?_;refine TK.inLoop ?_;refine au 923742 ?_;constructor<;>intro hc0
  ·
   refine au 421302120 ?_;refine bH Z (kR Z Z Z ArEl.h oQ oQ Z) ?_;refine au 44068014235 ?_;refine bD Z Z Z Z (zgv hT hr hl) ?_;rintro r4 K5 ⟨rfl,rfl⟩;refine au 93714235 ?_;constructor<;>intro hc1
   ·refine au 35142 ?_;refine bB hret [(0,_),(s,_),(h,_),(e,_)] ?_;exact ⟨by unfold zr; rw [if_neg (by simpa using q1),if_pos (by simpa using hc1)],rfl⟩
   have q2:seamsM b=0:=by simpa using hc1
   have hs:=uT q2;refine au 312304140120 ?_;refine TK.inLoop ?_;refine au 923742 ?_;constructor<;>intro hc0
   ·
    refine au 421302120 ?_;refine bH Z (kR Z Z Z ArEl.h oQ oQ Z) ?_;refine au 44068014235 ?_;refine bD Z Z Z Z (zeK hT hr hs) ?_;rintro r7 K8 ⟨rfl,rfl⟩;refine au 93714235 ?_;constructor<;>intro hc1
    ·refine au 35142 ?_;refine bB hret [(0,_),(s,_),(h,_),(e,_)] ?_;exact ⟨by unfold zr; rw [if_neg (by simpa using q1),if_neg (by simpa using q2),if_pos (by simpa using hc1)],rfl⟩
    have q3:clothsM b=0:=by simpa using hc1
    refine au 312304140120 ?_;refine TK.inLoop ?_;refine au 923742 ?_;constructor<;>intro hc0
    ·
     refine au 421302120 ?_;refine bH Z (kR Z Z Z ArEl.h oQ oQ Z) ?_;refine au 44068014235 ?_;refine bD Z Z Z Z (zdr hT hs hm) ?_;rintro r10 K11 ⟨rfl,rfl⟩;refine au 93714235 ?_;constructor<;>intro hc1
     ·refine au 35142 ?_;refine bB hret [(0,_),(s,_),(h,_),(e,_)] ?_;exact ⟨by unfold zr; rw [if_neg (by simpa using q1),if_neg (by simpa using q2),if_neg (by simpa using q3)],rfl⟩
     refine au 312304140120 ?_;refine TK.inLoop ?_;refine au 923742 ?_;constructor<;>intro hc0
     ·exact absurd hc0 dQ
     refine au 3542160 ?_;refine bB hret [(0,_),(s,_),(h,_),(e,_)] ?_;exact ⟨by unfold zr; rw [if_neg (by simpa using q1),if_neg (by simpa using q2),if_neg (by simpa using q3),show measM b=0 by simpa using hc1],rfl⟩
    exact absurd hc0 dQ
   exact absurd hc0 dQ
  exact absurd hc0 dQ
 exact absurd hc0 dQ
theorem kQ {main T} (hT:zo tp main T) {gm} {b:RBk} {s h e j:Nat} {l:List Int} {et:TypeId} (hs:b.seams.length<=5) (hl:l.length<=1000) :
  zA tp T gm 91 [.sl j 0 l.length,.agg (zE b s h e)] [(j,.cells (l.map intA) et false)] (fun r K'=>r=intA (cutsM b l)/\K'=[(j,.cells (l.map intA) et false)]):=by
 refine zp 36 hT Tryz.func91 fun Y hret=>?_;refine au 21042 ?_;intro jb hjb;refine au 937280142235 ?_;constructor<;>intro hc0
 ·refine au 3542 ?_;refine bB hret [(j,_)] ?_;exact ⟨by unfold cutsM; rw [if_pos (by simp at hc0; simp [hc0])],rfl⟩
 refine au 130312801422120 ?_;refine bA [0,3,4,11,12,13] ?_;refine bE (fun n env K=>∃ (i:Nat) (last:Option Int),n=l.length - i/\i<=l.length/\cutsL b last (l.drop i)=cutsM b l/\(0<i->last=some (zN l (i - 1)))/\(i=0->last=none)/\env=.sl j 0 l.length::naL 2 (.ptr jb 0::intA 0::naL 6 (.sl j 0 l.length::intA l.length::intA i::naL 22 []))/\K=[(jb,.cells (zE b s h e) 113 true),(j,.cells (l.map intA) et false)]) l.length ⟨0,none,rfl,mN _,by unfold cutsM; rw [if_neg (by simp at hc0; simp; omega)]; rfl,fun h=>absurd h (Nat.lt_irrefl _),fun _=>rfl,rfl,rfl⟩ fun n env K hI hnext=>?_;obtain ⟨i,last,rfl,hi,hinv,hlast,hlast0,rfl,rfl⟩:=hI;refine bG nQ ?_;refine au 923742 ?_;constructor<;>intro hc1
 ·have hil:i<l.length:=by simp at hc1; omega
  refine au 3601421302120 ?_;refine bH Z (zm Z Z zi.h mQ (yi (i:=i) (z6 hil) Z)) ?_;refine au 6801422355 ?_;refine bD Z Z Z Z (uo hT oQ) ?_;rintro r1 K2 ⟨rfl,rfl⟩;refine au 93714235 ?_;constructor<;>intro hc2
  ·refine au 35142 ?_;refine bB hret [(j,_)] ?_;exact ⟨by rw [<- hinv,zH (z6 hil),cutsL,if_pos (by simpa using hc2)],rfl⟩
  refine au 17142120 ?_;refine bF 26 (fun g9_3=>?_) (fun g9_3=>?_)
  ·have hi0:0<i:=by simp at g9_3; omega
   refine au 360240111 ?_;refine bH Z (zm Z Z zi.h mQ (yi (i:=i - 1) (z6 oQ) oQ)) ?_;refine au 932607 ?_;constructor<;>intro hc3
   ·refine au 3542 ?_;refine bB hret [(j,_)] ?_;exact ⟨by rw [<- hinv,zH (z6 hil),cutsL,if_neg (by simpa using hc2),if_pos (by obtain rfl:=hlast (by simp at g9_3; omega); exact hc3)],rfl⟩
   refine au 312304140120 ?_;refine bA [0,3,4,11,12,13] ?_;refine bC [(jb,_),(j,_)] ?_;exact hnext _ _ _ oQ ⟨i+1,some (zN l i),rfl,oQ,by rw [<- hinv,zH (z6 hil),cutsL,if_neg (by simpa using hc2),if_neg (by obtain rfl:=hlast (by simp at g9_3; omega); simpa [notAft] using hc3)],fun _=>rfl,fun h=>by omega,rfl,rfl⟩
  refine au 31230414012019032508888888 ?_;refine bA [0,3,4,11,12,13] ?_;refine bC [(jb,_),(j,_)] ?_;exact hnext _ _ _ oQ ⟨i+1,some (zN l i),rfl,oQ,by rw [<- hinv,zH (z6 hil),cutsL,if_neg (by simpa using hc2),if_neg (by obtain rfl:=hlast0 (by simp at g9_3; omega); simp [notAft])],fun _=>rfl,fun h=>by omega,rfl,rfl⟩
 obtain rfl:i=l.length:=by simp at hc1; omega
 refine au 3542160 ?_;refine bB hret [(j,_)] ?_;exact ⟨by rw [<- hinv,List.drop_length]; rfl,rfl⟩
theorem zdb {main T} (hT:zo tp main T) {gm} {b:RBk} {s h e j:Nat} {l:List Int} {et:TypeId} (hr:RndOk b) (hs:SmOk b) :
  zA tp T gm 99 [.sl j 0 l.length,.agg (zE b s h e)] [(s,zk b),(j,.cells (l.map intA) et false)] (fun r K'=>r=intA (shM b l)/\K'=[(s,zk b),(j,.cells (l.map intA) et false)]):=by
 refine zp 32 hT Tryz.func99 fun Y hret=>?_;refine au 0 ?_;have hs5:=hs.len;refine au 21042 ?_;intro jb hjb;refine au 937280690670670280142235 ?_;constructor<;>intro hc0
 ·refine au 3542 ?_;refine bB hret [(s,_),(j,_)] ?_;exact ⟨by unfold shM; rw [if_pos (by simp at hc0; omega)],rfl⟩
 have hle:l.length=b.seams.length:=by simp at hc0; omega
 refine au 130312801422120 ?_;refine bA [0,3,4,14,15,16] ?_;refine bE (fun n env K=>∃ (i:Nat),n=l.length - i/\i<=l.length/\shL b i (l.drop i)=shM b l/\env=.sl j 0 l.length::naL 2 (.ptr jb 0::intA 0::naL 9 (.sl j 0 l.length::intA l.length::intA i::naL 15 []))/\K=[(jb,.cells (zE b s h e) 113 true),(s,zk b),(j,.cells (l.map intA) et false)]) l.length ⟨0,rfl,mN _,by unfold shM; rw [if_neg (by simpa using hle)]; rfl,rfl,rfl⟩ fun n env K hI hnext=>?_;obtain ⟨i,rfl,hi,hinv,rfl,rfl⟩:=hI;refine bG nQ ?_;refine au 923742 ?_;constructor<;>intro hc1
 ·have hil:i<l.length:=by simp at hc1; omega
  refine au 3601421302120 ?_;refine bH Z (zm Z Z zi.h mQ (yi (i:=i) (z6 hil) Z)) ?_;refine au 142130355 ?_;refine bD Z Z Z Z (yy hT) ?_;rintro r1 K2 ⟨rfl,rfl⟩;refine au 935300 ?_;constructor<;>intro hc2
  ·refine au 3542 ?_;refine bB hret [(s,_),(j,_)] ?_;exact ⟨by rw [<- hinv,zH (z6 hil),shL,if_pos (by simpa using hc2)],rfl⟩
  refine au 1680142 ?_;refine bD Z Z Z Z (zbu hT (i:=i) hr hs oQ) ?_;rintro r4 K5 ⟨rfl,rfl⟩;refine au 9357 ?_;constructor<;>intro hc3
  ·refine au 3542 ?_;refine bB hret [(s,_),(j,_)] ?_;exact ⟨by rw [<- hinv,zH (z6 hil),shL,if_neg (by simpa using hc2),if_pos (of_decide_eq_true hc3)],rfl⟩
  refine au 312304140140120 ?_;refine bA [0,3,4,14,15,16] ?_;refine bC [(jb,_),(s,_),(j,_)] ?_;exact hnext _ _ _ oQ ⟨i+1,rfl,oQ,by rw [<- hinv,zH (z6 hil),shL,if_neg (by simpa using hc2),if_neg (of_decide_eq_false hc3)],rfl,rfl⟩
 obtain rfl:i=l.length:=by simp at hc1; omega
 refine au 3542160 ?_;refine bB hret [(s,_),(j,_)] ?_;exact ⟨by rw [<- hinv,List.drop_length]; rfl,rfl⟩
theorem ui {main:Bool} {T:Goroutine->Hp->Prop} (hT:zo tp main T)  {b:RBk} {s h e:Nat} {Kx:KV}  (hl:b.seams.length<=100) (hm:b.measures.length<=100)  :
  zA tp T gmR 90 [.agg (zE b s h e),.v (.slice none 0 0)] ((0,zy)::(s,zk b)::(h,zB b)::(e,zq b)::Kx) (fun r K'=>OpenR b s h e (zr b) r/\K'=(0,zy)::(s,zk b)::(h,zB b)::(e,zq b)::Kx):=by
 refine zp 34 hT Tryz.func90 fun Y hret=>?_;refine au 21042 ?_;intro jb hjb;refine au 220 ?_;intro jr hjr;refine au 68042235 ?_;refine bD Z Z Z Z (vk hT hl hm) ?_ (hs:=(.right (.right (.left (.left (.left (.left (.none _))))))));rintro r1 K2 ⟨rfl,rfl⟩;refine au 93714235 ?_;constructor<;>intro hc0
 ·refine au 35170144042 ?_;refine bB hret ((0,_)::(s,_)::(h,_)::(e,_)::Kx) ?_;exact ⟨.inr ⟨by exact (by simpa using hc0),by rfl⟩,rfl⟩
 have q0:zr b=0:=by simpa using hc0
 refine au 22044068042120 ?_;intro jx hjx;refine au 1303128014223170 ?_;refine TK.loop ?_;refine au 923742 ?_;constructor<;>intro hc1
 ·exact absurd hc1 dQ
 refine au 3517068042160 ?_;refine bB hret ((0,_)::(s,_)::(h,_)::(e,_)::Kx) ?_;exact ⟨.inl ⟨q0,rfl⟩,rfl⟩
theorem w8 {main:Bool} {T:Goroutine->Hp->Prop} (hT:zo tp main T)  {b:RBk} {s h e ja:Nat} {Kx:KV} {f1:AV} {p1:Int} (hl:b.seams.length<=100) (hm:b.measures.length<=100) (hf1:zr b=0->CallFK tp T gmR f1 [.agg (zE b s h e)] ((s,zk b)::Kx) (fun r K'=>r=intA p1/\K'=(s,zk b)::Kx)) :
  zA tp T gmR 90 [.agg (zE b s h e),.row ja 1] ((ja,.row [f1] 116 1)::(0,zy)::(s,zk b)::(h,zB b)::(e,zq b)::Kx) (fun r K'=>OpenR b s h e (bar2 (zr b) p1) r/\K'=(ja,.row [f1] 116 1)::(0,zy)::(s,zk b)::(h,zB b)::(e,zq b)::Kx):=by
 refine zp 34 hT Tryz.func90 fun Y hret=>?_;refine au 21042 ?_;intro jb hjb;refine au 220 ?_;intro jr hjr;refine au 68042235 ?_;refine bD Z Z Z Z (vk hT hl hm) ?_ (hs:=(.right (.right (.right (.left (.left (.left (.left (.none _)))))))));rintro r1 K2 ⟨rfl,rfl⟩;refine au 93714235 ?_;constructor<;>intro hc0
 ·refine au 35170144042 ?_;refine bB hret ((ja,_)::(0,_)::(s,_)::(h,_)::(e,_)::Kx) ?_;exact ⟨.inr ⟨by rw [vM (by simpa using hc0)]; exact (by simpa using hc0),by rw [vM (by simpa using hc0)]; rfl⟩,rfl⟩
 have q0:zr b=0:=by simpa using hc0
 refine au 22044068042120 ?_;intro jx hjx;refine au 1303128014223170 ?_;refine TK.loop ?_;refine au 923742 ?_;constructor<;>intro hc1
 ·
  refine au 68014235690370421302120 ?_;refine TK.callF' Z Z Z Z Z (hf1 q0) (.right (.right (.left (.right (.right (.right (.right (.right (.all _))))))))) fun r4 K5 h6=>?_;obtain ⟨rfl,rfl⟩:=h6;refine au 0 ?_;refine bN (K':=(jx,_)::(0,_)::(s,_)::(h,_)::(e,_)::(jr,_)::(jb,_)::(ja,_)::Kx) zbl ?_;refine au 93714235 ?_;constructor<;>intro hc2
  ·refine au 35170144042 ?_;refine bB hret ((ja,_)::(0,_)::(s,_)::(h,_)::(e,_)::Kx) ?_;exact ⟨.inr ⟨by rw [kG q0]; simpa using hc2,by rw [kG q0]; rfl⟩,rfl⟩
  have q1:p1=0:=by simpa using hc2
  refine au 312304140120 ?_;refine TK.inLoop ?_;refine au 923742 ?_;constructor<;>intro hc1
  ·exact absurd hc1 dQ
  refine au 3517068042160 ?_;refine bB hret ((ja,_)::(0,_)::(s,_)::(h,_)::(e,_)::Kx) ?_;exact ⟨.inl ⟨by rw [kG q0]; exact q1,rfl⟩,rfl⟩
 exact absurd hc1 dQ
theorem zaX {main:Bool} {T:Goroutine->Hp->Prop} (hT:zo tp main T)  {b:RBk} {s h e ja:Nat} {Kx:KV} {f1:AV} {p1:Int} {f2:AV} {p2:Int} (hl:b.seams.length<=100) (hm:b.measures.length<=100) (hf1:zr b=0->CallFK tp T gmR f1 [.agg (zE b s h e)] ((s,zk b)::Kx) (fun r K'=>r=intA p1/\K'=(s,zk b)::Kx)) (hf2:zr b=0->CallFK tp T gmR f2 [.agg (zE b s h e)] ((s,zk b)::Kx) (fun r K'=>r=intA p2/\K'=(s,zk b)::Kx)) :
  zA tp T gmR 90 [.agg (zE b s h e),.row ja 2] ((ja,.row [f1,f2] 116 1)::(0,zy)::(s,zk b)::(h,zB b)::(e,zq b)::Kx) (fun r K'=>OpenR b s h e (bar2 (zr b) (bar2 p1 p2)) r/\K'=(ja,.row [f1,f2] 116 1)::(0,zy)::(s,zk b)::(h,zB b)::(e,zq b)::Kx):=by
 refine zp 34 hT Tryz.func90 fun Y hret=>?_;refine au 21042 ?_;intro jb hjb;refine au 220 ?_;intro jr hjr;refine au 68042235 ?_;refine bD Z Z Z Z (vk hT hl hm) ?_ (hs:=(.right (.right (.right (.left (.left (.left (.left (.none _)))))))));rintro r1 K2 ⟨rfl,rfl⟩;refine au 93714235 ?_;constructor<;>intro hc0
 ·refine au 35170144042 ?_;refine bB hret ((ja,_)::(0,_)::(s,_)::(h,_)::(e,_)::Kx) ?_;exact ⟨.inr ⟨by rw [vM (by simpa using hc0)]; exact (by simpa using hc0),by rw [vM (by simpa using hc0)]; rfl⟩,rfl⟩
 have q0:zr b=0:=by simpa using hc0
 refine au 22044068042120 ?_;intro jx hjx;refine au 1303128014223170 ?_;refine TK.loop ?_;refine au 923742 ?_;constructor<;>intro hc1
 ·
  refine au 68014235690370421302120 ?_;refine TK.callF' Z Z Z Z Z (hf1 q0) (.right (.right (.left (.right (.right (.right (.right (.right (.all _))))))))) fun r4 K5 h6=>?_;obtain ⟨rfl,rfl⟩:=h6;refine au 0 ?_;refine bN (K':=(jx,_)::(0,_)::(s,_)::(h,_)::(e,_)::(jr,_)::(jb,_)::(ja,_)::Kx) zbl ?_;refine au 93714235 ?_;constructor<;>intro hc2
  ·refine au 35170144042 ?_;refine bB hret ((ja,_)::(0,_)::(s,_)::(h,_)::(e,_)::Kx) ?_;exact ⟨.inr ⟨by rw [kG q0,vM (by simpa using hc2)]; simpa using hc2,by rw [kG q0,vM (by simpa using hc2)]; rfl⟩,rfl⟩
  have q1:p1=0:=by simpa using hc2
  refine au 312304140120 ?_;refine TK.inLoop ?_;refine au 923742 ?_;constructor<;>intro hc1
  ·
   refine au 68014235690370421302120 ?_;refine TK.callF' Z Z Z Z Z (hf2 q0) (.right (.right (.left (.right (.right (.right (.right (.right (.all _))))))))) fun r7 K8 h9=>?_;obtain ⟨rfl,rfl⟩:=h9;refine au 0 ?_;refine bN (K':=(jx,_)::(0,_)::(s,_)::(h,_)::(e,_)::(jr,_)::(jb,_)::(ja,_)::Kx) zbl ?_;refine au 93714235 ?_;constructor<;>intro hc2
   ·refine au 35170144042 ?_;refine bB hret ((ja,_)::(0,_)::(s,_)::(h,_)::(e,_)::Kx) ?_;exact ⟨.inr ⟨by rw [kG q0,kG q1]; simpa using hc2,by rw [kG q0,kG q1]; rfl⟩,rfl⟩
   have q2:p2=0:=by simpa using hc2
   refine au 312304140120 ?_;refine TK.inLoop ?_;refine au 923742 ?_;constructor<;>intro hc1
   ·exact absurd hc1 dQ
   refine au 3517068042160 ?_;refine bB hret ((ja,_)::(0,_)::(s,_)::(h,_)::(e,_)::Kx) ?_;exact ⟨.inl ⟨by rw [kG q0,kG q1]; exact q2,rfl⟩,rfl⟩
  exact absurd hc1 dQ
 exact absurd hc1 dQ
theorem un {main T} (hT:zo tp main T) {gm} {j:Nat} {l:List Int} {et:TypeId} (h5:l.length<=5) (h0:0<l.length) :
  zA tp T gm 101 [.sl j 0 l.length] [(j,.cells (l.map intA) et false)] (fun r K'=>r=.agg (stC l)/\K'=[(j,.cells (l.map intA) et false)]):=by
 refine zp 8 hT Tryz.func101 fun Y hret=>?_;refine au 22042 ?_;intro jr hjr;refine au 220423 ?_;intro ja hja;refine au 423 ?_;refine bH Z (zev Z Z ArEl.h Z Z oQ oQ Z) ?_;refine au 1 ?_;refine TK.st Z Z Z (ziB Z Z zF.h (vv mQ oQ (zfu h0)) h0 h5 mQ (zgw h5 _ h0)) uQ (zu Z tQ) ?_;refine au 3170680423 ?_;refine bB hret [(j,_)] ?_;exact ⟨rfl,rfl⟩
theorem zcn {main T} (hT:zo tp main T) {gm} {b:RBk} {s h e:Nat} {l:List Int} (hb:ROk b) (hl:StOk b l) :
  zA tp T gm 133 [.agg (zE b s h e),.agg (stC l)] [] (fun r K'=>r=intA (freshM b l)/\K'=[]):=by
 refine zp 24 hT Tryz.func133 fun Y hret=>?_;refine au 0 ?_;have f0:=hl.slot hb 0;have f1:=hl.slot hb 1;have f2:=hl.slot hb 2;have f3:=hl.slot hb 3;have f4:=hl.slot hb 4;have hst:=hb.rnd.steps;have hrd:=hb.rnd.round;refine au 21042 ?_;intro jb hjb;refine au 210 ?_;intro js hjs;refine au 13031680422352406906706706906706704235 ?_;refine TK.loop ?_;refine au 923742 ?_;constructor<;>intro hc0
 ·
  refine au 421302120 ?_;refine bH Z (kR Z Z Z ArEl.h oQ oQ Z) ?_;refine au 3123041403523011435 ?_;refine TK.inLoop ?_;refine au 923742 ?_;constructor<;>intro hc0
  ·
   refine au 421302120 ?_;refine bH Z (kR Z Z Z ArEl.h oQ oQ Z) ?_;refine au 3123041403523011435 ?_;refine TK.inLoop ?_;refine au 923742 ?_;constructor<;>intro hc0
   ·
    refine au 421302120 ?_;refine bH Z (kR Z Z Z ArEl.h oQ oQ Z) ?_;refine au 3123041403523011435 ?_;refine TK.inLoop ?_;refine au 923742 ?_;constructor<;>intro hc0
    ·
     refine au 421302120 ?_;refine bH Z (kR Z Z Z ArEl.h oQ oQ Z) ?_;refine au 3123041403523011435 ?_;refine TK.inLoop ?_;refine au 923742 ?_;constructor<;>intro hc0
     ·
      refine au 421302120 ?_;refine bH Z (kR Z Z Z ArEl.h oQ oQ Z) ?_;refine au 3123041403523011435 ?_;refine TK.inLoop ?_;refine au 923742 ?_;constructor<;>intro hc0
      ·exact absurd hc0 dQ
      refine au 35142160 ?_;refine bB hret [] ?_;exact ⟨by show intA _=intA _; unfold freshM; congr 1; omega,rfl⟩
     exact absurd hc0 dQ
    exact absurd hc0 dQ
   exact absurd hc0 dQ
  exact absurd hc0 dQ
 exact absurd hc0 dQ
end Go.Vel
namespace Go.Vel
open Go Go.Conc
section
variable {P:Program} {gm:Nat->Option Nat} {V:KV} {env:List AV} {o:Oper} {r:AV}
theorem zen {t e:TypeId} {ti:TypeInfo} {z:Value} {x y:Operand} {n:Nat} (ho:o.op=.makeSlice t x y) (hx:zn gm env x=some (.v (.int .i64 n))) (hy:zn gm env y=some (.v (.int .i64 n))) (ht:P.underlying t=some (.slice e)) (hi:P.info? e=some ti) (hz:ti.zero=some z) (hzc:z.cells=#[.int .i64 0]) (hs:ti.size=1) (hb:ti.bytes=8) (h0:0<n) (hn:n<=1000) :
  Nk P gm env V o (fun j=>.sl j 0 n) (.cells (mB n (.v (.int .i64 0))) e true):=fun A _ φ F H a hg hH hE=>by
 unfold execOp; rw [ho]; dsimp only;have hx':=zz hg hE x;rw [zx hx] at hx';have hy':=zz hg hE y;rw [zx hy] at hy';rw [inv_v hx',inv_v hy'];refine wpS_v ?_;unfold Instr.makeSlice;refine zd _ _ _ (zC ht ?_);dsimp only;refine zd _ _ _ ?_
 change wpS P (pure (n:Int)) H _
 rw [yZ];refine zd _ _ _ ?_
 change wpS P (pure (n:Int)) H _
 rw [yZ];refine zd _ _ _ (ky hi ?_);have hw:IntKind.i64.wrap (n:Int)=n:=we oQ;rw [hw,hb];have hf:((decide ((n:Int)<0)||decide (((8:Nat):Int)*(n:Int)>2 ^ 48))||decide ((n:Int)<0)||decide ((n:Int)>(n:Int)))=false:=by
  have h1:decide ((n:Int)<0)=false:=decide_eq_false oQ;have h2:decide (((8:Nat):Int)*(n:Int)>2 ^ 48)=false:=decide_eq_false oQ;have h3:decide ((n:Int)>(n:Int))=false:=decide_eq_false oQ;rw [h1,h2,h3]; rfl
 rw [if_neg (by rw [hf]; decide)];have hroom:∀ (b:Nat) (Q:Unit->Hp->Prop),Q () H->wpS P (askRoom b) H Q:=fun b Q hq=>by
  unfold askRoom;split
  ·exact ⟨.inl rfl,hq⟩
  ·exact hq
 refine zd _ _ _ (hroom _ _ ?_);refine zd _ _ _ (yh hi ?_);rw [hs,mZ,Nat.mul_one,if_neg oQ];refine zd _ _ _ (y7 hi hz ?_);unfold newRow;refine zd _ _ _ ?_;rw [yZ];refine zd _ _ _ ?_;refine zd _ _ _ fun b hb=>?_;have hz1:∀ i:Nat,z.cells[i % z.cells.size]! =.int .i64 0:=fun i=>by
  rw [hzc];show (#[Value.int IntKind.i64 0])[i % 1]! =_;rw [Nat.mod_one]; rfl
 show zV φ A F (.sl A.length 0 n) (A++[.cells (mB n (.v (.int .i64 0))) e true]) (.value (.slice (some ⟨b,0,none⟩) n n)) (H.put b (true,.cells _ e (0,0)));refine ⟨_,upd3 φ A.length ⟨b,0,0⟩,.inl rfl,ym _ _ _,by simp,hH.push hb Z ?_,?_⟩
 ·refine fun _=>⟨true,_,_,Hp.put_same _ _ _,fun _=>⟨⟨rfl,rfl⟩,by simp [upd3],by simp⟩,fun j u hu=>?_⟩;obtain ⟨hj,rfl⟩:=lD.1 hu;rw [List.getElem_replicate];rw [List.length_replicate] at hj;refine ⟨.int .i64 0,?_,.v _⟩;rw [Nat.zero_add,Array.getElem?_map,Array.getElem?_range,if_pos hj,Option.map_some,hz1]
 ·refine .sl sQ (mL _) fun _=>?_;simp [upd3]
theorem zdN {t e:TypeId} {x y:Operand} {n:Nat} (ho:o.op=.makeSlice t x y) (hx:zn gm env x=some (.v (.int .i64 n))) (hy:zn gm env y=some (.v (.int .i64 n))) (ha:apOf P t=some (e,1,8)) (hz:tyZero P e=some [.int .i64 0]) (h0:0<n) (hn:n<=1000) :
  Nk P gm env V o (fun j=>.sl j 0 n) (.cells ((mB n (0:Int)).map fun a=>.v (.int .i64 a)) e true):=by
 rw [List.map_replicate];unfold apOf at ha;split at ha
 ·rename_i e' h1;split at ha
  ·rename_i ti h2;split at ha
   ·rename_i z h3;split at ha
    ·rename_i h4;simp only [Option.some.injEq,Prod.mk.injEq] at ha;obtain ⟨rfl,h5,h6⟩:=ha;obtain ⟨i,z',g1,g2,g3⟩:=kX hz;rw [h2] at g1;cases g1;rw [h3] at g2;cases g2;exact zen ho hx hy h1 h2 h3 (by rw [<- Array.toList_inj,g3]) h5 h6 h0 hn
    ·cases ha
   ·cases ha
  ·cases ha
 ·cases ha
variable {T:Goroutine->Hp->Prop} {Y:KX P gm T} {ds:List Nat} {k:List Item} {K K':KV} {ops:Array Oper} {L:List Nat} {pend:List Pd}
theorem TD.perm (hp:K.Perm K') (h:TD Y ds ops k pend L env K'):TD Y ds ops k pend L env K:=fun h1 h2 h3 A hA=>h h1 h2 (fun p hp' x hx=>hp.subset (h3 p hp' x hx)) A
 ⟨hA.view.sub fun x hx=>hp.symm.subset hx,(zT hp).nodup_iff.1 hA.nd,fun i hi=>hA.own i ((zT hp).symm.subset hi),hA.kept,hA.len⟩
end
theorem zc7 (xs:List AV) (k:Nat) (v:AV) (h:k<xs.length):setL xs k [v]=xs.set k v:=rfl
theorem vU {xs:List Int} {k:Nat} {n v:Int} {e:TypeId} (h:k<xs.length) (hn:n=(k:Int)):putO (.cells (xs.map intA) e true) (0+n.toNat*1) [intA v]=some (.cells ((xs.set k v).map intA) e true):=by
 subst hn;unfold putO;dsimp only;rw [if_pos ⟨by simp; omega,by simp,rfl⟩,zc7 _ _ _ (by simp; omega),List.map_set];simp
def dataM (S T:List Int) (x:Int) (j:Nat):List Int:=S.take j++x::(S.drop j++T)
theorem zaa {S T:List Int} {x:Int} {j:Nat} (h:j<=S.length):(dataM S T x j)[j]? =some x:=by
 unfold dataM;rw [List.getElem?_append_right (by simp; omega)];simp [Nat.min_eq_left h]
theorem vy {S T:List Int} {x:Int} {j:Nat} (h:j+1<=S.length):(dataM S T x (j+1))[j]? =S[j]? :=by
 unfold dataM;rw [List.getElem?_append_left (by simp; omega),List.getElem?_take,if_pos oQ]
theorem zcj {S T:List Int} {x:Int} {j:Nat}:(dataM S T x j).length=S.length+T.length+1:=by
 unfold dataM;simp;omega
theorem zbC {S T:List Int} {x y:Int} {j:Nat} (h:S[j]? =some y):((dataM S T x (j+1)).set (j+1) y).set j x=dataM S T x j:=by
 obtain ⟨h1,rfl⟩:=lD.1 h;unfold dataM;have e1:S.take (j+1)=S.take j++[S[j]]:=by rw [List.take_add_one,h]; rfl
 have e2:S.drop j=S[j]::S.drop (j+1):=List.drop_eq_getElem_cons h1;have l1:(S.take j).length=j:=by simp; omega
 rw [e1,e2];have:(S.take j++[S[j]]++x::(S.drop (j+1)++T)).set (j+1) S[j]=S.take j++S[j]::S[j]::(S.drop (j+1)++T):=by
  rw [List.append_assoc,List.set_append_right _ _ oQ,l1];simp
 rw [this,List.set_append_right _ _ oQ,l1,Nat.sub_self];rfl
theorem zck (S T:List Int) (x:Int):dataM S T x S.length=S++x::T:=by
 unfold dataM;simp
theorem vz {lt:Int->Int->Bool} {x:Int} {S T:List Int} {j:Nat} (h:j<=S.length) (hj:∀ i y,j=i+1->S[i]? =some y->lt x y=false):dataM S T x j=insJ lt x S j++T:=by
 unfold dataM;cases j with
 | zero=>simp [insJ]
 | succ i =>
  have hi:i<S.length:=by omega
  have e:S[i]? =some S[i]:=lA hi;unfold insJ;rw [e];dsimp only;rw [if_neg (by rw [hj i _ rfl e]; decide)];simp
theorem zdJ {lt:Int->Int->Bool} {x y:Int} {S:List Int} {j:Nat} (h:S[j]? =some y) (hl:lt x y=true):insJ lt x S (j+1)=insJ lt x S j:=by
 conv=>lhs; unfold insJ
 rw [h];dsimp only;rw [if_pos hl]
theorem wD {lt:Int->Int->Bool} {l:List Int} {i:Nat} {x:Int} (h:l[i]? =some x):sortN lt l (i+1)=insJ lt x (sortN lt l i) (sortN lt l i).length:=by
 conv=>lhs; unfold sortN
 rw [h]; rfl
theorem zcz {lt:Int->Int->Bool} {x:Int} {S:List Int}:∀ j,j<=S.length->∀ z,z∈insJ lt x S j↔z=x\/z∈S
 | 0,_,z=>by simp [insJ]
 | j+1,h,z=>by
  have e:S[j]? =some S[j]:=lA oQ;unfold insJ;rw [e];dsimp only;split
  ·exact zcz j oQ z
  ·rw [lT,List.mem_cons];have:z∈S↔z∈S.take (j+1)\/z∈S.drop (j+1):=by rw [<- lT,List.take_append_drop]
   rw [this]
   grind
theorem uU {lt:Int->Int->Bool} {l:List Int}:∀ i,i<=l.length->∀ z∈sortN lt l i,z∈l
 | 0,_,z,hz=>by simp [sortN] at hz
 | i+1,h,z,hz=>by
  have e:l[i]? =some l[i]:=lA oQ;rw [wD e,zcz _ (mL _)] at hz;rcases hz with rfl | hz
  ·exact List.getElem_mem _
  ·exact uU i oQ z hz
theorem zg8 {n i:Nat} (h:i<n):(idxM i++mB (n - i) 0).set i (i:Int)=idxM (i+1)++mB (n - (i+1)) 0:=by
 have l1:(idxM i).length=i:=by simp [idxM]
 rw [List.set_append_right _ _ oQ,l1,Nat.sub_self,show n - i=(n - (i+1))+1 by omega,List.replicate_succ,List.set_cons_zero];unfold idxM;rw [List.range_succ,lM,List.append_assoc];rfl
theorem zbj {n:Nat} {z:Int} (h:z∈idxM n):0<=z/\z<n:=by
 unfold idxM at h;obtain ⟨k,hk,rfl⟩:=List.mem_map.1 h;rw [List.mem_range] at hk;omega
theorem zdP {b:RBk} {l:List Int} {z:Int} (h:z∈ordM b l):0<=z/\z<l.length:=zbj (uU _ (mL _) z h)
theorem zhs (b:RBk) (l:List Int):(ordM b l).length=l.length:=by
 unfold ordM sortR;rw [wW _ _ (mL _)];simp [idxM]
theorem zaI {b:RBk} (hb:ROk b) {l:List Int} (hl:CutsOk b l):∀ i,i<=l.length->0<=spoilM b l i/\spoilM b l i<=9*i
 | 0,_=>by simp [spoilM]
 | i+1,h=>by
  have h1:=zaI hb hl i oQ;have h2:=hb.sms.fld _ (hl.lt (k:=i) oQ).2.2;unfold spoilM cutS;omega
end Go.Vel
namespace Go.Vel
open Go Go.Conc Go.Proofs
instance:ApOf tp 30 96 2 16:={}
instance:BlOf tp 96 [(0,1),(1,1)]:={}
instance:Cal tp 92:={}
instance:EqG tp 96:={}
instance:FlatF tp 96 [(3,0),(3,1)]:={}
instance:zl tp 94 4 4 false 1:={}
instance:zl tp 96 0 0 false 1:={}
instance:zl tp 96 1 1 false 1:={}
instance:zF tp 30 96 2:={}
instance:zi tp 96 true 2:={}
instance:TyZ tp 96 [.int .i64 0,.int .i64 0]:={}
instance:TyZA tp 96 [.v (.int .i64 0),.v (.int .i64 0)]:={}
instance:Und tp 30 (.slice 96):={}
theorem zbX {main T} (hT:zo tp main T) {gm} {b:RBk} {s h e j:Nat} {l:List Int} {et:TypeId} (hb:ROk b) (hl:CutsOk b l) :
  zA tp T gm 92 [.agg (zE b s h e),.sl j 0 l.length] [(s,zk b),(j,.cells (l.map intA) et false)] (fun r K'=>∃ jr,r=.row jr l.length/\K'=[(jr,.row ((stripsM b l).flatMap pairC) 96 2),(s,zk b),(j,.cells (l.map intA) et false)]):=by
 refine zp 61 hT Tryz.func92 fun Y hret=>?_;refine au 0 ?_;have hp0:=hl.pos;have hs5:=hb.sms.len;have hst:=hb.rnd.steps;have hl5:=hl.len;have q0:=hl.lt hl.pos;have f0:=hb.sms.fld _ q0.2.2;refine au 21042 ?_;intro jb hjb;refine au 54235 ?_;refine TK.virt 5 96 2 Z fun jr0 hjr0=>?_;refine au 1303128014223 ?_;refine bA [1,2,5,9,10,11] ?_;refine bE (fun n env K=>∃ (i jr:Nat),n=l.length - i/\i<=l.length/\env=.any::.sl j 0 l.length::.ptr jb 0::naL 2 (.row jr i::naL 3 (.sl j 0 l.length::intA l.length::intA i::naL 49 []))/\K=[(jr,.row (((List.range i).map (stripM b l)).flatMap pairC) 96 2),(jb,.cells (zE b s h e) 113 true),(s,zk b),(j,.cells (l.map intA) et false)]) l.length ⟨0,jr0,rfl,mN _,rfl,rfl⟩ fun n env K hI hnext=>?_;obtain ⟨i,jr,rfl,hi,rfl,rfl⟩:=hI;have hpl:=zgn b l i;refine bG nQ ?_;refine au 923742 ?_;constructor<;>intro hc0
 ·have hil:i<l.length:=by simp at hc0; omega
  have qi:=hl.lt hil;have fi:=hb.sms.fld _ qi.2.2;refine au 3601421302120 ?_;refine bH Z (zm Z Z zi.h mQ (yi (i:=i) (z6 hil) Z)) ?_;refine au 2355 ?_;refine bL [0,1,2,3,4,5,6,7,8,9,10,11,12,13] ?_;refine ad [[3,2],[3,16],[10,17],[1,1],[2,19]] ?_;refine bT [20] Z (hq:=zm Z Z zi.h (mC _) (yi (i:=0) (z6 hl.pos) Z)) (h:=?_);refine ad [[2,18,21],[3,22]] ?_;refine bT [23] Z (hq:=zm Z Z zi.h (mC _) (yn (c:=0) (sm_at b (i:=(zN l 0).toNat) q0.2.2 oQ) dQ Z)) (h:=?_);refine ad [[3,2],[3,25],[10,26],[8,24,27],[13,28],[14]] ?_;refine au 93728012301422 ?_;constructor<;>intro hc1
  ·have hlt:i+1<l.length:=by simp at hc1; omega
   have qn:=hl.lt hlt;have fn:=hb.sms.fld _ qn.2.2;refine bL [0,1,2,3,4,5,6,7,8,9,10,11] ?_;refine ad [[3,2],[3,34],[10,35],[1,1],[1,6],[8,38],[2,37,39]] ?_;refine bT [40] Z (hq:=zm Z Z zi.h (mC _) (yi (i:=i+1) (z6 hlt) Z)) (h:=?_);refine ad [[2,36,41],[3,42]] ?_;refine bT [43] Z (hq:=zm Z Z zi.h (mC _) (yn (c:=0) (sm_at b (i:=(zN l (i+1)).toNat) qn.2.2 oQ) dQ Z)) (h:=?_);refine ad [[13,44],[14]] ?_;refine au 67036016906706701114 ?_;refine bH Z (zm Z Z zi.h mQ (yn (c:=0) (sm_at b (i:=(zN l i).toNat) qi.2.2 oQ) dQ Z)) ?_;refine au 390240 ?_;refine bI Z Z Z (zt (l:=[_,_]) Z zF.h TyZ.h dQ dQ Z) (fun _=>zu rfl tQ) fun j1 hj1=>?_;refine bO Z Z Z (a_app Z ApOf.h Z mQ oQ Z (yw (ln:=[_,_]) mQ dQ sQ Z) oQ Z (by unfold maxLen; omega) oQ) (fun _=>uQ) (fun _=>zu rfl tQ) fun jr2=>?_;refine au 31230414035 ?_;refine bA [1,2,5,9,10,11] ?_;refine bC [(jr2,_),(jb,_),(s,_),(j,_)] ?_;exact hnext _ _ _ oQ ⟨i+1,jr2,rfl,oQ,rfl,by rw [zbQ]; simp only [stripM,endM,if_pos hlt]; rfl⟩
  have hlt:¬ i+1<l.length:=by simp at hc1; omega
  refine au 67036016906706701114120 ?_;refine bH Z (zm Z Z zi.h mQ (yn (c:=0) (sm_at b (i:=(zN l i).toNat) qi.2.2 oQ) dQ Z)) ?_;refine au 390240 ?_;refine bI Z Z Z (zt (l:=[_,_]) Z zF.h TyZ.h dQ dQ Z) (fun _=>zu rfl tQ) fun j2 hj2=>?_;refine bO Z Z Z (a_app Z ApOf.h Z mQ oQ Z (yw (ln:=[_,_]) mQ dQ sQ Z) oQ Z (by unfold maxLen; omega) oQ) (fun _=>uQ) (fun _=>zu rfl tQ) fun jr2=>?_;refine au 31230414035 ?_;refine bA [1,2,5,9,10,11] ?_;refine bC [(jr2,_),(jb,_),(s,_),(j,_)] ?_;exact hnext _ _ _ oQ ⟨i+1,jr2,rfl,oQ,rfl,by rw [zbQ]; simp only [stripM,endM,if_neg hlt]; rfl⟩
 obtain rfl:i=l.length:=by simp at hc0; omega
 refine au 35142160 ?_;refine bB hret [(jr,_),(s,_),(j,_)] ?_;exact ⟨jr,rfl,rfl⟩
theorem zdG {main T} (hT:zo tp main T) {gm} {b:RBk} {s h e j:Nat} {l:List Int} {et:TypeId} (hb:ROk b) (hl:CutsOk b l) :
  zA tp T gm 95 [.agg (zE b s h e),.sl j 0 l.length] [(s,zk b),(j,.cells (l.map intA) et false)] (fun r K'=>r=zP (fitsM b l)/\K'=[(s,zk b),(j,.cells (l.map intA) et false)]):=by
 refine zp 60 hT Tryz.func95 fun Y hret=>?_;refine au 0 ?_;have hp0:=hl.pos;have hs5:=hb.sms.len;have hst:=hb.rnd.steps;have hl5:=hl.len;have q0:=hl.lt hl.pos;have f0:=hb.sms.fld _ q0.2.2;refine au 21042 ?_;intro jb hjb;refine au 937690670670280142235 ?_;constructor<;>intro hc0
 ·refine au 3542 ?_;refine bB hret [(s,_),(j,_)] ?_;exact ⟨by rw [show fitsM b l=false by unfold fitsM; rw [show decide ((l.length:Int)<=b.rolls)=false by simp at hc0; simp; omega]; rfl],rfl⟩
 refine au 2120 ?_;refine bL [0,1,2,3,4,5,6,7,8] ?_;refine ad [[1,1],[2,14]] ?_;refine bT [15] Z (hq:=zm Z Z zi.h (mC _) (yi (i:=0) (z6 hl.pos) Z)) (h:=?_);refine ad [[3,2],[3,17],[10,18]] ?_;refine bU [16,19] Z (yE (l:=[_,_]) Z TyZ.h BlOf.h Z) ?_;refine bX (pend':=[⟨6,[16,19],[]⟩,⟨5,[18],[(_,_)]⟩,⟨4,[17],[]⟩,⟨3,[2],[]⟩,⟨2,[15],[(_,_)]⟩,⟨1,[14],[]⟩,⟨0,[1],[]⟩]) [] Z Z Z Z Z (yL Z TyZA.h) (fun _=>zu rfl tQ) sQ fun j5 hj5=>?_;refine bR (pend':=[]) [5,20] Z Z (zX Z Z zi.h Z Z mQ Z) ?_;refine ad [[14]] ?_;refine au 1680422 ?_;refine bD Z Z Z Z (zbX hT hb hl) ?_;rintro r1 K2 ⟨jr,rfl,rfl⟩;refine au 13031280 ?_;refine bA [2,4,5,23,24,25] ?_;refine bE (fun n env K=>∃ (i:Nat),n=l.length - i/\i<=l.length/\((List.range i).all fun k => !(cutS b l k).whole&&decide ((stripM b l k).2<=b.roll))=true/\env=naL 2 (.ptr jb 0::.any::zP false::.ptr j5 0::naL 17 (.row jr l.length::intA l.length::intA i::naL 34 []))/\K=[(jr,.row ((stripsM b l).flatMap pairC) 96 2),(s,zk b),(j,.cells (l.map intA) et false),(j5,.cells [intA (zN l 0),intA b.steps] 96 true),(jb,.cells (zE b s h e) 113 true)]) l.length ⟨0,rfl,mN _,rfl,rfl,rfl⟩ fun n env K hI hnext=>?_;obtain ⟨i,rfl,hi,hall,rfl,rfl⟩:=hI;refine bG nQ ?_;refine au 923742 ?_;constructor<;>intro hc1
 ·have hil:i<l.length:=by simp at hc1; omega
  have qi:=hl.lt hil;have hsi:(stripM b l i).1=zN l i:=rfl;have fi:=hb.sms.fld _ qi.2.2;refine au 370421302120 ?_;refine bH Z (ya Z Z zi.h mQ (zbp (c:=2) (f:=pairC) (fun _=>rfl) (zft hil) rfl dQ)) ?_;refine au 220 ?_;intro j7 hj7;refine au 670360690670690670670423170 ?_;refine bH Z (zm Z Z zi.h mQ (yn (c:=4) (sm_at b (i:=(zN l i).toNat) qi.2.2 oQ) dQ Z)) ?_;refine au 1 ?_;refine bF 37 (fun g7_9=>?_) (fun g7_9=>?_)
  ·refine au 354218032608888881260888888888888 ?_;refine bB hret [(s,_),(j,_)] ?_;exact ⟨by rw [zaQ hil (.inl g7_9)],rfl⟩
  have g7_9:(cutS b l i).whole=false:=g7_9;refine au 680680 ?_;refine bH Z (zcX Z Z Z Z Z FlatF.h EqG.h) ?_;refine au 1 ?_;refine bF 41 (fun g7_13=>?_) (fun g7_13=>?_)
  ·refine au 12502607690670670690670670 ?_;refine bF 51 (fun g7_23=>?_) (fun g7_23=>?_)
   ·refine au 35421803260888888 ?_;refine bB hret [(s,_),(j,_)] ?_;exact ⟨by rw [zaQ hil (.inr (by simp [stripM] at g7_13 g7_23; show b.roll<_; simp only [stripM]; omega))],rfl⟩
   refine au 932507690670670690670 ?_;constructor<;>intro hc2
   ·refine au 3542 ?_;refine bB hret [(s,_),(j,_)] ?_;exact ⟨by rw [zaQ hil (.inr (of_decide_eq_true hc2))],rfl⟩
   refine au 312304140120 ?_;refine bA [2,4,5,23,24,25] ?_;refine bC [(jr,_),(s,_),(j,_),(j5,_),(jb,_)] ?_;exact hnext _ _ _ oQ ⟨i+1,rfl,oQ,by rw [List.range_succ,List.all_append,hall]; simp [g7_9,show (stripM b l i).2<=b.roll from Int.not_lt.1 (of_decide_eq_false hc2)],rfl,rfl⟩
  refine au 93250769067067069067012502508888888 ?_;constructor<;>intro hc2
  ·refine au 3542 ?_;refine bB hret [(s,_),(j,_)] ?_;exact ⟨by rw [zaQ hil (.inr (of_decide_eq_true hc2))],rfl⟩
  refine au 312304140120 ?_;refine bA [2,4,5,23,24,25] ?_;refine bC [(jr,_),(s,_),(j,_),(j5,_),(jb,_)] ?_;exact hnext _ _ _ oQ ⟨i+1,rfl,oQ,by rw [List.range_succ,List.all_append,hall]; simp [g7_9,show (stripM b l i).2<=b.roll from Int.not_lt.1 (of_decide_eq_false hc2)],rfl,rfl⟩
 obtain rfl:i=l.length:=by simp at hc1; omega
 refine au 3542160 ?_;refine bB hret [(s,_),(j,_)] ?_;exact ⟨by rw [show fitsM b l=true by unfold fitsM; rw [hall,show decide ((l.length:Int)<=b.rolls)=true by simp at hc0; simp; omega]; rfl],rfl⟩
theorem zb0 {n:Nat} (h:n<256):IntKind.u64.wrap (n:Int)=n:=by
 have:∀ n:Nat,n<256->IntKind.u64.wrap (n:Int)=n:=by decide +kernel
 exact this n h
theorem zgE {n:Nat} (h:n<256):IntKind.u8.wrap (n:Int)=n:=by
 have:∀ n:Nat,n<256->IntKind.u8.wrap (n:Int)=n:=by decide +kernel
 exact this n h
theorem zhL {s:ByteArray} {n:Nat} (hn:n<256) (h:s.size=256):s[n]? =some (s[n]'oQ):=getElem?_pos s n oQ
theorem zfC (c:UInt8):IntKind.i64.wrap (c.toNat:Int)=c.toNat:=we (by have:=c.toNat_lt; omega)
theorem zfH (c:UInt8) : -9223372036854775808<=0+(c.toNat:Int)/\0+(c.toNat:Int)<9223372036854775808:=by have:=c.toNat_lt; omega
theorem zdc {lt:Int->Int->Bool} {xs:List Int} (h:1<=xs.length):sortN lt xs 1++xs.drop 1=xs:=by
 cases xs with
 | nil=>simp at h
 | cons x r=>rfl
instance:Cal tp 161:={}
instance:Cal tp 163:={}
instance:Cal tp 198:={}
instance:Cal tp 199:={}
instance:zi tp 117 false 1:={}
instance:Und tp 211 (.int .u64):={}
instance:Und tp 5 (.int .u8):={}
instance:Und tp 9 .string:={}
theorem zf3 {main T} (hT:zo tp main T) {gm} {n:Nat} (hn:n<256) :
  zA tp T gm 198 [.v (.int .u64 n)] [] (fun r K'=>∃ m:Int,r=intA m/\K'=[]):=by
 refine zp 25 hT Tryz.func198 fun Y hret=>?_;refine au 93714223542 ?_;constructor<;>intro hc0
 ·simp at hc0; omega
 refine au 9371422120 ?_;constructor<;>intro hc1
 ·simp at hc1; omega
 refine au 9371422120 ?_;constructor<;>intro hc2
 ·simp at hc2; omega
 refine au 1142120 ?_;refine bH Z (yV Z Z Und.h Und.h (zgE hn)) ?_;refine bH Z (zeu Z Z Z Und.h oQ (zhL hn Z)) ?_;refine bH Z (yV Z Z Und.h Und.h (zfC _)) ?_;refine bH Z (q_add Z Z Z (zfH _)) ?_;refine au 35 ?_;refine TK.rta hret ?_;exact ⟨_,rfl,rfl⟩
theorem zaM {main T} (hT:zo tp main T) {gm} {n:Nat} (hn:n<256) :
  zA tp T gm 161 [.v (.int .u64 n)] [] (fun r K'=>∃ m:Int,r=intA m/\K'=[]):=by
 refine zp 8 hT Tryz.func161 fun Y hret=>?_;refine au 14212019023542 ?_;refine bD Z Z Z Z (zf3 hT hn) ?_;rintro r1 K2 ⟨m,rfl,rfl⟩;refine au 35 ?_;refine TK.rta hret ?_;exact ⟨_,rfl,rfl⟩
theorem zek {main T} (hT:zo tp main T) {gm} {j n:Nat} {xs:List Int} {et:TypeId} {f:AV} {Kc:KV} {lt:Int->Int->Bool} (hn:xs.length=n) (h12:1<=n/\n<=12) (hg:∀ x∈xs,∀ y∈xs,CallFK tp T gm f [intA x,intA y] Kc (fun r K'=>(∃ c:Int,r=intA c/\decide (c<0)=lt x y)/\K'=Kc)) :
  zA tp T gm 199 [.sl j 0 n,intA 0,intA n,f] ((j,.cells (xs.map intA) et true)::Kc) (fun r K'=>K'=(j,.cells ((sortR lt xs).map intA) et true)::Kc):=by
 refine zp 53 hT Tryz.func199 fun Y hret=>?_;refine au 13035230142 ?_;refine bA [0,1,2,3,8] ?_;refine bE (fun n1 env K=>∃ (i:Nat),n1=n - i/\1<=i/\i<=n/\env=.sl j 0 n::intA 0::intA n::f::naL 4 (intA i::naL 44 [])/\K=(j,.cells ((sortN lt xs i++xs.drop i).map intA) et true)::Kc) (n - 1) ⟨1,rfl,mL _,h12.1,rfl,by rw [zdc oQ]⟩ fun n1 env K hI hnext=>?_;obtain ⟨i,rfl,hi1,hi,rfl,rfl⟩:=hI;refine bG nQ ?_;refine au 93711422 ?_;constructor<;>intro hc0
 ·have hil:i<n:=by simp at hc0; omega
  obtain ⟨x,hx⟩:∃ x,xs[i]? =some x:=⟨_,lA oQ⟩;have hSl:=wW (lt:=lt) xs i oQ;have hTl:(xs.drop (i+1)).length=n - (i+1):=by simp; omega
  have hxm:=lN hx;refine au 130351421302120 ?_;refine bA [0,1,2,3,8,9] ?_;refine bE (fun n1 env K=>∃ (p:Nat),n1=p/\p<=i/\insJ lt x (sortN lt xs i) p=insJ lt x (sortN lt xs i) (sortN lt xs i).length/\env=.sl j 0 n::intA 0::intA n::f::naL 4 (intA i::intA p::naL 43 [])/\K=(j,.cells ((dataM (sortN lt xs i) (xs.drop (i+1)) x p).map intA) et true)::Kc) i ⟨i,rfl,mL _,by rw [hSl],rfl,by have:=zck (sortN lt xs i) (xs.drop (i+1)) x; rw [hSl] at this; rw [this,<- zH hx]⟩ fun n1 env K hI hnext1=>?_;obtain ⟨p,hnp,hp,hins,rfl,rfl⟩:=hI;subst n1;have hdl:=zcj (S:=sortN lt xs i) (T:=xs.drop (i+1)) (x:=x) (j:=p);refine bG nQ ?_;refine au 22 ?_;refine bL [0,1,2,3,4,5,6,7,8,9,10,11,12,13,14,15,16] ?_;refine ad [[1,9],[1,1],[4,18,19],[1,20]] ?_;refine TD.sp 21 (fun g4_4=>?_) (fun g4_4=>?_)
  ·have hp0:0<p:=by simp at g4_4; omega
   obtain ⟨q,rfl⟩:∃ q,p=q+1:=⟨p - 1,oQ⟩;obtain ⟨y,hy⟩:∃ y,(sortN lt xs i)[q]? =some y:=⟨_,lA oQ⟩;have hym:=uU i oQ y (lN hy);refine ad [[1,3,21],[1,0,21],[1,9,21],[2,21,23,24]] ?_;refine bT [21,25] Z (hq:=zm Z Z zi.h (mC _) (yi (i:=q+1) (zaa oQ) Z)) (h:=?_);refine ad [[1,0,21],[1,9,21],[9,21,28],[2,21,27,29]] ?_;refine bT [21,30] Z (hq:=zm Z Z zi.h (mC _) (yi (i:=q) ((vy oQ).trans hy) oQ)) (h:=?_);refine TD.callF' (pend':=[⟨12,[21,27,29],[]⟩,⟨11,[21,28],[]⟩,⟨10,[9,21],[]⟩,⟨9,[0,21],[]⟩,⟨7,[21,23,24],[]⟩,⟨6,[9,21],[]⟩,⟨5,[0,21],[]⟩,⟨2,[18,19],[]⟩,⟨1,[1],[]⟩,⟨0,[9],[]⟩]) [21,22,26,31] Z Z Z Z Z Z Z (hg x hxm y hym) (.right (.all _)) fun r1 K2 h3=>⟨?_,?_⟩
   ·rcases h3 with ⟨⟨c,rfl,hlc⟩,hK⟩
    all_goals (rw [hK]; simp)
   obtain ⟨⟨c,rfl,hlc⟩,hK⟩:=h3;try simp only [cA]
   refine bS (zu Z tQ) ?_;rw [hK];refine TD.perm (K':=(j,_)::Kc) (List.perm_append_singleton _ _) ?_;refine ad [[4,21,32],[7,21,33],[14]] ?_;refine au 9 ?_;constructor<;>intro hc1
   ·have hlt:lt x y=true:=by rw [<- hlc]; exact hc1
    have hsw:=zbC (T:=xs.drop (i+1)) (x:=x) hy;refine au 1302120 ?_;refine bL [0,1,5,6,7,8,9,10,11,12,13,14,15,2,3,4,16,17] ?_;refine ad [[1,0],[1,9],[1,0],[1,9],[9,40],[1,0],[1,9],[9,43],[2,42,44]] ?_;refine bT [45] Z (hq:=zm Z Z zi.h (mC _) (yi (i:=q) ((vy oQ).trans hy) oQ)) (h:=?_);refine ad [[1,0],[1,9],[2,47,48]] ?_;refine bT [49] Z (hq:=zm Z Z zi.h (mC _) (yi (i:=q+1) (zaa oQ) Z)) (h:=?_);refine ad [[2,37,38]] ?_;refine bR (pend':=[⟨12,[47,48],[]⟩,⟨11,[9],[]⟩,⟨10,[0],[]⟩,⟨4,[40],[]⟩,⟨3,[9],[]⟩,⟨2,[0],[]⟩]) [46,51] Z Z (zX Z Z zi.h Z Z mQ (vU (k:=q+1) oQ Z)) ?_;refine ad [[2,39,41]] ?_;refine bR (pend':=[]) [50,52] Z Z (zX Z Z zi.h Z Z mQ (vU (k:=q) (by rw [List.length_set]; omega) oQ)) ?_;refine ad [[14]] ?_;refine au 3524014140 ?_;refine bA [0,1,2,3,8,9] ?_;refine bC (((j,_)::Kc)) ?_;exact hnext1 _ _ _ oQ ⟨q,rfl,oQ,by rw [<- hins,zdJ hy hlt],by rw [show ((q+1:Nat):Int) - 1=(q:Int) by omega]; rfl,by rw [hsw]⟩
   have hstop:=vz (lt:=lt) (x:=x) (S:=sortN lt xs i) (T:=xs.drop (i+1)) (j:=q+1) oQ (fun i1 y1 h1 h2=>by obtain rfl:q=i1:=oQ; rw [hy] at h2; cases h2; rw [<- hlc]; exact hc1);rw [hins] at hstop;refine au 3523014140160 ?_;refine bA [0,1,2,3,8] ?_;refine bC (((j,_)::Kc)) ?_;exact hnext _ _ _ oQ ⟨i+1,rfl,oQ,oQ,rfl,by rw [wD hx,<- hstop]⟩
  obtain rfl:p=0:=by simp at g4_4; omega
  have hstop:=vz (lt:=lt) (x:=x) (S:=sortN lt xs i) (T:=xs.drop (i+1)) (j:=0) (mN _) (fun i y h=>by omega);rw [hins] at hstop;refine ad [[11,3,21],[11,0,21],[11,9,21],[11,21,23,24],[11,21,25],[11,0,21],[11,9,21],[11,21,28],[11,21,27,29],[11,21,30],[11,21,22,26,31],[11,21,32],[6,21,33],[14]] ?_;refine au 3523014140160190 ?_;refine bA [0,1,2,3,8] ?_;refine bC (((j,_)::Kc)) ?_;exact hnext _ _ _ oQ ⟨i+1,rfl,oQ,oQ,rfl,by rw [wD hx,<- hstop]⟩
 obtain rfl:i=n:=by simp at hc0; omega
 have hfin:(j,AObj.cells ((sortN lt xs i++xs.drop i).map intA) et true)::Kc=(j,.cells ((sortN lt xs xs.length).map intA) et true)::Kc:=by rw [hn,List.drop_eq_nil_of_le oQ,lR]
 refine au 160 ?_;refine TK.rt0 hret (((j,_)::Kc)) ?_;rw [show sortR lt xs=sortN lt xs xs.length from rfl];exact hfin
theorem ziw {main T} (hT:zo tp main T) {gm} {lim:Int} {j n:Nat} {xs:List Int} {et:TypeId} {f:AV} {Kc:KV} {lt:Int->Int->Bool} (hn:xs.length=n) (h12:1<=n/\n<=12) (hg:∀ x∈xs,∀ y∈xs,CallFK tp T gm f [intA x,intA y] Kc (fun r K'=>(∃ c:Int,r=intA c/\decide (c<0)=lt x y)/\K'=Kc)) :
  zA tp T gm 163 [.sl j 0 n,intA 0,intA n,intA lim,f] ((j,.cells (xs.map intA) et true)::Kc) (fun r K'=>K'=(j,.cells ((sortR lt xs).map intA) et true)::Kc):=by
 refine zp 148 hT Tryz.func163 fun Y hret=>?_;refine au 13035423542 ?_;refine TK.loop ?_;refine au 9371422352401142130 ?_;constructor<;>intro hc0
 ·refine au 111142 ?_;refine bD Z Z Z Z (zek hT hn h12 hg) ?_ (hs:=(.all _));rintro r1 K2 rfl;refine au 0 ?_;refine bN (K':=(j,_)::Kc) (by rw [lR]) ?_;refine au 3 ?_;refine bB hret (((j,_)::Kc)) ?_;exact rfl
 simp at hc0; omega
theorem zdy {main T} (hT:zo tp main T) {gm} {j n:Nat} {xs:List Int} {et:TypeId} {f:AV} {Kc:KV} {lt:Int->Int->Bool} (hn:xs.length=n) (h12:1<=n/\n<=12) (hg:∀ x∈xs,∀ y∈xs,CallFK tp T gm f [intA x,intA y] Kc (fun r K'=>(∃ c:Int,r=intA c/\decide (c<0)=lt x y)/\K'=Kc)) :
  zA tp T gm 145 [.sl j 0 n,f] ((j,.cells (xs.map intA) et true)::Kc) (fun r K'=>K'=(j,.cells ((sortR lt xs).map intA) et true)::Kc):=by
 refine zp 14 hT Tryz.func145 fun Y hret=>?_;refine au 111435280142 ?_;refine bH Z (yV Z Z Und.h Und.h (zb0 (n:=n) oQ)) ?_;refine bD Z Z Z Z (zaM hT (n:=n) oQ) ?_ (hs:=(.none _));rintro r1 K2 ⟨m,rfl,rfl⟩;refine au 1 ?_;refine bD Z Z Z Z (ziw hT hn h12 hg) ?_ (hs:=(.all _));rintro r4 K5 rfl;refine au 0 ?_;refine bN (K':=(j,_)::Kc) (by rw [lR]) ?_;refine au 3 ?_;refine TK.rt0 hret (((j,_)::Kc)) ?_;exact rfl
theorem zhM {main T} (hT:zo tp main T) {gm} {b:RBk} {s h e j jb jl:Nat} {l:List Int} {et:TypeId} {x y:Int} (hb:ROk b) (hl:CutsOk b l) (hx:0<=x/\x<l.length) (hy:0<=y/\y<l.length) :
  zA tp T gm 146 [intA x,intA y,.ptr jb 0,.ptr jl 0] [(jb,.cells (zE b s h e) 113 true),(jl,.cells [.sl j 0 l.length] 117 true),(s,zk b),(j,.cells (l.map intA) et false)] (fun r K'=>(∃ c:Int,r=intA c/\decide (c<0)=busyLt b l x y)/\K'=[(jb,.cells (zE b s h e) 113 true),(jl,.cells [.sl j 0 l.length] 117 true),(s,zk b),(j,.cells (l.map intA) et false)]):=by
 refine zp 38 hT Tryz.func146 fun Y hret=>?_;refine au 0 ?_;have hs5:=hb.sms.len;have hl5:=hl.len;obtain ⟨p,rfl⟩:∃ p:Nat,x=p:=⟨x.toNat,oQ⟩;obtain ⟨q,rfl⟩:∃ q:Nat,y=q:=⟨y.toNat,oQ⟩;have hp:p<l.length:=by omega
 have hq:q<l.length:=by omega
 have qp:=hl.lt hp;have fp:=hb.sms.fld _ qp.2.2;have qq:=hl.lt hq;have fq:=hb.sms.fld _ qq.2.2;refine au 223542 ?_;refine bL [0,1,2,3,4,5,6,7,8,9,20,10,11,12,13,14,15,16,17,18,19,21] ?_;refine ad [[3,2],[3,9],[10,10],[10,3],[1,0],[2,12,13]] ?_;refine bT [14] Z (hq:=zm Z Z zi.h (mC _) (yi (i:=p) (z6 hp) Z)) (h:=?_);refine ad [[2,11,15],[3,16]] ?_;refine bT [17] Z (hq:=zm Z Z zi.h (mC _) (yn (c:=2) (sm_at b (i:=(zN l p).toNat) qp.2.2 oQ) dQ Z)) (h:=?_);refine ad [[3,2],[3,19],[10,20],[10,3],[1,1],[2,22,23]] ?_;refine bT [24] Z (hq:=zm Z Z zi.h (mC _) (yi (i:=q) (z6 hq) Z)) (h:=?_);refine ad [[2,21,25],[3,26]] ?_;refine bT [27] Z (hq:=zm Z Z zi.h (mC _) (yn (c:=2) (sm_at b (i:=(zN l q).toNat) qq.2.2 oQ) dQ Z)) (h:=?_);refine TD.as (pend':=[⟨19,[27],[(_,_)]⟩,⟨18,[26],[]⟩,⟨17,[21,25],[]⟩,⟨16,[24],[(_,_)]⟩,⟨15,[22,23],[]⟩,⟨14,[1],[]⟩,⟨13,[3],[(_,_)]⟩,⟨12,[20],[(_,_)]⟩,⟨11,[19],[]⟩,⟨10,[2],[]⟩]) [18] Z Z (zD Z Z) ?_;refine ad [[13,28],[14]] ?_;refine au 9371142 ?_;constructor<;>intro hc0
 ·refine au 352401142 ?_;refine bB hret [(jb,_),(jl,_),(s,_),(j,_)] ?_;exact ⟨⟨_,rfl,by simp at hc0; unfold busyLt; rw [mZ,mZ]; unfold cutS; rw [decide_eq_false hc0,Bool.false_and,Bool.or_false]; exact decide_eq_decide.2 oQ⟩,rfl⟩
 refine au 352401142120 ?_;refine bB hret [(jb,_),(jl,_),(s,_),(j,_)] ?_;exact ⟨⟨_,rfl,by simp at hc0; simp only [busyLt,cutS,mZ,hc0,Int.lt_irrefl,decide_false,decide_true,Bool.true_and,Bool.false_or]; exact decide_eq_decide.2 oQ⟩,rfl⟩
def HangR (o:Option (List Int×Int)) (K:KV) (r:AV) (K':KV):Prop:=match o with
 | none=>r=.tup [.agg [.v (.slice none 0 0),intA 0],zP false]/\K'=K
 | some (w,q)=>∃ jw,r=.tup [.agg [.sl jw 0 w.length,intA q],zP true]/\K'=(jw,.cells (w.map intA) 3 false)::K
theorem zby {b:RBk} {l:List Int}:∀ (o:List Int) (z:Alloc),(o.foldl (allocM b l) z).steps.length=z.steps.length
 | [],_=>rfl
 | k::o,z=>by rw [List.foldl_cons,zby o]; simp [allocM]
theorem zhZ {x y:Int} (hx:0<=x/\x<=65) (hy:0<=y/\y<=9):0<=x*y/\x*y<=585:=by
 refine ⟨Int.mul_nonneg hx.1 hy.1,?_⟩;have h1:x*y<=65*y:=Int.mul_le_mul_of_nonneg_right hx.2 hy.1;omega
section
variable {P:Program} {gm:Nat->Option Nat} {V:KV} {env:List AV} {o:Oper}
theorem zc0 {x y:Operand} {t u:TypeId} {k k':IntKind} {m n:Int} (ho:o.op=.call { callee:=.builtin .min,args:=#[x,y],argTypes:=#[t,u] }) (hx:zn gm env x=some (.v (.int k m))) (hy:zn gm env y=some (.v (.int k' n))):Qk P gm env V o (.v (.int k (min m n))):=by
 rw [show min m n=if n<m then n else m by split <;> omega];exact q_min ho hx hy
theorem zcZ {x y:Operand} {t u:TypeId} {k k':IntKind} {m n:Int} (ho:o.op=.call { callee:=.builtin .max,args:=#[x,y],argTypes:=#[t,u] }) (hx:zn gm env x=some (.v (.int k m))) (hy:zn gm env y=some (.v (.int k' n))):Qk P gm env V o (.v (.int k (max m n))):=by
 rw [show max m n=if m<n then n else m by split <;> omega];exact q_max ho hx hy
end
instance:BlOf tp 125 [(0,1),(1,1)]:={}
instance:Cal tp 133:={}
instance:Cal tp 145:={}
instance:Cal tp 146:={}
instance:Cal tp 95:={}
instance:zl tp 125 0 0 false 1:={}
instance:zl tp 125 1 1 false 1:={}
instance:zi tp 125 true 2:={}
instance:TyZ tp 125 [.slice none 0 0,.int .i64 0]:={}
instance:TyZA tp 125 [.v (.slice none 0 0),.v (.int .i64 0)]:={}
theorem vd {main T} (hT:zo tp main T) {gm} {b:RBk} {s h e j:Nat} {l:List Int} {et:TypeId} (hb:ROk b) (hl:CutsOk b l) {st:List Int} (hs:StOk b st) :
  zA tp T gm 100 [.agg (zE b s h e),.sl j 0 l.length,.agg (stC st)] [(s,zk b),(j,.cells (l.map intA) et false)] (fun r K'=>HangR (hangM b l st) [(s,zk b),(j,.cells (l.map intA) et false)] r K'):=by
 refine zp 110 hT Tryz.func100 fun Y hret=>?_;refine au 0 ?_;have hp0:=hl.pos;have hs5:=hb.sms.len;have hst:=hb.rnd.steps;have hl5:=hl.len;have q0:=hl.lt hl.pos;have f0:=hb.sms.fld _ q0.2.2;have hfr:=zcm hb hs;refine au 21042 ?_;intro jb hjb;refine au 210 ?_;intro jl hjl;refine au 210 ?_;intro js hjs;refine au 220 ?_;intro jr hjr;refine au 69068042235 ?_;refine bD Z Z Z Z (zdG hT hb hl) ?_;rintro r1 K2 ⟨rfl,rfl⟩;refine au 93300 ?_;constructor<;>intro hc0
 ·refine au 3517039042 ?_;refine bB hret [(s,_),(j,_)] ?_;rw [show hangM b l st=none by unfold hangM; rw [if_pos (by simpa using hc0)]];exact ⟨rfl,rfl⟩
 have hfit:fitsM b l=true:=by simpa using hc0
 refine au 28069042120 ?_;refine TK.newS Z Z Z (zdN Z Z Z ApOf.h TyZ.h hp0 oQ) (fun _=>zu rfl tQ) fun jw hjw=>?_;refine au 220390 ?_;intro j8 hj8;refine au 130312806904223170 ?_;refine bA [3,4,5,6,7,8,26,27,28] ?_;refine bC [(s,_),(j,_),(jb,_),(jl,_),(js,_),(jr,_),(jw,_),(j8,_)] ?_;refine bE (fun n env K=>∃ (i:Nat),n=l.length - i/\i<=l.length/\env=naL 3 (.ptr jb 0::.ptr jl 0::.ptr js 0::.ptr jr 0::zP false::.ptr j8 0::naL 17 (.sl j 0 l.length::intA l.length::intA i::naL 81 []))/\K=[(s,zk b),(j,.cells (l.map intA) et false),(jb,.cells (zE b s h e) 113 true),(jl,.cells [.sl j 0 l.length] 117 true),(js,.cells (stC st) 129 true),(jr,.cells [.v (.slice none 0 0),intA 0] 125 true),(jw,.cells ((mB l.length (0:Int)).map intA) 3 true),(j8,.cells [.sl jw 0 l.length,intA (spoilM b l i)] 125 true)]) l.length ⟨0,rfl,mN _,rfl,rfl⟩ fun n env K hI hnext=>?_;obtain ⟨i,rfl,hi,rfl,rfl⟩:=hI;have hsp:=zaI hb hl i hi;refine bG nQ ?_;refine au 923742 ?_;constructor<;>intro hc1
 ·have hil:i<l.length:=by simp at hc1; omega
  have qi:=hl.lt hil;have fi:=hb.sms.fld _ qi.2.2;refine au 360421302120 ?_;refine bH Z (zm Z Z zi.h mQ (yi (i:=i) (z6 hil) Z)) ?_;refine au 35 ?_;refine bL [0,1,2,3,4,5,6,7,8,9,10,11] ?_;refine ad [[3,8],[10,32],[3,3],[3,34],[10,35],[1,10],[2,36,37],[3,38]] ?_;refine bT [39] Z (hq:=zm Z Z zi.h (mC _) (yn (c:=3) (sm_at b (i:=(zN l i).toNat) qi.2.2 oQ) dQ Z)) (h:=?_);refine ad [[8,33,40],[3,8]] ?_;refine bR (pend':=[]) [41,42] Z Z (zX Z Z zi.h Z Z mQ Z) ?_;refine ad [[14]] ?_;refine au 312304140 ?_;refine bA [3,4,5,6,7,8,26,27,28] ?_;refine bC [(s,_),(j,_),(jb,_),(jl,_),(js,_),(jr,_),(jw,_),(j8,_)] ?_;exact hnext _ _ _ oQ ⟨i+1,rfl,oQ,rfl,rfl⟩
 obtain rfl:i=l.length:=by simp at hc1; omega
 refine au 28069042160 ?_;refine TK.newS Z Z Z (zdN Z Z Z ApOf.h TyZ.h hp0 oQ) (fun _=>zu rfl tQ) fun jo hjo=>?_;refine au 13031280142235 ?_;refine bA [3,4,5,6,7,8,11,47,48,49] ?_;refine bE (fun n env K=>∃ (i:Nat),n=l.length - i/\i<=l.length/\env=naL 3 (.ptr jb 0::.ptr jl 0::.ptr js 0::.ptr jr 0::zP false::.ptr j8 0::naL 2 (.sl jo 0 l.length::naL 35 (.sl jo 0 l.length::intA l.length::intA i::naL 60 [])))/\K=[(jo,.cells ((idxM i++mB (l.length - i) 0).map intA) 3 true),(s,zk b),(j,.cells (l.map intA) et false),(jb,.cells (zE b s h e) 113 true),(jl,.cells [.sl j 0 l.length] 117 true),(js,.cells (stC st) 129 true),(jr,.cells [.v (.slice none 0 0),intA 0] 125 true),(jw,.cells ((mB l.length (0:Int)).map intA) 3 true),(j8,.cells [.sl jw 0 l.length,intA (spoilM b l l.length)] 125 true)]) l.length ⟨0,rfl,mN _,rfl,rfl⟩ fun n env K hI hnext=>?_;obtain ⟨i,rfl,hi,rfl,rfl⟩:=hI;refine bG nQ ?_;refine au 923742 ?_;constructor<;>intro hc2
 ·have hil:i<l.length:=by simp at hc2; omega
  refine au 3601114351421302120 ?_;refine TK.st Z Z Z (zX Z Z zi.h Z Z mQ (vU (k:=i) (by simp [idxM]; omega) Z)) uQ (putN Z) ?_;refine au 3123041403 ?_;refine bA [3,4,5,6,7,8,11,47,48,49] ?_;refine bC [(jo,_),(s,_),(j,_),(jb,_),(jl,_),(js,_),(jr,_),(jw,_),(j8,_)] ?_;exact hnext _ _ _ oQ ⟨i+1,rfl,oQ,rfl,by rw [<- zg8 hil]⟩
 obtain rfl:i=l.length:=by simp at hc2; omega
 refine au 2160 ?_;have hidx:idxM l.length++mB (l.length - l.length) 0=idxM l.length:=by simp
 rw [hidx];refine au 32014 ?_;refine bD Z Z Z Z (zdy hT (Kc:=[(jb,.cells (zE b s h e) 113 true),(jl,.cells [.sl j 0 l.length] 117 true),(s,zk b),(j,.cells (l.map intA) et false)]) (lt:=busyLt b l) (by simp [idxM]) ⟨hp0,oQ⟩ (fun x hx y hy=>yx Cal.h (zhM hT hb hl (by have:=zbj hx; omega) (by have:=zbj hy; omega)))) ?_ (hs:=(.left (.rem (.tail (.tail .head)) (.rem (.tail (.tail .head)) (.left (.left (.none _)))))));rintro r4 K5 rfl;refine au 680680423 ?_;refine bD Z Z Z Z (zcn hT hb hs) ?_ (hs:=(.none _));rintro r7 K8 ⟨rfl,rfl⟩;refine au 13031280142235 ?_;refine bA [3,4,5,6,7,8,13,63,64,65] ?_;refine bE (fun n env K=>∃ (i:Nat) (z:Alloc),n=l.length - i/\i<=l.length/\z=((ordM b l).take i).foldl (allocM b l) (alloc0 b l (freshM b st))/\z.steps.length=l.length/\(0<=z.left/\z.left<=65)/\(0<=z.squares/\z.squares<=45+585*i)/\env=naL 3 (.ptr jb 0::.ptr jl 0::.ptr js 0::.ptr jr 0::zP false::.ptr j8 0::naL 4 (intA z.left::naL 49 (.sl jo 0 l.length::intA l.length::intA i::naL 44 [])))/\K=[(jo,.cells ((ordM b l).map intA) 3 true),(jb,.cells (zE b s h e) 113 true),(jl,.cells [.sl j 0 l.length] 117 true),(s,zk b),(j,.cells (l.map intA) et false),(js,.cells (stC st) 129 true),(jr,.cells [.v (.slice none 0 0),intA 0] 125 true),(jw,.cells (z.steps.map intA) 3 true),(j8,.cells [.sl jw 0 l.length,intA z.squares] 125 true)]) l.length ⟨0,alloc0 b l (freshM b st),rfl,mN _,rfl,by simp [alloc0],hfr,by have:=zaI hb hl l.length (mL _); show 0<=spoilM b l l.length/\spoilM b l l.length<=_; omega,rfl,rfl⟩ fun n env K hI hnext=>?_;obtain ⟨i,z,rfl,hi,hz,hzl,hzf,hzs,rfl,rfl⟩:=hI;have hol:=zhs b l;refine bG nQ ?_;refine au 923742 ?_;constructor<;>intro hc3
 ·have hil:i<l.length:=by simp at hc3; omega
  obtain ⟨k,hk⟩:∃ k,(ordM b l)[i]? =some k:=⟨_,lA oQ⟩;have hkm:=zdP (lN hk);have hkn:k.toNat<l.length:=by omega
  have qi:=hl.lt hkn;have fi:=hb.sms.fld _ qi.2.2;have hmul:0<=min z.left (sm b (zN l k.toNat).toNat).most*(sm b (zN l k.toNat).toNat).busy/\min z.left (sm b (zN l k.toNat).toNat).most*(sm b (zN l k.toNat).toNat).busy<=585:=zhZ oQ oQ;refine au 360421302120 ?_;refine bH Z (zm Z Z zi.h mQ (yi (i:=i) hk Z)) ?_;refine au 235 ?_;refine bL [0,1,2,3,4,5,6,7,8,9,10,11,12] ?_;refine ad [[1,13],[3,3],[3,70],[10,71],[10,4],[1,15],[2,73,74]] ?_;refine bT [75] Z (hq:=zm Z Z zi.h (mC _) (yi (i:=k.toNat) (z6 hkn) oQ)) (h:=?_);refine ad [[2,72,76],[3,77]] ?_;refine bT [78] Z (hq:=zm Z Z zi.h (mC _) (yn (c:=1) (sm_at b (i:=(zN l k.toNat).toNat) qi.2.2 oQ) dQ Z)) (h:=?_);refine bU [69,79] Z (zc0 Z Z Z) ?_;refine ad [[13,80],[14]] ?_;refine au 3601169067042 ?_;refine TK.st Z Z Z (zX Z Z zi.h Z Z mQ (vU (k:=k.toNat) oQ oQ)) uQ (putN Z) ?_;refine au 23 ?_;refine bL [0,1,2,3,4,5,6,7,8,9,10,11,12,13,14,15,16] ?_;refine ad [[3,8],[10,86],[1,16],[3,3],[3,89],[10,90],[10,4],[1,15],[2,92,93]] ?_;refine bT [94] Z (hq:=zm Z Z zi.h (mC _) (yi (i:=k.toNat) (z6 hkn) oQ)) (h:=?_);refine ad [[2,91,95],[3,96]] ?_;refine bT [97] Z (hq:=zm Z Z zi.h (mC _) (yn (c:=2) (sm_at b (i:=(zN l k.toNat).toNat) qi.2.2 oQ) dQ Z)) (h:=?_);refine bU [88,98] Z (q_mul Z Z Z oQ) ?_;refine ad [[8,87,99],[3,8]] ?_;refine bR (pend':=[]) [100,101] Z Z (zX Z Z zi.h Z Z mQ Z) ?_;refine ad [[14]] ?_;refine au 31230414035240114 ?_;refine bA [3,4,5,6,7,8,13,63,64,65] ?_;refine bC [(jo,_),(jb,_),(jl,_),(s,_),(j,_),(js,_),(jr,_),(jw,_),(j8,_)] ?_;exact hnext _ _ _ oQ ⟨i+1,allocM b l z k,rfl,oQ,by rw [yQ hk,List.foldl_append,<- hz]; rfl,by simp [allocM,hzl],by show 0<=z.left - min z.left (sm b (zN l k.toNat).toNat).most/\z.left - min z.left (sm b (zN l k.toNat).toNat).most<=65; omega,by show 0<=z.squares+min z.left (sm b (zN l k.toNat).toNat).most*(sm b (zN l k.toNat).toNat).busy/\z.squares+min z.left (sm b (zN l k.toNat).toNat).most*(sm b (zN l k.toNat).toNat).busy<=45+585*((i+1:Nat):Int); omega,rfl,rfl⟩
 obtain rfl:i=l.length:=by simp at hc3; omega
 rw [List.take_of_length_le oQ] at hz;refine au 9371422160 ?_;constructor<;>intro hc4
 ·refine au 3517039042 ?_;refine bB hret [(s,_),(j,_)] ?_;rw [show hangM b l st=none by unfold hangM; rw [if_neg (by rw [hfit]; decide)]; unfold allocA; rw [<- hz]; exact if_pos (of_decide_eq_true hc4)];exact ⟨rfl,rfl⟩
 refine au 2120 ?_;refine TK.frz (j:=jw) ?_;refine au 351706804 ?_;refine bB hret [(jw,_),(s,_),(j,_)] ?_;rw [show hangM b l st=some (z.steps,z.squares) by unfold hangM; rw [if_neg (by rw [hfit]; decide)]; unfold allocA; rw [<- hz]; exact if_neg (of_decide_eq_false hc4)];exact ⟨jw,by rw [hzl]; rfl,rfl⟩
theorem st_at {s:List Int} {i:Nat} {n:Int} {e:TypeId} {rw':Bool} (h:i<5) (hn:n=(i:Int)):takeO (.cells (stC s) e rw') (0+n.toNat*1) 1=some [intA (s.getD i 0)]:=by
 subst hn;have:i=0\/i=1\/i=2\/i=3\/i=4:=by omega
 rcases this with rfl | rfl | rfl | rfl | rfl <;> rfl
theorem zeR {c:List Int} {i k:Nat} (h:k<i):(c.take i).getD k 0=c.getD k 0:=by
 rw [lE,lE,List.getElem?_take,if_pos h]
theorem ziH {c p:List Int} {m:Nat} (h5:c.length=5) (hp:p.length=m) (ht:c.take m=p) (hz:∀ k,m<=k->c.getD k 0=0):c.map intA=stC p:=by
 have key:∀ k,c.getD k 0=p.getD k 0:=fun k=>by
  by_cases h:k<m
  ·rw [<- ht,zeR h]
  ·rw [hz k oQ,lE,List.getElem?_eq_none oQ]; rfl
 have e:c.map intA=stC c:=by
  rcases c with _ | ⟨a0,_ | ⟨a1,_ | ⟨a2,_ | ⟨a3,_ | ⟨a4,_ | ⟨a5,r⟩⟩⟩⟩⟩⟩ <;> simp at h5;rfl
 rw [e];unfold stC slotR;rw [key 0,key 1,key 2,key 3,key 4]
theorem zcF {xs:List RMeas} {i:Nat} {x:RMeas} {n:Int} {e:TypeId} {rw':Bool} (h:xs[i]? =some x) (hn:n=(i:Int)):takeO (.cells (xs.flatMap measC) e rw') (0+n.toNat*3) 3=some (measC x):=vb (c:=3) (fun _=>rfl) h hn dQ
theorem zfF {xs:List RMeas} {p:RMeas->Bool} {i:Nat} {x:RMeas} (h:xs[i]? =some x) (hn:(xs.take i).any p=false) (he:p x=false):(xs.take (i+1)).any p=false:=by
 rw [yQ h,List.any_append,hn]; simp [he]
theorem zhJ {xs:List RMeas} {p:RMeas->Bool} {i:Nat} {x:RMeas} (h:xs[i]? =some x) (he:p x=true):xs.any p=true:=List.any_eq_true.2 ⟨x,lN h,he⟩
theorem zfm (b:RBk) (s:List Int):rightM b s = !(b.measures.any fun m => !decide (togM b s m.cloth.toNat m.many.toNat=m.wide)):=by
 unfold rightM
 induction b.measures with
 | nil=>rfl
 | cons x r ih=>rw [List.all_cons,List.any_cons,ih]; simp
instance:Cal tp 104:={}
instance:Cal tp 147:={}
instance:Cal tp 186:={}
instance:Cal tp 187:={}
instance:Cal tp 217:={}
theorem zio {main T} (hT:zo tp main T) {gm} {b:RBk} {s h e i:Nat} {st:List Int} (hb:ROk b) (hs:StOk b st) (hi:i<b.seams.length) :
  zA tp T gm 147 [.agg (zE b s h e),intA i,.agg (stC st)] [(s,zk b)] (fun r K'=>r=intA (nowM b st i)/\K'=[(s,zk b)]):=by
 refine zp 14 hT Tryz.func147 fun Y hret=>?_;refine au 0 ?_;have hs5:=hb.sms.len;have hw:=hb.wide hi;have hsi:=hs.bnd i hi;refine au 21042 ?_;intro jb hjb;refine au 210 ?_;intro js hjs;refine au 235 ?_;refine TK.dr [0,1,3,4,5,2,6,7] [0,1,2,3,4,5,6,7] ?_;refine ad [[12,3],[1,1],[1,1]] ?_;refine bU [5,10] Z (wA Z Z Z ArEl.h oQ oQ) ?_;refine bT [11] Z (hq:=zm Z Z zi.h (mC _) (st_at (i:=i) oQ Z)) (h:=?_);refine bQ (pend':=[⟨5,[11],[(_,_)]⟩,⟨4,[5,10],[]⟩,⟨3,[1],[]⟩]) [7,8] Z Z Z Z Z (zbu hT (i:=i) hb.rnd hb.sms hi) (fun r1 K2 h3=>⟨?_,?_⟩)
 ·rcases h3 with ⟨rfl,rfl⟩
  all_goals simp
 obtain ⟨rfl,rfl⟩:=h3;try simp only [cA]
 refine bS tQ ?_;refine ad [[9,9,12],[13,13],[14]] ?_;refine au 0 ?_;refine bB hret [(s,_)] ?_;exact ⟨rfl,rfl⟩
theorem zfw {main T} (hT:zo tp main T) {gm} {b:RBk} {s h e:Nat} {c k:Int} {st:List Int} (hb:ROk b) (hs:StOk b st) (hc:0<=c/\c<=5) (hk:0<=k/\k<=5) :
  zA tp T gm 104 [.agg (zE b s h e),intA c,intA k,.agg (stC st)] [(s,zk b)] (fun r K'=>r=intA (togM b st c.toNat k.toNat)/\K'=[(s,zk b)]):=by
 refine zp 30 hT Tryz.func104 fun Y hret=>?_;refine au 0 ?_;obtain ⟨p,rfl⟩:∃ p:Nat,c=p:=⟨c.toNat,oQ⟩;obtain ⟨q,rfl⟩:∃ q:Nat,k=q:=⟨k.toNat,oQ⟩;have hs5:=hb.sms.len;refine au 21042 ?_;intro jb hjb;refine au 210 ?_;intro js hjs;refine au 130311422354235 ?_;refine bA [1,4,7,9,11,12] ?_;refine bC [(s,_),(js,_),(jb,_)] ?_;refine bE (fun n env K=>∃ (i:Nat),n=q - i/\i<=q/\env=.any::intA p::naL 2 (.ptr jb 0::naL 2 (.ptr js 0::.any::intA (togM b st p i)::.any::intA q::intA i::naL 17 []))/\K=[(s,zk b),(js,.cells (stC st) 129 true),(jb,.cells (zE b s h e) 113 true)]) q ⟨0,rfl,mN _,rfl,rfl⟩ fun n env K hI hnext=>?_;obtain ⟨i,rfl,hi,rfl,rfl⟩:=hI;have htb:=za9 hb hs (c:=p) i;refine bG nQ ?_;refine au 923742 ?_;constructor<;>intro hc0
 ·have hil:i<q:=by simp at hc0; omega
  have hmod:(p+i) % b.seams.length<b.seams.length:=Nat.mod_lt _ oQ;have hcm:((p:Int)+(i:Int)) % (b.seams.length:Int)=(((p+i) % b.seams.length:Nat):Int):=by rw [Int.natCast_emod,Int.natCast_add]
  have hw:=hb.wide hmod;have hsi:=hs.bnd _ hmod;have hnow:nowM b st ((p+i) % b.seams.length)=wideM b ((p+i) % b.seams.length) - st.getD ((p+i) % b.seams.length) 0:=rfl;refine au 351421302120 ?_;refine bL [0,1,2,3,4,5,6,7,8,9,10,11,12,13] ?_;refine ad [[1,9],[12,4],[1,1],[1,10],[8,17,18],[3,4],[3,20],[10,21]] ?_;refine bU [22] Z (q_len Z Z Z Und.h) ?_;refine bU [19,23] Z (q_rem Z Z Z oQ oQ) ?_;rw [hcm];refine ad [[12,7]] ?_;refine bQ (pend':=[⟨8,[22],[]⟩,⟨7,[21],[(_,_)]⟩,⟨6,[20],[]⟩,⟨5,[4],[]⟩,⟨4,[17,18],[]⟩,⟨3,[10],[]⟩,⟨2,[1],[]⟩,⟨0,[9],[]⟩]) [16,24,25] Z Z Z Z Z (zio hT (i:=(p+i) % b.seams.length) hb hs hmod) (fun r1 K2 h3=>⟨?_,?_⟩)
  ·rcases h3 with ⟨rfl,rfl⟩
   all_goals simp
  obtain ⟨rfl,rfl⟩:=h3;try simp only [cA]
  refine bS tQ ?_;refine ad [[8,15,26],[13,27],[14]] ?_;refine au 312304140 ?_;refine bA [1,4,7,9,11,12] ?_;refine bC [(s,_),(js,_),(jb,_)] ?_;exact hnext _ _ _ oQ ⟨i+1,rfl,oQ,rfl,rfl⟩
 obtain rfl:i=q:=by simp at hc0; omega
 refine au 35142160 ?_;refine bB hret [(s,_)] ?_;exact ⟨rfl,rfl⟩
theorem zfl {main T} (hT:zo tp main T) {gm} {b:RBk} {s h e jb js:Nat} {m:RMeas} {st:List Int} (hb:ROk b) (hs:StOk b st) (hm:m∈b.measures) :
  zA tp T gm 187 [.agg (measC m),.ptr jb 0,.ptr js 0] [(jb,.cells (zE b s h e) 113 true),(js,.cells (stC st) 129 true),(s,zk b)] (fun r K'=>r=zP (!decide (togM b st m.cloth.toNat m.many.toNat=m.wide))/\K'=[(jb,.cells (zE b s h e) 113 true),(js,.cells (stC st) 129 true),(s,zk b)]):=by
 refine zp 15 hT Tryz.func187 fun Y hret=>?_;refine au 0 ?_;have hs5:=hb.sms.len;have hmm:=hb.mes.bnd m hm;refine au 21042 ?_;intro jm hjm;refine au 235 ?_;refine TK.dr [0,1,2,3,4,5,7,8,6,9,10] [0,1,2,3,4,5,6,7,8,9,10] ?_;refine ad [[12,1],[3,3],[10,6],[3,3],[10,8],[12,2],[3,3],[10,12]] ?_;refine bQ (pend':=[⟨8,[12],[(_,_)]⟩,⟨7,[3],[]⟩,⟨3,[3],[]⟩,⟨1,[3],[]⟩]) [5,7,9,10] Z Z Z Z Z (zfw hT (c:=m.cloth) (k:=m.many) hb hs oQ oQ) (fun r1 K2 h3=>⟨?_,?_⟩)
 ·rcases h3 with ⟨rfl,rfl⟩
  all_goals simp
 obtain ⟨rfl,rfl⟩:=h3;try simp only [cA]
 refine bS tQ ?_;refine ad [[4,11,13],[13,14],[14]] ?_;refine au 0 ?_;refine bB hret [(jb,_),(js,_),(s,_)] ?_;exact ⟨by simp [bne]; rfl,rfl⟩
theorem zeX {main T} (hT:zo tp main T) {gm} {j:Nat} {xs:List RMeas} {et:TypeId} {f:AV} {Kc:KV} {p:RMeas->Bool} (hp:∀ x∈xs,CallFK tp T gm f [.agg (measC x)] Kc (fun r K'=>r=zP (p x)/\K'=Kc)) (hl:xs.length<=1000) :
  zA tp T gm 217 [.sl j 0 xs.length,f] ((j,.cells (xs.flatMap measC) et false)::Kc) (fun r K'=>(∃ n:Int,r=intA n/\decide (n>=0)=xs.any p)/\K'=(j,.cells (xs.flatMap measC) et false)::Kc):=by
 refine zp 19 hT Tryz.func217 fun Y hret=>?_;refine au 1303128014223542 ?_;refine bA [0,1,7,8] ?_;refine bE (fun n env K=>∃ (i:Nat),n=xs.length - i/\i<=xs.length/\(xs.take i).any p=false/\env=.sl j 0 xs.length::f::naL 5 (intA xs.length::intA i::naL 10 [])/\K=((j,.cells (xs.flatMap measC) et false)::Kc)) xs.length ⟨0,rfl,mN _,by simp,rfl,rfl⟩ fun n env K hI hnext=>?_;obtain ⟨i,rfl,hi,hn,rfl,rfl⟩:=hI;refine bG nQ ?_;refine au 923742 ?_;refine ⟨fun hc=>?_,fun hc=>?_⟩
 ·simp only [decide_eq_true_eq] at hc;have hil:i<xs.length:=by omega
  obtain ⟨x,hx⟩:∃ x,xs[i]? =some x:=⟨_,lA hil⟩;refine au 36011142351421302120 ?_;refine bH Z (ya Z Z zi.h mQ (zcF (i:=i) hx Z)) ?_;refine TK.callF' Z Z Z Z Z (hp x (lN hx)) (.right (.all _)) fun r1 K2 h3=>?_;obtain ⟨rfl,hK⟩:=h3;refine au 0 ?_;rw [hK];refine bN (K':=(j,_)::Kc) (List.perm_append_singleton _ _) ?_;refine au 93 ?_;constructor<;>intro hc1
  ·refine au 35142 ?_;refine bB hret (((j,_)::Kc)) ?_;exact ⟨⟨i,rfl,by rw [decide_eq_true (Int.natCast_nonneg i),zhJ hx hc1]⟩,rfl⟩
  refine au 312304140120 ?_;refine bA [0,1,7,8] ?_;refine bC (((j,_)::Kc)) ?_;exact hnext _ _ _ oQ ⟨i+1,rfl,oQ,zfF hx hn hc1,rfl,rfl⟩
 simp only [decide_eq_false_iff_not] at hc;obtain rfl:i=xs.length:=by omega
 refine au 3542160 ?_;refine bB hret (((j,_)::Kc)) ?_;rw [lW] at hn;exact ⟨⟨-1,rfl,by rw [hn]; rfl⟩,rfl⟩
theorem zci {main T} (hT:zo tp main T) {gm} {j:Nat} {xs:List RMeas} {et:TypeId} {f:AV} {Kc:KV} {p:RMeas->Bool} (hp:∀ x∈xs,CallFK tp T gm f [.agg (measC x)] Kc (fun r K'=>r=zP (p x)/\K'=Kc)) (hl:xs.length<=1000) :
  zA tp T gm 186 [.sl j 0 xs.length,f] ((j,.cells (xs.flatMap measC) et false)::Kc) (fun r K'=>r=zP (xs.any p)/\K'=(j,.cells (xs.flatMap measC) et false)::Kc):=by
 refine zp 9 hT Tryz.func186 fun Y hret=>?_;refine au 11423542 ?_;refine bD Z Z Z Z (zeX hT hp hl) ?_ (hs:=(.all _));rintro r1 K2 ⟨⟨m,rfl,hm⟩,rfl⟩;refine au 0 ?_;refine bN (K':=(j,_)::Kc) (by rw [lR]) ?_;refine au 357 ?_;refine bB hret (((j,_)::Kc)) ?_;exact ⟨by rw [<- hm],rfl⟩
theorem zgt {main T} (hT:zo tp main T) {gm} {b:RBk} {s h e:Nat} {st:List Int} (hb:ROk b) (hs:StOk b st) :
  zA tp T gm 159 [.agg (zE b s h e),.agg (stC st)] [(s,zk b),(e,zq b)] (fun r K'=>r=zP (rightM b st)/\K'=[(s,zk b),(e,zq b)]):=by
 refine zp 11 hT Tryz.func159 fun Y hret=>?_;refine au 21042 ?_;intro jb hjb;refine au 210 ?_;intro js hjs;refine au 3206906706704235 ?_;refine bD Z Z Z Z (zci hT (p:=fun m => !decide (togM b st m.cloth.toNat m.many.toNat=m.wide)) (Kc:=[(jb,.cells (zE b s h e) 113 true),(js,.cells (stC st) 129 true),(s,zk b)]) (fun x hx=>yx Cal.h (zfl hT hb hs hx)) (by have:=hb.mes.len; omega)) ?_ (hs:=(.rem (.tail (.tail (.tail .head))) (.rem (.tail .head) (.rem .head (.rem .head (.none _))))));rintro r1 K2 ⟨rfl,rfl⟩;refine au 35300 ?_;refine bB hret [(s,_),(e,_)] ?_;exact ⟨by rw [zfm],rfl⟩
def YieldR (P:Program) (T:Goroutine->Hp->Prop) (gm:Nat->Option Nat) (b:RBk) (s h e l:Nat) (J:List (List Int)->KV->Prop) (D:KV->Prop) (tot:List (List Int)):Prop:=∀ (pre:List (List Int)) (S:List Int) (K1:KV),pre++[S] <+: tot->J pre K1 ->
 CallFK P T gm (.yl l) [.agg (stC S)] ((s,zk b)::(h,zB b)::(e,zq b)::K1) fun r K'=>∃ K2,K'=(s,zk b)::(h,zB b)::(e,zq b)::K2/\((r=zP true/\J (pre++[S]) K2)\/(r=zP false/\D K2))
structure ArrOk (b:RBk) (c p:List Int):Prop where
 len:c.length=5
 tk:c.take p.length=p
 z:∀ k,b.shrinks.length<=k->c.getD k 0=0
theorem zgN {b:RBk} {c p:List Int} {n:Int} (h:ArrOk b c p) (hp:p.length<b.shrinks.length) (h5:b.shrinks.length<=5):ArrOk b (c.set p.length n) (p++[n]):=by
 have hl:=h.len;refine ⟨by simp [hl],?_,fun k hk=>?_⟩
 ·rw [lF,List.length_singleton,List.take_add_one,List.getElem?_set_self oQ,List.take_set_of_le (mL _),h.tk];rfl
 ·rw [lE,List.getElem?_set_ne oQ,<- lE];exact h.z k hk
theorem zb8 {b:RBk} {c p:List Int} {n:Int} (h:ArrOk b c (p++[n])):ArrOk b c p:=⟨h.len,by
 have:=congrArg (List.take p.length) h.tk;rw [List.take_take,lF,List.take_append_of_le_length (mL _),lW] at this;rw [Nat.min_eq_left sQ] at this;exact this,h.z⟩
theorem zgd (n hi:Int) (h:n<=hi):numsF n (hi+1 - n).toNat=n::numsF (n+1) (hi+1 - (n+1)).toNat:=by
 rw [show (hi+1 - n).toNat=(hi+1 - (n+1)).toNat+1 by omega]; rfl
theorem zgb (n hi:Int) (h:¬ n<=hi):numsF n (hi+1 - n).toNat=[]:=by
 rw [show (hi+1 - n).toNat=0 by omega]; rfl
theorem zcQ {f:Int->List (List Int)} {n hi:Int} {pre x:List (List Int)} (hn:n<=hi) (h:pre++(numsF n (hi+1 - n).toNat).flatMap f=x):(pre++f n)++(numsF (n+1) (hi+1 - (n+1)).toNat).flatMap f=x:=by
 rw [<- h,zgd n hi hn,List.flatMap_cons,List.append_assoc]
theorem zix (a b c d f g h:Nat×AObj) {R:KV}:([f,h]++a::b::c::d::g::R).Perm (a::b::c::d::f::g::h::R):=by
 have q1:([f,h]++a::b::c::d::g::R).Perm (a::b::c::d::g::R++[f,h]):=lH;have q2:((a::b::c::d::g::R)++[f,h]).Perm (a::b::c::d::([f,g,h]++R)):=by
  have q3:((g::R)++[f,h]).Perm ([f,g,h]++R):=by
   have q4:((g::R)++[f,h]).Perm (g::([f,h]++R)):=List.Perm.cons _ lH;exact q4.trans (List.Perm.swap _ _ _)
  exact (((q3.cons d).cons c).cons b).cons a
 exact q1.trans q2
theorem ziy {a b c d:Nat×AObj} {R:KV}:(d::c::b::a::R).Perm (a::c::b::d::R):=by
 have q1:(d::c::b::a::R).Perm (c::b::a::d::R):=(List.perm_middle (l₁:=[c,b,a])).symm;have q2:(c::b::a::d::R).Perm (a::c::b::d::R):=List.perm_middle (l₁:=[c,b]);exact q1.trans q2
instance:Cal tp 130:={}
instance:Cal tp 158:={}
instance:Cal tp 159:={}
instance:zi tp 207 false 1:={}
instance:zi tp 208 false 1:={}
instance:TyZA tp 208 [.v (.nilFunc)]:={}
theorem zhm {main T} (hT:zo tp main T) {gm} {b:RBk} {s h e l jb js jy jn:Nat} (hb:ROk b) {J:List (List Int)->KV->Prop} {D:KV->Prop} {tot:List (List Int)} (hy:YieldR tp T gm b s h e l J D tot) :
  ∀ (m:Nat) (p c:List Int) (pre:List (List Int)) (K1:KV),b.shrinks.length - p.length=m->ArrOk b c p->PreB b p->pre++fromM b p (b.shrinks.drop p.length) <+: tot->J pre K1 ->
  zA tp T gm 158 [intA p.length,.ptr jb 0,.ptr js 0,.ptr jy 0,.ptr jn 0] ((jb,.cells (zE b s h e) 113 true)::(js,.cells (c.map intA) 129 true)::(jy,.cells [.yl l] 207 true)::(jn,.cells [.fn 158 [] [.ptr jb 0,.ptr js 0,.ptr jy 0,.ptr jn 0]] 208 true)::(s,zk b)::(h,zB b)::(e,zq b)::K1) (fun r K'=>∃ (c':List Int) (K2:KV),ArrOk b c' p/\K'=(jb,.cells (zE b s h e) 113 true)::(js,.cells (c'.map intA) 129 true)::(jy,.cells [.yl l] 207 true)::(jn,.cells [.fn 158 [] [.ptr jb 0,.ptr js 0,.ptr jy 0,.ptr jn 0]] 208 true)::(s,zk b)::(h,zB b)::(e,zq b)::K2/\((r=zP true/\J (pre++fromM b p (b.shrinks.drop p.length)) K2)\/(r=zP false/\D K2))):=by
 refine fun m=>Nat.strongRecOn m fun m ih=>?_;intro p c pre K1 hm hc hp hpre hJ;refine zp 49 hT Tryz.func158 fun Y hret=>?_;have hcl:=hc.len;have hle:=hp.1;have hsl:=hb.cls.len;have hs5:=hb.sms.len;refine au 93728069067067014223542 ?_;constructor<;>intro hc0
 ·have hpl:p.length=b.shrinks.length:=by simp at hc0; omega
  have hcp:c.map intA=stC p:=ziH hcl hpl (by rw [<- hpl]; exact hc.tk) hc.z;rw [hcp];have hdn:b.shrinks.drop p.length=[]:=List.drop_eq_nil_of_le oQ;have hst:StOk b p:=zeW hb ⟨hpl,fun i hi=>hp.2 i oQ⟩;refine au 68068042 ?_;refine bD Z Z Z Z (zgt hT hb hst) ?_ (hs:=(.right (.right (.right (.right (.left (.right (.left (.none _)))))))));rintro r1 K2 ⟨rfl,rfl⟩;refine au 0 ?_;refine bN (K':=(jb,_)::(js,_)::(jy,_)::(jn,_)::(s,_)::(h,_)::(e,_)::K1) (zix _ _ _ _ _ _ _) ?_;refine au 1300 ?_;refine bF 18 (fun g2_5=>?_) (fun g2_5=>?_)
  ·have hfr:fromM b p (b.shrinks.drop p.length)=[]:=by rw [hdn]; unfold fromM; rw [if_neg (by simpa using g2_5)]
   refine au 35260888 ?_;refine bB hret (_) ?_ (hs:=(.all _));exact ⟨c,K1,hc,by rw [hcp],.inl ⟨rfl,by rw [hfr]; simpa using hJ⟩⟩
  have hfr:fromM b p (b.shrinks.drop p.length)=[p]:=by rw [hdn]; unfold fromM; rw [if_pos (by simpa using g2_5)]
  refine au 680690 ?_;refine TK.callF' Z Z Z Z Z (hy pre p K1 (by rw [<- hfr]; exact hpre) hJ) (.right (.right (.right (.right (.all _))))) fun r4 K5 h6=>?_;rcases h6 with ⟨K2,rfl,⟨rfl,hJ2⟩ | ⟨rfl,hD⟩⟩
  ·refine au 0 ?_;refine bN (K':=(jb,_)::(js,_)::(jy,_)::(jn,_)::(s,_)::(h,_)::(e,_)::K2) (lH (l₁:=(s,_)::(h,_)::(e,_)::K2)) ?_;refine au 35250 ?_;refine bB hret (_) ?_ (hs:=(.all _));exact ⟨c,K2,hc,by rw [hcp],.inl ⟨rfl,by rw [hfr]; exact hJ2⟩⟩
  ·refine au 0 ?_;refine bN (K':=(jb,_)::(js,_)::(jy,_)::(jn,_)::(s,_)::(h,_)::(e,_)::K2) (lH (l₁:=(s,_)::(h,_)::(e,_)::K2)) ?_;refine au 35250 ?_;refine bB hret (_) ?_ (hs:=(.all _));exact ⟨c,K2,hc,by rw [hcp],.inr ⟨rfl,hD⟩⟩
 have hlt:p.length<b.shrinks.length:=by simp at hc0; omega
 have hbd:=hb.cls.bnd p.length oQ;have hdc:b.shrinks.drop p.length=bd b p.length::b.shrinks.drop (p.length+1):=zH (kq hlt);have hfr:fromM b p (b.shrinks.drop p.length)=(numsF (bd b p.length).low ((bd b p.length).high+1 - (bd b p.length).low).toNat).flatMap fun n=>fromM b (p++[n]) (b.shrinks.drop (p.length+1)):=by rw [hdc]; rfl
 refine au 6703601690670670422120 ?_;refine bH Z (zm Z Z zi.h mQ (yn (c:=0) (bd_at b hlt Z) dQ Z)) ?_;refine au 13035 ?_;refine bA [0,1,2,3,4,6,7] ?_;refine bE (fun n1 env K=>∃ (n:Int) (c1:List Int) (pre1:List (List Int)) (K2:KV),n1=((bd b p.length).high+1 - n).toNat/\((bd b p.length).low<=n/\n<=(bd b p.length).high+1)/\ArrOk b c1 p/\J pre1 K2/\pre1++(numsF n ((bd b p.length).high+1 - n).toNat).flatMap (fun n=>fromM b (p++[n]) (b.shrinks.drop (p.length+1)))=pre++fromM b p (b.shrinks.drop p.length)/\env=intA p.length::.ptr jb 0::.ptr js 0::.ptr jy 0::.ptr jn 0::.any::zP false::intA n::naL 41 []/\K=(jb,.cells (zE b s h e) 113 true)::(js,.cells (c1.map intA) 129 true)::(jy,.cells [.yl l] 207 true)::(jn,.cells [.fn 158 [] [.ptr jb 0,.ptr js 0,.ptr jy 0,.ptr jn 0]] 208 true)::(s,zk b)::(h,zB b)::(e,zq b)::K2) _ ⟨(bd b p.length).low,c,pre,K1,rfl,oQ,hc,hJ,by rw [hfr],rfl,rfl⟩ fun n1 env K hI hnext=>?_;obtain ⟨n,c1,pre1,K2,rfl,hn,hc1a,hJ1,hEq,rfl,rfl⟩:=hI;have hc1l:=hc1a.len;refine bG nQ ?_;refine au 67036016906706701422 ?_;refine bH Z (zm Z Z zi.h mQ (yn (c:=1) (bd_at b hlt Z) dQ Z)) ?_;refine au 937 ?_;constructor<;>intro hc1
 ·have hnh:n<=(bd b p.length).high:=of_decide_eq_true hc1;refine au 11421302120 ?_;refine bH Z (wA Z Z Z ArEl.h oQ oQ) ?_;refine TK.st Z Z Z (zX Z Z zi.h Z Z mQ (vU (k:=p.length) oQ Z)) uQ (putN Z) ?_;refine au 2301690423 ?_;refine bD Z Z Z Z ((by have:=ih (b.shrinks.length - (p.length+1)) oQ (p++[n]) (c1.set p.length n) pre1 K2 sQ (zgN hc1a hlt oQ) (zcT hp hlt hn.1 hnh) (List.IsPrefix.trans ⟨_,by rw [lF]; exact zcQ hnh hEq⟩ hpre) hJ1; rw [lF] at this; exact this)) ?_ (hs:=(.all _));rintro r7 K8 h9;rcases h9 with ⟨c2,K3,hc2,rfl,⟨rfl,hJ3⟩ | ⟨rfl,hD⟩⟩
  ·refine au 0 ?_;refine bN (K':=(jb,.cells (zE b s h e) 113 true)::(js,.cells (c2.map intA) 129 true)::(jy,.cells [.yl l] 207 true)::(jn,.cells [.fn 158 [] [.ptr jb 0,.ptr js 0,.ptr jy 0,.ptr jn 0]] 208 true)::(s,zk b)::(h,zB b)::(e,zq b)::K3) (by rw [lR]) ?_;refine au 35230141401201903300 ?_;refine bA [0,1,2,3,4,6,7] ?_;exact hnext _ _ _ oQ ⟨n+1,c2,_,K3,rfl,oQ,zb8 hc2,hJ3,zcQ hnh hEq,rfl,rfl⟩
  ·refine au 0 ?_;refine bN (K':=(jb,.cells (zE b s h e) 113 true)::(js,.cells (c2.map intA) 129 true)::(jy,.cells [.yl l] 207 true)::(jn,.cells [.fn 158 [] [.ptr jb 0,.ptr js 0,.ptr jy 0,.ptr jn 0]] 208 true)::(s,zk b)::(h,zB b)::(e,zq b)::K3) (by rw [lR]) ?_;refine au 35421803300 ?_;refine bB hret (_) ?_ (hs:=(.all _));exact ⟨c2,K3,zb8 hc2,rfl,.inr ⟨rfl,hD⟩⟩
 refine au 3542160 ?_;refine bB hret (_) ?_ (hs:=(.all _));exact ⟨c1,K2,hc1a,rfl,.inl ⟨rfl,by rw [<- hEq,zgb _ _ (of_decide_eq_false hc1)]; simpa using hJ1⟩⟩
theorem zfs {main T} (hT:zo tp main T) {gm} {b:RBk} {s h e l:Nat} (hb:ROk b) {J:List (List Int)->KV->Prop} {D:KV->Prop} {K1:KV} (hy:YieldR tp T gm b s h e l J D (zf b)) (hJ:J [] K1) :
  zA tp T gm 130 [.agg (zE b s h e),.yl l] ((s,zk b)::(h,zB b)::(e,zq b)::K1) (fun _ K'=>∃ K2,K'=(s,zk b)::(h,zB b)::(e,zq b)::K2/\(J (zf b) K2\/D K2)):=by
 refine zp 9 hT Tryz.func130 fun Y hret=>?_;refine au 0 ?_;have hs5:=hb.sms.len;have hsl:=hb.cls.len;refine au 21042 ?_;intro jb hjb;refine au 210 ?_;intro jy hjy;refine au 220423 ?_;intro js hjs;refine au 220423 ?_;intro jn hjn;refine au 3170320423 ?_;refine bN (K':=(jb,.cells (zE b s h e) 113 true)::(js,.cells ([0,0,0,0,0].map intA) 129 true)::(jy,.cells [.yl l] 207 true)::(jn,.cells [.fn 158 [] [.ptr jb 0,.ptr js 0,.ptr jy 0,.ptr jn 0]] 208 true)::(s,zk b)::(h,zB b)::(e,zq b)::K1) ziy ?_;refine au 6904 ?_;refine bD Z Z Z Z (zhm hT hb hy _ [] [0,0,0,0,0] [] K1 Z ⟨rfl,rfl,fun k hk=>by rw [lE]; rcases k with _ | _ | _ | _ | _ | k <;> rfl⟩ (zdS b) (List.prefix_refl _) hJ) ?_ (hs:=(.all _));rintro r1 K2 h3;rcases h3 with ⟨c2,K2,hc2,rfl,⟨rfl,hJ2⟩ | ⟨rfl,hD⟩⟩
 ·refine au 0 ?_;refine bN (K':=(jb,.cells (zE b s h e) 113 true)::(js,.cells (c2.map intA) 129 true)::(jy,.cells [.yl l] 207 true)::(jn,.cells [.fn 158 [] [.ptr jb 0,.ptr js 0,.ptr jy 0,.ptr jn 0]] 208 true)::(s,zk b)::(h,zB b)::(e,zq b)::K2) (by rw [lR]) ?_;refine au 3 ?_;refine TK.rt0 hret (_) ?_ (hs:=(.right (.right (.right (.right (.all _))))));exact ⟨_,rfl,.inl hJ2⟩
 ·refine au 0 ?_;refine bN (K':=(jb,.cells (zE b s h e) 113 true)::(js,.cells (c2.map intA) 129 true)::(jy,.cells [.yl l] 207 true)::(jn,.cells [.fn 158 [] [.ptr jb 0,.ptr js 0,.ptr jy 0,.ptr jn 0]] 208 true)::(s,zk b)::(h,zB b)::(e,zq b)::K2) (by rw [lR]) ?_;refine au 3 ?_;refine TK.rt0 hret (_) ?_ (hs:=(.right (.right (.right (.right (.all _))))));exact ⟨_,rfl,.inr hD⟩
theorem zcR (a b c d:Nat×AObj) {R:KV}:(a::b::c::d::R).Perm (b::c::d::a::R):=(List.perm_middle (l₁:=[b,c,d])).symm
theorem perm_4' (a b c d:Nat×AObj) {R:KV}:(b::c::d::a::R).Perm (a::b::c::d::R):=List.perm_middle (l₁:=[b,c,d])
theorem Kstep.perm {K K' K'':KV} {A A':List AObj} (h:Kstep K A K' A') (hp:K'.Perm K''):Kstep K A K'' A' :=
 ⟨h.view.sub fun x hx=>hp.symm.subset hx,(zT hp).nodup_iff.1 h.nd,fun i hi=>h.own i ((zT hp).symm.subset hi),h.kept,h.len⟩
theorem CallFK.perm {P:Program} {T:Goroutine->Hp->Prop} {gm:Nat->Option Nat} {yv:AV} {args:List AV} {K:KV} {Post Post':AV->KV->Prop} (h:CallFK P T gm yv args K Post) (hp:∀ r K',Post r K'->∃ K'',K'.Perm K''/\Post' r K''):CallFK P T gm yv args K Post' :=
 fun A hv hn=>(h A hv hn).mono fun r A' ⟨K',h1,h2⟩=>let ⟨K'',h3,h4⟩:=hp r K' h2; ⟨K'',h1.perm h3,h4⟩
section
variable {main:Bool} {T:Goroutine->Hp->Prop} {gm:Nat->Option Nat} {Y:KX tp gm T} {ds:List Nat} {k:List Item} {env:List AV} {K K0 R:KV}
theorem TK.rangeStates (hT:zo tp main T) {fo:Operand} {ps:Array Tmp} {x y:Code} {b:RBk} {s h e:Nat} (hb:ROk b) {J:List (List Int)->KV->Prop} {D:Code->KV->Prop} (hps:ps.size=1) (hro:Y.X.ro=none) (hf:zn gm env fo=some (.fn 130 [.agg (zE b s h e)] [])) (hs:Split K ((s,zk b)::(h,zB b)::(e,zq b)::K0) R) (hJ0:J [] K0)
  (round:∀ (Y':KX tp gm T) (l:Nat) (lo lb:AObj) (pre:List (List Int)) (S:List Int) (K1:KV),(∀ ds k env' K K',Upd K l lo l lb K'->TK Y' ds k env' K'->TK Y' ds (.beginRound::k) env' K) ->
   (∀ env' K' K2 D',Split K' ((l,lb)::(s,zk b)::(h,zB b)::(e,zq b)::K2) D'->J (pre++[S]) K2->TK Y' [] [] env' K') ->
   (∀ c k env' K' K2 D',Leave (some c) k->Split K' ((l,lb)::(s,zk b)::(h,zB b)::(e,zq b)::K2) D'->D c K2->TK Y' [] k env' K') ->
   pre++[S] <+: zf b->J pre K1->TK Y' [] [.code x,.beginRound,.code y] (putAll env (ps.toList.zip [.agg (stC S)])) ((l,lo)::(s,zk b)::(h,zB b)::(e,zq b)::K1))
  (hend:∀ d K2,J (zf b) K2->TK Y (d::ds) k env ((d,.raw (.deferred (some [])))::(s,zk b)::(h,zB b)::(e,zq b)::(K2++R)))
  (hstop:∀ d c K2,D c K2->TK Y (d::ds) (.code c::k) env ((d,.raw (.deferred (some [])))::(s,zk b)::(h,zB b)::(e,zq b)::(K2++R))):TK Y ds (.code (.rangeFunc fo ps x y)::k) env K:=by
 refine TK.rangeFunc (Post:=fun l _ K'=>∃ st pj K2,K'=(l,.loop Y.X.f env ps x y st pj)::(s,zk b)::(h,zB b)::(e,zq b)::K2/\((st=.ready/\pj=none/\J (zf b) K2)\/∃ c,st=.done/\pj=some c/\D c K2))
  (Q:=fun pj K'=>∃ K2,K'=(s,zk b)::(h,zB b)::(e,zq b)::K2/\((pj=none/\J (zf b) K2)\/∃ c,pj=some c/\D c K2)) hro hf Cal.h hs (fun l hl=>?_) ?_ ?_
 ·intro A hv hn;have hp:((l,AObj.loop Y.X.f env ps x y .ready none)::(s,zk b)::(h,zB b)::(e,zq b)::K0).Perm ((s,zk b)::(h,zB b)::(e,zq b)::(l,.loop Y.X.f env ps x y .ready none)::K0):=zcR _ _ _ _;refine CallT.mono (zfs hT hb (l:=l) (J:=fun pre K=>∃ K3,K=(l,.loop Y.X.f env ps x y .ready none)::K3/\J pre K3) (D:=fun K=>∃ c K3,K=(l,.loop Y.X.f env ps x y .done (some c))::K3/\D c K3) ?_ ⟨K0,rfl,hJ0⟩ A (hv.sub fun x hx=>hp.symm.subset hx) ((zT hp).nodup_iff.1 hn)) ?_
  ·rintro pre S K1 hpre ⟨K3,rfl,hJ⟩;refine CallFK.perm (Post:=fun r K'=>(r=zP true/\∃ K2,K'=(l,.loop Y.X.f env ps x y .ready none)::(s,zk b)::(h,zB b)::(e,zq b)::K2/\J (pre++[S]) K2)\/(r=zP false/\∃ c K2,K'=(l,.loop Y.X.f env ps x y .done (some c))::(s,zk b)::(h,zB b)::(e,zq b)::K2/\D c K2)) ?_ ?_
   ·refine zeG hT (i:=l) (f:=Y.X.f) (env:=env) (ps:=ps) (x:=x) (y:=y) sQ hps.symm fun Y' hro' hl' hret=>?_;refine bN (perm_4' _ _ _ _) ?_;refine round Y' l (.loop Y.X.f env ps x y .ready none) (.loop Y.X.f env ps x y .busy none) pre S K3 (fun ds k env' K K' hu h=>TK.beginRound hro' hl' hu h) (fun env' K' K2 D' hsp hJ'=>?_) (fun c k env' K' K2 D' hlv hsp hD=>?_) hpre hJ
    ·exact TK.leave .fin fun A hA=>hret none env' K' ((s,zk b)::(h,zB b)::(e,zq b)::K2) D' .busy none hsp (.inl ⟨rfl,K2,rfl,hJ'⟩) A hA
    ·exact TK.leave hlv fun A hA=>hret (some c) env' K' ((s,zk b)::(h,zB b)::(e,zq b)::K2) D' .busy none hsp (.inr ⟨rfl,c,K2,rfl,hD⟩) A hA
   ·rintro r K' (⟨rfl,K2,rfl,h⟩ | ⟨rfl,c,K2,rfl,h⟩)
    ·exact ⟨_,zcR _ _ _ _,_,rfl,.inl ⟨rfl,K2,rfl,h⟩⟩
    ·exact ⟨_,zcR _ _ _ _,_,rfl,.inr ⟨rfl,c,K2,rfl,h⟩⟩
  ·rintro r A' ⟨K',hk,K2,rfl,hx⟩;have hk2:∀ K'',((s,zk b)::(h,zB b)::(e,zq b)::K2).Perm K''->Kstep ((l,AObj.loop Y.X.f env ps x y .ready none)::(s,zk b)::(h,zB b)::(e,zq b)::K0) A K'' A':=fun K'' hp2 =>
    Kstep.perm ⟨hk.view,hk.nd,fun i hi=>(hk.own i hi).imp_left fun h=>(zT hp).symm.subset h,fun j h1 h2=>hk.kept j h1 fun h=>h2 ((zT hp).symm.subset h),hk.len⟩ hp2
   rcases hx with ⟨K3,rfl,h⟩ | ⟨c,K3,rfl,h⟩
   ·exact ⟨_,hk2 _ (perm_4' _ _ _ _),.ready,none,K3,rfl,.inl ⟨rfl,rfl,h⟩⟩
   ·exact ⟨_,hk2 _ (perm_4' _ _ _ _),.done,some c,K3,rfl,.inr ⟨c,rfl,rfl,h⟩⟩
 ·rintro l r K' ⟨st,pj,K2,rfl,h⟩;refine ⟨st,pj,_,rfl,?_,K2,rfl,?_⟩
  ·rcases h with ⟨rfl,_⟩ | ⟨c,rfl,_⟩ <;> rfl
  ·rcases h with ⟨_,rfl,h⟩ | ⟨c,_,rfl,h⟩
   ·exact .inl ⟨rfl,h⟩
   ·exact .inr ⟨c,rfl,h⟩
 ·rintro d pj K' ⟨K2,rfl,⟨rfl,h⟩ | ⟨c,rfl,h⟩⟩
  ·exact hend d K2 h
  ·exact hstop d c K2 h
end
theorem zcG (n:Int):∀ k,(numsF n k).length=k
 | 0=>rfl
 | k+1=>by unfold numsF; rw [lZ,zcG (n+1) k]
theorem zco {b:RBk}:∀ (r:List RBand) (p:List Int),(∀ x∈r,(numsM x).length<=3)->(fromM b p r).length<=3 ^ r.length
 | [],p,_=>by unfold fromM; split <;> simp
 | x::r,p,h=>by
  unfold fromM;have h1:=h x sQ;have key:∀ (l:List Int),(l.flatMap fun n=>fromM b (p++[n]) r).length<=l.length*3 ^ r.length:=fun l=>by
   induction l with
   | nil=>simp
   | cons a l ih =>
    rw [List.flatMap_cons,lF,lZ,Nat.succ_mul];have:=zco (b:=b) r (p++[a]) fun y hy=>h y (by simp [hy]);omega
  have h2:=key (numsM x);have h3:(numsM x).length*3 ^ r.length<=3*3 ^ r.length:=Nat.mul_le_mul_right _ h1;rw [lZ,Nat.pow_succ];omega
theorem kg {b:RBk} (hb:ROk b):(zf b).length<=243:=by
 have h1:=zco (b:=b) b.shrinks [] fun x hx=>by
  obtain ⟨i,hi,rfl⟩:=List.mem_iff_getElem.1 hx;have hi2:i<b.seams.length:=by have:=hb.cls.len; omega
  have e:b.shrinks[i]=bd b i:=by have:=kq (b:=b) hi; rw [lA hi] at this; exact Option.some.inj this
  have:=hb.cls.bnd i hi2;unfold numsM;rw [zcG,e];omega
 have h2:3 ^ b.shrinks.length<=3 ^ 5:=Nat.pow_le_pow_right dQ (by have:=hb.cls.len; have:=hb.sms.len; omega);exact mT h1 h2
theorem zhu {b:RBk} (hb:ROk b) {pre:List (List Int)} (h:pre <+: zf b):pre.length<=243:=mT h.length_le (kg hb)
theorem yT {α:Type} (f:α->List AV) (xs:List α) (x:α):(xs++[x]).flatMap f=xs.flatMap f++f x:=by rw [List.flatMap_append]; simp
abbrev allO (all:List (List Int)):AObj:=.cells (all.flatMap stC) 129 false
def knownC (b:RBk) (s h e a n:Nat):List AV:=[intA b.steps,intA b.round,intA b.roll,intA b.rolls,.sl s 0 b.seams.length,.sl h 0 b.shrinks.length,.sl e 0 b.measures.length,.sl a 0 n]
def z8R:List AV:=[intA 0,intA 0,intA 0,intA 0,.v (.slice none 0 0),.v (.slice none 0 0),.v (.slice none 0 0),.v (.slice none 0 0)]
theorem kF {x y:Int} (h:bar2 x y=0):x=0:=by
 unfold bar2 at h;split at h
 ·rename_i h1; exact absurd h h1
 ·rename_i h1; simpa using h1
def KnownR (b:RBk) (s h e:Nat) (bar:Int) (K:KV) (r:AV) (K':KV):Prop :=
 (bar≠0/\r=.tup [.agg z8R,intA bar]/\K'=K)\/(bar=0/\zf b=[]/\r=.tup [.agg z8R,intA 9]/\K'=K)\/(bar=0/\zf b≠[]/\∃ a,r=.tup [.agg (knownC b s h e a (zf b).length),intA 0]/\K'=(a,allO (zf b))::K)
theorem zdQ (a b c d e f:Nat×AObj) {R:KV}:((c::d::e::f::R)++[a,b]).Perm (c::d::e::f::a::b::R):=by
 have q:(R++[a,b]).Perm ([a,b]++R):=lH;exact (((q.cons f).cons e).cons d).cons c
theorem zdR (a b c d e f g:Nat×AObj) {R:KV}:((g::c::d::e::f::R)++[a,b]).Perm (g::c::d::e::f::a::b::R):=by
 have q:(R++[a,b]).Perm ([a,b]++R):=lH;exact ((((q.cons f).cons e).cons d).cons c).cons g
instance:ApOf tp 137 129 5 40:={}
instance:BlOf tp 139 [(0,7),(7,1)]:={}
instance:Cal tp 148:={}
instance:Cal tp 164:={}
instance:Cal tp 90:={}
instance:zl tp 139 1 7 false 1:={}
instance:zF tp 137 129 5:={}
instance:zi tp 137 false 1:={}
instance:TyZ tp 129 [.int .i64 0,.int .i64 0,.int .i64 0,.int .i64 0,.int .i64 0]:={}
instance:TyZ tp 139 [.int .i64 0,.int .i64 0,.int .i64 0,.int .i64 0,.slice none 0 0,.slice none 0 0,.slice none 0 0,.slice none 0 0]:={}
instance:TyZA tp 139 [.v (.int .i64 0),.v (.int .i64 0),.v (.int .i64 0),.v (.int .i64 0),.v (.slice none 0 0),.v (.slice none 0 0),.v (.slice none 0 0),.v (.slice none 0 0)]:={}
instance:TyZA tp 4 [.v (.bool false)]:={}
instance:Und tp 137 (.slice 129):={}
theorem zd0 {main T} (hT:zo tp main T) {gm} {b:RBk} {s h e:Nat} (hb:ROk b) :
  zA tp T gm 115 [.agg (zE b s h e)] [(s,zk b),(h,zB b),(e,zq b)] (fun r K'=>r=zP (!(zf b).isEmpty)/\K'=[(s,zk b),(h,zB b),(e,zq b)]):=by
 refine vx 6 hT Tryz.func115 fun Y hro hret=>?_;refine au 21042 ?_;intro jb hjb;refine au 220 ?_;intro jr hjr;refine au 13033206804223 ?_;refine TK.rangeStates hT hb (s:=s) (h:=h) (e:=e) (J:=fun pre K1=>K1=[(jr,.cells [zP false] 4 true),(jb,.cells (zE b s h e) 113 true)]/\pre=[]) (D:=fun c K1=>c=.ret/\zf b≠[]/\K1=[(jr,.cells [zP true] 4 true),(jb,.cells (zE b s h e) 113 true)]) rfl hro rfl (by repeat (first | exact Split.none _ | exact Split.all _ | (apply Split.rem; repeat (first | exact Rem.head | apply Rem.tail)) | apply Split.right)) ⟨rfl,rfl⟩ (fun Y' l lo lb pre S K1 hbegin hfin hout hpre hJ=>?_) (fun d K2 hJ=>?_) (fun d c K2 hD=>?_)
 ·obtain ⟨rfl,rfl⟩:=hJ;refine au 120 ?_;refine hbegin _ _ _ _ _ uQ ?_;refine au 317042130 ?_;exact hout _ _ _ _ [(jr,_),(jb,_)] _ (.ret _) (by repeat (first | exact Split.none _ | exact Split.all _ | (apply Split.rem; repeat (first | exact Rem.head | apply Rem.tail)) | apply Split.right)) ⟨rfl,fun e=>by rw [e] at hpre; exact absurd hpre.length_le sQ,rfl⟩
 ·obtain ⟨rfl,hJ⟩:=hJ;simp only [cA];refine au 317042140 ?_;refine TK.leave (.ret _) fun A hA=>hret _ _ _ _ ([(s,_),(h,_),(e,_),(jr,_)]) ([(s,_),(h,_),(e,_)]) _ _ _ (.inr rfl) (by repeat (first | exact Split.none _ | exact Split.all _ | (apply Split.rem; repeat (first | exact Rem.head | apply Rem.tail)) | apply Split.right)) sQ sQ (by repeat (first | exact Split.none _ | exact Split.all _ | (apply Split.rem; repeat (first | exact Rem.head | apply Rem.tail)) | apply Split.right)) (yC (yN Z zi.h mQ rfl)) ?_ A hA;exact ⟨by rw [hJ]; rfl,rfl⟩
 ·obtain ⟨rfl,hD,rfl⟩:=hD;simp only [cA];refine au 0 ?_;refine TK.leave (.ret _) fun A hA=>hret _ _ _ _ ([(s,_),(h,_),(e,_),(jr,_)]) ([(s,_),(h,_),(e,_)]) _ _ _ (.inr rfl) (by repeat (first | exact Split.none _ | exact Split.all _ | (apply Split.rem; repeat (first | exact Rem.head | apply Rem.tail)) | apply Split.right)) sQ sQ (by repeat (first | exact Split.none _ | exact Split.all _ | (apply Split.rem; repeat (first | exact Rem.head | apply Rem.tail)) | apply Split.right)) (yC (yN Z zi.h mQ rfl)) ?_ A hA;exact ⟨by cases hh:zf b with | nil=>exact absurd hh hD | cons x r=>rfl,rfl⟩
theorem zb6 {main T} (hT:zo tp main T) {gm} {b:RBk} {s h e:Nat} (hb:ROk b) :
  zA tp T gm 164 [.v (.slice none 0 0),.fn 130 [.agg (zE b s h e)] []] [(s,zk b),(h,zB b),(e,zq b)] (fun r K'=>∃ j,r=.row j (zf b).length/\K'=[(s,zk b),(h,zB b),(e,zq b),(j,.row ((zf b).flatMap stC) 129 5)]):=by
 refine vx 13 hT Tryz.func164 fun Y hro hret=>?_;refine au 21042 ?_;intro jl hjl;refine TK.virtAt (i:=0) (e:=129) (size:=5) Z (fun _=>uQ) fun j0 hj0=>?_;refine au 1303142235 ?_;refine TK.rangeStates hT hb (s:=s) (h:=h) (e:=e) (J:=fun pre K1=>∃ j,K1=[(jl,.cells [.row j pre.length] 137 true),(j,.row (pre.flatMap stC) 129 5)]) (D:=fun _ _=>False) rfl hro rfl (by repeat (first | exact Split.none _ | exact Split.all _ | (apply Split.rem; repeat (first | exact Rem.head | apply Rem.tail)) | apply Split.right)) ⟨j0,rfl⟩ (fun Y' l lo lb pre S K1 hbegin hfin hout hpre hJ=>?_) (fun d K2 hJ=>?_) (fun d c K2 hD=>?_)
 ·obtain ⟨j,rfl⟩:=hJ;have hpl:=zhu hb ((List.prefix_append _ _).trans hpre);have hfl:=yz stC 5 (fun _=>rfl) pre;refine au 2204 ?_;intro j5 hj5;refine au 3170 ?_;refine hbegin _ _ _ _ _ uQ ?_;refine au 6806904130 ?_;refine bI Z Z Z (zt (l:=[_,_,_,_,_]) Z zF.h TyZ.h dQ dQ Z) (fun _=>zu rfl tQ) fun j1 hj1=>?_;refine bO Z Z Z (a_app Z ApOf.h Z mQ oQ Z (yw (ln:=[_,_,_,_,_]) mQ dQ sQ Z) oQ Z (by unfold maxLen; omega) oQ) (fun _=>uQ) (fun _=>zu rfl tQ) fun j2=>?_;refine au 1403170 ?_;exact hfin _ _ [(jl,_),(j2,_)] _ (by repeat (first | exact Split.none _ | exact Split.all _ | (apply Split.rem; repeat (first | exact Rem.head | apply Rem.tail)) | apply Split.right)) ⟨j2,by rw [yT,lF] <;> rfl⟩
 ·obtain ⟨j,rfl⟩:=hJ;simp only [cA];refine au 3569042140 ?_;refine TK.leave (.ret _) fun A hA=>hret _ _ _ _ ([(s,_),(h,_),(e,_),(j,_)]) ([(s,_),(h,_),(e,_),(j,_)]) _ _ _ (.inr rfl) (by repeat (first | exact Split.none _ | exact Split.all _ | (apply Split.rem; repeat (first | exact Rem.head | apply Rem.tail)) | apply Split.right)) sQ sQ (by repeat (first | exact Split.none _ | exact Split.all _ | (apply Split.rem; repeat (first | exact Rem.head | apply Rem.tail)) | apply Split.right)) (yC (zU Z)) ?_ A hA;exact ⟨j,rfl,rfl⟩
 ·exact hD.elim
theorem wZ {main T} (hT:zo tp main T) {gm} {b:RBk} {s h e:Nat} (hb:ROk b) :
  zA tp T gm 148 [.fn 130 [.agg (zE b s h e)] []] [(s,zk b),(h,zB b),(e,zq b)] (fun r K'=>∃ j,r=.row j (zf b).length/\K'=[(s,zk b),(h,zB b),(e,zq b),(j,.row ((zf b).flatMap stC) 129 5)]):=by
 refine zp 5 hT Tryz.func148 fun Y hret=>?_;refine au 1423542 ?_;refine bD Z Z Z Z (zb6 hT hb) ?_;rintro r1 K2 ⟨j,rfl,rfl⟩;refine au 35 ?_;refine bB hret [(s,_),(h,_),(e,_),(j,_)] ?_;exact ⟨j,rfl,rfl⟩
theorem wl {main:Bool} {T:Goroutine->Hp->Prop} (hT:zo tp main T)  {b:RBk} {s h e:Nat} {Kx:KV}  (hl:b.seams.length<=100) (hm:b.measures.length<=100) :
  zA tp T gmR 107 [.agg (zE b s h e),.v (.slice none 0 0)] ((0,zy)::(s,zk b)::(h,zB b)::(e,zq b)::Kx) (fun r K'=>KnownR b s h e (zr b) ((0,zy)::(s,zk b)::(h,zB b)::(e,zq b)::Kx) r K'):=by
 refine zp 30 hT Tryz.func107 fun Y hret=>?_;refine au 21042 ?_;intro jb hjb;refine au 220 ?_;intro jr hjr;refine au 16804235 ?_;refine bD Z Z Z Z (ui hT hl hm) ?_ (hs:=(.right (.right (.all _))));rintro r1 K2 h3;rcases h3 with ⟨⟨hbar,rfl⟩ | ⟨hbar,rfl⟩,rfl⟩
 ·refine au 0 ?_;refine bN (K':=(0,_)::(s,_)::(h,_)::(e,_)::(jr,_)::(jb,_)::Kx) (zdQ _ _ _ _ _ _ ) ?_;refine au 220661 ?_;intro j6 hj6;refine au 937142235170 ?_;constructor<;>intro hc0
  ·exact absurd hc0 sQ
  have hbb:=zZ (hbar);refine au 2120 ?_;refine bL [0,1,2,3,4,5,6] ?_;refine ad [[12,6],[12,6]] ?_;refine bU [20] Z (uj Z Z Z) ?_;refine TD.c2 (i1:=3) (i2:=5) (pend1:=[⟨1,[6],[(_,_)]⟩,⟨0,[6],[(_,_)]⟩]) (pend2:=[⟨2,[20],[]⟩,⟨1,[6],[(_,_)]⟩,⟨0,[6],[(_,_)]⟩]) (L1:=[4,5,6]) (L2:=[3,4,6]) [21] [] Z Z Z Z Z Z Z ?_ ?_
  ·refine wi Z Z Cal.h Z (wZ hT hbb) (.right (.right (.left (.left (.left (.none _)))))) fun r4 K5 h6=>⟨?_,?_⟩
   ·rcases h6 with ⟨a,rfl,rfl⟩
    all_goals simp
   obtain ⟨a,rfl,rfl⟩:=h6;try simp only [cA]
   refine bS (env':=[_,_,_,_,_,_,_,_,_,_,_,_,_,_,_,_,_,_,_,_,_,_,_,_,_,_,_,_,_,_]) Z ?_;refine bU [19,22] Z (yE (l:=[_,_,_,_,_,_,_,_]) Z TyZ.h BlOf.h Z) ?_;refine bX (pend':=[⟨4,[19,22],[]⟩,⟨1,[6],[(_,_)]⟩,⟨0,[6],[(_,_)]⟩]) [] Z Z Z Z Z (yL Z TyZA.h) (fun _=>zu rfl tQ) sQ fun j8 hj8=>?_;refine bR (pend':=[]) [8,23] Z Z (zX Z Z zi.h Z Z mQ Z) ?_;refine ad [[14]] ?_;refine au 22 ?_;refine TK.unrowAt (c:=j8) (i:=7) (j:=a) Z mQ uQ ?_;refine bY (j:=a) ?_;refine au 9372806906704 ?_;constructor<;>intro hc1
   ·have hnil:zf b=[]:=List.length_eq_zero_iff.1 (by have:=eq_of_beq hc1; omega);refine au 3517045042 ?_;refine bB hret ((0,_)::(s,_)::(h,_)::(e,_)::Kx) ?_;exact .inr (.inl ⟨hbar,hnil,rfl,rfl⟩)
   have hne:zf b≠[]:=fun e=>by rw [e] at hc1; simp at hc1
   refine au 3517068042120 ?_;refine bB hret ((a,_)::(0,_)::(s,_)::(h,_)::(e,_)::Kx) ?_;exact .inr (.inr ⟨hbar,hne,a,rfl,rfl⟩)
  ·refine vm Z (yL Z TyZA.h) (fun _=>zu rfl tQ) sQ fun j8 hj8=>?_;refine bQ (pend':=[⟨1,[6],[(_,_)]⟩,⟨0,[6],[(_,_)]⟩]) [21] Z Z Z Z Z (wZ hT hbb) (fun r7 K8 h9=>⟨?_,?_⟩) (hs:=(.right (.right (.right (.left (.left (.left (.none _))))))))
   ·rcases h9 with ⟨a,rfl,rfl⟩
    all_goals simp
   obtain ⟨a,rfl,rfl⟩:=h9;try simp only [cA]
   refine bS tQ ?_;refine bU [19,22] Z (yE (l:=[_,_,_,_,_,_,_,_]) Z TyZ.h BlOf.h Z) ?_;refine bR (pend':=[]) [8,23] Z Z (zX Z Z zi.h Z Z mQ Z) ?_;refine ad [[14]] ?_;refine au 22 ?_;refine TK.unrowAt (c:=j8) (i:=7) (j:=a) Z mQ uQ ?_;refine bY (j:=a) ?_;refine au 9372806906704 ?_;constructor<;>intro hc1
   ·have hnil:zf b=[]:=List.length_eq_zero_iff.1 (by have:=eq_of_beq hc1; omega);refine au 3517045042 ?_;refine bB hret ((0,_)::(s,_)::(h,_)::(e,_)::Kx) ?_;exact .inr (.inl ⟨hbar,hnil,rfl,rfl⟩)
   have hne:zf b≠[]:=fun e=>by rw [e] at hc1; simp at hc1
   refine au 3517068042120 ?_;refine bB hret ((a,_)::(0,_)::(s,_)::(h,_)::(e,_)::Kx) ?_;exact .inr (.inr ⟨hbar,hne,a,rfl,rfl⟩)
 ·refine au 0 ?_;refine bN (K':=(0,_)::(s,_)::(h,_)::(e,_)::(jr,_)::(jb,_)::Kx) (zdQ _ _ _ _ _ _ ) ?_;refine au 220661 ?_;intro j6 hj6;refine au 937142235170 ?_;constructor<;>intro hc0
  ·
   refine au 35170145042 ?_;refine bB hret ((0,_)::(s,_)::(h,_)::(e,_)::Kx) ?_;exact .inl ⟨hbar,rfl,rfl⟩
  exact absurd hbar (by simpa using hc0)
theorem uK {main:Bool} {T:Goroutine->Hp->Prop} (hT:zo tp main T)  {b:RBk} {s h e:Nat} {Kx:KV} {ja:Nat} {f1:AV} {p1:Int} (hf1:zr b=0->CallFK tp T gmR f1 [.agg (zE b s h e)] ((s,zk b)::Kx) (fun r K'=>r=intA p1/\K'=(s,zk b)::Kx)) (hl:b.seams.length<=100) (hm:b.measures.length<=100) :
  zA tp T gmR 107 [.agg (zE b s h e),.row ja 1] ((ja,.row [f1] 116 1)::(0,zy)::(s,zk b)::(h,zB b)::(e,zq b)::Kx) (fun r K'=>KnownR b s h e (bar2 (zr b) p1) ((ja,.row [f1] 116 1)::(0,zy)::(s,zk b)::(h,zB b)::(e,zq b)::Kx) r K'):=by
 refine zp 30 hT Tryz.func107 fun Y hret=>?_;refine au 21042 ?_;intro jb hjb;refine au 220 ?_;intro jr hjr;refine au 16804235 ?_;refine bD Z Z Z Z (w8 hT hl hm hf1) ?_ (hs:=(.right (.right (.all _))));rintro r1 K2 h3;rcases h3 with ⟨⟨hbar,rfl⟩ | ⟨hbar,rfl⟩,rfl⟩
 ·refine au 0 ?_;refine bN (K':=(ja,_)::(0,_)::(s,_)::(h,_)::(e,_)::(jr,_)::(jb,_)::Kx) (zdR _ _ _ _ _ _ _) ?_;refine au 220661 ?_;intro j6 hj6;refine au 937142235170 ?_;constructor<;>intro hc0
  ·exact absurd hc0 sQ
  have hbb:=zZ (kF hbar);refine au 2120 ?_;refine bL [0,1,2,3,4,5,6] ?_;refine ad [[12,6],[12,6]] ?_;refine bU [20] Z (uj Z Z Z) ?_;refine TD.c2 (i1:=3) (i2:=5) (pend1:=[⟨1,[6],[(_,_)]⟩,⟨0,[6],[(_,_)]⟩]) (pend2:=[⟨2,[20],[]⟩,⟨1,[6],[(_,_)]⟩,⟨0,[6],[(_,_)]⟩]) (L1:=[4,5,6]) (L2:=[3,4,6]) [21] [] Z Z Z Z Z Z Z ?_ ?_
  ·refine wi Z Z Cal.h Z (wZ hT hbb) (.right (.right (.right (.left (.left (.left (.none _))))))) fun r4 K5 h6=>⟨?_,?_⟩
   ·rcases h6 with ⟨a,rfl,rfl⟩
    all_goals simp
   obtain ⟨a,rfl,rfl⟩:=h6;try simp only [cA]
   refine bS (env':=[_,_,_,_,_,_,_,_,_,_,_,_,_,_,_,_,_,_,_,_,_,_,_,_,_,_,_,_,_,_]) Z ?_;refine bU [19,22] Z (yE (l:=[_,_,_,_,_,_,_,_]) Z TyZ.h BlOf.h Z) ?_;refine bX (pend':=[⟨4,[19,22],[]⟩,⟨1,[6],[(_,_)]⟩,⟨0,[6],[(_,_)]⟩]) [] Z Z Z Z Z (yL Z TyZA.h) (fun _=>zu rfl tQ) sQ fun j8 hj8=>?_;refine bR (pend':=[]) [8,23] Z Z (zX Z Z zi.h Z Z mQ Z) ?_;refine ad [[14]] ?_;refine au 22 ?_;refine TK.unrowAt (c:=j8) (i:=7) (j:=a) Z mQ uQ ?_;refine bY (j:=a) ?_;refine au 9372806906704 ?_;constructor<;>intro hc1
   ·have hnil:zf b=[]:=List.length_eq_zero_iff.1 (by have:=eq_of_beq hc1; omega);refine au 3517045042 ?_;refine bB hret ((ja,_)::(0,_)::(s,_)::(h,_)::(e,_)::Kx) ?_;exact .inr (.inl ⟨hbar,hnil,rfl,rfl⟩)
   have hne:zf b≠[]:=fun e=>by rw [e] at hc1; simp at hc1
   refine au 3517068042120 ?_;refine bB hret ((a,_)::(ja,_)::(0,_)::(s,_)::(h,_)::(e,_)::Kx) ?_;exact .inr (.inr ⟨hbar,hne,a,rfl,rfl⟩)
  ·refine vm Z (yL Z TyZA.h) (fun _=>zu rfl tQ) sQ fun j8 hj8=>?_;refine bQ (pend':=[⟨1,[6],[(_,_)]⟩,⟨0,[6],[(_,_)]⟩]) [21] Z Z Z Z Z (wZ hT hbb) (fun r7 K8 h9=>⟨?_,?_⟩) (hs:=(.right (.right (.right (.right (.left (.left (.left (.none _)))))))))
   ·rcases h9 with ⟨a,rfl,rfl⟩
    all_goals simp
   obtain ⟨a,rfl,rfl⟩:=h9;try simp only [cA]
   refine bS tQ ?_;refine bU [19,22] Z (yE (l:=[_,_,_,_,_,_,_,_]) Z TyZ.h BlOf.h Z) ?_;refine bR (pend':=[]) [8,23] Z Z (zX Z Z zi.h Z Z mQ Z) ?_;refine ad [[14]] ?_;refine au 22 ?_;refine TK.unrowAt (c:=j8) (i:=7) (j:=a) Z mQ uQ ?_;refine bY (j:=a) ?_;refine au 9372806906704 ?_;constructor<;>intro hc1
   ·have hnil:zf b=[]:=List.length_eq_zero_iff.1 (by have:=eq_of_beq hc1; omega);refine au 3517045042 ?_;refine bB hret ((ja,_)::(0,_)::(s,_)::(h,_)::(e,_)::Kx) ?_;exact .inr (.inl ⟨hbar,hnil,rfl,rfl⟩)
   have hne:zf b≠[]:=fun e=>by rw [e] at hc1; simp at hc1
   refine au 3517068042120 ?_;refine bB hret ((a,_)::(ja,_)::(0,_)::(s,_)::(h,_)::(e,_)::Kx) ?_;exact .inr (.inr ⟨hbar,hne,a,rfl,rfl⟩)
 ·refine au 0 ?_;refine bN (K':=(ja,_)::(0,_)::(s,_)::(h,_)::(e,_)::(jr,_)::(jb,_)::Kx) (zdR _ _ _ _ _ _ _) ?_;refine au 220661 ?_;intro j6 hj6;refine au 937142235170 ?_;constructor<;>intro hc0
  ·
   refine au 35170145042 ?_;refine bB hret ((ja,_)::(0,_)::(s,_)::(h,_)::(e,_)::Kx) ?_;exact .inl ⟨hbar,rfl,rfl⟩
  exact absurd hbar (by simpa using hc0)
section
variable {P:Program} {main:Bool} {k:List Item}
theorem zgx {kd:CallKind} {f:FuncId} {ro:Option Nat} {ts:Array Value} {ds:List Deferred} {cs:List Frame} {w:World} {c:Code}:stepG P main (G (fr kd f ro ts ds (.code (.scope c)::k)) cs) w=.go (G (fr kd f ro ts ds (.code c::.inScope c::k)) cs) w #[]:=by simp [G,stepG,stepG.exec,fr]
theorem zey {kd:CallKind} {f:FuncId} {ro:Option Nat} {ts:Array Value} {ds:List Deferred} {cs:List Frame} {w:World} {c:Code}:stepG P main (G (fr kd f ro ts ds (.inScope c::k)) cs) w=.go (G (fr kd f ro ts ds k) cs) w #[]:=by simp [G,stepG,stepG.exec,fr]
end
section
variable {P:Program} {gm:Nat->Option Nat} {T:Goroutine->Hp->Prop} {Y:KX P gm T} {ds:List Nat} {k:List Item} {env:List AV} {K:KV}
theorem TK.scope {c:Code} (h:TK Y ds (.code c::.inScope c::k) env K):TK Y ds (.code (.scope c)::k) env K:=fun A hA φ H ts h1 h2 h3 h4 h5 h6=>Y.X.hT.ctlF rfl (fun _=>zgx) rfl (h A hA φ H ts h1 h2 h3 h4 h5 h6)
theorem TK.inScope {c:Code} (h:TK Y ds k env K):TK Y ds (.inScope c::k) env K:=fun A hA φ H ts h1 h2 h3 h4 h5 h6=>Y.X.hT.ctlF rfl (fun _=>zey) rfl (h A hA φ H ts h1 h2 h3 h4 h5 h6)
end
theorem wI {o:Option (List Int×Int)} {K:KV} {r:AV} {K':KV} (h:HangR o K r K'):(o=none/\r=.tup [.agg [.v (.slice none 0 0),intA 0],zP false]/\K'=K)\/∃ w q jw,o=some (w,q)/\r=.tup [.agg [.sl jw 0 w.length,intA q],zP true]/\K'=(jw,.cells (w.map intA) 3 false)::K:=by
 cases o with
 | none=>exact .inl ⟨rfl,h⟩
 | some z=>obtain ⟨jw,h1,h2⟩:=h; exact .inr ⟨z.1,z.2,jw,rfl,h1,h2⟩
def wayC (p:Nat×Nat×Int):List AV:=[.sl p.1 0 p.2.1,intA p.2.2]
theorem zaL {all:List (List Int)} {i:Nat} {st:List Int} {n:Int} {e:TypeId} {rw':Bool} (h:all[i]? =some st) (hn:n=(i:Int)):takeO (.cells (all.flatMap stC) e rw') (0+n.toNat*5) 5=some (stC st):=vb (c:=5) (fun _=>rfl) h hn dQ
theorem zbY {b:RBk} {all:List (List Int)} {l st:List Int} {i:Nat} (h:all[i]? =some st) (hh:hangM b l st=none):waysM b (all.take (i+1)) l=waysM b (all.take i) l:=by
 unfold waysM;rw [yQ h,List.filterMap_append];simp [hh]
theorem zbZ {b:RBk} {all:List (List Int)} {l st w:List Int} {q:Int} {i:Nat} (h:all[i]? =some st) (hh:hangM b l st=some (w,q)):waysM b (all.take (i+1)) l=waysM b (all.take i) l++[(w,q)]:=by
 unfold waysM;rw [yQ h,List.filterMap_append];simp [hh]
theorem zd2 (b:RBk) (all:List (List Int)) (l:List Int):(waysM b all l).length<=all.length:=List.length_filterMap_le _ _
theorem zdz (x:Int) (r:List Int) (y:Int):spreadM (x::(r++[y]))=(min (spreadM (x::r)).1 y,max (spreadM (x::r)).2 y):=by
 unfold spreadM;dsimp only;rw [List.foldl_append,List.foldl_append];rfl
def sqOk (b:RBk) (all:List (List Int)) (l:List Int):Bool:=(squaresM b all l).isSome
def sqLo (b:RBk) (all:List (List Int)) (l:List Int):Int:=((squaresM b all l).getD (0,0)).1
def sqHi (b:RBk) (all:List (List Int)) (l:List Int):Int:=((squaresM b all l).getD (0,0)).2
theorem kE {l:List Int} {i p:Nat} {x:Int} {e:TypeId} {s:Nat} (h:l[i]? =some x) (hp:p=i):takeO (.row (l.map intA) e s) p 1=some [intA x]:=by
 subst hp;have:=zaj (e:=e) (s:=s) h rfl;simpa using this
instance:ApOf tp 175 125 2 32:={}
instance:BlOf tp 51 [(0,1),(1,1)]:={}
instance:Cal tp 100:={}
instance:Cal tp 118:={}
instance:Cal tp 134:={}
instance:Cal tp 138:={}
instance:Cal tp 156:={}
instance:Cal tp 185:={}
instance:Cal tp 216:={}
instance:zl tp 143 0 0 false 1:={}
instance:zl tp 143 1 1 false 1:={}
instance:zF tp 175 125 2:={}
instance:TyZ tp 51 [.int .i64 0,.int .i64 0]:={}
instance:Und tp 175 (.slice 125):={}
theorem zd3 {main T} (hT:zo tp main T) {gm} {b:RBk} {s h e a j:Nat} {l:List Int} {all:List (List Int)} {et:TypeId} (hb:ROk b) (hl:CutsOk b l) (ha:okAll b all) (hn:all.length<=243) :
  zA tp T gm 138 [.agg (knownC b s h e a all.length),.sl j 0 l.length] [(s,zk b),(a,allO all),(j,.cells (l.map intA) et false)] (fun r K'=>∃ (jr:Nat) (ps:List (Nat×Nat×Int)),ps.map (·.2.2)=(waysM b all l).map (·.2)/\r=.row jr ps.length/\K'=[(jr,.row (ps.flatMap wayC) 125 2),(s,zk b),(a,allO all),(j,.cells (l.map intA) et false)]):=by
 refine zp 35 hT Tryz.func138 fun Y hret=>?_;refine au 21042 ?_;intro jb hjb;refine au 35 ?_;refine TK.scope ?_;refine au 542 ?_;refine TK.virt 5 125 2 Z fun jr0 hjr0=>?_;refine au 1303128069067042215023 ?_;refine bA [1,2,4,5,11,12] ?_;refine bC [(s,_),(a,_),(j,_),(jr0,_),(jb,_)] ?_;refine bE (fun n env K=>∃ (i jr:Nat) (ps:List (Nat×Nat×Int)),n=all.length - i/\i<=all.length/\ps.map (·.2.2)=(waysM b (all.take i) l).map (·.2)/\env=.any::.sl j 0 l.length::.ptr jb 0::.any::.v (.slice none 0 0)::.row jr ps.length::naL 5 (intA all.length::intA i::naL 22 [])/\K=[(s,zk b),(a,allO all),(j,.cells (l.map intA) et false),(jr,.row (ps.flatMap wayC) 125 2),(jb,.cells (knownC b s h e a all.length) 139 true)]) all.length ⟨0,jr0,[],rfl,mN _,rfl,rfl,rfl⟩ fun n env K hI hnext=>?_;obtain ⟨i,jr,ps,rfl,hi,hps,rfl,rfl⟩:=hI;have hpl:ps.length<=i:=by have:=congrArg List.length hps; rw [lJ,lJ] at this; have h2:=zd2 b (all.take i) l; rw [List.length_take] at h2; omega
 have hfl:=yz wayC 2 (fun _=>rfl) ps;refine bG nQ ?_;refine au 923742 ?_;constructor<;>intro hc0
 ·have hil:i<all.length:=by simp at hc0; omega
  obtain ⟨st,hst⟩:∃ st,all[i]? =some st:=⟨_,lA hil⟩;have hsk:=ha st (lN hst);refine au 2351421302120 ?_;refine bL [0,1,2,3,4,5,6,7,8,9,10,12,13,11,14] ?_;refine ad [[3,2],[12,16],[1,1],[3,2],[10,19],[1,6],[2,20,21]] ?_;refine bT [22] Z (hq:=ya Z Z zi.h (mC _) (zaL (i:=i) hst Z)) (h:=?_);refine TD.c2 (i1:=8) (i2:=12) (pend1:=[⟨6,[20,21],[]⟩,⟨5,[6],[]⟩,⟨4,[19],[(_,_)]⟩,⟨3,[2],[]⟩,⟨0,[2],[]⟩]) (pend2:=[⟨7,[22],[(_,_)]⟩,⟨6,[20,21],[]⟩,⟨5,[6],[]⟩,⟨4,[19],[(_,_)]⟩,⟨3,[2],[]⟩,⟨2,[1],[]⟩,⟨1,[16],[(_,_)]⟩,⟨0,[2],[]⟩]) (L1:=[9,10,11,12,13,14]) (L2:=[8,9,10,11,13,14]) [17,18,23] [] Z Z Z Z Z Z Z ?_ ?_
  ·refine wi Z Z Cal.h Z ((vd hT hb hl hsk).mono (fun _ _ h=>wI h)) (by repeat (first | exact Split.none _ | exact Split.all _ | (apply Split.rem; repeat (first | exact Rem.head | apply Rem.tail)) | apply Split.right)) fun r1 K2 h3=>⟨?_,?_⟩
   ·rcases h3 with ⟨hno,rfl,rfl⟩ | ⟨w,q,jw,hso,rfl,rfl⟩;all_goals simp
   rcases h3 with ⟨hno,rfl,rfl⟩ | ⟨w,q,jw,hso,rfl,rfl⟩
   ·try simp only [cA]
    refine bS (env':=[_,_,_,_,_,_,_,_,_,_,_,_,_,_,_,_,_,_,_,_,_,_,_,_,_,_,_,_,_,_,_,_,_,_,_]) Z ?_;refine ad [[1,24],[5,15],[5,15]] ?_;refine bX (pend':=[⟨11,[15],[]⟩,⟨10,[15],[]⟩,⟨9,[24],[]⟩,⟨6,[20,21],[]⟩,⟨5,[6],[]⟩,⟨4,[19],[(_,_)]⟩,⟨3,[2],[]⟩,⟨0,[2],[]⟩]) [] Z Z Z Z Z (yL Z TyZA.h) (fun _=>zu rfl tQ) sQ fun j7 hj7=>?_;refine bR (pend':=[⟨11,[15],[]⟩]) [7,25] Z Z (zX Z Z zi.h Z Z mQ Z) ?_;refine ad [[13,26],[14]] ?_;refine au 933001422 ?_;constructor<;>intro hc1
    ·
     refine au 312304160 ?_;refine bA [1,2,4,5,11,12] ?_;refine bC [(s,_),(a,_),(j,_),(jr,_),(jb,_)] ?_;exact hnext _ _ _ oQ ⟨i+1,jr,ps,rfl,oQ,by rw [zbY hst hno]; exact hps,rfl,rfl⟩
    exact absurd hc1 dQ
   ·try simp only [cA]
    refine bS (env':=[_,_,_,_,_,_,_,_,_,_,_,_,_,_,_,_,_,_,_,_,_,_,_,_,_,_,_,_,_,_,_,_,_,_,_]) Z ?_;refine ad [[1,24],[5,15],[5,15]] ?_;refine bX (pend':=[⟨11,[15],[]⟩,⟨10,[15],[]⟩,⟨9,[24],[]⟩,⟨6,[20,21],[]⟩,⟨5,[6],[]⟩,⟨4,[19],[(_,_)]⟩,⟨3,[2],[]⟩,⟨0,[2],[]⟩]) [] Z Z Z Z Z (yL Z TyZA.h) (fun _=>zu rfl tQ) sQ fun j7 hj7=>?_;refine bR (pend':=[⟨11,[15],[]⟩]) [7,25] Z Z (zX Z Z zi.h Z Z mQ Z) ?_;refine ad [[13,26],[14]] ?_;refine au 933001422 ?_;constructor<;>intro hc1
    ·exact absurd hc1 dQ
    refine au 68014120 ?_;refine bI Z Z Z (zt (l:=[_,_]) Z zF.h TyZ.h dQ dQ Z) (fun _=>zu rfl tQ) fun j4 hj4=>?_;refine bO Z Z Z (a_app Z ApOf.h Z mQ oQ Z (yw (ln:=[_,_]) mQ dQ sQ Z) oQ Z (by unfold maxLen; omega) oQ) (fun _=>uQ) (fun _=>zu rfl tQ) fun jr2=>?_;refine au 31230414035 ?_;refine bA [1,2,4,5,11,12] ?_;refine bC [(s,_),(a,_),(j,_),(jr2,_),(jb,_)] ?_;exact hnext _ _ _ oQ ⟨i+1,jr2,ps++[(jw,w.length,q)],rfl,oQ,by rw [zbZ hst hso,lM,lM,hps]; rfl,by rw [lF]; rfl,by rw [yT]; rfl⟩
  ·refine vm Z (yL Z TyZA.h) (fun _=>zu rfl tQ) sQ fun j7 hj7=>?_;refine bQ (pend':=[⟨6,[20,21],[]⟩,⟨5,[6],[]⟩,⟨4,[19],[(_,_)]⟩,⟨3,[2],[]⟩,⟨0,[2],[]⟩]) [17,18,23] Z Z Z Z Z ((vd hT hb hl hsk).mono (fun _ _ h=>wI h)) (fun r5 K6 h7=>⟨?_,?_⟩)
   ·rcases h7 with ⟨hno,rfl,rfl⟩ | ⟨w,q,jw,hso,rfl,rfl⟩;all_goals simp
   rcases h7 with ⟨hno,rfl,rfl⟩ | ⟨w,q,jw,hso,rfl,rfl⟩
   ·try simp only [cA]
    refine bS tQ ?_;refine ad [[1,24],[5,15],[5,15]] ?_;refine bR (pend':=[⟨11,[15],[]⟩]) [7,25] Z Z (zX Z Z zi.h Z Z mQ Z) ?_;refine ad [[13,26],[14]] ?_;refine au 933001422 ?_;constructor<;>intro hc1
    ·
     refine au 312304160 ?_;refine bA [1,2,4,5,11,12] ?_;refine bC [(s,_),(a,_),(j,_),(jr,_),(jb,_)] ?_;exact hnext _ _ _ oQ ⟨i+1,jr,ps,rfl,oQ,by rw [zbY hst hno]; exact hps,rfl,rfl⟩
    exact absurd hc1 dQ
   ·try simp only [cA]
    refine bS tQ ?_;refine ad [[1,24],[5,15],[5,15]] ?_;refine bR (pend':=[⟨11,[15],[]⟩]) [7,25] Z Z (zX Z Z zi.h Z Z mQ Z) ?_;refine ad [[13,26],[14]] ?_;refine au 933001422 ?_;constructor<;>intro hc1
    ·exact absurd hc1 dQ
    refine au 68014120 ?_;refine bI Z Z Z (zt (l:=[_,_]) Z zF.h TyZ.h dQ dQ Z) (fun _=>zu rfl tQ) fun j8 hj8=>?_;refine bO Z Z Z (a_app Z ApOf.h Z mQ oQ Z (yw (ln:=[_,_]) mQ dQ sQ Z) oQ Z (by unfold maxLen; omega) oQ) (fun _=>uQ) (fun _=>zu rfl tQ) fun jr2=>?_;refine au 31230414035 ?_;refine bA [1,2,4,5,11,12] ?_;refine bC [(s,_),(a,_),(j,_),(jr2,_),(jb,_)] ?_;exact hnext _ _ _ oQ ⟨i+1,jr2,ps++[(jw,w.length,q)],rfl,oQ,by rw [zbZ hst hso,lM,lM,hps]; rfl,by rw [lF]; rfl,by rw [yT]; rfl⟩
 obtain rfl:i=all.length:=by simp at hc0; omega
 refine au 35142160 ?_;refine bB hret [(jr,_),(s,_),(a,_),(j,_)] ?_;exact ⟨jr,ps,by rw [hps,lW],rfl,rfl⟩
theorem zbW {main T} (hT:zo tp main T) {gm} {j off:Nat} {ob:AObj} {x:Int} {xs:List Int} (hI:∀ (i:Nat) (y:Int),xs[i]? =some y->takeO ob (off+(i:Int).toNat*1) 1=some [intA y]) (hl:xs.length<=1000) :
  zA tp T gm 134 [intA x,.sl j off xs.length] [(j,ob)] (fun r K'=>r=.agg [intA (spreadM (x::xs)).1,intA (spreadM (x::xs)).2]/\K'=[(j,ob)]):=by
 refine zp 27 hT Tryz.func134 fun Y hret=>?_;refine au 22042 ?_;intro jr hjr;refine au 13031280142235511423 ?_;refine bA [4,5,6,11,12,13] ?_;refine bC [(j,_),(jr,_)] ?_;refine bE (fun n env K=>∃ (i:Nat),n=xs.length - i/\i<=xs.length/\env=naL 4 (.ptr jr 0::intA (spreadM (x::xs.take i)).1::intA (spreadM (x::xs.take i)).2::naL 4 (.sl j off xs.length::intA xs.length::intA i::naL 13 []))/\K=[(j,ob),(jr,.cells [intA 0,intA 0] 51 true)]) xs.length ⟨0,rfl,mN _,rfl,rfl⟩ fun n env K hI' hnext=>?_;obtain ⟨i,rfl,hi,rfl,rfl⟩:=hI';refine bG nQ ?_;refine au 923742 ?_;constructor<;>intro hc0
 ·have hil:i<xs.length:=by simp at hc0; omega
  obtain ⟨y,hy⟩:∃ y,xs[i]? =some y:=⟨_,lA hil⟩;refine au 360421302120 ?_;refine bH Z (zm Z Z zi.h mQ (hI i y hy)) ?_;refine au 11435 ?_;refine bH Z (zc0 Z Z Z) ?_;refine au 11 ?_;refine bH Z (zcZ Z Z Z) ?_;refine au 312304140355 ?_;refine bA [4,5,6,11,12,13] ?_;refine bC [(j,_),(jr,_)] ?_;exact hnext _ _ _ oQ ⟨i+1,rfl,oQ,by rw [yQ hy,zdz]; rfl,rfl⟩
 obtain rfl:i=xs.length:=by simp at hc0; omega
 refine au 31703901142160 ?_;refine bB hret [(j,_)] ?_;exact ⟨by rw [lW]; rfl,rfl⟩
theorem za7 {main T} (hT:zo tp main T) {gm} {b:RBk} {s h e a j:Nat} {l:List Int} {all:List (List Int)} {et:TypeId} (hb:ROk b) (hl:CutsOk b l) (ha:okAll b all) (hn:all.length<=243) (h0:0<all.length) :
  zA tp T gm 135 [.agg (knownC b s h e a all.length),.sl j 0 l.length] [(j,.cells (l.map intA) et false),(s,zk b),(a,allO all)] (fun r K'=>r=.tup [.agg [intA (sqLo b all l),intA (sqHi b all l)],zP (sqOk b all l)]/\K'=[(j,.cells (l.map intA) et false),(s,zk b),(a,allO all)]):=by
 refine zp 38 hT Tryz.func135 fun Y hret=>?_;refine au 21042 ?_;intro jb hjb;refine au 220 ?_;intro jr0 hjr0;refine au 16804235 ?_;refine bD Z Z Z Z (zd3 hT hb hl ha hn) ?_;rintro r1 K2 ⟨jr,ps,hps,rfl,rfl⟩;refine au 0 ?_;have hpl:ps.length=(waysM b all l).length:=by have:=congrArg List.length hps; rwa [lJ,lJ] at this
 have hwl:=zd2 b all l;refine au 937280690670280142235 ?_;constructor<;>intro hc0
 ·refine au 3517039042 ?_;refine bB hret [(j,_),(s,_),(a,_)] ?_;have hlt:(waysM b all l).length<all.length:=by rw [<- hpl]; simp at hc0; omega
  exact ⟨by unfold sqLo sqHi sqOk squaresM; rw [if_pos hlt]; rfl,rfl⟩
 have hge:¬ ps.length<all.length:=by simp at hc0; omega
 refine au 542120 ?_;refine TK.virt 7 3 1 Z fun jt0 hjt0=>?_;refine au 1303128014223 ?_;refine bA [2,4,5,7,20,21,22] ?_;refine bC [(jr,_),(s,_),(a,_),(j,_),(jt0,_),(jb,_),(jr0,_)] ?_;refine bE (fun n env K=>∃ (i jt:Nat),n=ps.length - i/\i<=ps.length/\env=naL 2 (.ptr jb 0::.any::.ptr jr0 0::zP false::.any::.row jt i::naL 12 (.row jr ps.length::intA ps.length::intA i::naL 15 []))/\K=[(jr,.row (ps.flatMap wayC) 125 2),(s,zk b),(a,allO all),(j,.cells (l.map intA) et false),(jt,.row (((ps.map (·.2.2)).take i).map intA) 3 1),(jb,.cells (knownC b s h e a all.length) 139 true),(jr0,.cells [intA 0,intA 0] 51 true)]) ps.length ⟨0,jt0,rfl,mN _,rfl,rfl⟩ fun n env K hI hnext=>?_;obtain ⟨i,jt,rfl,hi,rfl,rfl⟩:=hI;refine bG nQ ?_;refine au 923742 ?_;constructor<;>intro hc1
 ·have hil:i<ps.length:=by simp at hc1; omega
  obtain ⟨p,hp⟩:∃ p,ps[i]? =some p:=⟨_,lA hil⟩;refine au 370421302120 ?_;refine bH Z (ya Z Z zi.h mQ (zbp (c:=2) (f:=wayC) (fun _=>rfl) hp rfl dQ)) ?_;refine au 220 ?_;intro j9 hj9;refine au 690670143170 ?_;refine bI Z Z Z (zt (l:=[_]) Z zF.h TyZ.h dQ dQ Z) (fun _=>zu rfl tQ) fun j4 hj4=>?_;refine bO Z Z Z (a_app Z ApOf.h Z mQ (by simp; omega) Z (yw (ln:=[_]) mQ dQ sQ Z) oQ Z (by unfold maxLen; omega) oQ) (fun _=>uQ) (fun _=>zu rfl tQ) fun jt2=>?_;refine au 31230414035 ?_;refine bA [2,4,5,7,20,21,22] ?_;refine bC [(jr,_),(s,_),(a,_),(j,_),(jt2,_),(jb,_),(jr0,_)] ?_;exact hnext _ _ _ oQ ⟨i+1,jt2,rfl,oQ,rfl,by rw [yQ (x:=p.2.2) (by rw [lQ,hp]; rfl),lM]; rfl⟩
 obtain rfl:i=ps.length:=by simp at hc1; omega
 obtain ⟨x,xs,hxs⟩:∃ x xs,ps.map (·.2.2)=x::xs:=by
  cases hh:ps with
  | nil=>rw [hh] at hge; exact absurd h0 hge
  | cons y r=>exact ⟨_,_,rfl⟩
 have hxl:ps.length=xs.length+1:=by have:=congrArg List.length hxs; simpa using this
 rw [List.take_of_length_le sQ,hxs,hxl];refine au 2160 ?_;refine bL [0,1,2,3,4,5,6,7] ?_;refine ad [[1,7]] ?_;refine bT [32] Z (hq:=kB Z Z Z zF.h (mC _) oQ oQ) (h:=?_);refine ad [[10,33],[1,7]] ?_;refine bT [35] Z (hq:=wB Z Z zF.h (mC _) Z Z oQ oQ Z) (h:=?_);refine bQ (pend':=[⟨3,[7],[]⟩,⟨1,[32],[(_,_)]⟩,⟨0,[7],[]⟩]) [34,36] Z Z Z Z Z (zbW hT (x:=x) (xs:=xs) (off:=1) (ob:=.row ((x::xs).map intA) 3 1) (fun i y hy=>kE (l:=x::xs) (i:=i+1) (by simpa using hy) oQ) oQ) (fun r5 K6 h7=>⟨?_,?_⟩)
 ·rcases h7 with ⟨rfl,rfl⟩
  all_goals simp
 obtain ⟨rfl,rfl⟩:=h7;try simp only [cA]
 refine bS tQ ?_;refine bR (pend':=[]) [4,37] Z Z (zX Z Z zi.h Z Z mQ Z) ?_;refine ad [[13],[14]] ?_;refine au 0 ?_;refine bB hret [(j,_),(s,_),(a,_)] ?_;have hlt:¬ (waysM b all l).length<all.length:=by rw [<- hpl]; exact hge
 exact ⟨by unfold sqLo sqHi sqOk squaresM; rw [if_neg hlt,<- hps,hxs]; rfl,rfl⟩
theorem zaC {main T} (hT:zo tp main T) {gm} {x:Int} :
  zA tp T gm 216 [intA x] [] (fun r K'=>r=zP false/\K'=[]):=by
 refine zp 6 hT Tryz.func216 fun Y hret=>?_;refine au 35711423542 ?_;refine TK.rta hret ?_;exact ⟨by simp,rfl⟩
theorem zeL {main T} (hT:zo tp main T) {gm} {x y:Int} :
  zA tp T gm 185 [intA x,intA y] [] (fun r K'=>r=intA (if x<y then -1 else if y<x then 1 else 0)/\K'=[]):=by
 refine zp 20 hT Tryz.func185 fun Y hret=>?_;refine au 1423542 ?_;refine bD Z Z Z Z (zaC hT) ?_;rintro r1 K2 ⟨rfl,rfl⟩;refine au 14235 ?_;refine bD Z Z Z Z (zaC hT) ?_;rintro r4 K5 ⟨rfl,rfl⟩;refine au 93142235 ?_;constructor<;>intro hc0
 ·cases hc0
 skip;refine au 931422120 ?_;constructor<;>intro hc2
 ·cases hc2
 refine au 93711422120 ?_;constructor<;>intro hc3
 ·refine au 3542 ?_;refine TK.rta hret ?_;exact ⟨by rw [if_pos (of_decide_eq_true hc3)],rfl⟩
 refine au 93711422120 ?_;constructor<;>intro hc4
 ·refine au 3542 ?_;refine TK.rta hret ?_;exact ⟨by rw [if_neg (of_decide_eq_false hc3),if_pos (of_decide_eq_true hc4)],rfl⟩
 refine au 3542120 ?_;refine TK.rta hret ?_;exact ⟨by rw [if_neg (of_decide_eq_false hc3),if_neg (of_decide_eq_false hc4)],rfl⟩
theorem zeg {main T} (hT:zo tp main T) {gm} {j j2:Nat} {xs ys:List Int} {e1 e2:TypeId} (hl:xs.length<=1000) :
  zA tp T gm 156 [.sl j 0 xs.length,.sl j2 0 ys.length] [(j,.cells (xs.map intA) e1 false),(j2,.cells (ys.map intA) e2 false)] (fun r K'=>r=intA (lexM xs ys)/\K'=[(j,.cells (xs.map intA) e1 false),(j2,.cells (ys.map intA) e2 false)]):=by
 refine zp 36 hT Tryz.func156 fun Y hret=>?_;refine au 1303128014223542 ?_;refine bA [0,1,4,9,10,11] ?_;refine bE (fun n env K=>∃ (i:Nat),n=xs.length - i/\i<=xs.length/\lexM (xs.drop i) (ys.drop i)=lexM xs ys/\env=.sl j 0 xs.length::.sl j2 0 ys.length::naL 2 (intA 0::naL 4 (.sl j 0 xs.length::intA xs.length::intA i::naL 24 []))/\K=[(j,.cells (xs.map intA) e1 false),(j2,.cells (ys.map intA) e2 false)]) xs.length ⟨0,rfl,mN _,rfl,rfl,rfl⟩ fun n env K hI hnext=>?_;obtain ⟨i,rfl,hi,hinv,rfl,rfl⟩:=hI;refine bG nQ ?_;refine au 923742 ?_;constructor<;>intro hc0
 ·have hil:i<xs.length:=by simp at hc0; omega
  refine au 3601421302120 ?_;refine bH Z (zm Z Z zi.h mQ (yi (i:=i) (z6 hil) Z)) ?_;refine au 93728011422355 ?_;constructor<;>intro hc1
  ·refine au 3542 ?_;refine bB hret [(j,_),(j2,_)] ?_;exact ⟨by rw [<- hinv,zH (z6 hil),show ys.drop i=[] from List.drop_eq_nil_of_le (by simp at hc1; omega)]; rfl,rfl⟩
  have hjl:i<ys.length:=by simp at hc1; omega
  refine au 3601142120 ?_;refine bH Z (zm Z Z zi.h mQ (yi (i:=i) (z6 hjl) Z)) ?_;refine au 114235 ?_;refine bD Z Z Z Z (zeL hT) ?_;rintro r1 K2 ⟨rfl,rfl⟩;refine au 93714235 ?_;constructor<;>intro hc2
  ·refine au 35142 ?_;refine bB hret [(j,_),(j2,_)] ?_;exact ⟨by rw [<- hinv,zH (z6 hil),zH (z6 hjl)]; simp only [lexM]; split <;> (try rfl); split <;> (try rfl); simp_all,rfl⟩
  have hnl:¬ zN xs i<zN ys i:=fun hh=>by rw [if_pos hh] at hc2; simp at hc2
  have hng:¬ zN ys i<zN xs i:=fun hh=>by rw [if_neg hnl,if_pos hh] at hc2; simp at hc2
  refine au 312304140120 ?_;refine bA [0,1,4,9,10,11] ?_;refine bC [(j,_),(j2,_)] ?_;exact hnext _ _ _ oQ ⟨i+1,rfl,oQ,by rw [<- hinv,zH (z6 hil),zH (z6 hjl)]; simp only [lexM]; rw [if_neg hnl,if_neg hng],rfl,rfl⟩
 obtain rfl:i=xs.length:=by simp at hc0; omega
 refine au 93728012801422160 ?_;constructor<;>intro hc3
 ·refine au 3542 ?_;refine bB hret [(j,_),(j2,_)] ?_;exact ⟨by rw [<- hinv,List.drop_length]; simp at hc3; rw [zH (z6 (l:=ys) (k:=xs.length) oQ)]; rfl,rfl⟩
 refine au 3542120 ?_;refine bB hret [(j,_),(j2,_)] ?_;exact ⟨by rw [<- hinv,List.drop_length]; simp at hc3; rw [List.drop_eq_nil_of_le oQ]; rfl,rfl⟩
theorem um {main T} (hT:zo tp main T) {gm} {j j2:Nat} {xs ys:List Int} {e1 e2:TypeId} (hl:xs.length<=1000) :
  zA tp T gm 118 [.sl j 0 xs.length,.sl j2 0 ys.length] [(j,.cells (xs.map intA) e1 false),(j2,.cells (ys.map intA) e2 false)] (fun r K'=>r=zP (smallerM xs ys)/\K'=[(j,.cells (xs.map intA) e1 false),(j2,.cells (ys.map intA) e2 false)]):=by
 refine zp 23 hT Tryz.func118 fun Y hret=>?_;refine au 1728012801423542 ?_;refine bF 10 (fun g1_6=>?_) (fun g1_6=>?_)
 ·refine au 3526088888888888 ?_;refine bB hret [(j,_),(j2,_)] ?_;exact ⟨by simp at g1_6; simp [smallerM,g1_6],rfl⟩
 refine au 1728012801 ?_;refine bF 16 (fun g1_12=>?_) (fun g1_12=>?_)
 ·refine au 11 ?_;refine bD Z Z Z Z (zeg hT hl) ?_;rintro r1 K2 ⟨rfl,rfl⟩;refine au 352502607 ?_;refine bB hret [(j,_),(j2,_)] ?_;exact ⟨by simp at g1_6 g1_12; unfold smallerM; rw [decide_eq_false (show ¬ xs.length<ys.length by omega),decide_eq_true (show xs.length=ys.length by omega)]; rfl,rfl⟩
 refine au 352502508888 ?_;refine bB hret [(j,_),(j2,_)] ?_;exact ⟨by simp at g1_6 g1_12; unfold smallerM; rw [decide_eq_false (show ¬ xs.length<ys.length by omega),decide_eq_false (show ¬ xs.length=ys.length by omega)]; rfl,rfl⟩
theorem zeb {main T} (hT:zo tp main T) {gm} {j j2:Nat} {xs ys:List Int} {e1 e2:TypeId} {p q:Int} (hl:xs.length<=1000) :
  zA tp T gm 109 [.agg [.sl j 0 xs.length,intA p],.agg [.sl j2 0 ys.length,intA q]] [(j,.cells (xs.map intA) e1 false),(j2,.cells (ys.map intA) e2 false)] (fun r K'=>r=zP (cheaperM (xs,p) (ys,q))/\K'=[(j,.cells (xs.map intA) e1 false),(j2,.cells (ys.map intA) e2 false)]):=by
 refine zp 24 hT Tryz.func109 fun Y hret=>?_;refine au 21042 ?_;intro jx1 hjx1;refine au 210 ?_;intro jx2 hjx2;refine au 176906706906704235 ?_;refine bF 10 (fun g1_6=>?_) (fun g1_6=>?_)
 ·refine au 35260888888888888 ?_;refine bB hret [(j,_),(j2,_)] ?_;exact ⟨by simp at g1_6; simp [cheaperM,g1_6],rfl⟩
 refine au 17690670690670 ?_;refine bF 16 (fun g1_12=>?_) (fun g1_12=>?_)
 ·refine au 690670690670 ?_;refine bD Z Z Z Z (um hT hl) ?_;rintro r1 K2 ⟨rfl,rfl⟩;refine au 35250260 ?_;refine bB hret [(j,_),(j2,_)] ?_;exact ⟨by simp at g1_6 g1_12; simp [cheaperM,g1_12],rfl⟩
 refine au 3525025088888 ?_;refine bB hret [(j,_),(j2,_)] ?_;exact ⟨by simp at g1_6 g1_12; simp [cheaperM,g1_12]; omega,rfl⟩
theorem za5 {main T} (hT:zo tp main T) {gm} {j j2:Nat} {xs ys:List Int} {e1 e2:TypeId} {p q:Int} (hl:xs.length<=1000) :
  zA tp T gm 113 [.agg [.sl j 0 xs.length,intA p],.agg [.sl j2 0 ys.length,intA q]] [(j,.cells (xs.map intA) e1 false),(j2,.cells (ys.map intA) e2 false)] (fun r K'=>r=zP (shorterM (xs,p) (ys,q))/\K'=[(j,.cells (xs.map intA) e1 false),(j2,.cells (ys.map intA) e2 false)]):=by
 refine zp 10 hT Tryz.func113 fun Y hret=>?_;refine au 21042 ?_;intro jx1 hjx1;refine au 210 ?_;intro jx2 hjx2;refine au 6906706906704235 ?_;refine bD Z Z Z Z (um hT hl) ?_;rintro r1 K2 ⟨rfl,rfl⟩;refine au 35 ?_;refine bB hret [(j,_),(j2,_)] ?_;exact ⟨rfl,rfl⟩
end Go.Vel
end
