/- Texts for the statements of chapter 8: what all of them need, part 11. It holds of every program, tape and world that the statements name, as each theorem says. -/
import Derived.Test.YtamcohjpanjdiaaGreatDoorJ8
section
set_option linter.all false
set_option maxRecDepth 20000
set_option maxHeartbeats 60000000
open Go.Proofs.Tryz renaming prog -> tp
open List.Mem renaming head -> mC
open Nat renaming zero_le -> mN
open Bool renaming not_eq_true' -> mV, not_eq_false' -> mW
open Go.Vel.TK renaming maskL -> bA, rt -> bB, cl -> bD, loopN -> bE, sp -> bF
namespace Go.Vel
open Go Go.Conc Go.Proofs
instance:Cal tp 106:={}
instance:Cal tp 127:={}
instance:Cal tp 18:={}
instance:Cal tp 25:={}
instance:Cal tp 67:={}
instance:Cal tp 97:={}
instance:Cal tp 98:={}
theorem yA {main T} (hT:zo tp main T) {gm} {n lo hi:Int} :
  zA tp T gm 67 [intA n,intA lo,intA hi] [] (fun r K'=>r=zP (betw n lo hi)/\K'=[]):=by
 refine zp 15 hT Tryz.func67 fun Y hret=>?_;refine au 1711423542 ?_;refine bF 10 (fun g1_4=>?_) (fun g1_4=>?_)
 ·refine au 35260711 ?_;refine TK.rta hret ?_;exact ⟨by simp [zP,betw,g1_4],rfl⟩
 refine au 35250888 ?_;refine TK.rta hret ?_;exact ⟨by simp [zP,betw,g1_4],rfl⟩
theorem zel {main T} (hT:zo tp main T) {gm} {x:RBand} {lo hi:Int} :
  zA tp T gm 127 [.agg (bandC x),intA lo,intA hi] [] (fun r K'=>r=zP (isBd x lo hi)/\K'=[]):=by
 refine zp 24 hT Tryz.func127 fun Y hret=>?_;refine au 21042 ?_;intro j1 hj1;refine au 1769067014235 ?_;refine bF 11 (fun g1_5=>?_) (fun g1_5=>?_)
 ·refine au 12607690670690670 ?_;refine bF 18 (fun g1_12=>?_) (fun g1_12=>?_)
  ·refine au 3526071690670 ?_;refine bB hret [] ?_;exact ⟨by simp_all [isBd,bandC] <;> (intros; omega),rfl⟩
  refine au 352508888 ?_;refine bB hret [] ?_;exact ⟨by simp_all [isBd,bandC] <;> (intros; omega),rfl⟩
 refine au 352508888125088888 ?_;refine bB hret [] ?_;exact ⟨by simp_all [isBd,bandC] <;> (intros; omega),rfl⟩
theorem zfy {main T} (hT:zo tp main T) {gm} {b:RBk} {s h e i:Nat} (hr:RndOk b) (hs:SmOk b) (hi:i<b.seams.length) :
  zA tp T gm 106 [.agg (zE b s h e),intA i] [(s,zk b)] (fun r K'=>r=intA (wideM b i)/\K'=[(s,zk b)]):=by
 refine zp 40 hT Tryz.func106 fun Y hret=>?_;refine au 0 ?_;have h5:=hs.len;have hst:=hr.steps;have f0:=hs.fld 0 oQ;have fi:=hs.fld i hi;refine au 21042 ?_;intro jb hjb;refine au 937280690670230142235 ?_;constructor<;>intro hc0
 ·have hlt:i+1<b.seams.length:=by simp at hc0; omega
  have fn:=hs.fld (i+1) hlt;refine au 2 ?_;refine TK.dq [0,1,2,3,4,5,6,7,8,9,10,11,12,13,14] ?_;refine ad [[3,2],[10,11],[1,1],[8,13],[2,12,14],[3,15]] ?_;refine TD.y [16] Z (hq:=zm Z Z zi.h (mC _) (yn (c:=0) (sm_at (i:=i+1) b hlt Z) dQ Z)) (h:=?_);refine ad [[3,2],[10,18],[1,1],[2,19,20],[3,21]] ?_;refine TD.y [22] Z (hq:=zm Z Z zi.h (mC _) (yn (c:=0) (sm_at (i:=i) b hi Z) dQ Z)) (h:=?_);refine ad [[9,17,23],[13,24],[14]] ?_;refine au 0 ?_;refine bB hret [(s,_)] ?_;exact ⟨by unfold wideM; rw [if_pos hlt]; rfl,rfl⟩
 have hlt:¬ i+1<b.seams.length:=by simp at hc0; omega
 refine au 2120 ?_;refine TK.dq [0,1,2,3,4,5,6,7,8,9,10,11,12,13,14,15] ?_;refine ad [[3,2],[10,25],[2,26],[3,27]] ?_;refine TD.y [28] Z (hq:=zm Z Z zi.h (mC _) (yn (c:=0) (sm_at (i:=0) b oQ Z) dQ Z)) (h:=?_);refine ad [[3,2],[10,30],[8,29,31],[3,2],[10,33],[1,1],[2,34,35],[3,36]] ?_;refine TD.y [37] Z (hq:=zm Z Z zi.h (mC _) (yn (c:=0) (sm_at (i:=i) b hi Z) dQ Z)) (h:=?_);refine ad [[9,32,38],[13,39],[14]] ?_;refine au 0 ?_;refine bB hret [(s,_)] ?_;exact ⟨by unfold wideM; rw [if_neg hlt]; rfl,rfl⟩
theorem zfo {main T} (hT:zo tp main T) {gm} {b:RBk} {s h e:Nat} (hr:RndOk b) (hl:b.seams.length<=100) :
  zA tp T gm 97 [.agg (zE b s h e)] [(s,zk b)] (fun r K'=>r=intA (seamsM b)/\K'=[(s,zk b)]):=by
 refine zp 61 hT Tryz.func97 fun Y hret=>?_;refine au 0 ?_;have hst:=hr.steps;refine au 21042 ?_;intro jb hjb;refine au 28069067042235 ?_;refine bD Z Z Z Z (yA hT) ?_;rintro r1 K2 ⟨rfl,rfl⟩;refine au 93300 ?_;constructor<;>intro hc0
 ·refine au 3542 ?_;refine bB hret [(s,_)] ?_;simp only [mV,mW] at hc0;exact ⟨by simp [seamsM,hc0],rfl⟩
 simp only [mV,mW] at hc0;have hl5:=vN hc0;refine au 13035422120 ?_;refine bA [1,2,3] ?_;refine bE (fun n env K=>∃ (i:Nat) (last:Int),n=b.seams.length - i/\i<=b.seams.length/\seamsL b last (b.seams.drop i)=seamsM b/\(0<i->last=(sm b (i - 1)).step)/\(i=0->last = -1)/\env=.any::.ptr jb 0::intA 0::intA i::naL 57 []/\K=[(jb,.cells (zE b s h e) 26 true),(s,zk b)]) b.seams.length ⟨0,-1,rfl,mN _,by unfold seamsM; rw [if_neg (by rw [hc0]; decide)]; rfl,fun h=>absurd h (Nat.lt_irrefl _),fun _=>rfl,rfl,rfl⟩ fun n env K hI hnext=>?_;obtain ⟨i,last,rfl,hi,hinv,hlast,hlast0,rfl,rfl⟩:=hI;refine TK.na nQ ?_;refine au 9372806906701422 ?_;constructor<;>intro hc1
 ·have hil:i<b.seams.length:=by simp at hc1; omega
  refine au 3601690670421302120 ?_;refine TK.a Z (ya Z Z zi.h mQ (sm_at (i:=i) b hil Z)) ?_;refine au 220 ?_;intro jx hjx;refine au 2406906706906704223170 ?_;refine bD Z Z Z Z (yA hT) ?_;rintro r4 K5 ⟨rfl,rfl⟩;refine au 1300 ?_;refine bF 29 (fun g7_8=>?_) (fun g7_8=>?_)
  ·refine au 3542180326088881260888812608888 ?_;refine bB hret [(s,_)] ?_;exact ⟨by rw [<- hinv,zH (yW hil),seamsL,if_pos (by simp only [mV,mW] at g7_8; simp [seamB,g7_8])],rfl⟩
  refine au 690670 ?_;refine bD Z Z Z Z (yA hT) ?_;rintro r7 K8 ⟨rfl,rfl⟩;refine au 1250300 ?_;refine bF 35 (fun g7_14=>?_) (fun g7_14=>?_)
  ·refine au 35421803260888812608888 ?_;refine bB hret [(s,_)] ?_;exact ⟨by rw [<- hinv,zH (yW hil),seamsL,if_pos (by simp only [mV,mW] at g7_8 g7_14; simp [seamB,g7_8,g7_14])],rfl⟩
  refine au 690670 ?_;refine bD Z Z Z Z (yA hT) ?_;rintro r10 K11 ⟨rfl,rfl⟩;refine au 1250300 ?_;refine bF 41 (fun g7_20=>?_) (fun g7_20=>?_)
  ·refine au 354218032608888 ?_;refine bB hret [(s,_)] ?_;exact ⟨by rw [<- hinv,zH (yW hil),seamsL,if_pos (by simp only [mV,mW] at g7_8 g7_14 g7_20; simp [seamB,g7_8,g7_14,g7_20])],rfl⟩
  refine au 690670 ?_;refine bD Z Z Z Z (yA hT) ?_;rintro r13 K14 ⟨rfl,rfl⟩;refine au 93250300 ?_;constructor<;>intro hc2
  ·refine au 3542 ?_;refine bB hret [(s,_)] ?_;exact ⟨by rw [<- hinv,zH (yW hil),seamsL,if_pos (by simp only [mV,mW] at g7_8 g7_14 g7_20 hc2; simp [seamB,g7_8,g7_14,g7_20,hc2])],rfl⟩
  have hsb:seamB b (sm b i)=true:=by simp only [mV,mW] at g7_8 g7_14 g7_20 hc2; simp [seamB,g7_8,g7_14,g7_20,hc2]
  refine au 2120 ?_;refine TK.dq [0,1,2,3,4,5,6,7,8,9,10,11,12,13] ?_;refine ad [[1,3],[4,47],[1,48]] ?_;refine TD.sp 49 (fun g9_3=>?_) (fun g9_3=>?_)
  ·have hi0:0<i:=by simp at g9_3; omega
   refine ad [[3,4,49],[10,49,50],[3,1,49],[10,49,52],[1,3,49],[9,49,54],[2,49,53,55],[3,49,56]] ?_;refine TD.y [49,57] Z (hq:=zm Z Z zi.h (mC _) (yn (c:=0) (sm_at (i:=i - 1) b oQ oQ) dQ Z)) (h:=?_);refine ad [[4,49,51,58],[7,49,59],[14]] ?_;refine au 9 ?_;constructor<;>intro hc3
   ·refine au 3542 ?_;refine bB hret [(s,_)] ?_;exact ⟨by rw [<- hinv,zH (yW hil),seamsL,if_neg (by rw [hsb]; decide),if_pos (by rw [hlast (by simp at g9_3; omega)]; exact of_decide_eq_true hc3)],rfl⟩
   refine au 3523014140120 ?_;refine bA [1,2,3] ?_;refine TK.kp [(jb,_),(s,_)] ?_;exact hnext _ _ _ oQ ⟨i+1,(sm b i).step,rfl,oQ,by rw [<- hinv,zH (yW hil),seamsL,if_neg (by rw [hsb]; decide),if_neg (by rw [hlast (by simp at g9_3; omega)]; exact of_decide_eq_false hc3)],fun _=>rfl,fun h=>by omega,rfl,rfl⟩
  refine ad [[11,4,49],[11,49,50],[11,1,49],[11,49,52],[11,3,49],[11,49,54],[11,49,53,55],[11,49,56],[11,49,57],[11,49,51,58],[6,49,59],[14]] ?_;refine au 3523014140120190 ?_;refine bA [1,2,3] ?_;refine TK.kp [(jb,_),(s,_)] ?_;exact hnext _ _ _ oQ ⟨i+1,(sm b i).step,rfl,oQ,by have h0:=(zdV hsb).1; rw [<- hinv,zH (yW hil),seamsL,if_neg (by rw [hsb]; decide),if_neg (by rw [hlast0 (by simp at g9_3; omega)]; omega)],fun _=>rfl,fun h=>by omega,rfl,rfl⟩
 obtain rfl:i=b.seams.length:=by simp at hc1; omega
 refine au 3542160 ?_;refine bB hret [(s,_)] ?_;exact ⟨by rw [<- hinv,List.drop_length]; rfl,rfl⟩
theorem zed {main T} (hT:zo tp main T) {gm} {b:RBk} {s h e:Nat} (hr:RndOk b) (hs:SmOk b) (hm:b.measures.length<=100) :
  zA tp T gm 98 [.agg (zE b s h e)] [(s,zk b),(h,zB b),(e,zq b)] (fun r K'=>r=intA (if clothsM b≠0 then clothsM b else measM b)/\K'=[(s,zk b),(h,zB b),(e,zq b)]):=by
 refine zp 80 hT Tryz.func98 fun Y hret=>?_;refine au 0 ?_;have hst:=hr.steps;have hl5:=hs.len;refine au 21042 ?_;intro jb hjb;refine au 93728069067028069067042235 ?_;constructor<;>intro hc0
 ·refine au 3542 ?_;refine bB hret [(s,_),(h,_),(e,_)] ?_;exact ⟨by rw [show clothsM b=2 by unfold clothsM; rw [if_pos (by simp at hc0; omega)]]; rfl,rfl⟩
 have hle:b.shrinks.length=b.seams.length:=by simp at hc0; omega
 refine au 13035422120 ?_;refine bA [1,2,3] ?_;refine bE (fun n env K=>∃ (i:Nat),n=b.shrinks.length - i/\i<=b.shrinks.length/\clothsL b i (b.shrinks.drop i)=clothsM b/\env=.any::.ptr jb 0::intA 0::intA i::naL 76 []/\K=[(jb,.cells (zE b s h e) 26 true),(s,zk b),(h,zB b),(e,zq b)]) b.shrinks.length ⟨0,rfl,mN _,by unfold clothsM; rw [if_neg (by simpa using hle)]; rfl,rfl,rfl⟩ fun n env K hI hnext=>?_;obtain ⟨i,rfl,hi,hinv,rfl,rfl⟩:=hI;refine TK.na nQ ?_;refine au 9372806906701422 ?_;constructor<;>intro hc1
 ·have hil:i<b.shrinks.length:=by simp at hc1; omega
  refine au 3601690670421302120 ?_;refine TK.a Z (ya Z Z zi.h mQ (bd_at (i:=i) b hil Z)) ?_;refine au 220 ?_;intro jx hjx;refine au 6804223170 ?_;refine bD Z Z Z Z (zel hT (x:=bd b i)) ?_;rintro r1 K2 ⟨rfl,rfl⟩;refine au 1300 ?_;refine bF 29 (fun g7_4=>?_) (fun g7_4=>?_)
  ·refine au 35421803260888888 ?_;refine bB hret [(s,_),(h,_),(e,_)] ?_;exact ⟨by rw [show clothsM b=1 by rw [<- hinv,zH (kq hil),clothsL,if_pos (by simp at g7_4; simp [bandB,g7_4])]]; rfl,rfl⟩
  have hbd:0<=(bd b i).low/\(bd b i).low<=(bd b i).high/\(bd b i).high<=5:=by simp [isBd] at g7_4; omega
  refine au 932507240690670690670 ?_;constructor<;>intro hc2
  ·refine au 3542 ?_;refine bB hret [(s,_),(h,_),(e,_)] ?_;exact ⟨by rw [show clothsM b=1 by rw [<- hinv,zH (kq hil),clothsL,if_pos (by simp at g7_4 hc2; simp [bandB,g7_4] <;> omega)]]; rfl,rfl⟩
  have hbb:bandB (bd b i)=true:=by simp at g7_4 hc2; simp [bandB,g7_4]; omega
  refine au 2120 ?_;refine TK.dq [0,1,2,3,4,5] ?_;refine ad [[3,4],[10,37],[12,1],[1,3]] ?_;refine TD.cl (pend':=[⟨1,[37],[(_,_)]⟩,⟨0,[4],[]⟩]) [39,40] Z Z Z Z Z (zfy hT (i:=i) hr hs oQ) (fun r4 K5 h6=>⟨?_,?_⟩)
  ·rcases h6 with ⟨rfl,rfl⟩
   all_goals simp
  obtain ⟨rfl,rfl⟩:=h6;try simp only [cA]
  refine TD.norm tQ ?_;refine ad [[4,38,41],[14]] ?_;refine au 9 ?_;constructor<;>intro hc3
  ·refine au 3542 ?_;refine bB hret [(s,_),(h,_),(e,_)] ?_;exact ⟨by rw [show clothsM b=8 by rw [<- hinv,zH (kq hil),clothsL,if_neg (by rw [hbb]; decide),if_pos (of_decide_eq_true hc3)]]; rfl,rfl⟩
  refine au 3523014140120 ?_;refine bA [1,2,3] ?_;refine TK.kp [(jb,_),(s,_),(h,_),(e,_)] ?_;exact hnext _ _ _ oQ ⟨i+1,rfl,oQ,by rw [<- hinv,zH (kq hil),clothsL,if_neg (by rw [hbb]; decide),if_neg (of_decide_eq_false hc3)],rfl,rfl⟩
 obtain rfl:i=b.shrinks.length:=by simp at hc1; omega
 have hcl:clothsM b=0:=by rw [<- hinv,List.drop_length]; rfl
 refine au 937280690670422160 ?_;constructor<;>intro hc4
 ·refine au 3542 ?_;refine bB hret [(s,_),(h,_),(e,_)] ?_;exact ⟨by rw [if_neg (fun h=>h hcl),show measM b=2 by unfold measM; rw [if_pos (by simp at hc4; omega)]],rfl⟩
 refine au 13035422120 ?_;refine bA [1,2,5] ?_;refine bE (fun n env K=>∃ (i:Nat),n=b.measures.length - i/\i<=b.measures.length/\measL b (b.measures.drop i)=measM b/\env=.any::.ptr jb 0::intA 0::naL 2 (intA i::naL 74 [])/\K=[(jb,.cells (zE b s h e) 26 true),(s,zk b),(h,zB b),(e,zq b)]) b.measures.length ⟨0,rfl,mN _,by unfold measM; rw [if_neg (by simp at hc4; omega)]; rfl,rfl,rfl⟩ fun n env K hI hnext=>?_;obtain ⟨i,rfl,hi,hinv2,rfl,rfl⟩:=hI;refine TK.na nQ ?_;refine au 9372806906701422 ?_;constructor<;>intro hc5
 ·have hil:i<b.measures.length:=by simp at hc5; omega
  obtain ⟨x,hg⟩:∃ x,b.measures[i]? =some x:=⟨_,List.getElem?_eq_getElem hil⟩;refine au 3601690670421302120 ?_;refine TK.a Z (ya Z Z zi.h mQ (zcF (i:=i) hg Z)) ?_;refine au 220 ?_;intro jy hjy;refine au 2402806906706906704223170 ?_;refine bD Z Z Z Z (yA hT) ?_;rintro r7 K8 ⟨rfl,rfl⟩;refine au 93300 ?_;constructor<;>intro hc6
  ·refine au 3542 ?_;refine bB hret [(s,_),(h,_),(e,_)] ?_;exact ⟨by rw [if_neg (fun h=>h hcl),<- hinv2,zH hg,measL,if_pos (by simp at hc6; simp [thereM,hc6]),show thereM b x.cloth=6 by simp at hc6; simp [thereM,hc6]],rfl⟩
  refine au 28069067069067042120 ?_;refine bD Z Z Z Z (yA hT) ?_;rintro r10 K11 ⟨rfl,rfl⟩;refine au 1300 ?_;refine bF 74 (fun g19_8=>?_) (fun g19_8=>?_)
  ·refine au 354218032608888 ?_;refine bB hret [(s,_),(h,_),(e,_)] ?_;exact ⟨by rw [if_neg (fun h=>h hcl),<- hinv2,zH hg,measL,if_neg (by simp at hc6; simp [thereM,hc6]),if_pos (by simp at g19_8; simp [measB,g19_8])],rfl⟩
  refine au 690670 ?_;refine bD Z Z Z Z (yA hT) ?_;rintro r13 K14 ⟨rfl,rfl⟩;refine au 93250300 ?_;constructor<;>intro hc7
  ·refine au 3542 ?_;refine bB hret [(s,_),(h,_),(e,_)] ?_;exact ⟨by rw [if_neg (fun h=>h hcl),<- hinv2,zH hg,measL,if_neg (by simp at hc6; simp [thereM,hc6]),if_pos (by simp at g19_8 hc7; simp [measB,g19_8,hc7])],rfl⟩
  refine au 3523014140120 ?_;refine bA [1,2,5] ?_;refine TK.kp [(jb,_),(s,_),(h,_),(e,_)] ?_;exact hnext _ _ _ oQ ⟨i+1,rfl,oQ,by rw [<- hinv2,zH hg,measL,if_neg (by simp at hc6; simp [thereM,hc6]),if_neg (by simp at g19_8 hc7; simp [measB,g19_8,hc7])],rfl,rfl⟩
 obtain rfl:i=b.measures.length:=by simp at hc5; omega
 refine au 3542160 ?_;refine bB hret [(s,_),(h,_),(e,_)] ?_;exact ⟨by rw [if_neg (fun h=>h hcl),<- hinv2,List.drop_length]; rfl,rfl⟩
theorem zeI {main T} (hT:zo tp main T) {gm} {b:RBk} {s h e:Nat} (hl:b.seams.length<=100) (hm:b.measures.length<=100) :
  zA tp T gm 25 [.agg (zE b s h e)] [(s,zk b),(h,zB b),(e,zq b)] (fun r K'=>r=intA (zr b)/\K'=[(s,zk b),(h,zB b),(e,zq b)]):=by
 refine zp 35 hT Tryz.func25 fun Y hret=>?_;refine au 21042 ?_;intro jb hjb;refine au 69067042235 ?_;refine bD Z Z Z Z (yA hT) ?_;rintro r1 K2 ⟨rfl,rfl⟩;refine au 1300 ?_;refine bF 8 (fun g1_5=>?_) (fun g1_5=>?_)
 ·refine au 354218032608888126088881260888888 ?_;refine bB hret [(s,_),(h,_),(e,_)] ?_;simp only [mV,mW] at g1_5;exact ⟨by rw [show zr b=1 by unfold zr; rw [if_pos (by rw [show roundsM b=1 by simp [roundsM,g1_5]]; decide)]; simp [roundsM,g1_5]],rfl⟩
 refine au 690670690670 ?_;refine bD Z Z Z Z (yA hT) ?_;rintro r4 K5 ⟨rfl,rfl⟩;refine au 1250300 ?_;refine bF 16 (fun g1_13=>?_) (fun g1_13=>?_)
 ·refine au 35421803260888812608888 ?_;refine bB hret [(s,_),(h,_),(e,_)] ?_;simp only [mV,mW] at g1_5 g1_13;exact ⟨by rw [show zr b=1 by unfold zr; rw [if_pos (by rw [show roundsM b=1 by simp [roundsM,g1_5,g1_13]]; decide)]; simp [roundsM,g1_5,g1_13]],rfl⟩
 refine au 690670 ?_;refine bD Z Z Z Z (yA hT) ?_;rintro r7 K8 ⟨rfl,rfl⟩;refine au 1250300 ?_;refine bF 22 (fun g1_19=>?_) (fun g1_19=>?_)
 ·refine au 354218032608888 ?_;refine bB hret [(s,_),(h,_),(e,_)] ?_;simp only [mV,mW] at g1_5 g1_13 g1_19;exact ⟨by rw [show zr b=1 by unfold zr; rw [if_pos (by rw [show roundsM b=1 by simp [roundsM,g1_5,g1_13,g1_19]]; decide)]; simp [roundsM,g1_5,g1_13,g1_19]],rfl⟩
 refine au 690670 ?_;refine bD Z Z Z Z (yA hT) ?_;rintro r10 K11 ⟨rfl,rfl⟩;refine au 93250300 ?_;constructor<;>intro hc0
 ·refine au 3542 ?_;refine bB hret [(s,_),(h,_),(e,_)] ?_;simp only [mV,mW] at g1_5 g1_13 g1_19 hc0;exact ⟨by rw [show zr b=1 by unfold zr; rw [if_pos (by rw [show roundsM b=1 by simp [roundsM,g1_5,g1_13,g1_19,hc0]]; decide)]; simp [roundsM,g1_5,g1_13,g1_19,hc0]],rfl⟩
 simp only [mV,mW] at g1_5 g1_13 g1_19 hc0;have hr0:roundsM b=0:=by simp [roundsM,g1_5,g1_13,g1_19,hc0]
 have hr:=uk hr0;refine au 680422120 ?_;refine bD Z Z Z Z (zfo hT hr hl) ?_;rintro r13 K14 ⟨rfl,rfl⟩;refine au 93714235 ?_;constructor<;>intro hc1
 ·refine au 35142 ?_;refine bB hret [(s,_),(h,_),(e,_)] ?_;exact ⟨by unfold zr; rw [if_neg (by simpa using hr0),if_pos (by simpa using hc1)],rfl⟩
 have hs0:seamsM b=0:=by simpa using hc1
 have hs:=uT hs0;refine au 68042120 ?_;refine bD Z Z Z Z (zed hT hr hs hm) ?_;rintro r16 K17 ⟨rfl,rfl⟩;refine au 35 ?_;refine bB hret [(s,_),(h,_),(e,_)] ?_;exact ⟨by rw [show zr b=(if clothsM b≠0 then clothsM b else measM b) by unfold zr; rw [if_neg (by simpa using hr0),if_neg (by simpa using hs0)]],rfl⟩
theorem zjb {main T} (hT:zo tp main T) {gm} {b:RBk} {s h e:Nat} :
  zA tp T gm 49 [.agg (zE b s h e)] [(s,zk b),(h,zB b),(e,zq b)] (fun r K'=>r=zP (!greatM b&&decide (zr b=0))/\K'=[(s,zk b),(h,zB b),(e,zq b)]):=by
 refine zp 11 hT Tryz.func49 fun Y hret=>?_;refine au 21042 ?_;intro jb hjb;refine au 6804235 ?_;refine bD Z Z Z Z (zf0 hT) ?_ (hs:=(.none _));rintro r1 K2 ⟨rfl,rfl⟩;refine au 1300 ?_;refine bF 6 (fun g1_4=>?_) (fun g1_4=>?_)
 ·refine au 680 ?_;refine bD Z Z Z Z (zeI hT (by simp [greatM] at g1_4; omega) (by simp [greatM] at g1_4; omega)) ?_;rintro r4 K5 ⟨rfl,rfl⟩;refine au 352607 ?_;refine bB hret [(s,_),(h,_),(e,_)] ?_;exact ⟨by simp at g1_4; rw [g1_4]; simp; rfl,rfl⟩
 refine au 35250888 ?_;refine bB hret [(s,_),(h,_),(e,_)] ?_;exact ⟨by simp at g1_4; rw [g1_4]; rfl,rfl⟩
end Go.Vel
end
