/- Texts for the statements of chapter 9: what all of them need, part 6. It holds of every program, tape and world that the statements name, as each theorem says. -/
import Derived.Test.YtcddfkgckelhiaaGreatDoorProg
import Derived.Conc.LeavingOf
import Derived.Conc.Holds
import Derived.Carry
import Derived.LaidLaws
import Derived.Test.YtcddfkgckelhiaaGreatDoorCards
import Derived.Test.YtcddfkgckelhiaaGreatDoorTie
import Derived.SevenTiedAt
import Derived.Test.YtcddfkgckelhiaaGreatDoorT0
import Derived.Test.YtcddfkgckelhiaaGreatDoorT3
import Derived.Test.YtcddfkgckelhiaaGreatDoorT4
section
set_option linter.all false
set_option maxRecDepth 20000
set_option maxHeartbeats 60000000
open Go.Proofs.Tryz renaming prog -> tp
open List renaming getElem?_eq_getElem -> lA, nil_append -> lC, getElem?_eq_some_iff -> lD, getD_eq_getElem?_getD -> lE, length_append -> lF, perm_append_comm -> lH, mem_cons -> lI, eq_nil_of_length_eq_zero -> lK, mem_cons_of_mem -> lL, map_append -> lM, mem_of_getElem? -> lN, append_nil -> lR, mem_singleton -> lS, mem_append -> lT, take_length -> lW, mem_map -> lY, length_cons -> lZ, replicate -> mB
open List.Mem renaming head -> mC
open Array renaming getElem?_eq_getElem -> mD, getElem?_eq_some_iff -> mG
open Nat renaming zero_le -> mN, zero_add -> mO, eq_zero_or_pos -> mP, le_trans -> mT
open Bool renaming and_eq_true -> mX
open Int renaming toNat_natCast -> mZ
open Go.Vel.TK renaming maskL -> bA, rt -> bB, kp -> bC, cl -> bD, loopN -> bE, sp -> bF, a -> bH, newR -> bI, dq -> bL, perm -> bN, appR -> bO
open Go.Vel.TD renaming cl -> bQ, norm -> bS
namespace Go.Vel
open Go Go.Conc Go.Proofs
theorem kO {b:Bk} {t:Bool} (h:askM b t=0):checkM b=0/\t=true/\zb b≠[]:=by
 unfold askM at h;split at h
 ·rename_i h1; exact absurd h h1
 ·rename_i h1;split at h
  ·cases h
  ·rename_i h2;split at h
   ·cases h
   ·rename_i h3;exact ⟨by simpa using h1,by simpa using h2,h3⟩
def statesApi (b:Bk):Int×Int:=if checkM b≠0 then (0,checkM b) else ((zb b).length,0)
def atApi (b:Bk) (n:Int):Int×Int:=if askM b (zE b n)≠0 then (0,askM b (zE b n)) else (wordM (zb b).length (oftM (zb b) n),0)
def withinApi (b:Bk) (lo hi:Int):(Int×Int)×Int:=if askM b (zE b lo&&zE b hi)≠0 then ((0,0),askM b (zE b lo&&zE b hi)) else (withinM b (zb b) lo ((hi - lo+b.steps) % b.steps+1),0)
def wrongApi (b:Bk) (k:Int):Int×Int:=if askM b (isSeekerM b k)≠0 then (0,askM b (isSeekerM b k)) else (wordM (zb b).length ((zb b).length - rightsM b (zb b) k.toNat),0)
def pickL (b:Bk) (w:Int) (n:Nat):List Int:=((List.range n).filter fun k:Nat=>wordM (zb b).length (oftM (zb b) (k:Int))==w).map fun k:Nat=>(k:Int)
theorem zbm {b:Bk} {w:Int} {n:Nat} (h:(wordM (zb b).length (oftM (zb b) (n:Int))==w)=true):pickL b w (n+1)=pickL b w n++[(n:Int)]:=by
 unfold pickL; rw [List.range_succ,List.filter_append]; simp [h]
theorem wF {b:Bk} {w:Int} {n:Nat} (h:(wordM (zb b).length (oftM (zb b) (n:Int))==w)=false):pickL b w (n+1)=pickL b w n:=by
 unfold pickL; rw [List.range_succ,List.filter_append]; simp [h]
theorem zek (b:Bk) (w:Int) (n:Nat):(pickL b w n).length<=n:=by
 unfold pickL; rw [List.length_map]; exact mT (List.length_filter_le _ _) sQ
theorem zmN {b:Bk} (hb:BkOk b) (n:Int):0<=oftM (zb b) n/\oftM (zb b) n<=200000:=by
 have h0:(zb b).flatten.count n<=(zb b).flatten.length:=List.count_le_length;have h1:=uv (Ls:=zb b) (fun R hR=>(yL hb R hR).len);have h2:=yE hb;unfold oftM;omega
theorem yZ {main:Bool} {T:Goroutine->Hp->Prop} (hT:zh tp main T)  {b:Bk} {s e:Nat} (hse:s≠e) (hn:∀ x∈b.seekers,x.name.size<=1000) (hl:b.seen.length<=1000) :
  zg tp T gmS 35 [.agg (zx b s e)] [(0,zw),(1,zA),(s,zn b),(e,zo b)] (fun r K'=>r=.tup [intA (statesApi b).1,intA (statesApi b).2]/\K'=[(0,zw),(1,zA),(s,zn b),(e,zo b)]):=by
 refine ze 14 hT Tryz.func35 fun Y hret=>?_;refine au 21042 ?_;intro j1 hj1;refine au 680422355 ?_;refine bD Z Z Z Z (kP hT (b:=b) (s:=s) (e:=e) hn hl) ?_;rintro r2 K3 ⟨rfl,rfl⟩;refine au 93714235 ?_;constructor<;>intro hc0
 ·refine au 355142 ?_;refine bB hret [(0,_),(1,_),(s,_),(e,_)] ?_;exact ⟨by unfold statesApi; rw [if_pos (by simpa using hc0)]; rfl,rfl⟩
 have hb:=yo (b:=b) (by simpa using hc0);refine au 43068042120 ?_;refine bD Z Z Z Z (za9 hT hse hb) ?_;rintro r5 K6 ⟨jl,rfl,rfl⟩;refine au 355280 ?_;refine bB hret [(0,_),(1,_),(s,_),(e,_)] ?_;exact ⟨by unfold statesApi; rw [if_neg (by simpa using hc0)]; rfl,rfl⟩
theorem zmn {main T} (hT:zh tp main T) {gm} {b:Bk} {s e j:Nat} {n:Int} (hs:0<=b.steps/\b.steps<=16) :
  zg tp T gm 106 [.agg (zx b s e),.ptr j 0] [(j,.cells [intA n] 3 true)] (fun r K'=>r=zm (zE b n)/\K'=[(j,.cells [intA n] 3 true)]):=by
 refine ze 7 hT Tryz.func106 fun Y hret=>?_;refine au 21042 ?_;intro jb hjb;refine au 6906804235 ?_;refine bD Z Z Z Z (kF hT (s:=s) (e:=e) hs) ?_;rintro r1 K2 ⟨rfl,rfl⟩;refine au 35 ?_;refine bB hret [(j,_)] ?_;exact ⟨rfl,rfl⟩
theorem uM {main:Bool} {T:Goroutine->Hp->Prop} (hT:zh tp main T)  {b:Bk} {s e:Nat} {n:Int} (hse:s≠e) (hn:∀ x∈b.seekers,x.name.size<=1000) (hl:b.seen.length<=1000) :
  zg tp T gmS 37 [.agg (zx b s e),intA n] [(0,zw),(1,zA),(s,zn b),(e,zo b)] (fun r K'=>r=.tup [intA (atApi b n).1,intA (atApi b n).2]/\K'=[(0,zw),(1,zA),(s,zn b),(e,zo b)]):=by
 refine ze 23 hT Tryz.func37 fun Y hret=>?_;refine au 21042 ?_;intro j1 hj1;refine au 210 ?_;intro j2 hj2;refine au 32068042355 ?_;refine bD Z Z Z Z (vm hT (b:=b) (s:=s) (e:=e) (t:=zE b n) hse hn hl Z (fun hb=>yz Cal.h (zmn hT (by have:=hb.steps; omega)))) ?_;rintro r3 K4 h5;rcases h5 with ⟨hb0,rfl,rfl⟩ | ⟨jl,jm,om,hb0,hom,rfl,rfl⟩
 ·refine au 220661 ?_;intro j6 hj6;refine au 937142235170 ?_;constructor<;>intro hc0
  ·
   refine au 355142 ?_;refine bB hret [(0,_),(1,_),(s,_),(e,_)] ?_;exact ⟨by unfold atApi; rw [if_pos hb0]; rfl,rfl⟩
  exact absurd (by simpa using hc0) hb0
 ·refine au 220661 ?_;intro j7 hj7;refine au 937142235170 ?_;constructor<;>intro hc0
  ·exact absurd hc0 dQ
  obtain ⟨hck,hth,hne⟩:=kO hb0;have hb:=yo hck;have hLo:=yL hb;have hLn:=yE hb;refine au 69069067068042120 ?_;refine bH Z (vZ Z Z Z Und.h Und.h InfO.h Z mQ hom) ?_;refine bD Z Z Z Z (zdF hT) ?_;rintro r8 K9 ⟨rfl,rfl⟩;refine au 355 ?_;refine bB hret [(0,_),(1,_),(s,_),(e,_)] ?_;exact ⟨by unfold atApi; rw [if_neg (by rw [hb0]; decide)]; rfl,rfl⟩
theorem zid {main T} (hT:zh tp main T) {gm} {b:Bk} {s e j j2:Nat} {lo hi:Int} (hs:0<=b.steps/\b.steps<=16) :
  zg tp T gm 110 [.agg (zx b s e),.ptr j 0,.ptr j2 0] [(j,.cells [intA lo] 3 true),(j2,.cells [intA hi] 3 true)] (fun r K'=>r=zm (zE b lo&&zE b hi)/\K'=[(j,.cells [intA lo] 3 true),(j2,.cells [intA hi] 3 true)]):=by
 refine ze 13 hT Tryz.func110 fun Y hret=>?_;refine au 21042 ?_;intro jb hjb;refine au 6906804235 ?_;refine bD Z Z Z Z (kF hT (s:=s) (e:=e) hs) ?_;rintro r1 K2 ⟨rfl,rfl⟩;refine au 1 ?_;refine bF 8 (fun g1_4=>?_) (fun g1_4=>?_)
 ·refine au 690680 ?_;refine bD Z Z Z Z (kF hT (s:=s) (e:=e) hs) ?_;rintro r4 K5 ⟨rfl,rfl⟩;refine au 35260 ?_;refine bB hret [(j,_),(j2,_)] ?_;exact ⟨by unfold zE; rw [g1_4]; rfl,rfl⟩
 refine au 35250888 ?_;refine bB hret [(j,_),(j2,_)] ?_;exact ⟨by unfold zE; rw [g1_4]; rfl,rfl⟩
theorem wT {main:Bool} {T:Goroutine->Hp->Prop} (hT:zh tp main T)  {b:Bk} {s e:Nat} {lo hi:Int} (hse:s≠e) (hn:∀ x∈b.seekers,x.name.size<=1000) (hl:b.seen.length<=1000) :
  zg tp T gmS 40 [.agg (zx b s e),intA lo,intA hi] [(0,zw),(1,zA),(s,zn b),(e,zo b)] (fun r K'=>r=.tup [.agg [intA (withinApi b lo hi).1.1,intA (withinApi b lo hi).1.2],intA (withinApi b lo hi).2]/\K'=[(0,zw),(1,zA),(s,zn b),(e,zo b)]):=by
 refine ze 28 hT Tryz.func40 fun Y hret=>?_;refine au 21042 ?_;intro j1 hj1;refine au 210 ?_;intro j2 hj2;refine au 210 ?_;intro j3 hj3;refine au 220 ?_;intro j4 hj4;refine au 3206804235 ?_;refine bD Z Z Z Z (vm hT (b:=b) (s:=s) (e:=e) (t:=zE b lo&&zE b hi) hse hn hl Z (fun hb=>yz Cal.h (zid hT (by have:=hb.steps; omega)))) ?_;rintro r5 K6 h7;rcases h7 with ⟨hb0,rfl,rfl⟩ | ⟨jl,jm,om,hb0,hom,rfl,rfl⟩
 ·refine au 220661 ?_;intro j8 hj8;refine au 937142235170 ?_;constructor<;>intro hc0
  ·
   refine au 35170139042 ?_;refine bB hret [(0,_),(1,_),(s,_),(e,_)] ?_;exact ⟨by unfold withinApi; rw [if_pos hb0]; rfl,rfl⟩
  exact absurd (by simpa using hc0) hb0
 ·refine au 220661 ?_;intro j9 hj9;refine au 937142235170 ?_;constructor<;>intro hc0
  ·exact absurd hc0 dQ
  obtain ⟨hck,hth,hne⟩:=kO hb0;have hb:=yo hck;have hLo:=yL hb;have hLn:=yE hb;have hlo:(0<=lo/\lo<b.steps)/\(0<=hi/\hi<b.steps):=by simp only [zE,mX,decide_eq_true_eq] at hth; omega
  refine au 2120 ?_;refine bL [0,1,2,3,4,5,6,7,8,9] ?_;refine ad [[12,8],[10,4],[3,8],[12,22],[10,4],[10,5]] ?_;refine bQ (pend':=[⟨2,[8],[]⟩,⟨1,[4],[(_,_)]⟩,⟨0,[8],[(_,_)]⟩]) [23,24,25] Z Z Z Z Z (zbp hT (s:=s) (e:=e) hb.steps hlo.1 hlo.2) (fun r10 K11 h12=>⟨?_,?_⟩)
  ·rcases h12 with ⟨rfl,rfl⟩
   all_goals simp
  obtain ⟨rfl,rfl⟩:=h12;try simp only [cA]
  refine bS tQ ?_;refine bQ (pend':=[⟨2,[8],[]⟩]) [20,21,26] Z Z Z Z Z (zeL hT hb.steps hLo hLn hlo.1) (fun r13 K14 h15=>⟨?_,?_⟩)
  ·rcases h15 with ⟨rfl,rfl⟩
   all_goals simp
  obtain ⟨rfl,rfl⟩:=h15;try simp only [cA]
  refine bS tQ ?_;refine TD.s (pend':=[]) [6,27] Z Z (zt Z Z zd.h Z Z mQ Z) ?_;refine ad [[13],[14]] ?_;refine au 0 ?_;refine bB hret [(0,_),(1,_),(s,_),(e,_)] ?_;exact ⟨by unfold withinApi; rw [if_neg (by rw [hb0]; decide)]; rfl,rfl⟩
theorem zjY {main T} (hT:zh tp main T) {gm} {b:Bk} {s e j:Nat} {n:Int} (hs:b.seekers.length<=1000) :
  zg tp T gm 116 [.agg (zx b s e),.ptr j 0] [(j,.cells [intA n] 3 true)] (fun r K'=>r=zm (isSeekerM b n)/\K'=[(j,.cells [intA n] 3 true)]):=by
 refine ze 7 hT Tryz.func116 fun Y hret=>?_;refine au 21042 ?_;intro jb hjb;refine au 6906804235 ?_;refine bD Z Z Z Z (uw hT (s:=s) (e:=e) hs) ?_;rintro r1 K2 ⟨rfl,rfl⟩;refine au 35 ?_;refine bB hret [(j,_)] ?_;exact ⟨rfl,rfl⟩
theorem kY {main:Bool} {T:Goroutine->Hp->Prop} (hT:zh tp main T)  {b:Bk} {s e:Nat} {n:Int} (hse:s≠e) (hn:∀ x∈b.seekers,x.name.size<=1000) (hl:b.seen.length<=1000) :
  zg tp T gmS 42 [.agg (zx b s e),intA n] [(0,zw),(1,zA),(s,zn b),(e,zo b)] (fun r K'=>r=.tup [intA (wrongApi b n).1,intA (wrongApi b n).2]/\K'=[(0,zw),(1,zA),(s,zn b),(e,zo b)]):=by
 refine ze 26 hT Tryz.func42 fun Y hret=>?_;refine au 21042 ?_;intro j1 hj1;refine au 210 ?_;intro j2 hj2;refine au 32068042355 ?_;refine bD Z Z Z Z (vm hT (b:=b) (s:=s) (e:=e) (t:=isSeekerM b n) hse hn hl Z (fun hb=>yz Cal.h (zjY hT (by have:=hb.ns; omega)))) ?_;rintro r3 K4 h5;rcases h5 with ⟨hb0,rfl,rfl⟩ | ⟨jl,jm,om,hb0,hom,rfl,rfl⟩
 ·refine au 220661 ?_;intro j6 hj6;refine au 937142235170 ?_;constructor<;>intro hc0
  ·
   refine au 355142 ?_;refine bB hret [(0,_),(1,_),(s,_),(e,_)] ?_;exact ⟨by unfold wrongApi; rw [if_pos hb0]; rfl,rfl⟩
  exact absurd (by simpa using hc0) hb0
 ·refine au 220661 ?_;intro j7 hj7;refine au 937142235170 ?_;constructor<;>intro hc0
  ·exact absurd hc0 dQ
  obtain ⟨hck,hth,hne⟩:=kO hb0;have hb:=yo hck;have hLo:=yL hb;have hLn:=yE hb;obtain ⟨k,rfl⟩:∃ k:Nat,n=k:=⟨n.toNat,by simp only [isSeekerM,mX,decide_eq_true_eq] at hth; omega⟩;have hk:k<b.seekers.length:=by simp only [isSeekerM,mX,decide_eq_true_eq] at hth; omega
  have hrl:=zal b (zb b) k;refine au 2120 ?_;refine bL [0,1,2,3,4,5,6,7,8,9,10] ?_;refine ad [[12,6],[3,6],[10,18]] ?_;refine TD.z [19] Z (q_len Z Z Z Und.h) ?_;refine ad [[12,6],[10,3]] ?_;refine bQ (pend':=[⟨3,[19],[]⟩,⟨2,[18],[(_,_)]⟩,⟨1,[6],[]⟩,⟨0,[6],[(_,_)]⟩]) [21,22] Z Z Z Z Z (zeq hT hb hLo hLn hk) (fun r8 K9 h10=>⟨?_,?_⟩)
  ·rcases h10 with ⟨rfl,rfl⟩
   all_goals simp
  obtain ⟨rfl,rfl⟩:=h10;try simp only [cA]
  refine bS tQ ?_;refine ad [[9,20,23]] ?_;refine bQ (pend':=[⟨3,[19],[]⟩,⟨2,[18],[(_,_)]⟩,⟨1,[6],[]⟩]) [17,24] Z Z Z Z Z (zdF hT) (fun r11 K12 h13=>⟨?_,?_⟩)
  ·rcases h13 with ⟨rfl,rfl⟩
   all_goals simp
  obtain ⟨rfl,rfl⟩:=h13;try simp only [cA]
  refine bS tQ ?_;refine ad [[13,25],[13],[14]] ?_;refine au 0 ?_;refine bB hret [(0,_),(1,_),(s,_),(e,_)] ?_;exact ⟨by unfold wrongApi; rw [if_neg (show ¬ (askM b (isSeekerM b (k:Int))≠0) by rw [hb0]; decide)]; rfl,rfl⟩
theorem zgH {main:Bool} {T:Goroutine->Hp->Prop} (hT:zh tp main T)  {b:Bk} {s e:Nat} (hse:s≠e) (hn:∀ x∈b.seekers,x.name.size<=1000) (hl:b.seen.length<=1000) :
  zg tp T gmS 39 [.agg (zx b s e)] [(0,zw),(1,zA),(s,zn b),(e,zo b)] (fun r K'=>(askM b true≠0/\r=.tup [.v (.slice none 0 0),.v (.slice none 0 0),intA (askM b true)]/\K'=[(0,zw),(1,zA),(s,zn b),(e,zo b)])\/(askM b true=0/\∃ j1 j2,r=.tup [.row j1 (pickL b 1 b.steps.toNat).length,.row j2 (pickL b 0 b.steps.toNat).length,intA 0]/\K'=[(0,zw),(1,zA),(s,zn b),(e,zo b),(j1,.row ((pickL b 1 b.steps.toNat).map intA) 3 1),(j2,.row ((pickL b 0 b.steps.toNat).map intA) 3 1)])):=by
 refine ze 41 hT Tryz.func39 fun Y hret=>?_;refine au 21042 ?_;intro jb hjb;refine au 555 ?_;refine TK.virt 2 3 1 Z fun j01 hj01=>?_;refine TK.virt 3 3 1 Z fun j02 hj02=>?_;refine au 680423 ?_;refine bD Z Z Z Z (vm hT (b:=b) (s:=s) (e:=e) (t:=true) hse hn hl Z (fun hb=>yz Cal.h (wA hT))) ?_;rintro r1 K2 h3;rcases h3 with ⟨hb0,rfl,rfl⟩ | ⟨jl,jm,om,hb0,hom,rfl,rfl⟩
 ·refine au 220661 ?_;intro jx hjx;refine au 937142235170 ?_;constructor<;>intro hc0
  ·
   refine au 3555142 ?_;refine bB hret [(0,_),(1,_),(s,_),(e,_)] ?_;exact .inl ⟨hb0,rfl,rfl⟩
  exact absurd (by simpa using hc0) hb0
 ·refine au 220661 ?_;intro jx hjx;refine au 937142235170 ?_;constructor<;>intro hc0
  ·exact absurd hc0 dQ
  obtain ⟨hck,hth,hne⟩:=kO hb0;have hb:=yo hck;have hLo:=yL hb;have hLn:=yE hb;refine au 13031690670422120 ?_;refine bA [1,2,3,5,16,17] ?_;refine bC [(jx,_),(jm,_),(jl,_),(jb,_),(0,_),(1,_),(s,_),(e,_),(j01,_),(j02,_)] ?_;refine bE (fun n env K=>∃ (i j1 j2:Nat),n=b.steps.toNat - i/\i<=b.steps.toNat/\env=zJ 41 [(1,.ptr jb 0),(2,.row j1 (pickL b 1 i).length),(3,.row j2 (pickL b 0 i).length),(5,.ptr jx 0),(16,intA b.steps),(17,intA i)]/\K=[(jx,.cells (knownC b s e (.sl jl 0 (zb b).length) jm) 219 true),(jm,.raw om),(jl,listO (zb b)),(jb,.cells (zx b s e) 27 true),(0,zw),(1,zA),(s,zn b),(e,zo b),(j1,.row ((pickL b 1 i).map intA) 3 1),(j2,.row ((pickL b 0 i).map intA) 3 1)]) b.steps.toNat ⟨0,j01,j02,rfl,mN _,rfl,rfl⟩ fun n env K hI' hnext=>?_;obtain ⟨i,j1,j2,rfl,hi,rfl,rfl⟩:=hI';refine au 923742 ?_;constructor<;>intro hc1
  ·simp only [decide_eq_true_eq] at hc1;have hst16:=hb.steps;have hp1:=zek b 1 i;have hp2:=zek b 0 i;refine au 169067068042351421302120 ?_;refine bH Z (vZ Z Z Z Und.h Und.h InfO.h Z mQ hom) ?_;refine bD Z Z Z Z (zdF hT) ?_;rintro r4 K5 ⟨rfl,rfl⟩;refine au 9357421303 ?_;constructor<;>intro hc2
   ·refine au 114 ?_;refine bI Z Z Z (zG (l:=[_]) Z SlEl.h TyZ.h dQ dQ Z) (fun _=>zy rfl tQ) fun j7 hj7=>?_;refine bO Z Z Z (a_app Z ApOf.h Z mQ (by simp <;> omega) Z (yS (ln:=[_]) mQ dQ sQ Z) oQ Z (by unfold maxLen; omega) oQ) (fun _=>uQ) (fun _=>zy rfl tQ) fun j3=>?_;refine au 31230414014035 ?_;refine bA [1,2,3,5,16,17] ?_;refine bC [(jx,_),(jm,_),(jl,_),(jb,_),(0,_),(1,_),(s,_),(e,_),(j3,_),(j2,_)] ?_;exact hnext _ _ _ oQ ⟨i+1,j3,j2,rfl,oQ,by rw [zbm hc2,wF (w:=0) (by rw [beq_iff_eq.1 hc2]; rfl),lF]; rfl,by rw [zbm hc2,wF (w:=0) (by rw [beq_iff_eq.1 hc2]; rfl),lM]; rfl⟩
   refine au 935742 ?_;constructor<;>intro hc3
   ·refine au 114 ?_;refine bI Z Z Z (zG (l:=[_]) Z SlEl.h TyZ.h dQ dQ Z) (fun _=>zy rfl tQ) fun j8 hj8=>?_;refine bO Z Z Z (a_app Z ApOf.h Z mQ (by simp <;> omega) Z (yS (ln:=[_]) mQ dQ sQ Z) oQ Z (by unfold maxLen; omega) oQ) (fun _=>uQ) (fun _=>zy rfl tQ) fun j3=>?_;refine au 31230414014035 ?_;refine bA [1,2,3,5,16,17] ?_;refine bC [(jx,_),(jm,_),(jl,_),(jb,_),(0,_),(1,_),(s,_),(e,_),(j1,_),(j3,_)] ?_;exact hnext _ _ _ oQ ⟨i+1,j1,j3,rfl,oQ,by rw [wF hc2,zbm (w:=0) hc3,lF]; rfl,by rw [wF hc2,zbm (w:=0) hc3,lM]; rfl⟩
   refine au 312304140140120 ?_;refine bA [1,2,3,5,16,17] ?_;refine bC [(jx,_),(jm,_),(jl,_),(jb,_),(0,_),(1,_),(s,_),(e,_),(j1,_),(j2,_)] ?_;exact hnext _ _ _ oQ ⟨i+1,j1,j2,rfl,oQ,by rw [wF hc2,wF (w:=0) hc3] <;> rfl,by rw [wF hc2,wF (w:=0) hc3] <;> rfl⟩
  simp only [decide_eq_false_iff_not] at hc1;obtain rfl:i=b.steps.toNat:=by omega
  refine au 35551142160 ?_;refine bB hret [(0,_),(1,_),(s,_),(e,_),(j1,_),(j2,_)] ?_;exact .inr ⟨hb0,j1,j2,rfl,rfl⟩
theorem CallFK.frame {P:Program} {T:Goroutine->Hp->Prop} {gm:Nat->Option Nat} {yv:AV} {args:List AV} {K Kf R:KV} {x:AV} (hs:Split K Kf R) (h:CallFK P T gm yv args Kf fun r K'=>r=x/\K'=Kf):CallFK P T gm yv args K fun r K'=>r=x/\K'=K:=by
 intro A hv hn;obtain ⟨hv',hn'⟩:=hs.view hv hn;refine (h A hv' hn').mono fun r A' ⟨K',hk,hr,he⟩=>⟨K,?_,hr,rfl⟩;subst he;exact (hk.frame hs hv hn).perm hs.perm.symm
def maxM (a b:Int):Int:=if a<b then b else a
def halvesM (len:Int) (p:Nat->Bool) (f:Nat->Int):Nat->Int×Int
 | 0=>(-1,len)
 | k+1=>if (p k&&decide (maxM (f k) (len - f k)<(halvesM len p f k).2))=true then (k,maxM (f k) (len - f k)) else halvesM len p f k
def glassB (b:Bk) (k:Nat):Bool:=match b.seekers[k]? with | some x=>x.glass | none=>false
theorem zkh {α:Type} (f:α->List AV) (c:Nat) (hc:∀ x,(f x).length=c) (xs:List α) (i:Nat) (h:i<xs.length) (d n:Nat) (hd:d+n<=c):((xs.flatMap f).drop (i*c+d)).take n=((f xs[i]).drop d).take n:=by
 have hY:=kC f c hc xs i h;rw [<- List.drop_drop,List.take_drop,show ((xs.flatMap f).drop (i*c)).take (d+n)=(((xs.flatMap f).drop (i*c)).take c).take (d+n) by rw [List.take_take,Nat.min_eq_left hd],hY,<- List.take_drop]
theorem zcY {b:Bk} {k:Nat} (h:k<b.seekers.length):zZ (zn b) (0+(k:Int).toNat*5+4) 1=some [zm (glassB b k)]:=by
 have hle:(k+1)*5<=b.seekers.length*5:=Nat.mul_le_mul_right _ h;have hl:=yk saysC 5 (fun _=>rfl) b.seekers;simp only [zZ,AObj.look,zn,mZ,mO];rw [if_pos ⟨by omega,oQ⟩,zkh saysC 5 (fun _=>rfl) _ k h 4 1 oQ];unfold glassB;rw [lA h];rfl
def askApi (b:Bk):Int×Int×Int:=if askM b true≠0 then (0,0,askM b true) else ((halvesM (zb b).length (fun k=>zE b k) (fun k=>oftM (zb b) k) b.steps.toNat).1,(halvesM (zb b).length (fun k=>zE b k) (fun k=>oftM (zb b) k) b.steps.toNat).2,0)
def lendApi (b:Bk):Int×Int×Int:=if askM b true≠0 then (0,0,askM b true) else ((halvesM (zb b).length (fun k => !glassB b k) (fun k=>rightsM b (zb b) k) b.seekers.length).1,(halvesM (zb b).length (fun k => !glassB b k) (fun k=>rightsM b (zb b) k) b.seekers.length).2,0)
theorem zd4 {main T} (hT:zh tp main T) {gm} {b:Bk} {s e jl m:Nat} {Ls:List (List Int)} {N:Nat} {av sv:AV} {p:Nat->Bool} {f:Nat->Int} {Kt:KV} (hLn:Ls.length<=65536) (hN:N<=1000) (hp:∀ k,k<N->CallFK tp T gm av [intA k] Kt (fun r K'=>r=zm (p k)/\K'=Kt)) (hf:∀ k,k<N->CallFK tp T gm sv [intA k] Kt (fun r K'=>r=intA (f k)/\K'=Kt)) (hfb:∀ k,k<N->0<=f k/\f k<=1000000) :
  zg tp T gm 126 [.agg (knownC b s e (.sl jl 0 Ls.length) m),intA N,av,sv] Kt (fun r K'=>r=.tup [intA (halvesM Ls.length p f N).1,intA (halvesM Ls.length p f N).2]/\K'=Kt):=by
 refine ze 47 hT Tryz.func126 fun Y hret=>?_;refine au 21042 ?_;intro jx hjx;refine au 2355 ?_;refine bL [0,1,2,3,4] ?_;refine ad [[3,4],[10,12]] ?_;refine TD.z [13] Z (q_len Z Z Z Und.h) ?_;refine TD.as (pend':=[⟨2,[13],[]⟩,⟨1,[12],[(_,_)]⟩,⟨0,[4],[]⟩]) [] Z Z (zV Z Z) ?_;refine ad [[13,14],[14]] ?_;refine au 130311422 ?_;refine bA [2,3,4,8,9,15,16] ?_;refine bE (fun n env K=>∃ (i:Nat),n=N - i/\i<=N/\env=zJ 47 [(2,av),(3,sv),(4,.ptr jx 0),(8,intA (halvesM Ls.length p f i).1),(9,intA (halvesM Ls.length p f i).2),(15,intA N),(16,intA i)]/\K=(jx,.cells (knownC b s e (.sl jl 0 Ls.length) m) 219 true)::Kt) N ⟨0,rfl,mN _,rfl,rfl⟩ fun n env K hI' hnext=>?_;obtain ⟨i,rfl,hi,rfl,rfl⟩:=hI';refine au 923742 ?_;refine ⟨fun hc=>?_,fun hc=>?_⟩
 ·simp only [decide_eq_true_eq] at hc;have hil:i<N:=by omega
  have hfi:=hfb i hil;refine au 1142351421302120 ?_;refine TK.callF' Z Z Z Z Z (hf i hil) (.right (.all _)) fun r1 K2 h3=>?_;obtain ⟨rfl,hK⟩:=h3;refine au 0 ?_;rw [hK];refine bN (K':=(jx,.cells (knownC b s e (.sl jl 0 Ls.length) m) 219 true)::Kt) (List.perm_append_singleton _ Kt) ?_;refine au 114235 ?_;refine TK.callF' Z Z Z Z Z (hp i hil) (.right (.all _)) fun r4 K5 h6=>?_;obtain ⟨rfl,hK2⟩:=h6;refine au 0 ?_;rw [hK2];refine bN (K':=(jx,.cells (knownC b s e (.sl jl 0 Ls.length) m) 219 true)::Kt) (List.perm_append_singleton _ Kt) ?_;refine au 1 ?_;refine bF 25 (fun g6_4=>?_) (fun g6_4=>?_)
  ·refine au 24012806906701 ?_;refine bH Z (q_max Z Z Z) ?_;refine au 9326071 ?_;constructor<;>intro hc1
   ·refine bL [0,1,2,3,4,5,6,7,8,9] ?_;refine ad [[1,10],[1,11],[3,4],[10,38]] ?_;refine TD.z [39] Z (q_len Z Z Z Und.h) ?_;refine ad [[1,11],[9,40,41]] ?_;refine TD.z [37,42] Z (q_max Z Z Z) ?_;refine TD.as (pend':=[⟨7,[37,42],[]⟩,⟨6,[40,41],[]⟩,⟨5,[11],[]⟩,⟨4,[39],[]⟩,⟨3,[38],[(_,_)]⟩,⟨2,[4],[]⟩,⟨1,[11],[]⟩]) [36] Z Z (zV Z Z) ?_;refine ad [[13,43],[14]] ?_;refine au 312304140 ?_;refine bA [2,3,4,8,9,15,16] ?_;have hst:halvesM Ls.length p f (i+1)=((i:Int),maxM (f i) (Ls.length - f i)):=if_pos (by rw [g6_4]; exact hc1);exact hnext _ _ _ oQ ⟨i+1,rfl,oQ,by rw [hst]; rfl,rfl⟩
   refine au 312304140120 ?_;refine bA [2,3,4,8,9,15,16] ?_;have hst:halvesM Ls.length p f (i+1)=halvesM Ls.length p f i:=if_neg (by rw [g6_4]; exact fun h=>absurd (hc1.symm.trans h) dQ);exact hnext _ _ _ oQ ⟨i+1,rfl,oQ,by rw [hst] <;> rfl,rfl⟩
  refine au 3123041401201903250888888888 ?_;refine bA [2,3,4,8,9,15,16] ?_;have hst:halvesM Ls.length p f (i+1)=halvesM Ls.length p f i:=if_neg (by rw [g6_4]; simp);exact hnext _ _ _ oQ ⟨i+1,rfl,oQ,by rw [hst] <;> rfl,rfl⟩
 simp only [decide_eq_false_iff_not] at hc;obtain rfl:i=N:=by omega
 refine au 3551142160 ?_;refine bB hret (Kt) ?_ (hs:=(.right (.all _)));exact ⟨rfl,rfl⟩
theorem zlk {main T} (hT:zh tp main T) {gm} {b:Bk} {s e jl m:Nat} {Ls:List (List Int)} {jx:Nat} {om:Obj} {f:Int->Int} {n:Int} (hom:MapOk om f) :
  zg tp T gm 127 [intA n,.ptr jx 0] [(jx,.cells (knownC b s e (.sl jl 0 Ls.length) m) 219 true),(m,.raw om)] (fun r K'=>r=intA (f n)/\K'=[(jx,.cells (knownC b s e (.sl jl 0 Ls.length) m) 219 true),(m,.raw om)]):=by
 refine ze 8 hT Tryz.func127 fun Y hret=>?_;refine au 1690670423542 ?_;refine bH Z (vZ Z Z Z Und.h Und.h InfO.h Z mQ hom) ?_;refine au 35 ?_;refine bB hret [(jx,_),(m,_)] ?_;exact ⟨rfl,rfl⟩
theorem zkv {main T} (hT:zh tp main T) {gm} {b:Bk} {s e jb:Nat} {k:Nat} (hk:k<b.seekers.length) :
  zg tp T gm 128 [intA k,.ptr jb 0] [(jb,.cells (zx b s e) 27 true),(s,zn b)] (fun r K'=>r=zm (!glassB b k)/\K'=[(jb,.cells (zx b s e) 27 true),(s,zn b)]):=by
 refine ze 11 hT Tryz.func128 fun Y hret=>?_;refine au 6703601690670423542 ?_;refine bH Z (zp Z Z zd.h mQ (zcY hk)) ?_;refine au 35300 ?_;refine bB hret [(jb,_),(s,_)] ?_;exact ⟨rfl,rfl⟩
theorem zii {main:Bool} {T:Goroutine->Hp->Prop} (hT:zh tp main T)  {b:Bk} {s e:Nat} (hse:s≠e) (hn:∀ x∈b.seekers,x.name.size<=1000) (hl:b.seen.length<=1000) :
  zg tp T gmS 46 [.agg (zx b s e)] [(0,zw),(1,zA),(s,zn b),(e,zo b)] (fun r K'=>r=.tup [intA (askApi b).1,intA (askApi b).2.1,intA (askApi b).2.2]/\K'=[(0,zw),(1,zA),(s,zn b),(e,zo b)]):=by
 refine ze 27 hT Tryz.func46 fun Y hret=>?_;refine au 21042 ?_;intro j1 hj1;refine au 680423555 ?_;refine bD Z Z Z Z (vm hT (b:=b) (s:=s) (e:=e) (t:=true) hse hn hl Z (fun hb=>yz Cal.h (wA hT))) ?_;rintro r2 K3 h4;rcases h4 with ⟨hb0,rfl,rfl⟩ | ⟨jl,jm,om,hb0,hom,rfl,rfl⟩
 ·refine au 220661 ?_;intro jx hjx;refine au 937142235170 ?_;constructor<;>intro hc0
  ·
   refine au 3555142 ?_;refine bB hret [(0,_),(1,_),(s,_),(e,_)] ?_;exact ⟨by unfold askApi; rw [if_pos hb0]; rfl,rfl⟩
  exact absurd (by simpa using hc0) hb0
 ·refine au 220661 ?_;intro jx hjx;refine au 937142235170 ?_;constructor<;>intro hc0
  ·exact absurd hc0 dQ
  obtain ⟨hck,hth,hne⟩:=kO hb0;have hb:=yo hck;have hLo:=yL hb;have hLn:=yE hb;refine au 32032068067069067068042120 ?_;rw [show b.steps=((b.steps.toNat:Nat):Int) by have:=hb.steps; omega];refine bD Z Z Z Z (zd4 hT (b:=b) (s:=s) (e:=e) (N:=b.steps.toNat) (p:=fun k=>zE b k) (f:=fun k=>oftM (zb b) k) (Kt:=[(jx,.cells (knownC b s e (.sl jl 0 (zb b).length) jm) 219 true),(jm,.raw om)]) hLn (by have:=hb.steps; omega) (fun k _=>CallFK.frame (.none _) (yz Cal.h (kF hT (by have:=hb.steps; omega)))) (fun k _=>yz Cal.h (zlk hT hom)) (fun k _=>by have:=zmN hb k; omega)) ?_;rintro r5 K6 ⟨rfl,rfl⟩;refine au 35551142355661 ?_;refine bB hret [(0,_),(1,_),(s,_),(e,_)] ?_;exact ⟨by unfold askApi; rw [if_neg (show ¬ (askM b true≠0) by rw [hb0]; decide)]; rfl,rfl⟩
theorem zhH {main:Bool} {T:Goroutine->Hp->Prop} (hT:zh tp main T)  {b:Bk} {s e:Nat} (hse:s≠e) (hn:∀ x∈b.seekers,x.name.size<=1000) (hl:b.seen.length<=1000) :
  zg tp T gmS 47 [.agg (zx b s e)] [(0,zw),(1,zA),(s,zn b),(e,zo b)] (fun r K'=>r=.tup [intA (lendApi b).1,intA (lendApi b).2.1,intA (lendApi b).2.2]/\K'=[(0,zw),(1,zA),(s,zn b),(e,zo b)]):=by
 refine ze 27 hT Tryz.func47 fun Y hret=>?_;refine au 21042 ?_;intro jb hjb;refine au 680423555 ?_;refine bD Z Z Z Z (vm hT (b:=b) (s:=s) (e:=e) (t:=true) hse hn hl Z (fun hb=>yz Cal.h (wA hT))) ?_;rintro r1 K2 h3;rcases h3 with ⟨hb0,rfl,rfl⟩ | ⟨jl,jm,om,hb0,hom,rfl,rfl⟩
 ·refine au 220661 ?_;intro jx hjx;refine au 937142235170 ?_;constructor<;>intro hc0
  ·
   refine au 3555142 ?_;refine bB hret [(0,_),(1,_),(s,_),(e,_)] ?_;exact ⟨by unfold lendApi; rw [if_pos hb0]; rfl,rfl⟩
  exact absurd (by simpa using hc0) hb0
 ·refine au 220661 ?_;intro jx hjx;refine au 937142235170 ?_;constructor<;>intro hc0
  ·exact absurd hc0 dQ
  obtain ⟨hck,hth,hne⟩:=kO hb0;have hb:=yo hck;have hLo:=yL hb;have hLn:=yE hb;refine au 32068032028069067068042120 ?_;refine bD Z Z Z Z (zd4 hT (b:=b) (s:=s) (e:=e) (N:=b.seekers.length) (p:=fun k => !glassB b k) (f:=fun k=>rightsM b (zb b) k) (Kt:=[(jb,.cells (zx b s e) 27 true),(1,zA),(s,zn b),(jl,listO (zb b))]) hLn (by have:=hb.ns; omega) (fun k hk=>CallFK.frame (by repeat (first | exact Split.none _ | exact Split.all _ | (apply Split.rem; repeat (first | exact Rem.head | apply Rem.tail)) | apply Split.right)) (yz Cal.h (zkv hT hk))) (fun k hk=>CallFK.frame (by repeat (first | exact Split.none _ | exact Split.all _ | (apply Split.rem; repeat (first | exact Rem.head | apply Rem.tail)) | apply Split.right)) (yz Cal.h (zeq hT hb hLo hLn hk))) (fun k _=>by have:=zal b (zb b) k; omega)) ?_;rintro r4 K5 ⟨rfl,rfl⟩;refine au 35551142355661 ?_;refine bB hret [(0,_),(1,_),(s,_),(e,_)] ?_;exact ⟨by unfold lendApi; rw [if_neg (show ¬ (askM b true≠0) by rw [hb0]; decide)]; rfl,rfl⟩
section
variable {P:Program} {gm:Nat->Option Nat} {T:Goroutine->Hp->Prop} {Y:KX P gm T} {ds:List Nat} {k:List Item} {env env':List AV} {K K' K1:KV} {ops:Array Oper} {i:Nat} {rest:List Nat} {o:Oper} {envf:Nat->List AV}
theorem Upd.same' {K K':KV} {i j:Nat} {o o':AObj} (h:Upd K i o j o' K'):i=j->o'=o->K'=K:=by
 induction h with
 | head=>intro hj e; rw [e,hj]
 | tail _ ih=>intro hj e; rw [ih hj e]
theorem Upd.same {K K':KV} {i:Nat} {o o':AObj} (h:Upd K i o i o' K') (e:o'=o):K'=K:=h.same' rfl e
theorem TK.appG {s x:Operand} {t e:TypeId} {size bytes j n m:Nat} {lo ln:List AV} {u:AV} {K'':Nat->KV} (ho:ops[i]? =some o) (hw:yd ops env o=some true) (hop:o.op=.call { callee:=.builtin .append,args:=#[s,x],argTypes:=#[t,t] }) (ht:apOf P t=some (e,size,bytes)) (hs:zr gm env s=some (.row j n)) (hm:(j,.row lo e size)∈K) (hlo:lo.length=n*size) (hx:zr gm env x=some u) (hl:lenA u=some m) (hsrc:0<m->srcO K size u m ln) (hln:m=0->ln=[])
  (hone:ln.all oneA=true) (hmax:n+m<=maxLen) (hbytes:(n+m)*bytes<=140737488355328) (hu:∀ j',Upd K j (.row lo e size) j' (.row (lo++ln) e size) (K'' j')) (he:∀ j',putA env o.dst (.row j' (n+m))=envf j') (h:∀ j',TK Y ds (.inRegion ops rest::k) (envf j') (K'' j')):TK Y ds (.inRegion ops (i::rest)::k) env K:=by
 rcases mP m with e0 | hpos
 ·subst e0;have hk:K'' j=K:=(hu j).same (by rw [hln rfl,lR]);have ht':=ht;unfold apOf at ht';split at ht'
  ·rename_i e' h1;split at ht'
   ·rename_i ti h2;refine TK.q (r:=.row j n) ho (by rw [hop]; rfl) hw (zfR hop h1 h2 hs hx hl) (he j) ?_;rw [<- hk]; exact h j
   ·cases ht'
  ·cases ht'
 ·exact bO ho (by rw [hop]; rfl) hw (a_app hop ht hs hm hlo hx (hsrc hpos) hpos hone hmax hbytes) hu he h
theorem TK.normK (he:K=K') (h:TK Y ds k env K'):TK Y ds k env K:=he ▸ h
theorem TK.nd (h:(keys K).Nodup->TK Y ds k env K):TK Y ds k env K:=fun A hA=>h hA.nd A hA
theorem TK.freezeBk (d:Nat) {a b c f:Value} {j1 n1 j2 n2:Nat} {l1 l2:List AV} {e1 s1 e2 s2:Nat} (hd:env[d]? =some (.agg [.v a,.v b,.v c,.v f,.row j1 n1,.row j2 n2])) (hu1:Upd K j1 (.row l1 e1 s1) j1 (.cells l1 e1 false) K1) (hu2:Upd K1 j2 (.row l2 e2 s2) j2 (.cells l2 e2 false) K') (he:env.set d (.agg [.v a,.v b,.v c,.v f,.sl j1 0 n1,.sl j2 0 n2])=env') (h:TK Y ds k env' K'):TK Y ds k env K:=by
 have hlt:d<env.length:=(lD.1 hd).1;refine TK.freeze d hd hu1 Z ?_;refine TK.freeze d (List.getElem?_set_self hlt) hu2 (env':=env') ?_ h;rw [<- he,List.set_set];congr 1;by_cases h:j2=j1
 ·subst h; simp [unrow1,unrow]
 ·simp [unrow1,unrow,h]
end
theorem wc {l:List AV} {e:TypeId} {rw':Bool} {n size:Nat} (hl:l.length=n*size) (h:0<n*size):zZ (.cells l e rw') 0 (n*size)=some l:=by
 simp only [zZ,AObj.look,mO,List.drop_zero];rw [if_pos ⟨h,oQ⟩,<- hl,lW]
theorem vV {α:Type} (f:α->List AV) (h:∀ x,(f x).all oneA=true) (xs:List α):(xs.flatMap f).all oneA=true:=by
 induction xs with
 | nil=>rfl
 | cons x xs ih=>rw [List.flatMap_cons,List.all_append,h,ih]; rfl
def ownC (b:Bk) (j1 j2:Nat):List AV:=[intA b.steps,intA b.wrong,intA b.low,intA b.high,.row j1 b.seekers.length,.row j2 b.seen.length]
def zQ (b:Bk) (x:Says):Bk:={ b with seekers:=b.seekers++[x] }
def lookB (b:Bk) (x:Seen):Bk:={ b with seen:=b.seen++[x] }
def giveB (b:Bk) (k:Nat):Bk:={ b with seekers:=b.seekers.modify k fun x=>{ x with glass:=true } }
theorem zet:∀ (xs:List Says) (k:Nat),k<xs.length->(xs.flatMap saysC).set (k*5+4) (zm true)=(xs.modify k fun x=>{ x with glass:=true }).flatMap saysC
 | x::xs,0,_=>rfl
 | x::xs,k+1,h=>by
  rw [List.modify_succ_cons,List.flatMap_cons,List.flatMap_cons,<- zet xs k (by simpa using h),show (k+1)*5+4=(k*5+4)+5 by omega];rfl
theorem zje {b:Bk} {k:Nat} (hk:k<b.seekers.length):putO (.row (b.seekers.flatMap saysC) 114 5) ((k:Int).toNat*5+4) [zm true]=some (.row ((giveB b k).seekers.flatMap saysC) 114 5):=by
 have hl:=yk saysC 5 (fun _=>rfl) b.seekers;have hle:(k+1)*5<=b.seekers.length*5:=Nat.mul_le_mul_right _ hk;unfold putO;dsimp only;rw [if_pos ⟨by rw [hl]; simp; omega,by simp,rfl⟩];show some (AObj.row ((b.seekers.flatMap saysC).set ((k:Int).toNat*5+4) (zm true)) _ _)=_;rw [mZ,zet _ _ hk]; rfl
def newsM (b o:Bk):Int:=if checkM b≠0 then checkM b else askM o true
def giveM (b:Bk) (k:Int):Int:=if checkM b≠0 then checkM b else if isSeekerM b k=false then 6 else if glassB b k.toNat=true then 5 else askM (giveB b k.toNat) true
theorem wM (b:Bk) (x:Says):(zQ b x).seekers.flatMap saysC=b.seekers.flatMap saysC++saysC x:=by simp [zQ]
theorem ziR (b:Bk) (x:Seen):(lookB b x).seen.flatMap seenC=b.seen.flatMap seenC++seenC x:=by simp [lookB]
theorem uX (b:Bk) (x:Says):b.seekers.length+1=(zQ b x).seekers.length:=by simp [zQ]
theorem zkz (b:Bk) (x:Seen):b.seen.length+1=(lookB b x).seen.length:=by simp [lookB]
theorem zkk (b:Bk) (k:Nat):b.seekers.length=(giveB b k).seekers.length:=by simp [giveB]
theorem zhw {b:Bk} {k:Nat} (hn:∀ x∈b.seekers,x.name.size<=1000):∀ x∈(giveB b k).seekers,x.name.size<=1000:=fun x hx=>by
 obtain ⟨i,hi⟩:=List.mem_iff_getElem?.1 hx;unfold giveB at hi;simp only [List.getElem?_modify] at hi;cases e:b.seekers[i]? with
 | none=>rw [e] at hi; cases hi
 | some y =>
  rw [e] at hi;have hy:=hn y (lN e);simp only [Option.map_eq_map,Option.map_some,Option.some.injEq] at hi;subst hi;split <;> exact hy
theorem uY {b:Bk} {x:Says} (hn:∀ x∈b.seekers,x.name.size<=1000) (hx:x.name.size<=1000):∀ y∈(zQ b x).seekers,y.name.size<=1000:=fun y hy=>by
 rcases lT.1 hy with h | h
 ·exact hn y h
 ·rw [lS.1 h]; exact hx
theorem zaD {main:Bool} {T:Goroutine->Hp->Prop} (hT:zh tp main T)  {b:Bk} {s e:Nat} (hse:s≠e) (hn:∀ x∈b.seekers,x.name.size<=1000) (hl:b.seen.length<=1000) :
  zg tp T gmS 130 [.agg (zx b s e)] [(0,zw),(1,zA),(s,zn b),(e,zo b)] (fun r K'=>((askM b true≠0/\r=.tup [.agg zeroBk,intA (askM b true)])\/(askM b true=0/\r=.tup [.agg (zx b s e),intA 0]))/\K'=[(0,zw),(1,zA),(s,zn b),(e,zo b)]):=by
 refine ze 16 hT Tryz.func130 fun Y hret=>?_;refine au 21042 ?_;intro j1 hj1;refine au 220 ?_;intro j2 hj2;refine au 68042235 ?_;refine bD Z Z Z Z (vm hT (b:=b) (s:=s) (e:=e) (t:=true) hse hn hl Z (fun hb=>yz Cal.h (wA hT))) ?_;rintro r3 K4 h5;rcases h5 with ⟨hb0,rfl,rfl⟩ | ⟨jl,jm,om,hb0,hom,rfl,rfl⟩
 ·refine au 220661 ?_;intro j6 hj6;refine au 93714235170 ?_;constructor<;>intro hc0
  ·
   refine au 35170143042 ?_;refine bB hret [(0,_),(1,_),(s,_),(e,_)] ?_;exact ⟨.inl ⟨hb0,rfl⟩,rfl⟩
  exact absurd (by simpa using hc0) hb0
 ·refine au 220661 ?_;intro j7 hj7;refine au 93714235170 ?_;constructor<;>intro hc0
  ·exact absurd hc0 dQ
  obtain ⟨hck,hth,hne⟩:=kO hb0;have hb:=yo hck;have hLo:=yL hb;have hLn:=yE hb;refine au 3517068042120 ?_;refine bB hret [(0,_),(1,_),(s,_),(e,_)] ?_;exact ⟨.inr ⟨hb0,rfl⟩,rfl⟩
theorem ze5 {main T} (hT:zh tp main T) {gm} {j n:Nat} {l:List AV} {rw':Bool} (hl:l.length=n*5) (hone:l.all oneA=true) (hn:n<=100000) :
  zg tp T gm 180 [.sl j 0 n] [(j,.cells l 114 rw')] (fun r K'=>∃ j2,r=.row j2 n/\K'=[(j,.cells l 114 rw'),(j2,.row l 114 5)]):=by
 refine ze 8 hT Tryz.func180 fun Y hret=>?_;refine au 14223542 ?_;refine TK.nilT Z Z Z Z Und.h fun tz hz=>?_;refine au 93 ?_;constructor<;>intro hc0
 ·refine au 542 ?_;refine TK.virt 2 114 5 Z fun j0 hj0=>?_;refine au 3 ?_;refine bB hret [(j,_),(j0,_)] ?_;obtain rfl:=hz hc0;obtain rfl:=lK (by simpa using hl);exact ⟨_,rfl,rfl⟩
 refine au 42120 ?_;refine bI Z Z Z (zG (l:=[]) Z SlEl.h TyZ.h dQ dQ Z) (fun _=>zy rfl tQ) fun j1 hj1=>?_;refine au 1 ?_;refine TK.appG (envf:=fun _=>[_,_,_,_,_,_,_,_]) (ln:=l) rfl rfl rfl ApOf.h rfl mQ rfl rfl rfl (fun hp=>ud mQ oQ (wc hl oQ)) (fun h=>by subst h; exact lK (by simpa using hl)) hone (by unfold maxLen; omega) oQ (fun _=>uQ) (fun _=>rfl) fun j2=>?_;simp only [lC,mO];refine au 35 ?_;refine bB hret [(j,_),(j2,_)] ?_;exact ⟨_,rfl,rfl⟩
theorem ze6 {main T} (hT:zh tp main T) {gm} {j n:Nat} {l:List AV} {rw':Bool} (hl:l.length=n*2) (hone:l.all oneA=true) (hn:n<=100000) :
  zg tp T gm 181 [.sl j 0 n] [(j,.cells l 200 rw')] (fun r K'=>∃ j2,r=.row j2 n/\K'=[(j,.cells l 200 rw'),(j2,.row l 200 2)]):=by
 refine ze 8 hT Tryz.func181 fun Y hret=>?_;refine au 14223542 ?_;refine TK.nilT Z Z Z Z Und.h fun tz hz=>?_;refine au 93 ?_;constructor<;>intro hc0
 ·refine au 542 ?_;refine TK.virt 2 200 2 Z fun j0 hj0=>?_;refine au 3 ?_;refine bB hret [(j,_),(j0,_)] ?_;obtain rfl:=hz hc0;obtain rfl:=lK (by simpa using hl);exact ⟨_,rfl,rfl⟩
 refine au 42120 ?_;refine bI Z Z Z (zG (l:=[]) Z SlEl.h TyZ.h dQ dQ Z) (fun _=>zy rfl tQ) fun j1 hj1=>?_;refine au 1 ?_;refine TK.appG (envf:=fun _=>[_,_,_,_,_,_,_,_]) (ln:=l) rfl rfl rfl ApOf.h rfl mQ rfl rfl rfl (fun hp=>ud mQ oQ (wc hl oQ)) (fun h=>by subst h; exact lK (by simpa using hl)) hone (by unfold maxLen; omega) oQ (fun _=>uQ) (fun _=>rfl) fun j2=>?_;simp only [lC,mO];refine au 35 ?_;refine bB hret [(j,_),(j2,_)] ?_;exact ⟨_,rfl,rfl⟩
theorem zfO {main T} (hT:zh tp main T) {gm} {b:Bk} {s e:Nat} (hs5:b.seekers.length<=1000) (he5:b.seen.length<=1000) :
  zg tp T gm 129 [.agg (zx b s e)] [(s,zn b),(e,zo b)] (fun r K'=>∃ j1 j2,r=.agg (ownC b j1 j2)/\K'=[(s,zn b),(e,zo b),(j1,.row (b.seekers.flatMap saysC) 114 5),(j2,.row (b.seen.flatMap seenC) 200 2)]):=by
 refine ze 12 hT Tryz.func129 fun Y hret=>?_;refine au 21042 ?_;intro jb hjb;refine au 220 ?_;intro jr hjr;refine au 23 ?_;refine TK.dr [0,1,3,4,2,6,5,7,8,9] [0,1,2,3,4,5,6,7,8,9] ?_;refine ad [[3,1],[10,3],[3,1],[10,6]] ?_;refine bQ (pend':=[⟨4,[6],[(_,_)]⟩,⟨3,[1],[]⟩,⟨0,[1],[]⟩]) [4] Z Z Z Z Z (ze5 hT (yk saysC 5 (fun _=>rfl) b.seekers) (vV saysC (fun _=>rfl) _) oQ) (fun r1 K2 h3=>⟨?_,?_⟩)
 ·rcases h3 with ⟨j1,rfl,rfl⟩
  all_goals simp
 obtain ⟨j1,rfl,rfl⟩:=h3;try simp only [cA]
 refine bS tQ ?_;refine ad [[3,1]] ?_;refine bQ (pend':=[⟨6,[1],[]⟩,⟨3,[1],[]⟩,⟨0,[1],[]⟩]) [7] Z Z Z Z Z (ze6 hT (yk seenC 2 (fun _=>rfl) b.seen) (vV seenC (fun _=>rfl) _) oQ) (fun r4 K5 h6=>⟨?_,?_⟩)
 ·rcases h6 with ⟨j2,rfl,rfl⟩
  all_goals simp
 obtain ⟨j2,rfl,rfl⟩:=h6;try simp only [cA]
 refine bS tQ ?_;refine TD.s (pend':=[]) [5,9] Z Z (zt Z Z zd.h Z Z mQ Z) ?_;refine ad [[3,1]] ?_;refine TD.s (pend':=[]) [8,10] Z Z (zt Z Z zd.h Z Z mQ Z) ?_;refine ad [[14]] ?_;refine au 317068042 ?_;refine bB hret [(s,_),(e,_),(j1,_),(j2,_)] ?_;exact ⟨j1,j2,rfl,rfl⟩
theorem zlA {main:Bool} {T:Goroutine->Hp->Prop} (hT:zh tp main T)  {b:Bk} {s e:Nat} {x:Says} (hse:s≠e) (hn:∀ x∈b.seekers,x.name.size<=1000) (hl:b.seen.length<=1000) (hx:x.name.size<=1000) :
  zg tp T gmS 50 [.agg (zx b s e),.agg (saysC x)] [(0,zw),(1,zA),(s,zn b),(e,zo b)] (fun r K'=>(newsM b (zQ b x)≠0/\r=.tup [.agg zeroBk,intA (newsM b (zQ b x))]/\K'=[(0,zw),(1,zA),(s,zn b),(e,zo b)])\/(newsM b (zQ b x)=0/\∃ j3 j2,r=.tup [.agg (zx (zQ b x) j3 j2),intA 0]/\K'=[(0,zw),(1,zA),(s,zn b),(e,zo b),(j3,zn (zQ b x)),(j2,zo (zQ b x))])):=by
 refine ze 26 hT Tryz.func50 fun Y hret=>?_;refine au 21042 ?_;intro j1 hj1;refine au 210 ?_;intro j2 hj2;refine au 220 ?_;intro jr hjr;refine au 68042235 ?_;refine bD Z Z Z Z (kP hT (b:=b) (s:=s) (e:=e) hn hl) ?_;rintro r3 K4 ⟨rfl,rfl⟩;refine au 93714235 ?_;constructor<;>intro hc0
 ·refine au 35170143042 ?_;refine bB hret [(0,_),(1,_),(s,_),(e,_)] ?_;have ha:newsM b (zQ b x)=checkM b:=if_pos (by simpa using hc0);exact .inl ⟨by rw [ha]; simpa using hc0,by rw [ha]; rfl,rfl⟩
 have hb:=yo (b:=b) (by simpa using hc0);refine au 68042120 ?_;refine bD Z Z Z Z (zfO hT (by have:=hb.ns; omega) (by have:=hb.ne; omega)) ?_;rintro r6 K7 ⟨j1,j2,rfl,rfl⟩;refine au 220 ?_;intro jo hjo;refine au 680690670423170 ?_;refine bI Z Z Z (zG (l:=[_,_,_,_,_]) Z SlEl.h TyZ.h dQ dQ Z) (fun _=>zy rfl tQ) fun j9 hj9=>?_;refine bO Z Z Z (a_app Z ApOf.h Z mQ (yk saysC 5 (fun _=>rfl) _) rfl (yS (ln:=[_,_,_,_,_]) mQ dQ sQ rfl) oQ rfl (by have:=hb.ns; unfold maxLen; omega) (by have:=hb.ns; omega)) (fun _=>uQ) (fun _=>zy rfl tQ) fun j3=>?_;refine au 680423170670 ?_;refine TK.freezeBk 22 Z uQ uQ Z ?_;refine bC [(j3,_),(j2,_),(0,_),(1,_),(s,_),(e,_),(jr,_)] ?_;refine TK.normK (K':=[(j3,zn (zQ b x)),(j2,zo (zQ b x)),(0,_),(1,_),(s,_),(e,_),(jr,_)]) (by unfold zn; rw [wM]; rfl) ?_;rw [uX b x];refine au 0 ?_;refine TK.nd fun hnd=>?_;have hjj:j3≠j2:=fun h=>by subst h; simp [keys] at hnd
 refine bD Z Z Z Z (zaD hT (b:=zQ b x) (s:=j3) (e:=j2) hjj (uY hn hx) (hl)) ?_;rintro r10 K11 h12;rcases h12 with ⟨⟨hb0,rfl⟩ | ⟨hb0,rfl⟩,rfl⟩
 ·refine au 3517066 ?_;refine bB hret [(0,_),(1,_),(s,_),(e,_)] ?_;have ha:newsM b (zQ b x)=askM (zQ b x) true:=if_neg (by simpa using hc0);exact .inl ⟨by rw [ha]; exact hb0,by rw [ha]; rfl,rfl⟩
 ·refine au 3517066 ?_;refine bB hret [(0,_),(1,_),(s,_),(e,_),(j3,_),(j2,_)] ?_;have ha:newsM b (zQ b x)=askM (zQ b x) true:=if_neg (by simpa using hc0);exact .inr ⟨by rw [ha]; exact hb0,j3,j2,rfl,rfl⟩
theorem zlG {main:Bool} {T:Goroutine->Hp->Prop} (hT:zh tp main T)  {b:Bk} {s e:Nat} {n:Int} {sm:Bool} (hse:s≠e) (hn:∀ x∈b.seekers,x.name.size<=1000) (hl:b.seen.length<=1000) :
  zg tp T gmS 49 [.agg (zx b s e),intA n,zm sm] [(0,zw),(1,zA),(s,zn b),(e,zo b)] (fun r K'=>(newsM b (lookB b ⟨n,sm⟩)≠0/\r=.tup [.agg zeroBk,intA (newsM b (lookB b ⟨n,sm⟩))]/\K'=[(0,zw),(1,zA),(s,zn b),(e,zo b)])\/(newsM b (lookB b ⟨n,sm⟩)=0/\∃ j3 j2,r=.tup [.agg (zx (lookB b ⟨n,sm⟩) j3 j2),intA 0]/\K'=[(0,zw),(1,zA),(s,zn b),(e,zo b),(j3,zn (lookB b ⟨n,sm⟩)),(j2,zo (lookB b ⟨n,sm⟩))])):=by
 refine ze 30 hT Tryz.func49 fun Y hret=>?_;refine au 21042 ?_;intro j1 hj1;refine au 220 ?_;intro jr hjr;refine au 68042235 ?_;refine bD Z Z Z Z (kP hT (b:=b) (s:=s) (e:=e) hn hl) ?_;rintro r2 K3 ⟨rfl,rfl⟩;refine au 93714235 ?_;constructor<;>intro hc0
 ·refine au 35170143042 ?_;refine bB hret [(0,_),(1,_),(s,_),(e,_)] ?_;have ha:newsM b (lookB b ⟨n,sm⟩)=checkM b:=if_pos (by simpa using hc0);exact .inl ⟨by rw [ha]; simpa using hc0,by rw [ha]; rfl,rfl⟩
 have hb:=yo (b:=b) (by simpa using hc0);refine au 68042120 ?_;refine bD Z Z Z Z (zfO hT (by have:=hb.ns; omega) (by have:=hb.ne; omega)) ?_;rintro r5 K6 ⟨j1,j2,rfl,rfl⟩;refine au 220 ?_;intro jo hjo;refine au 39011690670423170 ?_;refine bI Z Z Z (zG (l:=[_,_]) Z SlEl.h TyZ.h dQ dQ Z) (fun _=>zy rfl tQ) fun j8 hj8=>?_;refine bO Z Z Z (a_app Z ApOf.h Z mQ (yk seenC 2 (fun _=>rfl) _) rfl (yS (ln:=[_,_]) mQ dQ sQ rfl) oQ rfl (by have:=hb.ne; unfold maxLen; omega) (by have:=hb.ne; omega)) (fun _=>uQ) (fun _=>zy rfl tQ) fun j3=>?_;refine au 680423170670 ?_;refine TK.freezeBk 26 Z uQ uQ Z ?_;refine bC [(j1,_),(j3,_),(0,_),(1,_),(s,_),(e,_),(jr,_)] ?_;refine TK.normK (K':=[(j1,zn (lookB b ⟨n,sm⟩)),(j3,zo (lookB b ⟨n,sm⟩)),(0,_),(1,_),(s,_),(e,_),(jr,_)]) (by unfold zo; rw [ziR]; rfl) ?_;rw [zkz b ⟨n,sm⟩];refine au 0 ?_;refine TK.nd fun hnd=>?_;have hjj:j1≠j3:=fun h=>by subst h; simp [keys] at hnd
 refine bD Z Z Z Z (zaD hT (b:=lookB b ⟨n,sm⟩) (s:=j1) (e:=j3) hjj (hn) (by have:=hb.ne; simp [lookB]; omega)) ?_;rintro r9 K10 h11;rcases h11 with ⟨⟨hb0,rfl⟩ | ⟨hb0,rfl⟩,rfl⟩
 ·refine au 3517066 ?_;refine bB hret [(0,_),(1,_),(s,_),(e,_)] ?_;have ha:newsM b (lookB b ⟨n,sm⟩)=askM (lookB b ⟨n,sm⟩) true:=if_neg (by simpa using hc0);exact .inl ⟨by rw [ha]; exact hb0,by rw [ha]; rfl,rfl⟩
 ·refine au 3517066 ?_;refine bB hret [(0,_),(1,_),(s,_),(e,_),(j1,_),(j3,_)] ?_;have ha:newsM b (lookB b ⟨n,sm⟩)=askM (lookB b ⟨n,sm⟩) true:=if_neg (by simpa using hc0);exact .inr ⟨by rw [ha]; exact hb0,j1,j3,rfl,rfl⟩
theorem zlz {main:Bool} {T:Goroutine->Hp->Prop} (hT:zh tp main T)  {b:Bk} {s e:Nat} {n:Int} (hse:s≠e) (hn:∀ x∈b.seekers,x.name.size<=1000) (hl:b.seen.length<=1000) :
  zg tp T gmS 48 [.agg (zx b s e),intA n] [(0,zw),(1,zA),(s,zn b),(e,zo b)] (fun r K'=>(giveM b n≠0/\r=.tup [.agg zeroBk,intA (giveM b n)]/\K'=[(0,zw),(1,zA),(s,zn b),(e,zo b)])\/(giveM b n=0/\∃ j3 j2,r=.tup [.agg (zx (giveB b n.toNat) j3 j2),intA 0]/\K'=[(0,zw),(1,zA),(s,zn b),(e,zo b),(j3,zn (giveB b n.toNat)),(j2,zo (giveB b n.toNat))])):=by
 refine ze 40 hT Tryz.func48 fun Y hret=>?_;refine au 21042 ?_;intro jb hjb;refine au 220 ?_;intro jr hjr;refine au 68042235 ?_;refine bD Z Z Z Z (kP hT (b:=b) (s:=s) (e:=e) hn hl) ?_;rintro r1 K2 ⟨rfl,rfl⟩;refine au 93714235 ?_;constructor<;>intro hc0
 ·refine au 35170143042 ?_;refine bB hret [(0,_),(1,_),(s,_),(e,_)] ?_;have ha:giveM b n=checkM b:=if_pos (by simpa using hc0);exact .inl ⟨by rw [ha]; simpa using hc0,by rw [ha]; rfl,rfl⟩
 have hb:=yo (b:=b) (by simpa using hc0);refine au 1430680421302120 ?_;refine bD Z Z Z Z (uw hT (b:=b) (s:=s) (e:=e) (by have:=hb.ns; omega)) ?_;rintro r4 K5 ⟨rfl,rfl⟩;refine au 935300 ?_;constructor<;>intro hc1
 ·refine au 3517043042 ?_;refine bB hret [(0,_),(1,_),(s,_),(e,_)] ?_;have ha:giveM b n=6:=by unfold giveM; rw [if_neg (by simpa using hc0),if_pos (by simpa using hc1)]
  exact .inl ⟨by rw [ha]; decide,by rw [ha]; rfl,rfl⟩
 have hk0:isSeekerM b n=true:=by simpa using hc1
 obtain ⟨k,rfl⟩:∃ k:Nat,n=k:=⟨n.toNat,by simp only [isSeekerM,mX,decide_eq_true_eq] at hk0; omega⟩;have hk:k<b.seekers.length:=by simp only [isSeekerM,mX,decide_eq_true_eq] at hk0; omega
 refine au 670360169067042 ?_;refine bH Z (zp Z Z zd.h mQ (zcY hk)) ?_;refine au 935 ?_;constructor<;>intro hc2
 ·refine au 3517043042 ?_;refine bB hret [(0,_),(1,_),(s,_),(e,_)] ?_;have ha:giveM b (k:Int)=5:=by unfold giveM; rw [if_neg (by simpa using hc0),hk0,if_neg dQ,mZ,hc2,if_pos rfl]
  exact .inl ⟨by rw [ha]; decide,by rw [ha]; rfl,rfl⟩
 refine au 68042140120 ?_;refine bD Z Z Z Z (zfO hT (by have:=hb.ns; omega) (by have:=hb.ne; omega)) ?_;rintro r7 K8 ⟨j1,j2,rfl,rfl⟩;refine au 220 ?_;intro jo hjo;refine au 6703701690670423170 ?_;refine TK.st Z Z Z (zt Z Z zd.h Z Z mQ (zje hk)) uQ (putN Z) ?_;refine au 680423 ?_;refine TK.freezeBk 36 Z uQ uQ Z ?_;refine bC [(j1,_),(j2,_),(0,_),(1,_),(s,_),(e,_),(jr,_)] ?_;refine TK.normK (K':=[(j1,zn (giveB b k)),(j2,zo (giveB b k)),(0,_),(1,_),(s,_),(e,_),(jr,_)]) (by rfl) ?_;rw [zkk b k];refine au 0 ?_;refine TK.nd fun hnd=>?_;have hjj:j1≠j2:=fun h=>by subst h; simp [keys] at hnd
 refine bD Z Z Z Z (zaD hT (b:=giveB b k) (s:=j1) (e:=j2) hjj (zhw hn) (hl)) ?_;rintro r10 K11 h12;rcases h12 with ⟨⟨hb0,rfl⟩ | ⟨hb0,rfl⟩,rfl⟩
 ·refine au 3517066 ?_;refine bB hret [(0,_),(1,_),(s,_),(e,_)] ?_;have ha:giveM b (k:Int)=askM (giveB b k) true:=by unfold giveM; rw [if_neg (by simpa using hc0),hk0,if_neg dQ,mZ,hc2,if_neg dQ]
  exact .inl ⟨by rw [ha]; exact hb0,by rw [ha]; rfl,rfl⟩
 ·refine au 3517066 ?_;refine bB hret [(0,_),(1,_),(s,_),(e,_),(j1,_),(j2,_)] ?_;have ha:giveM b (k:Int)=askM (giveB b k) true:=by unfold giveM; rw [if_neg (by simpa using hc0),hk0,if_neg dQ,mZ,hc2,if_neg dQ]
  exact .inr ⟨by rw [ha]; exact hb0,j1,j2,rfl,rfl⟩
def cmpI2 (x y:Int):Int:=if x<y then -1 else if x>y then 1 else 0
def cmpL:List Int->List Int->Int
 | [],[]=>0
 | [],_::_ => -1
 | _::_,[]=>1
 | x::xs,y::ys=>if cmpI2 x y≠0 then cmpI2 x y else cmpL xs ys
theorem zdR {xs ys:List Int} {i:Nat} (h1:i<xs.length) (h2:i<ys.length):cmpL (xs.drop i) (ys.drop i)=if cmpI2 xs[i] ys[i]≠0 then cmpI2 xs[i] ys[i] else cmpL (xs.drop (i+1)) (ys.drop (i+1)):=by
 rw [List.drop_eq_getElem_cons h1,List.drop_eq_getElem_cons h2]; rfl
theorem zj4 {xs ys:List Int} {i:Nat} (h1:i<xs.length) (h2:ys.length<=i):cmpL (xs.drop i) (ys.drop i)=1:=by
 rw [List.drop_eq_getElem_cons h1,List.drop_eq_nil_of_le h2]; rfl
theorem ze7 {xs ys:List Int} (h:xs.length<=ys.length):cmpL (xs.drop xs.length) (ys.drop xs.length)=if xs.length<ys.length then -1 else 0:=by
 rw [List.drop_eq_nil_of_le (Nat.le_refl _)];split
 ·rename_i h2; rw [List.drop_eq_getElem_cons h2]; rfl
 ·rw [List.drop_eq_nil_of_le oQ]; rfl
def ltLists (a b:List Int):Bool:=decide (a.length<b.length)||(a.length==b.length&&decide (cmpL a b<0))
def ltGuess (a b:List Int×Int):Bool:=decide (a.2<b.2)||(a.2==b.2&&decide (cmpL a.1 b.1<0))
def ltArc (a b:Int×Int):Bool:=decide (a.2<b.2)||(a.2==b.2&&decide (a.1<b.1))
def zR {α:Type} (lt:α->α->Bool) (o:α) (xs:List α):α:=xs.foldl (fun o x=>if lt x o=true then x else o) o
theorem zb6 {α:Type} {lt:α->α->Bool} {o:α} {xs:List α} {i:Nat} (h:i<xs.length) (hl:lt xs[i] (zR lt o (xs.take i))=true):zR lt o (xs.take (i+1))=xs[i]:=by
 unfold zR at hl ⊢;rw [List.take_add_one,lA h,List.foldl_append]; simp [hl]
theorem zb5 {α:Type} {lt:α->α->Bool} {o:α} {xs:List α} {i:Nat} (h:i<xs.length) (hl:lt xs[i] (zR lt o (xs.take i))=false):zR lt o (xs.take (i+1))=zR lt o (xs.take i):=by
 unfold zR at hl ⊢;rw [List.take_add_one,lA h,List.foldl_append]; simp [hl]
theorem ke {α:Type} {lt:α->α->Bool} {o:α}:∀ {xs:List α},zR lt o xs∈o::xs:=by
 intro xs
 induction xs generalizing o with
 | nil=>simp [zR]
 | cons x xs ih =>
  have:=ih (o:=if lt x o=true then x else o);show zR lt (if lt x o=true then x else o) xs∈_;rcases lI.1 this with h | h
  ·rw [h]; split <;> simp
  ·simp [h]
theorem firstL_mem' {α:Type} {lt:α->α->Bool} {o:α} {xs:List α} {i:Nat}:zR lt o (xs.take i)∈o::xs:=by
 rcases lI.1 (ke (lt:=lt) (o:=o) (xs:=xs.take i)) with h | h
 ·rw [h]; simp
 ·exact lL _ (List.mem_of_mem_take h)
theorem ziW {main T} (hT:zh tp main T) {gm} {n:Int} :
  zg tp T gm 216 [intA n] [] (fun r K'=>r=zm false/\K'=[]):=by
 refine ze 6 hT Tryz.func216 fun Y hret=>?_;refine au 35711423542 ?_;refine TK.rta hret ?_;exact ⟨by simp [zm],rfl⟩
theorem zmp {main T} (hT:zh tp main T) {gm} {x y:Int} :
  zg tp T gm 179 [intA x,intA y] [] (fun r K'=>r=intA (cmpI2 x y)/\K'=[]):=by
 refine ze 20 hT Tryz.func179 fun Y hret=>?_;refine au 1423542 ?_;refine bD Z Z Z Z (ziW hT) ?_;rintro r1 K2 ⟨rfl,rfl⟩;refine au 14235 ?_;refine bD Z Z Z Z (ziW hT) ?_;rintro r4 K5 ⟨rfl,rfl⟩;refine au 93711422120190314221201903142235 ?_;constructor<;>intro hc0
 ·refine au 3542 ?_;refine TK.rta hret ?_;exact ⟨by unfold cmpI2; rw [if_pos (by simpa using hc0)]; rfl,rfl⟩
 refine au 93711422120 ?_;constructor<;>intro hc1
 ·refine au 3542 ?_;refine TK.rta hret ?_;exact ⟨by unfold cmpI2; rw [if_neg (by simpa using hc0),if_pos (by simpa using hc1)]; rfl,rfl⟩
 refine au 3542120 ?_;refine TK.rta hret ?_;exact ⟨by unfold cmpI2; rw [if_neg (by simpa using hc0),if_neg (by simpa using hc1)]; rfl,rfl⟩
theorem zcx {main T} (hT:zh tp main T) {gm} {j1 j2:Nat} {ob1 ob2:AObj} {xs ys:List Int} {K:KV} (h1:(j1,ob1)∈K) (h2:(j2,ob2)∈K) (hI1:IntsAt ob1 0 xs) (hI2:IntsAt ob2 0 ys) (hl1:xs.length<=1000) (hl2:ys.length<=1000) :
  zg tp T gm 122 [.sl j1 0 xs.length,.sl j2 0 ys.length] K (fun r K'=>r=intA (cmpL xs ys)/\K'=K):=by
 refine ze 36 hT Tryz.func122 fun Y hret=>?_;refine au 1303128014223542 ?_;refine bA [0,1,9,10,11] ?_;refine bE (fun n env K'=>∃ (i:Nat),n=xs.length - i/\i<=xs.length/\i<=ys.length/\cmpL (xs.drop i) (ys.drop i)=cmpL xs ys/\env=zJ 36 [(0,.sl j1 0 xs.length),(1,.sl j2 0 ys.length),(9,.sl j1 0 xs.length),(10,intA xs.length),(11,intA i)]/\K'=K) xs.length ⟨0,rfl,mN _,mN _,rfl,rfl,rfl⟩ fun n env K' hI' hnext=>?_;obtain ⟨i,rfl,hi,hiy,hcm,rfl,rfl⟩:=hI';refine au 923742 ?_;refine ⟨fun hc=>?_,fun hc=>?_⟩
 ·simp only [decide_eq_true_eq] at hc;have hil:i<xs.length:=by omega
  refine au 3601421302120 ?_;refine bH Z (zp Z Z zd.h mQ (hI1 i hil)) ?_;refine au 93728011422355 ?_;constructor<;>intro hc1
  ·refine au 3542 ?_;refine TK.rta hret ?_;exact ⟨by rw [<- hcm,zj4 hil (by have:=of_decide_eq_true hc1; omega)]; rfl,rfl⟩
  have hyl:i<ys.length:=by have:=of_decide_eq_false hc1; omega
  refine au 3601142120 ?_;refine bH Z (zp Z Z zd.h mQ (hI2 i hyl)) ?_;refine au 114235 ?_;refine bD Z Z Z Z (zmp hT) ?_ (hs:=(.none _));rintro r1 K2 ⟨rfl,rfl⟩;refine au 0 ?_;skip;refine au 93714235 ?_;constructor<;>intro hc2
  ·have hc2:cmpI2 xs[i] ys[i]≠0:=by simpa using hc2
   refine au 35142 ?_;refine TK.rta hret ?_;exact ⟨by rw [<- hcm,zdR hil hyl,if_pos hc2],rfl⟩
  have hc2:cmpI2 xs[i] ys[i]=0:=by simpa using hc2
  refine au 312304140120 ?_;refine bA [0,1,9,10,11] ?_;exact hnext _ _ _ oQ ⟨i+1,rfl,oQ,oQ,by rw [<- hcm,zdR hil hyl,if_neg (fun h=>h hc2)],rfl,rfl⟩
 simp only [decide_eq_false_iff_not] at hc;obtain rfl:i=xs.length:=by omega
 refine au 93728012801422160 ?_;constructor<;>intro hc3
 ·refine au 3542 ?_;refine TK.rta hret ?_;exact ⟨by rw [<- hcm,ze7 hiy,if_pos (by have:=of_decide_eq_true hc3; omega)]; rfl,rfl⟩
 refine au 3542120 ?_;refine TK.rta hret ?_;exact ⟨by rw [<- hcm,ze7 hiy,if_neg (by have:=of_decide_eq_false hc3; omega)]; rfl,rfl⟩
theorem zio {main T} (hT:zh tp main T) {gm} {j1 j2:Nat} {ob1 ob2:AObj} {xs ys:List Int} {K:KV} (h1:(j1,ob1)∈K) (h2:(j2,ob2)∈K) (hI1:IntsAt ob1 0 xs) (hI2:IntsAt ob2 0 ys) (hl1:xs.length<=1000) (hl2:ys.length<=1000) :
  zg tp T gm 125 [.sl j1 0 xs.length,.sl j2 0 ys.length] K (fun r K'=>r=zm (ltLists xs ys)/\K'=K):=by
 refine ze 23 hT Tryz.func125 fun Y hret=>?_;refine au 1728012801423542 ?_;refine bF 10 (fun g1_6=>?_) (fun g1_6=>?_)
 ·refine au 3526088888888888 ?_;refine TK.rta hret ?_;exact ⟨by unfold ltLists; rw [show decide (xs.length<ys.length)=true by have:=of_decide_eq_true g1_6; exact decide_eq_true oQ]; rfl,rfl⟩
 refine au 1728012801 ?_;refine bF 16 (fun g1_12=>?_) (fun g1_12=>?_)
 ·refine au 11 ?_;refine bD Z Z Z Z (zcx hT h1 h2 hI1 hI2 hl1 hl2) ?_ (hs:=(.all _));rintro r1 K2 ⟨rfl,rfl⟩;refine au 0 ?_;rw [lR];refine au 352502607 ?_;refine TK.rta hret ?_;exact ⟨by unfold ltLists; rw [show decide (xs.length<ys.length)=false by have:=of_decide_eq_false g1_6; exact decide_eq_false oQ,show (xs.length==ys.length)=true from beq_iff_eq.2 (by have:=eq_of_beq g1_12; omega)]; rfl,rfl⟩
 refine au 352502508888 ?_;refine TK.rta hret ?_;exact ⟨by unfold ltLists; rw [show decide (xs.length<ys.length)=false by have:=of_decide_eq_false g1_6; exact decide_eq_false oQ,show (xs.length==ys.length)=false from beq_eq_false_iff_ne.2 (fun h=>by rw [h] at g1_12; simp at g1_12)]; rfl,rfl⟩
theorem zcF {main T} (hT:zh tp main T) {gm} {j1 j2:Nat} {ob1 ob2:AObj} {xs ys:List Int} {K:KV} {u v:Int} (h1:(j1,ob1)∈K) (h2:(j2,ob2)∈K) (hI1:IntsAt ob1 0 xs) (hI2:IntsAt ob2 0 ys) (hl1:xs.length<=1000) (hl2:ys.length<=1000) :
  zg tp T gm 121 [.agg [.sl j1 0 xs.length,intA u],.agg [.sl j2 0 ys.length,intA v]] K (fun r K'=>r=zm (ltGuess (xs,u) (ys,v))/\K'=K):=by
 refine ze 25 hT Tryz.func121 fun Y hret=>?_;refine au 21042 ?_;intro ja hja;refine au 210 ?_;intro jb hjb;refine au 176906706906704235 ?_;refine bF 10 (fun g1_6=>?_) (fun g1_6=>?_)
 ·refine au 352608888888888888 ?_;refine bB hret (K) ?_ (hs:=(.right (.right (.all _))));exact ⟨by unfold ltGuess; dsimp only; rw [g1_6]; rfl,rfl⟩
 refine au 17690670690670 ?_;refine bF 16 (fun g1_12=>?_) (fun g1_12=>?_)
 ·refine au 690670690670 ?_;refine bD Z Z Z Z (zcx hT h1 h2 hI1 hI2 hl1 hl2) ?_ (hs:=(.right (.right (.all _))));rintro r1 K2 ⟨rfl,hK⟩;refine au 0 ?_;rw [hK];refine bN (K':=(jb,_)::(ja,_)::K) (lH (l₁:=K)) ?_;refine au 352502607 ?_;refine bB hret (K) ?_ (hs:=(.right (.right (.all _))));exact ⟨by unfold ltGuess; dsimp only; rw [g1_6,g1_12]; rfl,rfl⟩
 refine au 35250250888888 ?_;refine bB hret (K) ?_ (hs:=(.right (.right (.all _))));exact ⟨by unfold ltGuess; dsimp only; rw [g1_6,g1_12]; rfl,rfl⟩
theorem zcJ {main T} (hT:zh tp main T) {gm} {a b:Int×Int} :
  zg tp T gm 115 [.agg [intA a.1,intA a.2],.agg [intA b.1,intA b.2]] [] (fun r K'=>r=zm (ltArc a b)/\K'=[]):=by
 refine ze 24 hT Tryz.func115 fun Y hret=>?_;refine au 21042 ?_;intro j1 hj1;refine au 210 ?_;intro j2 hj2;refine au 176906706906704235 ?_;refine bF 10 (fun g1_6=>?_) (fun g1_6=>?_)
 ·refine au 35260888888888888 ?_;refine bB hret [] ?_;exact ⟨by unfold ltArc; rw [g1_6]; rfl,rfl⟩
 refine au 17690670690670 ?_;refine bF 16 (fun g1_12=>?_) (fun g1_12=>?_)
 ·refine au 352502607690670690670 ?_;refine bB hret [] ?_;exact ⟨by unfold ltArc; rw [g1_6,g1_12]; rfl,rfl⟩
 refine au 3525025088888 ?_;refine bB hret [] ?_;exact ⟨by unfold ltArc; rw [g1_6,g1_12]; rfl,rfl⟩
theorem zfg {main T} (hT:zh tp main T) {gm} {o:Nat×List Int} {xs:List (Nat×List Int)} {lt:Nat×List Int->Nat×List Int->Bool} {fv:AV} {jo off:Nat} {obo:AObj} {K:KV} (hl:xs.length<=100000) (hm:(jo,obo)∈K) (hI:∀ i (h:i<xs.length),zZ obo (off+(i:Int).toNat*1) 1=some [.sl xs[i].1 0 xs[i].2.length]) (hf:∀ a∈o::xs,∀ c∈o::xs,CallFK tp T gm fv [.sl a.1 0 a.2.length,.sl c.1 0 c.2.length] K (fun r K'=>r=zm (lt a c)/\K'=K)) :
  zg tp T gm 124 [fv,.sl o.1 0 o.2.length,.sl jo off xs.length] K (fun r K'=>r=.sl (zR lt o xs).1 0 (zR lt o xs).2.length/\K'=K):=by
 refine ze 22 hT Tryz.func124 fun Y hret=>?_;refine au 1303128014223542 ?_;refine bA [0,1,9,10,11] ?_;refine bE (fun n env K'=>∃ (i:Nat),n=xs.length - i/\i<=xs.length/\env=zJ 22 [(0,fv),(1,.sl (zR lt o (xs.take i)).1 0 (zR lt o (xs.take i)).2.length),(9,.sl jo off xs.length),(10,intA xs.length),(11,intA i)]/\K'=K) xs.length ⟨0,rfl,mN _,rfl,rfl⟩ fun n env K' hI' hnext=>?_;obtain ⟨i,rfl,hi,rfl,rfl⟩:=hI';refine au 923742 ?_;refine ⟨fun hc=>?_,fun hc=>?_⟩
 ·simp only [decide_eq_true_eq] at hc;have hil:i<xs.length:=by omega
  refine au 360421302120 ?_;refine bH Z (zp Z Z zd.h mQ (hI i hil)) ?_;refine au 1114235 ?_;refine TK.callF' Z Z Z Z Z (hf xs[i] (lL _ (List.getElem_mem hil)) (zR lt o (xs.take i)) firstL_mem') (.all _) fun r1 K2 h3=>?_;obtain ⟨rfl,hK⟩:=h3;refine au 0 ?_;rw [hK,lR];refine au 93 ?_;constructor<;>intro hc1
  ·refine au 3123041403514 ?_;refine bA [0,1,9,10,11] ?_;exact hnext _ _ _ oQ ⟨i+1,rfl,oQ,by rw [zb6 hil hc1] <;> rfl,rfl⟩
  refine au 312304140120 ?_;refine bA [0,1,9,10,11] ?_;exact hnext _ _ _ oQ ⟨i+1,rfl,oQ,by rw [zb5 hil hc1] <;> rfl,rfl⟩
 simp only [decide_eq_false_iff_not] at hc;obtain rfl:i=xs.length:=by omega
 refine au 35142160 ?_;refine TK.rta hret ?_;exact ⟨by rw [lW] <;> rfl,rfl⟩
theorem zbz {main T} (hT:zh tp main T) {gm} {o:Int×Int} {xs:List (Int×Int)} {lt:Int×Int->Int×Int->Bool} {fv:AV} {jo off:Nat} {obo:AObj} {K:KV} (hl:xs.length<=100000) (hm:(jo,obo)∈K) (hI:∀ i (h:i<xs.length),zZ obo (off+(i:Int).toNat*2) 2=some [intA xs[i].1,intA xs[i].2]) (hf:∀ a∈o::xs,∀ c∈o::xs,CallFK tp T gm fv [.agg [intA a.1,intA a.2],.agg [intA c.1,intA c.2]] K (fun r K'=>r=zm (lt a c)/\K'=K)) :
  zg tp T gm 114 [fv,.agg [intA o.1,intA o.2],.sl jo off xs.length] K (fun r K'=>r=.agg [intA (zR lt o xs).1,intA (zR lt o xs).2]/\K'=K):=by
 refine ze 22 hT Tryz.func114 fun Y hret=>?_;refine au 21042 ?_;intro jc hjc;refine au 220 ?_;intro jr hjr;refine au 1303128014223 ?_;refine bA [0,4,6,9,10,11] ?_;refine bN (List.Perm.swap _ _ _) ?_;refine bE (fun n env K'=>∃ (i:Nat),n=xs.length - i/\i<=xs.length/\env=zJ 22 [(0,fv),(4,.ptr jc 0),(6,.ptr jr 0),(9,.sl jo off xs.length),(10,intA xs.length),(11,intA i)]/\K'=(jc,.cells [intA (zR lt o (xs.take i)).1,intA (zR lt o (xs.take i)).2] 229 true)::(jr,.cells [intA 0,intA 0] 229 true)::K) xs.length ⟨0,rfl,mN _,rfl,rfl⟩ fun n env K' hI' hnext=>?_;obtain ⟨i,rfl,hi,rfl,rfl⟩:=hI';refine au 923742 ?_;refine ⟨fun hc=>?_,fun hc=>?_⟩
 ·simp only [decide_eq_true_eq] at hc;have hil:i<xs.length:=by omega
  refine au 360421302120 ?_;refine bH Z (zK Z Z zd.h mQ (hI i hil)) ?_;refine au 220 ?_;intro j9 hj9;refine au 6806801423170 ?_;refine TK.callF' Z Z Z Z Z (hf xs[i] (lL _ (List.getElem_mem hil)) (zR lt o (xs.take i)) firstL_mem') (.right (.right (.right (.all _)))) fun r1 K2 h3=>?_;obtain ⟨rfl,hK⟩:=h3;refine au 0 ?_;rw [hK];refine bN (K':=(j9,_)::(jc,_)::(jr,_)::K) (lH (l₁:=K)) ?_;refine au 93 ?_;constructor<;>intro hc1
  ·refine au 31230414031706804 ?_;refine bA [0,4,6,9,10,11] ?_;refine TK.keep (R:=((jc,_)::(jr,_)::K)) (.rem (by repeat (first | exact Rem.head | apply Rem.tail)) (.rem (by repeat (first | exact Rem.head | apply Rem.tail)) (.right (.all _)))) ?_;exact hnext _ _ _ oQ ⟨i+1,rfl,oQ,rfl,by rw [zb6 hil hc1] <;> rfl⟩
  refine au 312304140120 ?_;refine bA [0,4,6,9,10,11] ?_;refine TK.keep (R:=((jc,_)::(jr,_)::K)) (.rem (by repeat (first | exact Rem.head | apply Rem.tail)) (.rem (by repeat (first | exact Rem.head | apply Rem.tail)) (.right (.all _)))) ?_;exact hnext _ _ _ oQ ⟨i+1,rfl,oQ,rfl,by rw [zb5 hil hc1] <;> rfl⟩
 simp only [decide_eq_false_iff_not] at hc;obtain rfl:i=xs.length:=by omega
 refine au 317068042160 ?_;refine bB hret (K) ?_;exact ⟨by rw [lW] <;> rfl,rfl⟩
theorem zaz {main T} (hT:zh tp main T) {gm} {o:Nat×List Int×Int} {xs:List (Nat×List Int×Int)} {lt:Nat×List Int×Int->Nat×List Int×Int->Bool} {fv:AV} {jo off:Nat} {obo:AObj} {K:KV} (hl:xs.length<=100000) (hm:(jo,obo)∈K) (hI:∀ i (h:i<xs.length),zZ obo (off+(i:Int).toNat*2) 2=some [.sl xs[i].1 0 xs[i].2.1.length,intA xs[i].2.2]) (hf:∀ a∈o::xs,∀ c∈o::xs,CallFK tp T gm fv [.agg [.sl a.1 0 a.2.1.length,intA a.2.2],.agg [.sl c.1 0 c.2.1.length,intA c.2.2]] K (fun r K'=>r=zm (lt a c)/\K'=K)) :
  zg tp T gm 120 [fv,.agg [.sl o.1 0 o.2.1.length,intA o.2.2],.sl jo off xs.length] K (fun r K'=>r=.agg [.sl (zR lt o xs).1 0 (zR lt o xs).2.1.length,intA (zR lt o xs).2.2]/\K'=K):=by
 refine ze 22 hT Tryz.func120 fun Y hret=>?_;refine au 21042 ?_;intro jc hjc;refine au 220 ?_;intro jr hjr;refine au 1303128014223 ?_;refine bA [0,4,6,9,10,11] ?_;refine bN (List.Perm.swap _ _ _) ?_;refine bE (fun n env K'=>∃ (i:Nat),n=xs.length - i/\i<=xs.length/\env=zJ 22 [(0,fv),(4,.ptr jc 0),(6,.ptr jr 0),(9,.sl jo off xs.length),(10,intA xs.length),(11,intA i)]/\K'=(jc,.cells [.sl (zR lt o (xs.take i)).1 0 (zR lt o (xs.take i)).2.1.length,intA (zR lt o (xs.take i)).2.2] 238 true)::(jr,.cells [.v (.slice none 0 0),intA 0] 238 true)::K) xs.length ⟨0,rfl,mN _,rfl,rfl⟩ fun n env K' hI' hnext=>?_;obtain ⟨i,rfl,hi,rfl,rfl⟩:=hI';refine au 923742 ?_;refine ⟨fun hc=>?_,fun hc=>?_⟩
 ·simp only [decide_eq_true_eq] at hc;have hil:i<xs.length:=by omega
  refine au 360421302120 ?_;refine bH Z (zK Z Z zd.h mQ (hI i hil)) ?_;refine au 220 ?_;intro j9 hj9;refine au 6806801423170 ?_;refine TK.callF' Z Z Z Z Z (hf xs[i] (lL _ (List.getElem_mem hil)) (zR lt o (xs.take i)) firstL_mem') (.right (.right (.right (.all _)))) fun r1 K2 h3=>?_;obtain ⟨rfl,hK⟩:=h3;refine au 0 ?_;rw [hK];refine bN (K':=(j9,_)::(jc,_)::(jr,_)::K) (lH (l₁:=K)) ?_;refine au 93 ?_;constructor<;>intro hc1
  ·refine au 31230414031706804 ?_;refine bA [0,4,6,9,10,11] ?_;refine TK.keep (R:=((jc,_)::(jr,_)::K)) (.rem (by repeat (first | exact Rem.head | apply Rem.tail)) (.rem (by repeat (first | exact Rem.head | apply Rem.tail)) (.right (.all _)))) ?_;exact hnext _ _ _ oQ ⟨i+1,rfl,oQ,rfl,by rw [zb6 hil hc1] <;> rfl⟩
  refine au 312304140120 ?_;refine bA [0,4,6,9,10,11] ?_;refine TK.keep (R:=((jc,_)::(jr,_)::K)) (.rem (by repeat (first | exact Rem.head | apply Rem.tail)) (.rem (by repeat (first | exact Rem.head | apply Rem.tail)) (.right (.all _)))) ?_;exact hnext _ _ _ oQ ⟨i+1,rfl,oQ,rfl,by rw [zb5 hil hc1] <;> rfl⟩
 simp only [decide_eq_false_iff_not] at hc;obtain rfl:i=xs.length:=by omega
 refine au 317068042160 ?_;refine bB hret (K) ?_;exact ⟨by rw [lW] <;> rfl,rfl⟩
section
variable {P:Program} {main:Bool} {gm:Nat->Option Nat} {T:Goroutine->Hp->Prop} {Y:KX P gm T} {ds:List Nat} {k:List Item} {env:List AV} {K:KV} {V:KV} {o:Oper}
theorem zk7 {kd:CallKind} {f:FuncId} {ro:Option Nat} {ts:Array Value} {ds:List Deferred} {cs:List Frame} {w:World} {c:Code}:stepG P main (G (fr kd f ro ts ds (.code (.scope c)::k)) cs) w=.go (G (fr kd f ro ts ds (.code c::.inScope c::k)) cs) w #[]:=by simp [G,stepG,stepG.exec,fr]
theorem zhZ {kd:CallKind} {f:FuncId} {ro:Option Nat} {ts:Array Value} {ds:List Deferred} {cs:List Frame} {w:World} {c:Code}:stepG P main (G (fr kd f ro ts ds (.inScope c::k)) cs) w=.go (G (fr kd f ro ts ds k) cs) w #[]:=by simp [G,stepG,stepG.exec,fr]
theorem TK.scope {c:Code} (h:TK Y ds (.code c::.inScope c::k) env K):TK Y ds (.code (.scope c)::k) env K:=fun A hA φ H ts h1 h2 h3 h4 h5 h6=>Y.X.hT.ctlF rfl (fun _=>zk7) rfl (h A hA φ H ts h1 h2 h3 h4 h5 h6)
theorem TK.inScope {c:Code} (h:TK Y ds k env K):TK Y ds (.inScope c::k) env K:=fun A hA φ H ts h1 h2 h3 h4 h5 h6=>Y.X.hT.ctlF rfl (fun _=>zhZ) rfl (h A hA φ H ts h1 h2 h3 h4 h5 h6)
theorem zjl {t yt:TypeId} {x y:Operand} {k':IntKind} {a b:Nat} (ho:o.op=.binOp .shr t x y yt) (hx:zr gm env x=some (.v (.int .i64 a))) (hy:zr gm env y=some (.v (.int k' b))) (h0:b<=60):Qk P gm env V o (.v (.int .i64 ((a / 2 ^ b:Nat):Int))):=by
 have:=q_shr (P:=P) (V:=V) ho hx hy oQ;rwa [mZ,show ((a:Int).fdiv (2 ^ b))=((a / 2 ^ b:Nat):Int) by rw [Int.fdiv_eq_ediv_of_nonneg _ (by exact_mod_cast mN (2 ^ b))]; norm_cast] at this
theorem zmV {t yt:TypeId} {x y:Operand} {k':IntKind} {b:Nat} (ho:o.op=.binOp .shl t x y yt) (hx:zr gm env x=some (.v (.int .i64 1))) (hy:zr gm env y=some (.v (.int k' b))) (h0:b<=20):Qk P gm env V o (.v (.int .i64 ((2 ^ b:Nat):Int))):=by
 have hp:2 ^ b<=2 ^ 20:=Nat.pow_le_pow_right oQ h0;have e:(1*2 ^ b:Int)=((2 ^ b:Nat):Int):=by rw [Int.one_mul]; norm_cast
 have:=q_shl (P:=P) (V:=V) ho hx hy oQ (by rw [mZ,e]; have hp':2 ^ b<=1048576:=hp; generalize 2 ^ b=m at hp' ⊢; omega);rwa [mZ,e] at this
theorem Kstep.trans {K1 K2:KV} {A A1 A2:List AObj} (h1:Kstep K A K1 A1) (h2:Kstep K1 A1 K2 A2):Kstep K A K2 A2:=by
 refine ⟨h2.view,h2.nd,fun i hi=>?_,fun j hj hn=>?_,mT h1.len h2.len⟩
 ·rcases h2.own i hi with h | h
  ·exact h1.own i h
  ·exact .inr (mT h1.len h)
 ·rw [h2.kept j (Nat.lt_of_lt_of_le hj h1.len) (fun hm=>?_)]
  ·exact h1.kept j hj hn
  ·rcases h1.own j hm with h | h
   ·exact hn h
   ·omega
theorem zaF {g:FuncId} {args:List AV} {n:Nat} {l:List AV} {e:TypeId} {s:Nat} {R:KV} (h:zg P T gm g args K fun r K'=>∃ j,r=.row j n/\K'=(j,.row l e s)::R):zg P T gm g args K fun r K'=>∃ j,r=.sl j 0 n/\K'=(j,.cells l e false)::R:=by
 intro A hv hn φ F H vs c cs h1 h2 h3 q;refine h A hv hn φ F H vs c cs h1 h2 h3 fun r A' φ' H' v ⟨K',hk,j,hr,he⟩ hA hlen hH' hv'=>?_;subst hr he;have hj:A'[j]? =some (.row l e s):=hk.view.get sQ;have hb:(φ' j).base=0:=(hH'.obj j _ hj).2.1;refine q (.sl j 0 n) (A'.set j (.cells l e false)) φ' H' v ⟨_,hk.trans (.set hk.view hk.nd .head),j,rfl,rfl⟩ hA (by simpa using hlen) (hH'.turn hj (fun ho hl=>?_) (fun h=>by cases h) (fun _=>rfl) (fun hs=>?_)) ?_
 ·have hc:0<(φ' j).cap:=by
   rcases mP (φ' j).cap with e | e
   ·exact absurd (ho.1 e) hl
   ·exact e
  obtain ⟨cur,q1,q2,q3,q4,q5⟩:=ho.2.2 hc;exact ⟨true,cur,(_,0,0),q1,(fun h=>by cases h),fun t u hu=>by rw [hb,mO]; exact q5 t u hu⟩
 ·show 0<(φ' j).cap;rcases mP (φ' j).cap with e | e
  ·exact absurd ((hH'.obj j _ hj).1 e) hs
  ·exact e
 ·have:=wJ (j:=j) hb hv';simpa [unrow] using this
end
theorem yp (xs:List Int) (e:TypeId) (rw':Bool):IntsAt (.cells (xs.map intA) e rw') 0 xs:=fun i h=>by
 simp only [zZ,AObj.look,mZ,mO,Nat.mul_one];rw [if_pos (by simp; omega)];simp [List.take_one,h]
theorem kf {K:KV} {x:Nat×AObj}:x∈K->∃ R,Rem K x R:=by
 induction K with
 | nil=>intro h; cases h
 | cons y K ih =>
  intro h;rcases lI.1 h with rfl | h
  ·exact ⟨_,.head⟩
  ·obtain ⟨R,hR⟩:=ih h; exact ⟨_,.tail hR⟩
theorem zkw {main T} (hT:zh tp main T) {gm} {S:List Int} (hS:S.length<=3) (hB:∀ x∈S,0<=x/\x<1000):zg tp T gm 119 [.agg (zY S)] [] (fun r K'=>∃ j,r=.sl j 0 S.length/\K'=[(j,.cells (S.map intA) 3 false)]):=zaF (zbk hT hS hB)
def bitB (bits i:Nat):Bool:=((bits / 2 ^ i % 2:Nat):Int)==1
def allR (b:Bk) (S:List Int) (bits n:Nat):Bool:=(List.range n).all fun i => !(bitB bits i)||rightM b S i
def togM (b:Bk) (bits:Nat):Bool:=(allM b).any fun S=>allR b S bits b.seekers.length
theorem zdJ (b:Bk) (S:List Int) (bits i:Nat):allR b S bits (i+1)=(allR b S bits i&&(!(bitB bits i)||rightM b S i)):=by
 unfold allR; rw [List.range_succ,List.all_append]; simp
theorem zj1 {b:Bk} {S:List Int} {bits i n:Nat} (hi:i<n) (h:(!(bitB bits i)||rightM b S i)=false):allR b S bits n=false:=by
 unfold allR;rw [List.all_eq_false];exact ⟨i,List.mem_range.2 hi,by rw [h]; decide⟩
theorem zbQ {main:Bool} {T:Goroutine->Hp->Prop} (hT:zh tp main T)  {b:Bk} {s e:Nat} {bits:Nat} (hse:s≠e) (hb:BkOk b) (hbt:bits<100000) :
  zg tp T gmS 123 [.agg (zx b s e),intA bits] [(1,zA),(s,zn b),(e,zo b)] (fun r K'=>r=zm (togM b bits)/\K'=[(1,zA),(s,zn b),(e,zo b)]):=by
 refine vo 30 hT Tryz.func123 fun Y hro hret=>?_;refine au 21042 ?_;intro jb hjb;refine au 210 ?_;intro jt hjt;refine au 220 ?_;intro jr hjr;refine au 3 ?_;refine TK.scope ?_;refine au 13033206804221502 ?_;refine TK.rangeAll hT hb (s:=s) (e:=e) (J:=fun pre K1=>K1=[(jr,.cells [zm false] 4 true),(jb,.cells (zx b s e) 205 true),(jt,.cells [intA bits] 3 true),(1,zA),(s,zn b)]/\∀ S∈pre,allR b S bits b.seekers.length=false) (D:=fun c K1=>c=.ret/\K1=[(jr,.cells [zm true] 4 true),(jb,.cells (zx b s e) 205 true),(jt,.cells [intA bits] 3 true),(1,zA),(s,zn b)]/\togM b bits=true) rfl hro rfl (by repeat (first | exact Split.none _ | exact Split.all _ | (apply Split.rem; repeat (first | exact Rem.head | apply Rem.tail)) | apply Split.right)) ⟨rfl,by simp⟩ (fun Y' l lo lb pre S K1 hbegin hfin hout hpre hJ=>?_) (fun d K2 hJ=>?_) (fun d c K2 hD=>?_)
 ·obtain ⟨rfl,hni⟩:=hJ;have hSm:=uL hb hpre;have hn5:=hb.ns;refine au 2204 ?_;intro j9 hj9;refine au 3170 ?_;refine hbegin _ _ _ _ _ uQ ?_;refine au 13031280690670670422130 ?_;refine bA [2,3,4,5,13,14] ?_;refine bC [(j9,_),(l,_),(e,_),(jr,_),(jb,_),(jt,_),(1,_),(s,_)] ?_;refine bE (fun n env K=>∃ (i:Nat),n=b.seekers.length - i/\i<=b.seekers.length/\allR b S bits i=true/\env=zJ 30 [(2,.ptr jb 0),(3,.ptr jt 0),(4,.ptr jr 0),(5,.ptr j9 0),(13,intA b.seekers.length),(14,intA i)]/\K=[(j9,.cells (zY S) 209 true),(l,lb),(e,zo b),(jr,.cells [zm false] 4 true),(jb,.cells (zx b s e) 205 true),(jt,.cells [intA bits] 3 true),(1,zA),(s,zn b)]) b.seekers.length ⟨0,rfl,mN _,rfl,rfl,rfl⟩ fun n env K hI' hnext=>?_;obtain ⟨i,rfl,hi,hall,rfl,rfl⟩:=hI';refine au 923742 ?_;refine ⟨fun hc=>?_,fun hc=>?_⟩
  ·simp only [decide_eq_true_eq] at hc;have hil:i<b.seekers.length:=by omega
   refine au 169042351421302120 ?_;refine bH Z (zjl Z Z Z oQ) ?_;refine bH Z (zjg Z Z Z (by have:=Nat.div_le_self bits (2 ^ i); omega)) ?_;refine au 17 ?_;refine bF 22 (fun g6_6=>?_) (fun g6_6=>?_)
   ·refine au 1680680 ?_;refine bD Z Z Z Z (zak hT (s:=s) (e:=e) hb hSm hil) ?_;rintro r1 K2 ⟨rfl,rfl⟩;refine au 93260300 ?_;constructor<;>intro hc1
    ·refine au 160 ?_;exact hfin _ _ [(jr,_),(jb,_),(jt,_),(1,_),(s,_)] _ (by repeat (first | exact Split.none _ | exact Split.all _ | (apply Split.rem; repeat (first | exact Rem.head | apply Rem.tail)) | apply Split.right)) ⟨rfl,fun R hR=>by
      rcases lT.1 hR with hR | hR
      ·exact hni R hR
      ·rw [lS.1 hR]; exact zj1 hil (by rw [show bitB bits i=true from g6_6,show rightM b S i=false by simpa using hc1]; rfl)⟩
    refine au 312304140120 ?_;refine bA [2,3,4,5,13,14] ?_;refine bC [(j9,_),(l,_),(e,_),(jr,_),(jb,_),(jt,_),(1,_),(s,_)] ?_;exact hnext _ _ _ oQ ⟨i+1,rfl,oQ,by rw [zdJ,hall,show rightM b S i=true by simpa using hc1]; simp,rfl,rfl⟩
   refine au 312304140120190325088888 ?_;refine bA [2,3,4,5,13,14] ?_;refine bC [(j9,_),(l,_),(e,_),(jr,_),(jb,_),(jt,_),(1,_),(s,_)] ?_;exact hnext _ _ _ oQ ⟨i+1,rfl,oQ,by rw [zdJ,hall,show bitB bits i=false from g6_6]; rfl,rfl,rfl⟩
  simp only [decide_eq_false_iff_not] at hc;obtain rfl:i=b.seekers.length:=by omega
  refine au 317042160 ?_;exact hout _ _ _ _ [(jr,_),(jb,_),(jt,_),(1,_),(s,_)] _ (.ret _) (by repeat (first | exact Split.none _ | exact Split.all _ | (apply Split.rem; repeat (first | exact Rem.head | apply Rem.tail)) | apply Split.right)) ⟨rfl,rfl,List.any_eq_true.2 ⟨S,hpre.subset sQ,hall⟩⟩
 ·obtain ⟨rfl,hni⟩:=hJ;simp only [cA];refine au 317042140 ?_;refine TK.leave (.ret _) fun A hA=>hret _ _ _ _ ([(1,_),(s,_),(e,_),(jr,_)]) ([(1,_),(s,_),(e,_)]) _ _ _ (.inr rfl) (by repeat (first | exact Split.none _ | exact Split.all _ | (apply Split.rem; repeat (first | exact Rem.head | apply Rem.tail)) | apply Split.right)) sQ sQ (by repeat (first | exact Split.none _ | exact Split.all _ | (apply Split.rem; repeat (first | exact Rem.head | apply Rem.tail)) | apply Split.right)) (kl (yD Z zd.h mQ rfl)) ?_ A hA;exact ⟨by rw [show togM b bits=false from List.any_eq_false.2 fun S hS=>by rw [hni S hS]; decide]; rfl,rfl⟩
 ·obtain ⟨rfl,rfl,htg⟩:=hD;simp only [cA];refine au 0 ?_;refine TK.leave (.ret _) fun A hA=>hret _ _ _ _ ([(1,_),(s,_),(e,_),(jr,_)]) ([(1,_),(s,_),(e,_)]) _ _ _ (.inr rfl) (by repeat (first | exact Split.none _ | exact Split.all _ | (apply Split.rem; repeat (first | exact Rem.head | apply Rem.tail)) | apply Split.right)) sQ sQ (by repeat (first | exact Split.none _ | exact Split.all _ | (apply Split.rem; repeat (first | exact Rem.head | apply Rem.tail)) | apply Split.right)) (kl (yD Z zd.h mQ rfl)) ?_ A hA;exact ⟨by rw [htg] <;> rfl,rfl⟩
def locV:Value->Loc3
 | .slice (some a) _ _=>⟨a.block,a.off,0⟩
 | _=>⟨0,0,0⟩
def holdAll (W:World):Hp:=fun b=>(W.heap[b]?).map fun o=>(false,o)
theorem zfo (W:World):z6 (holdAll W) W:=fun b rw' o h=>by
 unfold holdAll at h;obtain ⟨x,h1,h2⟩:=Option.map_eq_some_iff.1 h;cases h2;exact h1
theorem ve {W:World} {b:Nat} {o:Obj} (h:W.heap[b]? =some o):holdAll W b=some (false,o):=by unfold holdAll; rw [h]; rfl
theorem zb7 {α:Type} {f:α->List AV} {c:Nat} (hc:∀ x,(f x).length=c):∀ (zs:List α) (j:Nat) a,(zs.flatMap f)[j]? =some a->∃ i z jj,zs[i]? =some z/\jj<c/\j=i*c+jj/\(f z)[jj]? =some a
 | [],j,a,h=>by simp at h
 | z::zs,j,a,h=>by
  rw [List.flatMap_cons] at h;rcases Nat.lt_or_ge j c with hj | hj
  ·rw [List.getElem?_append_left (by rw [hc]; exact hj)] at h;exact ⟨0,z,j,rfl,hj,oQ,h⟩
  ·rw [List.getElem?_append_right (by rw [hc]; exact hj),hc] at h;obtain ⟨i,y,jj,h1,h2,h3,h4⟩:=zb7 hc zs _ a h;exact ⟨i+1,y,jj,h1,h2,by rw [Nat.succ_mul]; omega,h4⟩
theorem zds {W:World} {α:Type} {vals:α->List Value} {f:α->List AV} {c:Nat} {zs:List α} {v:Value} {φ:Nat->Loc3} {n:Nat} {e:TypeId} (h:SlIn W vals c zs v) (hc:∀ x,(f x).length=c)
  (hrel:∀ z (jj:Nat) a,(f z)[jj]? =some a->∃ y,(vals z)[jj]? =some y/\RelV φ n a y):RelO φ n (locV v) (holdAll W) (.cells (zs.flatMap f) e false):=by
 intro hne;obtain ⟨b,cap,rfl,hle,hq⟩:=h;have hpos:0<zs.length:=by
  rcases mP zs.length with h0 | h0
  ·rw [lK h0] at hne; exact absurd rfl hne
  ·exact h0
 obtain ⟨blk,off,cur,e',fz,rfl,hh,hcell⟩:=hq hpos;refine ⟨false,cur,(e',fz),ve hh,(fun h=>by cases h),fun j a ha=>?_⟩;obtain ⟨i,z,jj,h1,h2,rfl,h4⟩:=zb7 hc zs j a ha;obtain ⟨y,h5,h6⟩:=hrel z jj a h4;exact ⟨y,(hcell i z jj h1 h2).trans h5,h6⟩
theorem zbn {W:World} {α:Type} {vals:α->List Value} {c:Nat} {zs:List α} {v:Value} {φ:Nat->Loc3} {n i:Nat} (h:SlIn W vals c zs v) (hi:i<n) (hφ:φ i=locV v):RelV φ n (.sl i 0 zs.length) v:=by
 obtain ⟨b,cap,rfl,hle,hq⟩:=h;refine .sl hi hle fun hpos=>?_;obtain ⟨blk,off,cur,e',fz,rfl,_⟩:=hq hpos;rw [hφ];rfl
theorem zk1 {φ:Nat->Loc3} {n:Nat} (z:Says) (jj:Nat) (a:AV) (h:(saysC z)[jj]? =some a):∃ y,(saysV z)[jj]? =some y/\RelV φ n a y:=by
 match jj,h with
 | 0,h=>cases h; exact ⟨_,rfl,.v _⟩
 | 1,h=>cases h; exact ⟨_,rfl,.v _⟩
 | 2,h=>cases h; exact ⟨_,rfl,.v _⟩
 | 3,h=>cases h; exact ⟨_,rfl,.v _⟩
 | 4,h=>cases h; exact ⟨_,rfl,.v _⟩
 | jj+5,h=>simp [saysC] at h
theorem zk4 {φ:Nat->Loc3} {n:Nat} (z:Seen) (jj:Nat) (a:AV) (h:(seenC z)[jj]? =some a):∃ y,(seenV z)[jj]? =some y/\RelV φ n a y:=by
 match jj,h with
 | 0,h=>cases h; exact ⟨_,rfl,.v _⟩
 | 1,h=>cases h; exact ⟨_,rfl,.v _⟩
 | jj+2,h=>simp [seenC] at h
end Go.Vel
namespace Go.Vel
open Go Go.Proofs
section
variable {P:Program}
theorem zdo (s:String):zC P (Extern.RuntimeError.text s):=trivial
instance (s:String):SOk P (Extern.RuntimeError.text s):=⟨zdo s⟩
instance {α:Type} (a:α):SOk P (pure a:Sem α):=⟨trivial⟩
theorem zhS (a:Array Value):zC P (Extern.RuntimeError.nothing a):=trivial
theorem zi5 (a:Array Value):zC P (Extern.RuntimeError.boundsError a):=by
 have hs:∀ x,zC P (stuck x:Sem Value):=fun x=>SOk.ok;rcases a with ⟨_ | ⟨v,_ | ⟨w,l⟩⟩⟩
 ·exact hs _
 ·cases v <;> try exact hs _
  rename_i xs;rcases xs with ⟨_ | ⟨v1,_ | ⟨v2,_ | ⟨v3,_ | ⟨v4,_ | ⟨v5,l⟩⟩⟩⟩⟩⟩ <;> try exact hs _
  ·cases v1 <;> try exact hs _
   cases v2 <;> try exact hs _
   cases v3 <;> try exact hs _
   cases v4 <;> try exact hs _
   show zC P (match (_:Option String) with | some fmt=>Extern.RuntimeError.text _ | none=>stuck _);split
   ·exact zdo _
   ·exact hs _
 ·cases v <;> exact hs _
theorem zaY {α:Type} (s:Sem α) (h:zC P s:=by repeat' (first | assumption | exact SOk.ok | exact zat _ | (refine zf ?_ (fun _=>?_)) | split | (intro _) | with_reducible exact trivial)):zC P s:=h
theorem zfE (v:Value):zC P (Extern.RuntimeError.described v):=by
 unfold Extern.RuntimeError.described
 repeat' (first | assumption | exact SOk.ok | exact zat _ | (refine zf ?_ (fun _=>?_)) | split | (intro _) | with_reducible exact trivial)
instance (v:Value):SOk P (Extern.RuntimeError.described v):=⟨zfE v⟩
theorem zhT (v:TypeInfo):zC P (Extern.RuntimeError.pkgpathOf v):=by
 unfold Extern.RuntimeError.pkgpathOf;exact zaY _
instance (v:TypeInfo):SOk P (Extern.RuntimeError.pkgpathOf v):=⟨zhT v⟩
theorem zi7 (a:Array Value):zC P (Extern.RuntimeError.unhashableTypeError a):=by
 have hs:∀ x,zC P (stuck x:Sem Value):=fun x=>SOk.ok;rcases a with ⟨_ | ⟨v,_ | ⟨w,l⟩⟩⟩
 ·exact hs _
 ·cases v <;> try exact hs _
  rename_i xs;rcases xs with ⟨_ | ⟨t,_ | ⟨v2,l⟩⟩⟩
  ·exact hs _
  ·show zC P (Extern.RuntimeError.described t >>= _);exact zaY _
  ·exact hs _
 ·cases v <;> exact hs _
theorem zi3 (a:Array Value):zC P (Extern.RuntimeError.typeAssertionError a):=by
 unfold Extern.RuntimeError.typeAssertionError;exact zaY _
theorem yO {l:List (String×(Array Value->Sem Value))} (h:∀ x∈l,∀ a,zC P (x.2 a)) {k:String} {e:Array Value->Sem Value} (he:l.lookup k=some e) (a:Array Value):zC P (e a):=by
 induction l with
 | nil=>cases he
 | cons x l ih =>
  obtain ⟨n,f⟩:=x;rw [List.lookup_cons] at he;split at he
  ·cases he; exact h _ List.mem_cons_self a
  ·exact ih (fun x hx=>h x (lL _ hx)) he
theorem yN:∀ x∈Extern.RuntimeError.rows,∀ a,zC P (x.2 a):=by
 intro x hx a;unfold Extern.RuntimeError.rows at hx;simp only [lI,List.not_mem_nil,or_false] at hx;rcases hx with rfl | rfl | rfl | rfl | rfl | rfl | rfl | rfl | rfl | rfl | rfl | rfl | rfl | rfl | rfl;all_goals
  dsimp only;first
  | exact zhS a
  | exact zi5 a
  | exact zi3 a
  | exact zi7 a
  | exact zdo _
  | exact zaY _
theorem zlE {e:Array Value->Sem Value} (he:(Extern.ReflectliteType.rows.getLast?).map (·.2)=some e) (a:Array Value):zC P (e a):=by
 unfold Extern.ReflectliteType.rows at he;simp only [List.getLast?_cons_cons,List.getLast?_singleton,Option.map_some,Option.some.injEq] at he;subst he;exact zaY _
end
theorem nx0:Extern.findNext Tryz.f0=none:=Option.isNone_iff_eq_none.1 (by kernel_rfl)
theorem fd0:Extern.find Tryz.f0=none:=Option.isNone_iff_eq_none.1 (by kernel_rfl)
theorem nx1:Extern.findNext Tryz.f1=none:=Option.isNone_iff_eq_none.1 (by kernel_rfl)
theorem fd1:Extern.find Tryz.f1=none:=Option.isNone_iff_eq_none.1 (by kernel_rfl)
theorem nx244:Extern.findNext Tryz.f244=none:=Option.isNone_iff_eq_none.1 (by kernel_rfl)
theorem fd244:Extern.find Tryz.f244=Extern.RuntimeError.rows.lookup Tryz.f244.name:=by kernel_rfl
theorem nx245:Extern.findNext Tryz.f245=none:=Option.isNone_iff_eq_none.1 (by kernel_rfl)
theorem fd245:Extern.find Tryz.f245=Extern.RuntimeError.rows.lookup Tryz.f245.name:=by kernel_rfl
theorem nx246:Extern.findNext Tryz.f246=none:=Option.isNone_iff_eq_none.1 (by kernel_rfl)
theorem fd246:Extern.find Tryz.f246=Extern.RuntimeError.rows.lookup Tryz.f246.name:=by kernel_rfl
theorem nx247:Extern.findNext Tryz.f247=none:=Option.isNone_iff_eq_none.1 (by kernel_rfl)
theorem fd247:Extern.find Tryz.f247=Extern.RuntimeError.rows.lookup Tryz.f247.name:=by kernel_rfl
theorem nx248:Extern.findNext Tryz.f248=none:=Option.isNone_iff_eq_none.1 (by kernel_rfl)
theorem fd248:Extern.find Tryz.f248=Extern.RuntimeError.rows.lookup Tryz.f248.name:=by kernel_rfl
theorem nx249:Extern.findNext Tryz.f249=none:=Option.isNone_iff_eq_none.1 (by kernel_rfl)
theorem fd249:Extern.find Tryz.f249=Extern.RuntimeError.rows.lookup Tryz.f249.name:=by kernel_rfl
theorem nx250:Extern.findNext Tryz.f250=none:=Option.isNone_iff_eq_none.1 (by kernel_rfl)
theorem fd250:Extern.find Tryz.f250=Extern.RuntimeError.rows.lookup Tryz.f250.name:=by kernel_rfl
theorem nx251:Extern.findNext Tryz.f251=none:=Option.isNone_iff_eq_none.1 (by kernel_rfl)
theorem fd251:Extern.find Tryz.f251=Extern.RuntimeError.rows.lookup Tryz.f251.name:=by kernel_rfl
theorem nx252:Extern.findNext Tryz.f252=none:=Option.isNone_iff_eq_none.1 (by kernel_rfl)
theorem fd252:Extern.find Tryz.f252=Extern.RuntimeError.rows.lookup Tryz.f252.name:=by kernel_rfl
theorem nx253:Extern.findNext Tryz.f253=none:=Option.isNone_iff_eq_none.1 (by kernel_rfl)
theorem fd253:Extern.find Tryz.f253=Extern.RuntimeError.rows.lookup Tryz.f253.name:=by kernel_rfl
theorem nx254:Extern.findNext Tryz.f254=none:=Option.isNone_iff_eq_none.1 (by kernel_rfl)
theorem fd254:Extern.find Tryz.f254=Extern.RuntimeError.rows.lookup Tryz.f254.name:=by kernel_rfl
theorem nx255:Extern.findNext Tryz.f255=none:=Option.isNone_iff_eq_none.1 (by kernel_rfl)
theorem fd255:Extern.find Tryz.f255=Extern.RuntimeError.rows.lookup Tryz.f255.name:=by kernel_rfl
theorem nx256:Extern.findNext Tryz.f256=none:=Option.isNone_iff_eq_none.1 (by kernel_rfl)
theorem fd256:Extern.find Tryz.f256=none:=Option.isNone_iff_eq_none.1 (by kernel_rfl)
theorem nx257:Extern.findNext Tryz.f257=none:=Option.isNone_iff_eq_none.1 (by kernel_rfl)
theorem fd257:Extern.find Tryz.f257=Extern.RuntimeError.rows.lookup Tryz.f257.name:=by kernel_rfl
theorem nx258:Extern.findNext Tryz.f258=none:=Option.isNone_iff_eq_none.1 (by kernel_rfl)
theorem fd258:Extern.find Tryz.f258=Extern.RuntimeError.rows.lookup Tryz.f258.name:=by kernel_rfl
theorem nx259:Extern.findNext Tryz.f259=none:=Option.isNone_iff_eq_none.1 (by kernel_rfl)
theorem fd259:Extern.find Tryz.f259=none:=Option.isNone_iff_eq_none.1 (by kernel_rfl)
theorem nx260:Extern.findNext Tryz.f260=none:=Option.isNone_iff_eq_none.1 (by kernel_rfl)
theorem fd260:Extern.find Tryz.f260=none:=Option.isNone_iff_eq_none.1 (by kernel_rfl)
theorem nx261:Extern.findNext Tryz.f261=none:=Option.isNone_iff_eq_none.1 (by kernel_rfl)
theorem fd261:Extern.find Tryz.f261=none:=Option.isNone_iff_eq_none.1 (by kernel_rfl)
theorem nx263:Extern.findNext Tryz.f263=none:=Option.isNone_iff_eq_none.1 (by kernel_rfl)
theorem fd263:Extern.find Tryz.f263=(Extern.ReflectliteType.rows.getLast?).map (·.2):=by kernel_rfl
theorem nx319:Extern.findNext Tryz.f319=none:=Option.isNone_iff_eq_none.1 (by kernel_rfl)
theorem fd319:Extern.find Tryz.f319=none:=Option.isNone_iff_eq_none.1 (by kernel_rfl)
theorem nx320:Extern.findNext Tryz.f320=none:=Option.isNone_iff_eq_none.1 (by kernel_rfl)
theorem fd320:Extern.find Tryz.f320=none:=Option.isNone_iff_eq_none.1 (by kernel_rfl)
theorem nx321:Extern.findNext Tryz.f321=none:=Option.isNone_iff_eq_none.1 (by kernel_rfl)
theorem fd321:Extern.find Tryz.f321=none:=Option.isNone_iff_eq_none.1 (by kernel_rfl)
theorem nx322:Extern.findNext Tryz.f322=none:=Option.isNone_iff_eq_none.1 (by kernel_rfl)
theorem fd322:Extern.find Tryz.f322=none:=Option.isNone_iff_eq_none.1 (by kernel_rfl)
theorem nx323:Extern.findNext Tryz.f323=none:=Option.isNone_iff_eq_none.1 (by kernel_rfl)
theorem fd323:Extern.find Tryz.f323=none:=Option.isNone_iff_eq_none.1 (by kernel_rfl)
theorem nx324:Extern.findNext Tryz.f324=none:=Option.isNone_iff_eq_none.1 (by kernel_rfl)
theorem fd324:Extern.find Tryz.f324=none:=Option.isNone_iff_eq_none.1 (by kernel_rfl)
theorem nx325:Extern.findNext Tryz.f325=none:=Option.isNone_iff_eq_none.1 (by kernel_rfl)
theorem fd325:Extern.find Tryz.f325=none:=Option.isNone_iff_eq_none.1 (by kernel_rfl)
theorem nx326:Extern.findNext Tryz.f326=none:=Option.isNone_iff_eq_none.1 (by kernel_rfl)
theorem fd326:Extern.find Tryz.f326=none:=Option.isNone_iff_eq_none.1 (by kernel_rfl)
theorem nx327:Extern.findNext Tryz.f327=none:=Option.isNone_iff_eq_none.1 (by kernel_rfl)
theorem fd327:Extern.find Tryz.f327=none:=Option.isNone_iff_eq_none.1 (by kernel_rfl)
theorem nx328:Extern.findNext Tryz.f328=none:=Option.isNone_iff_eq_none.1 (by kernel_rfl)
theorem fd328:Extern.find Tryz.f328=none:=Option.isNone_iff_eq_none.1 (by kernel_rfl)
theorem tameN:(tp.funcs.all fun fn => !(fn.name == "runtime.NumGoroutine"))=true:=by kernel_rfl
theorem tameB:((List.range tp.funcs.size).all fun i=>[0,1,244,245,246,247,248,249,250,251,252,253,254,255,256,257,258,259,260,261,263,319,320,321,322,323,324,325,326,327,328].elem i||((tp.funcs[i]?).map (·.body.isSome)).getD false)=true:=by kernel_rfl
theorem tame:Tame tp:=fun f fn hf=>by
 refine ⟨by simpa using Array.all_eq_true_iff_forall_mem.1 tameN fn (Array.mem_of_getElem? hf),fun hb=>?_⟩;have hlt:=(mG.1 hf).1;have h:=List.all_eq_true.1 tameB f (List.mem_range.2 hlt);rw [hf,Option.map_some,Option.getD_some] at h;rw [Option.isNone_iff_eq_none] at hb;rw [hb] at h;simp only [Option.isSome_none,Bool.or_false,List.elem_eq_mem,decide_eq_true_eq,lI,List.not_mem_nil,or_false] at h;rcases h with rfl | rfl | rfl | rfl | rfl | rfl | rfl | rfl | rfl | rfl | rfl | rfl | rfl | rfl | rfl | rfl | rfl | rfl | rfl | rfl | rfl | rfl | rfl | rfl | rfl | rfl | rfl | rfl | rfl | rfl | rfl
 ·obtain rfl:fn=Tryz.f0:=(Option.some.inj (Tryz.func0.symm.trans hf)).symm;exact ⟨nx0,fun e he=>by rw [fd0] at he; cases he⟩
 ·obtain rfl:fn=Tryz.f1:=(Option.some.inj (Tryz.func1.symm.trans hf)).symm;exact ⟨nx1,fun e he=>by rw [fd1] at he; cases he⟩
 ·obtain rfl:fn=Tryz.f244:=(Option.some.inj (Tryz.func244.symm.trans hf)).symm;exact ⟨nx244,fun e he args=>by rw [fd244] at he; exact yO yN he args⟩
 ·obtain rfl:fn=Tryz.f245:=(Option.some.inj (Tryz.func245.symm.trans hf)).symm;exact ⟨nx245,fun e he args=>by rw [fd245] at he; exact yO yN he args⟩
 ·obtain rfl:fn=Tryz.f246:=(Option.some.inj (Tryz.func246.symm.trans hf)).symm;exact ⟨nx246,fun e he args=>by rw [fd246] at he; exact yO yN he args⟩
 ·obtain rfl:fn=Tryz.f247:=(Option.some.inj (Tryz.func247.symm.trans hf)).symm;exact ⟨nx247,fun e he args=>by rw [fd247] at he; exact yO yN he args⟩
 ·obtain rfl:fn=Tryz.f248:=(Option.some.inj (Tryz.func248.symm.trans hf)).symm;exact ⟨nx248,fun e he args=>by rw [fd248] at he; exact yO yN he args⟩
 ·obtain rfl:fn=Tryz.f249:=(Option.some.inj (Tryz.func249.symm.trans hf)).symm;exact ⟨nx249,fun e he args=>by rw [fd249] at he; exact yO yN he args⟩
 ·obtain rfl:fn=Tryz.f250:=(Option.some.inj (Tryz.func250.symm.trans hf)).symm;exact ⟨nx250,fun e he args=>by rw [fd250] at he; exact yO yN he args⟩
 ·obtain rfl:fn=Tryz.f251:=(Option.some.inj (Tryz.func251.symm.trans hf)).symm;exact ⟨nx251,fun e he args=>by rw [fd251] at he; exact yO yN he args⟩
 ·obtain rfl:fn=Tryz.f252:=(Option.some.inj (Tryz.func252.symm.trans hf)).symm;exact ⟨nx252,fun e he args=>by rw [fd252] at he; exact yO yN he args⟩
 ·obtain rfl:fn=Tryz.f253:=(Option.some.inj (Tryz.func253.symm.trans hf)).symm;exact ⟨nx253,fun e he args=>by rw [fd253] at he; exact yO yN he args⟩
 ·obtain rfl:fn=Tryz.f254:=(Option.some.inj (Tryz.func254.symm.trans hf)).symm;exact ⟨nx254,fun e he args=>by rw [fd254] at he; exact yO yN he args⟩
 ·obtain rfl:fn=Tryz.f255:=(Option.some.inj (Tryz.func255.symm.trans hf)).symm;exact ⟨nx255,fun e he args=>by rw [fd255] at he; exact yO yN he args⟩
 ·obtain rfl:fn=Tryz.f256:=(Option.some.inj (Tryz.func256.symm.trans hf)).symm;exact ⟨nx256,fun e he=>by rw [fd256] at he; cases he⟩
 ·obtain rfl:fn=Tryz.f257:=(Option.some.inj (Tryz.func257.symm.trans hf)).symm;exact ⟨nx257,fun e he args=>by rw [fd257] at he; exact yO yN he args⟩
 ·obtain rfl:fn=Tryz.f258:=(Option.some.inj (Tryz.func258.symm.trans hf)).symm;exact ⟨nx258,fun e he args=>by rw [fd258] at he; exact yO yN he args⟩
 ·obtain rfl:fn=Tryz.f259:=(Option.some.inj (Tryz.func259.symm.trans hf)).symm;exact ⟨nx259,fun e he=>by rw [fd259] at he; cases he⟩
 ·obtain rfl:fn=Tryz.f260:=(Option.some.inj (Tryz.func260.symm.trans hf)).symm;exact ⟨nx260,fun e he=>by rw [fd260] at he; cases he⟩
 ·obtain rfl:fn=Tryz.f261:=(Option.some.inj (Tryz.func261.symm.trans hf)).symm;exact ⟨nx261,fun e he=>by rw [fd261] at he; cases he⟩
 ·obtain rfl:fn=Tryz.f263:=(Option.some.inj (Tryz.func263.symm.trans hf)).symm;exact ⟨nx263,fun e he args=>by rw [fd263] at he; exact zlE he args⟩
 ·obtain rfl:fn=Tryz.f319:=(Option.some.inj (Tryz.func319.symm.trans hf)).symm;exact ⟨nx319,fun e he=>by rw [fd319] at he; cases he⟩
 ·obtain rfl:fn=Tryz.f320:=(Option.some.inj (Tryz.func320.symm.trans hf)).symm;exact ⟨nx320,fun e he=>by rw [fd320] at he; cases he⟩
 ·obtain rfl:fn=Tryz.f321:=(Option.some.inj (Tryz.func321.symm.trans hf)).symm;exact ⟨nx321,fun e he=>by rw [fd321] at he; cases he⟩
 ·obtain rfl:fn=Tryz.f322:=(Option.some.inj (Tryz.func322.symm.trans hf)).symm;exact ⟨nx322,fun e he=>by rw [fd322] at he; cases he⟩
 ·obtain rfl:fn=Tryz.f323:=(Option.some.inj (Tryz.func323.symm.trans hf)).symm;exact ⟨nx323,fun e he=>by rw [fd323] at he; cases he⟩
 ·obtain rfl:fn=Tryz.f324:=(Option.some.inj (Tryz.func324.symm.trans hf)).symm;exact ⟨nx324,fun e he=>by rw [fd324] at he; cases he⟩
 ·obtain rfl:fn=Tryz.f325:=(Option.some.inj (Tryz.func325.symm.trans hf)).symm;exact ⟨nx325,fun e he=>by rw [fd325] at he; cases he⟩
 ·obtain rfl:fn=Tryz.f326:=(Option.some.inj (Tryz.func326.symm.trans hf)).symm;exact ⟨nx326,fun e he=>by rw [fd326] at he; cases he⟩
 ·obtain rfl:fn=Tryz.f327:=(Option.some.inj (Tryz.func327.symm.trans hf)).symm;exact ⟨nx327,fun e he=>by rw [fd327] at he; cases he⟩
 ·obtain rfl:fn=Tryz.f328:=(Option.some.inj (Tryz.func328.symm.trans hf)).symm;exact ⟨nx328,fun e he=>by rw [fd328] at he; cases he⟩
end Go.Vel
namespace Go.Vel
open Go Go.Conc Go.Proofs Go.ChangeShapes Go.WideShapes Go.ChangeAt Go.RowKit
theorem zfi {φ:Nat->Loc3} {n f:Nat}:RelV φ n (.fn f [] []) (.func (.func f) #[] #[]):=.fn rfl (fun j a y h=>by simp at h) rfl (fun j a y h=>by simp at h)
theorem zdD {W:World} {φ:Nat->Loc3} {n g f1 f2 f3:Nat} {e:TypeId} (h:∃ cur e fz,W.heap[g]? =some (.cells cur e fz)/\cur[0]? =some (.func (.func f1) #[] #[])/\cur[1]? =some (.func (.func f2) #[] #[])/\cur[2]? =some (.func (.func f3) #[] #[])):RelO φ n ⟨g,0,0⟩ (holdAll W) (.cells [.fn f1 [] [],.fn f2 [] [],.fn f3 [] []] e false):=by
 intro _;obtain ⟨cur,e',fz,hh,h0,h1,h2⟩:=h;refine ⟨false,cur,(e',fz),ve hh,(fun h=>by cases h),fun j a ha=>?_⟩
 match j,ha with
 | 0,ha=>cases ha; exact ⟨_,h0,zfi⟩
 | 1,ha=>cases ha; exact ⟨_,h1,zfi⟩
 | 2,ha=>cases ha; exact ⟨_,h2,zfi⟩
 | j+3,ha=>simp at ha
def KeptAll (W w:World):Prop:=∀ i,i<W.heap.size->w.heap[i]? =W.heap[i]?
theorem own:ownKnob tp.godebug=none:=by kernel_rfl
theorem zku {W w:World} (ho:w.os=W.os) (hu:w.output=W.output) (hk:KeptAll W w) (may:MemPlace->Prop):W.keptBut w may:=by
 refine ⟨ho,hu,fun i hi=>?_⟩;rw [hk i hi];cases W.heap[i]? with
 | none=>rfl
 | some o=>cases o <;> simp
theorem zl4 {W w:World} (hk:KeptAll W w) {p:MemPlace} (hp:p.block<W.heap.size):W.sameAt w p:=by
 have:=hk p.block hp;cases p with
 | cell b o=>exact World.cell?_of_block (w:=W) this
 | map b=>exact this
theorem okAgg {P:Program} {W:World} {base:Nat} {t:TypeId} {fs:Array Field} {v:Value} (ht:P.underlying t=some (.struct fs)) (h:Value.okWide P W .any base t v):∃ cs,v=.agg cs:=by
 unfold Value.okWide at h;rw [ht] at h;obtain ⟨cs,h1,_⟩:=h;exact ⟨cs,h1⟩
theorem kS:laidOutB tp=true:=by kernel_rfl
theorem kK {H:Type} {enc:TypeId×Value->H} {W w:World} {t:TypeId} {v:Value} {d:DataW H} {p:List MemPlace} (hl:laidOutB Tryz.prog=true) (h:DataW.Trod enc Tryz.prog W 0 (fun _=>true) true t v d p) (hk:KeptAll W w) (hr:Tryz.prog.readableRec t=true:=by kernel_rfl) (hrow:decide (t<Tryz.prog.types.size)=true:=by kernel_rfl):DataW.Trod enc Tryz.prog w 0 (fun b=>decide (b<W.heap.size)) true t v d p:=by
 have hlt:∀ x∈p,x.block<W.heap.size:=by obtain ⟨n,hn⟩:=h; exact DataW.trod_lt n t _ _ hn
 exact WideElems.Trod_stays hl hr (of_decide_eq_true hrow) h (fun x hx=>zl4 hk (hlt x hx)) (fun x hx=>by simpa using hlt x hx)
theorem u8_wf {k:Int} (h:(Lit.int IntKind.u8 k).wf=true):0<=k/\k<256:=by
 simp only [Lit.wf,mX,decide_eq_true_eq] at h;have h1:IntKind.u8.min=0:=by decide
 have h2:IntKind.u8.max=255:=by decide
 omega
theorem zlh (Lk:Looks) {p:Pinned} {s:OpenSpec} {c:OpenClaim} (kinds:List LaidKind) (tests:Bool) (har:Bool×String) (lk:Bool)
  (hc:c.holds p s) (hw:c.wfByText s=true)
  (htie:c.laidByTextAt Lk p kinds tests)
  (hst:c.start=.entering) (hnb:c.noBlocks=false/\c.again=false) (hm:p.checked.prog.mainIs=some (har.1,har.2.toList)) (hn:(!har.1&&har.2.isEmpty && !lk)=false)
  (hl:∀ f fn,p.checked.prog.funcNamed c.func=some f->p.checked.prog.funcs[f]? =some fn->lk=p.checked.prog.looks []/\∀ (j:Nat) t,fn.params[j]? =some t->p.checked.prog.wantsStandIn t=false)
  (hg:true=c.goesBy p.checked.prog) :
  Claim7.holds p (.plain s) { stood:={ row:=c,standIns:=[],harness:=har,looks:=lk },kinds:=[],alts:=[],goes:=true,laidByText:=true,laidKinds:=kinds,laidTests:=tests,laidLooks:=Lk }:=by
 have h6:∀ r:OpenClaim,Claim7.isSixth { stood:={ row:=r,standIns:=[],harness:=har,looks:=lk },kinds:=[] }=false:=fun r=>by simpa [Claim7.isSixth] using hn
 exact ⟨Claim7.tied_new_at Lk kinds tests (Claim7.new_of_sixth hc har lk hst hnb hm (h6 c) hl) hw,(fun D hD=>by cases hD),htie,(fun h=>by cases h),hg⟩
end Go.Vel
namespace Go.Vel
structure MkR where
 what:ByteArray
 col:Int
 row:Int
 deriving Inhabited
structure SkT where
 name:ByteArray
 flo:Int
 fhi:Int
 wide:Int
 slo:Int
 shi:Int
 marks:List MkR
 deriving Inhabited
structure StpB where
 steps:Int
 wrong:Int
 sks:List SkT
structure VwT where
 fr:List Int
 st:List Int
 wr:Nat
def bitT (w i:Nat):Bool:=w / 2 ^ i % 2==1
def placeT (steps:Int) (v:VwT) (i:Nat) (m:MkR):Int×Int:=((v.fr.getD i 0+m.col) % steps,m.row+v.st.getD i 0)
def marksT (steps:Int) (v:VwT) (i:Nat) (l:List MkR):List (ByteArray×(Int×Int)):=l.map fun m=>(m.what,placeT steps v i m)
def seenT (steps:Int) (v:VwT) (i:Nat) (x:SkT):List (ByteArray×(Int×Int)):=if bitT v.wr i=true then [] else marksT steps v i x.marks
def seenL (steps:Int) (v:VwT):Nat->List SkT->List (ByteArray×(Int×Int))
 | _,[]=>[]
 | i,x::l=>seenT steps v i x++seenL steps v (i+1) l
def consT (p q:ByteArray×(Int×Int)):Bool := !decide (p.1=q.1)||decide (p.2=q.2)
def okL:List (ByteArray×(Int×Int))->Bool
 | []=>true
 | p::l=>l.all (consT p)&&okL l
theorem okL_S (l:List (ByteArray×(Int×Int))) (p:ByteArray×(Int×Int)):okL (l++[p])=(okL l&&l.all fun q=>consT q p):=by
 induction l with
 | nil=>rfl
 | cons q l ih =>
  show ((l++[p]).all (consT q)&&okL (l++[p]))=((l.all (consT q)&&okL l)&&(consT q p&&l.all fun q=>consT q p));rw [ih,List.all_append];simp only [List.all_cons,List.all_nil,Bool.and_true];cases l.all (consT q) <;> cases consT q p <;> cases okL l <;> cases (l.all fun q=>consT q p) <;> rfl
theorem zlR {l r:List (ByteArray×(Int×Int))} (h:okL l=false):okL (l++r)=false:=by
 induction l with
 | nil=>cases h
 | cons q l ih =>
  show ((l++r).all (consT q)&&okL (l++r))=false;have h:(l.all (consT q)&&okL l)=false:=h;rw [List.all_append];cases h1:l.all (consT q) with
  | false=>rfl
  | true =>
   rw [h1] at h;rw [ih (by simpa using h),Bool.and_false]
theorem za1 (steps:Int) (v:VwT):∀ (i:Nat) (a b:List SkT),seenL steps v i (a++b)=seenL steps v i a++seenL steps v (i+a.length) b
 | i,[],b=>by simp [seenL]
 | i,x::a,b=>by
  show seenT steps v i x++seenL steps v (i+1) (a++b)=(seenT steps v i x++seenL steps v (i+1) a)++_;rw [za1 steps v (i+1) a b,List.append_assoc,lZ];congr 2;rw [show i+1+a.length=i+(a.length+1) by omega]
def agreeT (steps:Int) (l:List SkT) (v:VwT):Bool:=okL (seenL steps v 0 l)
def numsT (lo hi:Int):List Int:=(List.range (hi+1 - lo).toNat).map fun (k:Nat)=>lo+k
theorem zgU {lo hi:Int} (h:lo<=hi):numsT lo hi=lo::numsT (lo+1) hi:=by
 unfold numsT;rw [show (hi+1 - lo).toNat=(hi+1 - (lo+1)).toNat+1 by omega,List.range_succ_eq_map,List.map_cons,List.map_map];congr 1
 ·simp
 ·refine List.map_congr_left fun k _=>?_;simp only [Function.comp];omega
theorem zed {lo hi:Int} (h:¬ lo<=hi):numsT lo hi=[]:=by
 unfold numsT;rw [show (hi+1 - lo).toNat=0 by omega]; rfl
theorem zee {lo hi n:Int}:n∈numsT lo hi↔lo<=n/\n<=hi:=by
 unfold numsT;rw [lY];constructor
 ·rintro ⟨k,hk,rfl⟩;have:=List.mem_range.1 hk;omega
 ·rintro ⟨h1,h2⟩;exact ⟨(n - lo).toNat,List.mem_range.2 oQ,oQ⟩
def viewT (ag:VwT->Bool) (w:Nat):List SkT->Nat->List Int->List Int->List VwT
 | [],_,f,s=>if ag ⟨f,s,w⟩=true then [⟨f,s,w⟩] else []
 | x::l,n,f,s=>(numsT x.flo x.fhi).flatMap fun a=>(numsT x.slo x.shi).flatMap fun c=>viewT ag w l (n+1) (f.set n a) (s.set n c)
def zero4:List Int:=[0,0,0,0]
def viewsT (b:StpB) (w:Nat):List VwT:=viewT (agreeT b.steps b.sks) w b.sks 0 zero4 zero4
def onesT:Nat->Nat->Nat
 | 0,_=>0
 | k+1,w=>(if bitT w k=true then 1 else 0)+onesT k w
def allI (b:StpB) (n:Nat):List VwT:=(List.range n).flatMap fun w=>if (onesT 4 w:Int)<=b.wrong then viewsT b w else []
def allT (b:StpB):List VwT:=allI b (2 ^ b.sks.length)
theorem zig (b:StpB) (n:Nat):allI b (n+1)=allI b n++if (onesT 4 n:Int)<=b.wrong then viewsT b n else []:=by
 unfold allI;rw [List.range_succ,List.flatMap_append,List.flatMap_cons,List.flatMap_nil,lR]
def z7 (x:SkT) (lo hi:Int):SkT:={ x with flo:=if x.flo<lo then lo else x.flo,fhi:=if hi<x.fhi then hi else x.fhi }
def narrowT (b:StpB) (i:Nat) (lo hi:Int):StpB:={ b with sks:=b.sks.modify i fun x=>z7 x lo hi }
def SubL:List SkT->List SkT->Prop
 | [],[]=>True
 | x::l,y::m=>(y.flo<=x.flo/\x.fhi<=y.fhi/\x.slo=y.slo/\x.shi=y.shi/\x.marks=y.marks)/\SubL l m
 | _,_=>False
theorem zeB:∀ l:List SkT,SubL l l
 | []=>trivial
 | x::l=>⟨⟨Int.le_refl _,Int.le_refl _,rfl,rfl,rfl⟩,zeB l⟩
theorem zbO (lo hi:Int):∀ (l:List SkT) (i:Nat),SubL (l.modify i fun x=>z7 x lo hi) l
 | [],i=>by cases i <;> exact trivial
 | x::l,0=>by
  refine ⟨⟨?_,?_,rfl,rfl,rfl⟩,zeB l⟩
  ·show x.flo<=if x.flo<lo then lo else x.flo
   split <;> omega
  ·show (if hi<x.fhi then hi else x.fhi)<=x.fhi;split <;> omega
 | x::l,i+1=>⟨⟨Int.le_refl _,Int.le_refl _,rfl,rfl,rfl⟩,zbO lo hi l i⟩
theorem zeD {ag:VwT->Bool} {w:Nat} {v:VwT}:∀ (l m:List SkT) (n:Nat) (f s:List Int),SubL l m->v∈viewT ag w l n f s->v∈viewT ag w m n f s
 | [],[],_,_,_,_,h=>h
 | x::l,y::m,n,f,s,h,hv=>by
  obtain ⟨⟨h1,h2,h3,h4,_⟩,hl⟩:=h;unfold viewT at hv ⊢;obtain ⟨a,ha,hv⟩:=List.mem_flatMap.1 hv;obtain ⟨c,hc,hv⟩:=List.mem_flatMap.1 hv;have ha:=zee.1 ha;refine List.mem_flatMap.2 ⟨a,zee.2 oQ,List.mem_flatMap.2 ⟨c,by rw [<- h3,<- h4]; exact hc,zeD l m (n+1) _ _ hl hv⟩⟩
 | [],_::_,_,_,_,h,_=>h.elim
 | _::_,[],_,_,_,h,_=>h.elim
theorem zeC {steps:Int} {v:VwT}:∀ (i:Nat) (l m:List SkT),SubL l m->seenL steps v i l=seenL steps v i m
 | _,[],[],_=>rfl
 | i,x::l,y::m,h=>by
  show seenT steps v i x++seenL steps v (i+1) l=seenT steps v i y++seenL steps v (i+1) m;rw [zeC (i+1) l m h.2];unfold seenT;rw [h.1.2.2.2.2]
 | _,[],_::_,h=>h.elim
 | _,_::_,[],h=>h.elim
theorem zf0:∀ (l m:List SkT),SubL l m->l.length=m.length
 | [],[],_=>rfl
 | x::l,y::m,h=>congrArg (· + 1) (zf0 l m h.2)
 | [],_::_,h=>h.elim
 | _::_,[],h=>h.elim
theorem zct {b:StpB} {i:Nat} {lo hi:Int} {v:VwT} (h:v∈allT (narrowT b i lo hi)):v∈allT b:=by
 have hs:=zbO lo hi b.sks i;have hl:=zf0 _ _ hs;have hag:agreeT (narrowT b i lo hi).steps (narrowT b i lo hi).sks=agreeT b.steps b.sks:=by
  funext v;unfold agreeT;rw [show seenL (narrowT b i lo hi).steps v 0 (narrowT b i lo hi).sks=seenL b.steps v 0 b.sks from zeC 0 _ _ hs]
 unfold allT allI at h ⊢;rw [show (narrowT b i lo hi).sks.length=b.sks.length from hl] at h;obtain ⟨w,hw,h⟩:=List.mem_flatMap.1 h;refine List.mem_flatMap.2 ⟨w,hw,?_⟩;split at h
 ·rename_i h1;have h1:(onesT 4 w:Int)<=b.wrong:=h1;rw [if_pos h1];unfold viewsT at h ⊢;rw [hag] at h;exact zeD _ _ _ _ _ hs h
 ·cases h
structure SunR where
 step:Int
 high:Int
 deriving Inhabited
structure EyeR where
 at0:Int
 high:Int
 deriving Inhabited
structure WatR where
 hour:Int
 step:Int
 lit:Bool
 deriving Inhabited
structure SlB where
 steps:Int
 dirty:Int
 slope:Int
 lo:Int
 hi:Int
 clean:List Int
 rf:Int
 rh:Int
 cf:Int
 ch:Int
 suns:List SunR
 eyes:List EyeR
 watches:List WatR
structure SlBase (b:SlB):Prop where
 st:4<=b.steps/\b.steps<=12
 di:0<=b.dirty/\b.dirty<=2
 sp:1<=b.slope/\b.slope<=4
 sh : -3<=b.lo/\b.lo<=b.hi/\b.hi<=3
 wd:b.hi - b.lo<3
 cl:∀ i (h:i<b.clean.length),0<=b.clean[i]/\b.clean[i]<b.steps/\∀ h0:0<i,b.clean[i - 1]'oQ<b.clean[i]
 rg:2<=b.rf/\b.rf<=30/\2<=b.rh/\b.rh<=60/\0<=b.cf/\b.cf<=b.rf/\1<=b.ch/\b.ch<=60/\b.ch<b.rh
 nsu:1<=b.suns.length/\b.suns.length<=4
 sun:∀ x∈b.suns,0<=x.step/\x.step<b.steps /\ -9<=x.high/\x.high<=9
 ney:b.eyes.length<=3
 eye:∀ x∈b.eyes,1 - b.rf<=x.at0/\x.at0<=b.rf - 1/\0<=x.high/\x.high<=60/\x.high<b.ch
def watOk (b:SlB) (x:WatR):Bool:=(decide (0<=x.hour)&&decide (x.hour<=(b.suns.length:Int) - 1))&&(decide (0<=x.step)&&decide (x.step<=b.steps - 1))
structure SlWat (b:SlB):Prop where
 len:b.watches.length<=4
 all:∀ x∈b.watches,watOk b x=true
structure SkyR where
 shift:Int
 dirty:List Bool
def sunI (b:SlB) (h:Int):SunR:=b.suns.getD h.toNat default
def darkS (b:SlB) (s:SkyR) (h:Int):Bool:=decide ((sunI b h).high+s.shift<=0)||s.dirty.getD (sunI b h).step.toNat false
def onL (b:SlB) (h:Int) (n:Int):Int:=(n - ((sunI b h).step+b.steps / 2) % b.steps+b.steps) % b.steps
def litN (b:SlB) (s:SkyR) (h:Int) (n:Int):Bool:=decide (min (onL b h n) (b.steps - onL b h n)<=((sunI b h).high+s.shift) / b.slope)
def fallsI (b:SlB) (s:SkyR) (h:Int) (i:Int):List Bool:=(List.range 12).map fun (n:Nat)=>decide ((n:Int)<i)&&litN b s h n
def fallsM (b:SlB) (s:SkyR) (h:Int):List Bool:=if darkS b s h=true then mB 12 false else fallsI b s h b.steps
def rightS (b:SlB) (s:SkyR) (w:WatR):Bool:=(fallsM b s w.hour).getD w.step.toNat false==w.lit
def allRight (b:SlB) (s:SkyR):Bool:=b.watches.all (rightS b s)
def shiftsI (b:SlB) (d:List Bool) (n:Int):List SkyR:=(List.range (b.hi+1 - n).toNat).map fun (k:Nat)=>⟨n+k,d⟩
def skyM (b:SlB):Nat->Int->List Bool->List SkyR
 | 0,_,d=>shiftsI b d b.lo
 | left+1,step,d=>(List.range (b.steps - step).toNat).flatMap fun (k:Nat)=>if b.clean.contains (step+k) then [] else skyM b left (step+k+1) (d.set (step+k).toNat true)
def skyR (b:SlB) (left:Nat) (step:Int) (d:List Bool):List SkyR:=skyM b (left+1) step d
def zero12:List Bool:=mB 12 false
def skiesI (b:SlB) (n:Nat):List SkyR:=(List.range n).flatMap fun many=>skyM b many 0 zero12
def skiesM (b:SlB):List SkyR:=skiesI b (b.dirty+1).toNat
def statesS (b:SlB):List SkyR:=(skiesM b).filter (allRight b)
theorem kR {α β:Type} {f:α->List β} {n:Nat}:∀ {l:List α},(∀ x∈l,(f x).length<=n)->(l.flatMap f).length<=l.length*n
 | [],_=>by simp
 | x::l,h=>by
  rw [List.flatMap_cons,lF,lZ,Nat.succ_mul];have h1:=h x sQ;have h2:=kR (l:=l) fun y hy=>h y (by simp [hy]);omega
def listM (l:List Bool):List Int:=((List.range 12).filter fun n=>l.getD n false).map fun (n:Nat)=>(n:Int)
def listI (l:List Bool) (i:Nat):List Int:=((List.range i).filter fun n=>l.getD n false).map fun (n:Nat)=>(n:Int)
def keysH (b:SlB) (s:SkyR) (h:Nat):List (Int×Int):=(listM (fallsM b s h)).map fun n=>((h:Int),n)
def keysI (b:SlB) (s:SkyR) (h:Nat):List (Int×Int):=(List.range h).flatMap (keysH b s)
def keysS (b:SlB) (l:List SkyR):List (Int×Int):=l.flatMap fun s=>keysI b s b.suns.length
def litK (b:SlB) (s:SkyR) (h n:Nat):Bool:=(fallsM b s h).getD n false
def oftenS (b:SlB) (h:Nat) (n:Nat):Nat:=(keysS b (statesS b)).count ((h:Int),(n:Int))
def sureI (b:SlB) (h:Nat) (i:Nat):List Int:=((List.range i).filter fun n=>oftenS b h n==(statesS b).length).map fun (n:Nat)=>(n:Int)
def sureM (b:SlB) (h:Nat):List Int:=sureI b h b.steps.toNat
def watchS (b:SlB) (w:WatR):SlB:={ b with watches:=b.watches++[w] }
end Go.Vel
namespace Go.Vel
open Go Go.Conc
structure StR where
 holds:Int
 way:Int
 gate:Bool
structure GrR where
 name:ByteArray
 many:Int
structure StB where
 platform:Int
 keeper:Bool
 stairs:List StR
 groups:List GrR
structure StA where
 stage:Int
 stair:Int
 deriving DecidableEq
instance:Inhabited StR:=⟨⟨0,0,false⟩⟩
instance:Inhabited GrR:=⟨⟨ByteArray.empty,0⟩⟩
def a0:StA:=⟨0,0⟩
def atI (s:List StA) (i:Nat):StA:=s.getD i a0
def str (b:StB) (k:Nat):StR:=b.stairs.getD k default
def grp (b:StB) (i:Nat):GrR:=b.groups.getD i default
def sumZ (f:Nat->Int):Nat->Int
 | 0=>0
 | k+1=>sumZ f k+f k
def manyI (b:StB) (s:List StA) (p:StA->Bool) (i:Nat):Int:=if p (atI s i)=true then (grp b i).many else 0
def sumS (b:StB) (s:List StA) (p:StA->Bool):Int:=sumZ (manyI b s p) b.groups.length
def onS (b:StB) (s:List StA) (stage:Int) (k:Int):Int:=sumS b s fun a=>decide (a=⟨stage,k⟩)
def atS (b:StB) (s:List StA) (stage:Int):Int:=sumS b s fun a=>decide (a.stage=stage)
def stUp (b:StB) (s:List StA) (i k:Nat):Bool :=
 !((str b k).gate&&decide (atS b s 2+atS b s 1+(grp b i).many>b.platform))&&(decide ((str b k).way≠2)&&(decide (onS b s 3 k=0)&&decide (onS b s 1 k+(grp b i).many<=(str b k).holds)))
def arriveS (b:StB) (s:List StA) (i k:Nat):Bool:=decide ((atI s i).stair=k)&&(!b.keeper||decide (atS b s 2+(grp b i).many<=b.platform))
def downS (b:StB) (s:List StA) (i k:Nat):Bool:=decide ((str b k).way≠1)&&(decide (onS b s 1 k=0)&&decide (onS b s 3 k+(grp b i).many<=(str b k).holds))
def leaveS (s:List StA) (i k:Nat):Bool:=decide ((atI s i).stair=k)
def mayS (b:StB) (s:List StA) (i k:Nat):Bool :=
 if (atI s i).stage=0 then stUp b s i k else if (atI s i).stage=1 then arriveS b s i k else if (atI s i).stage=2 then downS b s i k else if (atI s i).stage=3 then leaveS s i k else false
def nextA (a:StA) (k:Nat):StA:=⟨a.stage+1,if a.stage+1=1\/a.stage+1=3 then k else 0⟩
def behindS (s:List StA) (i k:Nat):List StA:=s.set i (nextA (atI s i) k)
def movesI (b:StB) (s:List StA) (i:Nat):List (Nat×Nat):=((List.range b.stairs.length).filter fun k=>mayS b s i k).map fun k=>(i,k)
def movesS (b:StB) (s:List StA):List (Nat×Nat):=(List.range b.groups.length).flatMap (movesI b s)
def stMost (b:StB):Nat->List StA->Int
 | 0,s=>atS b s 2
 | n+1,s=>(movesS b s).foldl (fun m x=>max m (stMost b n (behindS s x.1 x.2))) (atS b s 2)
def restS (s:List StA):Nat:=((4 - (atI s 0).stage)+(4 - (atI s 1).stage)+(4 - (atI s 2).stage)+(4 - (atI s 3).stage)).toNat
structure SpOk (s:List StA):Prop where
 len:s.length=4
 bnd:∀ i,0<=(atI s i).stage/\(atI s i).stage<=4
def spot0:List StA:=[a0,a0,a0,a0]
theorem zdd {s:List StA} {i:Nat} {a:StA} (h:i<s.length) (j:Nat):atI (s.set i a) j=if j=i then a else atI s j:=by
 unfold atI;rw [lE,List.getElem?_set];by_cases e:j=i
 ·subst e; rw [if_pos rfl,if_pos h,if_pos rfl]; rfl
 ·rw [if_neg (fun e2=>e e2.symm),if_neg e,lE]
theorem zd9 {b:StB} {s:List StA} {x:Nat×Nat}:x∈movesS b s↔x.1<b.groups.length/\x.2<b.stairs.length/\mayS b s x.1 x.2=true:=by
 unfold movesS movesI;simp only [List.mem_flatMap,lY,List.mem_filter,List.mem_range];constructor
 ·rintro ⟨i,hi,k,⟨hk,hm⟩,rfl⟩;exact ⟨hi,hk,hm⟩
 ·rintro ⟨h1,h2,h3⟩;exact ⟨x.1,h1,x.2,⟨h2,h3⟩,rfl⟩
theorem zb8 {f:Nat×Nat->Int}:∀ (l:List (Nat×Nat)) (z:Int),z<=l.foldl (fun m x=>max m (f x)) z/\(∀ x∈l,f x<=l.foldl (fun m x=>max m (f x)) z)/\∀ M,z<=M->(∀ x∈l,f x<=M)->l.foldl (fun m x=>max m (f x)) z<=M
 | [],z=>⟨Int.le_refl _,(fun x h=>by cases h),fun M h _=>h⟩
 | y::l,z=>by
  obtain ⟨h1,h2,h3⟩:=zb8 (f:=f) l (max z (f y));rw [List.foldl_cons];refine ⟨by omega,fun x hx=>?_,fun M hz hM=>?_⟩
  ·rcases lI.1 hx with rfl | hx
   ·omega
   ·exact h2 x hx
  ·have:=hM y sQ;exact h3 M oQ fun x hx=>hM x (by simp [hx])
def skip (i j:Nat):Nat:=if j<i then j else j+1
theorem zas {f g:Nat->Int}:∀ n,(∀ i,i<n->f i=g i)->sumZ f n=sumZ g n
 | 0,_=>rfl
 | n+1,h=>by
  unfold sumZ;rw [zas n fun i hi=>h i oQ,h n oQ]
theorem zf1 {f:Nat->Int} {i:Nat} (h0:f i=0):∀ m,i<=m->sumZ f (m+1)=sumZ (fun j=>f (skip i j)) m
 | 0,h=>by
  obtain rfl:i=0:=by omega
  show 0+f 0=0;rw [h0]; rfl
 | m+1,h=>by
  show sumZ f (m+1)+f (m+1)=sumZ (fun j=>f (skip i j)) m+f (skip i m);by_cases e:i=m+1
  ·subst e;rw [h0,Int.add_zero];have e1:skip (m+1) m=m:=if_pos oQ;rw [e1];show sumZ f m+f m=_;congr 1;exact zas m fun j hj=>by show f j=f (skip (m+1) j); rw [show skip (m+1) j=j from if_pos oQ]
  ·rw [zf1 h0 m oQ];have e1:skip i m=m+1:=if_neg oQ;rw [e1]
structure Gone (b o:StB) (i:Nat):Prop where
 lt:i<b.groups.length
 platform:o.platform=b.platform
 keeper:o.keeper=b.keeper
 stairs:o.stairs=b.stairs
 len:o.groups.length+1=b.groups.length
 grp:∀ j,grp o j=grp b (skip i j)
structure LiftS (i:Nat) (s z:List StA):Prop where
 zero:atI z i=a0
 other:∀ j,j<3->atI s j=atI z (skip i j)
section
variable {b o:StB} {i:Nat} {s z:List StA}
theorem Gone.sum (h:Gone b o i) (h4:b.groups.length<=4) (hl:LiftS i s z) {p:StA->Bool} (hp:p a0=false):sumS o s p=sumS b z p:=by
 have hlt:=h.lt;have hle:=h.len;unfold sumS;rw [<- hle,zf1 (f:=manyI b z p) (i:=i) (by unfold manyI; rw [hl.zero,hp]; rfl) _ oQ];refine zas _ fun j hj=>?_;unfold manyI;rw [hl.other j oQ,h.grp]
theorem Gone.atE (h:Gone b o i) (h4:b.groups.length<=4) (hl:LiftS i s z) {t:Int} (ht:t≠0):atS o s t=atS b z t:=h.sum h4 hl (decide_eq_false fun e=>ht e.symm)
theorem Gone.onE (h:Gone b o i) (h4:b.groups.length<=4) (hl:LiftS i s z) {t k:Int} (ht:t≠0):onS o s t k=onS b z t k:=h.sum h4 hl (decide_eq_false fun e=>ht (StA.mk.inj e).1.symm)
theorem Gone.may (h:Gone b o i) (h4:b.groups.length<=4) (hl:LiftS i s z) {j k:Nat} (hj:j<o.groups.length):mayS o s j k=mayS b z (skip i j) k:=by
 have hle:=h.len;have e:atI s j=atI z (skip i j):=hl.other j oQ;have e2:∀ k,str o k=str b k:=fun k=>by unfold str; rw [h.stairs]
 unfold mayS stUp arriveS downS leaveS;rw [h.atE h4 hl dQ,h.atE h4 hl dQ,h.onE h4 hl dQ,h.onE h4 hl dQ,e,e2,h.grp,h.platform,h.keeper]
theorem ziQ (hz:z.length=4) (hs:s.length=4) (hl:LiftS i s z) {j k:Nat} (hj:j<3) (hi:i<4):LiftS i (behindS s j k) (behindS z (skip i j) k):=by
 have hk:skip i j<4:=by unfold skip; split <;> omega
 refine ⟨?_,fun t ht=>?_⟩
 ·unfold behindS;rw [zdd oQ,if_neg (by unfold skip; split <;> omega),hl.zero]
 ·unfold behindS;rw [zdd oQ,zdd oQ,hl.other j hj];have:t=j↔skip i t=skip i j:=by unfold skip; split <;> split <;> omega
  by_cases e:t=j
  ·rw [if_pos e,if_pos (this.1 e)]
  ·rw [if_neg e,if_neg (fun h=>e (this.2 h)),hl.other t ht]
theorem Gone.most (h:Gone b o i) (h4:b.groups.length<=4):∀ (n:Nat) (s z:List StA),s.length=4->z.length=4->LiftS i s z->stMost o n s<=stMost b n z
 | 0,s,z,_,_,hl=>by
  show atS o s 2<=atS b z 2;rw [h.atE h4 hl dQ]; exact Int.le_refl _
 | n+1,s,z,hs,hz,hl=>by
  have hlt:=h.lt;have hle:=h.len;obtain ⟨q1,q2,_⟩:=zb8 (f:=fun x=>stMost b n (behindS z x.1 x.2)) (movesS b z) (atS b z 2);refine (zb8 (f:=fun x=>stMost o n (behindS s x.1 x.2)) (movesS o s) (atS o s 2)).2.2 _ (by rw [h.atE h4 hl dQ]; exact q1) fun x hx=>?_;obtain ⟨h1,h2,h3⟩:=zd9.1 hx;have hk:skip i x.1<b.groups.length:=by unfold skip; split <;> omega
  have hm:=q2 (skip i x.1,x.2) (zd9.2 ⟨hk,by rw [<- h.stairs]; exact h2,by rw [<- h.may h4 hl h1]; exact h3⟩);exact Int.le_trans (h.most h4 n _ _ (by unfold behindS; rw [List.length_set]; exact hs) (by unfold behindS; rw [List.length_set]; exact hz) (ziQ hz hs hl oQ oQ)) hm
end
def mostA (b:StB) (s:List StA):Int:=stMost b (restS s) s
end Go.Vel
namespace Go.Vel
open Go Go.Conc Go.Proofs
def atC (a:StA):List AV:=[intA a.stage,intA a.stair]
def spC (s:List StA):List AV:=[intA (atI s 0).stage,intA (atI s 0).stair,intA (atI s 1).stage,intA (atI s 1).stair,intA (atI s 2).stage,intA (atI s 2).stair,intA (atI s 3).stage,intA (atI s 3).stair]
def fcC (f:Int×Int):List AV:=[intA f.1,intA f.2]
def mv (a:Int):Value:=.int .i64 a
def spV (s:List StA):Value:=.agg #[mv (atI s 0).stage,mv (atI s 0).stair,mv (atI s 1).stage,mv (atI s 1).stair,mv (atI s 2).stage,mv (atI s 2).stair,mv (atI s 3).stage,mv (atI s 3).stair]
def fcV (f:Int×Int):Value:=.agg #[mv f.1,mv f.2]
def eqA (a b:StA):Bool:=(a.stage==b.stage)&&(a.stair==b.stair)
def eqSp (s t:List StA):Bool:=eqA (atI s 0) (atI t 0)&&(eqA (atI s 1) (atI t 1)&&(eqA (atI s 2) (atI t 2)&&eqA (atI s 3) (atI t 3)))
def EnOk (G:List StA->Int×Int->Prop) (en:MapEntry):Prop:=∃ s f,s.length=4/\en.key=spV s/\en.val=fcV f/\G s f
def MapF (ob:Obj) (G:List StA->Int×Int->Prop):Prop:=∃ es clock,ob=.map es clock/\∀ en∈es.toList,EnOk G en
def Found (G:List StA->Int×Int->Prop) (s:List StA) (es:List MapEntry) (i:Nat):Option (Nat×Value)->Prop
 | none=>True
 | some (k,v)=>i<=k/\(∃ en,es[k - i]? =some en/\en.key=spV s)/\∃ f,v=fcV f/\G s f
theorem zmZ {φ:Nat->Loc3} {n:Nat} (f:Int×Int):RelV φ n (.agg (fcC f)) (fcV f):=.agg rfl fun j a y ha hy=>by
 match j,ha,hy with
 | 0,ha,hy=>cases ha; cases hy; exact .v _
 | 1,ha,hy=>cases ha; cases hy; exact .v _
 | j+2,ha,hy=>cases ha
structure KeyS (P:Program):Prop where
 um:P.underlying 134=some (.map 133 127)
 ck:∀ e s,zO P (Instr.checkKey e 10000 133 (spV s))=some ()
 fd:∀ (G:List StA->Int×Int->Prop) (s:List StA) (es:List MapEntry),s.length=4->(∀ en∈es,EnOk G en)->∃ r,zO P (Instr.findKey 133 (spV s) es)=some r/\Found G s es 0 r
 zi:∃ ti,P.info? 127=some ti/\ti.zero=some (fcV (0,0))
section
variable {P:Program} {gm:Nat->Option Nat} {V:KV} {env:List AV} {o:Oper}
end
theorem not_f {a:Bool} (h:(!a)=true):a=false:=by cases a <;> simp_all
theorem not_t {a:Bool} (h:(!a)=false):a=true:=by cases a <;> simp_all
theorem zhb (c:UInt8):IntKind.i64.wrap (c.toNat:Int)=(c.toNat:Int):=km (by have:=c.toNat_lt; omega)
theorem ky {ob:AObj} {p n c:Nat} {l:List AV} {v:AV} (h:zZ ob p n=some l) (hc:c<n) (hl:l[c]? =some v):zZ ob (p+c) 1=some [v]:=by
 unfold zZ at h ⊢;cases hk:ob.look with
 | none=>rw [hk] at h; cases h
 | some q =>
  rw [hk] at h;dsimp only at h ⊢;split at h
  ·rename_i hb;cases h;rw [if_pos ⟨by omega,oQ⟩];rw [List.getElem?_take,if_pos hc,List.getElem?_drop] at hl;obtain ⟨h1,h2⟩:=lD.1 hl;rw [List.take_one,List.head?_drop,hl];rfl
  ·cases h
def insideM (a z lo hi:Int):Bool:=(decide (lo<=a)&&decide (a<=z))&&decide (z<=hi)
theorem vH (b:Bk):numbersM b=bif !(decide (4<=b.steps)&&decide (b.steps<=16))||(!(decide (0<=b.wrong)&&decide (b.wrong<=3)) || !insideM b.low b.high 0 3) then 1 else 0:=by
 unfold numbersM insideM;congr 3;have e1:decide (b.low<0) = !decide (0<=b.low):=by by_cases h:0<=b.low <;> simp [h] <;> omega
 have e2:decide (b.low>b.high) = !decide (b.low<=b.high):=by by_cases h:b.low<=b.high <;> simp [h] <;> omega
 have e3:decide (b.high>3) = !decide (b.high<=3):=by by_cases h:b.high<=3 <;> simp [h] <;> omega
 rw [e1,e2,e3];cases decide (0<=b.low) <;> cases decide (b.low<=b.high) <;> cases decide (b.high<=3) <;> rfl
theorem zaI {b:Bk} (h:numbersM b=1):checkM b=1:=by unfold checkM; rw [h]; rfl
theorem kW {b:Bk} {c:Int} (h:numbersM b=0) (h2:heardM b=c) (hc:c≠0):checkM b=c:=by
 unfold checkM; rw [h,if_neg dQ,h2,if_pos (by simpa using hc)]
theorem vR {b:Bk} (h:numbersM b=0) (h2:heardM b=0):checkM b=lookedM b:=by
 unfold checkM; rw [h,if_neg dQ,h2,if_neg dQ]
theorem zfV {n:Int}:(decide (n<0)||decide (n>2)) = !(decide (0<=n)&&decide (n<=2)):=by
 by_cases h1:n<0 <;> by_cases h2:n>2 <;> simp [h1,h2] <;> omega
theorem vA {α:Type} {xs:List α} {p:α->Bool} {i:Nat} {x:α} (h:xs[i]? =some x) (hn:(xs.take i).any p=false) (he:p x=false):(xs.take (i+1)).any p=false:=by
 rw [List.take_add_one,h,List.any_append,hn]; simp [he]
theorem zml {α:Type} {xs:List α} {p:α->Bool} {i n:Nat} {x:α} (h:xs[i]? =some x) (hi:i<n) (he:p x=true):(xs.take n).any p=true:=by
 rw [List.any_eq_true];refine ⟨x,lN (i:=i) ?_,he⟩;rw [List.getElem?_take,if_pos hi,h]
theorem zil {i:Nat} {c:Int} (h:(!(decide (97<=c)&&decide (c<=122)))=false):byteOk i c=true:=by
 unfold byteOk;rw [show (decide (97<=c)&&decide (c<=122))=true by simpa using h]; rfl
theorem zaE {i:Nat} {c:Int} (h:(!(decide (97<=c)&&decide (c<=122)))=true) (h2:((i:Int)==0)=true):byteOk i c=false:=by
 unfold byteOk;rw [show (decide (97<=c)&&decide (c<=122))=false from not_f h,show (i:Int)=0 by simpa using h2]; rfl
theorem vd {i:Nat} {c:Int} (h:(!(decide (97<=c)&&decide (c<=122)))=true) (h2:((i:Int)==0)=false):byteOk i c=(decide (48<=c)&&decide (c<=57)):=by
 unfold byteOk;rw [show (decide (97<=c)&&decide (c<=122))=false from not_f h,show decide ((i:Int)>0)=true by have:(i:Int)≠0:=(by simpa using h2); simp; omega]; rfl
theorem zmd (s:ByteArray) (i:Nat):s[i]? =s.data[i]? :=by
 first | rfl | (simp [ByteArray.getElem?_eq,Array.getElem?_eq] <;> rfl) | (by_cases h:i<s.size <;> simp [getElem?_pos,getElem?_neg,h] <;> rfl)
theorem yF {main T} (hT:zh tp main T) {gm} {n lo hi:Int} :
  zg tp T gm 12 [intA n,intA lo,intA hi] [] (fun r K'=>r=zm (decide (lo<=n)&&decide (n<=hi))/\K'=[]):=by
 refine ze 15 hT Tryz.func12 fun Y hret=>?_;refine au 1711423542 ?_;refine bF 10 (fun g1_4=>?_) (fun g1_4=>?_)
 ·refine au 35260711 ?_;refine TK.rta hret ?_;exact ⟨by simp [zm,g1_4],rfl⟩
 refine au 35250888 ?_;refine TK.rta hret ?_;exact ⟨by simp [zm,g1_4],rfl⟩
theorem zaP {main T} (hT:zh tp main T) {gm} {a z lo hi:Int} :
  zg tp T gm 92 [.agg [intA a,intA z],intA lo,intA hi] [] (fun r K'=>r=zm (insideM a z lo hi)/\K'=[]):=by
 refine ze 24 hT Tryz.func92 fun Y hret=>?_;refine au 21042 ?_;intro j1 hj1;refine au 1769067014235 ?_;refine bF 11 (fun g1_5=>?_) (fun g1_5=>?_)
 ·refine au 12607690670690670 ?_;refine bF 18 (fun g1_12=>?_) (fun g1_12=>?_)
  ·refine au 3526071690670 ?_;refine bB hret [] ?_;exact ⟨by simp [insideM,zm,g1_5,g1_12],rfl⟩
  refine au 352508888 ?_;refine bB hret [] ?_;exact ⟨by simp [insideM,zm,g1_5,g1_12],rfl⟩
 refine au 352508888125088888 ?_;refine bB hret [] ?_;exact ⟨by simp [insideM,zm,g1_5],rfl⟩
theorem u9 {main T} (hT:zh tp main T) {gm} {s:ByteArray} (hl:s.size<=1000) :
  zg tp T gm 93 [.v (.string s)] [] (fun r K'=>r=zm (isNameM s)/\K'=[]):=by
 refine ze 31 hT Tryz.func93 fun Y hret=>?_;refine au 130354223542 ?_;refine bA [0,3] ?_;refine bE (fun n env K=>∃ (i:Nat),n=s.size - i/\i<=s.size/\bytesOk s i=true/\env=zJ 31 [(0,.v (.string s)),(3,intA i)]/\K=[]) s.size ⟨0,rfl,mN _,rfl,rfl,rfl⟩ fun n env K hI hnext=>?_;obtain ⟨i,rfl,hi,hok,rfl,rfl⟩:=hI;refine au 93729011422 ?_;refine ⟨fun hc=>?_,fun hc=>?_⟩
 ·simp only [decide_eq_true_eq] at hc;have hil:i<s.data.size:=by have:s.data.size=s.size:=rfl; omega
  obtain ⟨cb,hcb⟩:∃ cb,s.data[i]? =some cb:=⟨_,mD hil⟩;have hcs:s[((i:Int)).toNat]? =some cb:=by rw [mZ]; exact (zmd s i).trans hcb
  refine au 11421302120 ?_;refine bH Z (zah Z Z Z Und.h oQ (by exact hcs)) ?_;refine bH Z (kH Z Z Und.h Und.h (zhb _)) ?_;refine bD Z Z Z Z (yF hT) ?_;rintro r1 K2 ⟨rfl,rfl⟩;refine au 1300 ?_;refine bF 16 (fun g4_7=>?_) (fun g4_7=>?_)
  ·refine au 171 ?_;refine bF 19 (fun g4_10=>?_) (fun g4_10=>?_)
   ·refine au 35421803260260888888 ?_;refine bB hret [] ?_;exact ⟨by unfold isNameM; rw [kg (n:=s.size) hcb hil (zaE g4_7 g4_10)]; rfl,rfl⟩
   refine au 11 ?_;refine bH Z (zah Z Z Z Und.h oQ (by exact hcs)) ?_;refine bH Z (kH Z Z Und.h Und.h (zhb _)) ?_;refine bD Z Z Z Z (yF hT) ?_;rintro r4 K5 ⟨rfl,rfl⟩;refine au 93260250300 ?_;constructor<;>intro hc1
   ·refine au 3542 ?_;refine bB hret [] ?_;exact ⟨by unfold isNameM; rw [kg (n:=s.size) hcb hil (by exact (vd g4_7 g4_10).trans (not_f hc1))]; rfl,rfl⟩
   refine au 3523014140120 ?_;refine bA [0,3] ?_;exact hnext _ _ _ oQ ⟨i+1,rfl,oQ,by rw [k8 hcb,hok,vd g4_7 g4_10,not_t hc1]; rfl,rfl,rfl⟩
  refine au 352301414012019032508888888888 ?_;refine bA [0,3] ?_;exact hnext _ _ _ oQ ⟨i+1,rfl,oQ,by rw [k8 hcb,hok,zil g4_7]; rfl,rfl,rfl⟩
 simp only [decide_eq_false_iff_not] at hc;obtain rfl:i=s.size:=by omega
 refine au 290142160 ?_;refine bD Z Z Z Z (yF hT) ?_;rintro r7 K8 ⟨rfl,rfl⟩;refine au 35 ?_;refine bB hret [] ?_;exact ⟨by unfold isNameM; rw [hok]; rfl,rfl⟩
theorem zaa {main T} (hT:zh tp main T) {gm} {b:Bk} {s e:Nat} {n:Int} (hs:0<=b.steps/\b.steps<=16) :
  zg tp T gm 94 [.agg (zx b s e),intA n] [] (fun r K'=>r=zm (zE b n)/\K'=[]):=by
 refine ze 10 hT Tryz.func94 fun Y hret=>?_;refine au 21042 ?_;intro j1 hj1;refine au 24069067014235 ?_;refine bD Z Z Z Z (yF hT) ?_;rintro r2 K3 ⟨rfl,rfl⟩;refine au 35 ?_;refine bB hret [] ?_;exact ⟨rfl,rfl⟩
theorem zaG {main T} (hT:zh tp main T) {gm} {b:Bk} {s e:Nat} (hse:s≠e) (hn:∀ x∈b.seekers,x.name.size<=1000) (hl:b.seen.length<=1000) (hl2:b.seekers.length<=1000) :
  zg tp T gm 29 [.agg (zx b s e)] [(s,zn b),(e,zo b)] (fun r K'=>r=intA (checkM b)/\K'=[(s,zn b),(e,zo b)]):=by
 refine ze 93 hT Tryz.func29 fun Y hret=>?_;refine au 21042 ?_;intro jb hjb;refine au 69067042235 ?_;refine bD Z Z Z Z (yF hT) ?_;rintro r1 K2 ⟨rfl,rfl⟩;refine au 1300 ?_;refine bF 11 (fun g1_5=>?_) (fun g1_5=>?_)
 ·refine au 35421803260888812608888 ?_;refine bB hret [(s,_),(e,_)] ?_;exact ⟨by rw [zaI (b:=b) (by rw [vH]; simp only [*,Bool.true_or,Bool.or_true,cond_true])]; rfl,rfl⟩
 refine au 690670 ?_;refine bD Z Z Z Z (yF hT) ?_;rintro r4 K5 ⟨rfl,rfl⟩;refine au 1250300 ?_;refine bF 17 (fun g1_11=>?_) (fun g1_11=>?_)
 ·refine au 354218032608888 ?_;refine bB hret [(s,_),(e,_)] ?_;exact ⟨by rw [zaI (b:=b) (by rw [vH]; simp only [*,Bool.true_or,Bool.or_true,cond_true])]; rfl,rfl⟩
 refine au 680670 ?_;refine bD Z Z Z Z (zaP hT) ?_;rintro r7 K8 ⟨rfl,rfl⟩;refine au 93250300 ?_;constructor<;>intro hc0
 ·refine au 3542 ?_;refine bB hret [(s,_),(e,_)] ?_;exact ⟨by rw [zaI (b:=b) (by rw [vH]; simp only [*,Bool.true_or,Bool.or_true,cond_true])]; rfl,rfl⟩
 have hnum:numbersM b=0:=by rw [vH]; simp only [*]; rfl
 have hs:=ko (b:=b) (by rw [hnum]; rfl);refine au 280690670422120 ?_;refine bH Z (q_cmp Z Z Z Z) ?_;refine au 93 ?_;constructor<;>intro hc1
 ·have hc1:b.seekers.length>5:=by have:=of_decide_eq_true hc1; omega
  refine au 3542 ?_;refine bB hret [(s,_),(e,_)] ?_;exact ⟨by rw [kW hnum (c:=2) (if_pos hc1) dQ]; rfl,rfl⟩
 have hc1:¬ b.seekers.length>5:=by have:=of_decide_eq_false hc1; omega
 refine au 13035422120 ?_;refine bA [1,3] ?_;refine bE (fun n env K=>∃ (i:Nat),n=b.seekers.length - i/\i<=b.seekers.length/\heardL b i=0/\env=zJ 93 [(1,.ptr jb 0),(3,intA i)]/\K=[(jb,.cells (zx b s e) 27 true),(s,zn b),(e,zo b)]) b.seekers.length ⟨0,rfl,mN _,rfl,rfl,rfl⟩ fun n env K hI hnext=>?_;obtain ⟨i,rfl,hi,h0,rfl,rfl⟩:=hI;refine au 9372806906701422 ?_;refine ⟨fun hc=>?_,fun hc=>?_⟩
 ·simp only [decide_eq_true_eq] at hc;have hil:i<b.seekers.length:=by omega
  obtain ⟨x,hx⟩:∃ x,b.seekers[i]? =some x:=⟨_,lA hil⟩;have hxm:=lN hx;refine au 3601690670421302120 ?_;refine bH Z (zK Z Z zd.h mQ (says_at' b hx)) ?_;refine au 220 ?_;intro jx hjx;refine au 6906704223170 ?_;refine bD Z Z Z Z (u9 hT (hn x hxm)) ?_;rintro r10 K11 ⟨rfl,rfl⟩;refine au 93300 ?_;refine ⟨fun hnm=>?_,fun hnm=>?_⟩
  ·refine au 3542 ?_;refine bB hret [(s,_),(e,_)] ?_;exact ⟨by rw [kW hnum (c:=4) (by unfold heardM; rw [if_neg hc1]; exact yT h0 (c:=4) (by unfold heard1; rw [hx]; dsimp only; rw [if_pos hnm]) dQ hil) dQ]; rfl,rfl⟩
  refine au 13035422120 ?_;refine bA [1,3,4,5] ?_;refine bE (fun n env K=>∃ (k:Nat),n=i - k/\k<=i/\((b.seekers.take k).any fun o=>o.name.toList==x.name.toList)=false/\env=zJ 93 [(1,.ptr jb 0),(3,intA i),(4,.ptr jx 0),(5,intA k)]/\K=[(jx,.cells (saysC x) 114 true),(jb,.cells (zx b s e) 27 true),(s,zn b),(e,zo b)]) i ⟨0,rfl,mN _,rfl,rfl,rfl⟩ fun n env K hI hnext2=>?_;obtain ⟨k,rfl,hk,hany,rfl,rfl⟩:=hI;refine au 93711422 ?_;constructor<;>intro hc4
  ·simp only [decide_eq_true_eq] at hc4;have hki:k<i:=by omega
   obtain ⟨y,hy⟩:∃ y,b.seekers[k]? =some y:=⟨_,lA oQ⟩;refine au 21302120 ?_;refine bL [0,1,2,3,4,5,6,7,8] ?_;refine ad [[3,1],[10,48],[1,5],[2,49,50],[3,51]] ?_;refine TD.y [52] Z (hq:=zp Z Z zd.h (mC _) (ky (says_at' b hy) dQ Z)) (h:=?_);refine ad [[3,4],[10,54]] ?_;refine TD.z [53,55] Z (zcS Z Z Z Z) ?_;refine ad [[14]] ?_;refine au 9 ?_;constructor<;>intro hc5
   ·have hdup:((b.seekers.take i).any fun o=>o.name.toList==x.name.toList)=true:=zml hy hki hc5;refine au 3542 ?_;refine bB hret [(s,_),(e,_)] ?_;exact ⟨by rw [kW hnum (c:=5) (by unfold heardM; rw [if_neg hc1]; exact yT h0 (c:=5) (by unfold heard1; rw [hx]; dsimp only; rw [if_neg (by rw [hnm]; decide),if_pos hdup]) dQ hil) dQ]; rfl,rfl⟩
   refine au 3523014140120 ?_;refine bA [1,3,4,5] ?_;refine bC [(jx,_),(jb,_),(s,_),(e,_)] ?_;exact hnext2 _ _ _ oQ ⟨k+1,rfl,oQ,vA hy hany hc5,rfl,rfl⟩
  simp only [decide_eq_false_iff_not] at hc4;obtain rfl:i=k:=by omega
  refine au 690670680422160 ?_;refine bD Z Z Z Z (zaa hT (b:=b) (s:=s) (e:=e) oQ) ?_;rintro r13 K14 ⟨rfl,rfl⟩;refine au 1300 ?_;refine bF 62 (fun g16_6=>?_) (fun g16_6=>?_)
  ·refine au 3542180326088888 ?_;refine bB hret [(s,_),(e,_)] ?_;exact ⟨by rw [kW hnum (c:=6) (by unfold heardM; rw [if_neg hc1]; exact yT h0 (c:=6) (by unfold heard1; rw [hx]; dsimp only; rw [if_neg (by rw [hnm]; decide),if_neg (by rw [hany]; decide),if_pos (by rw [show (!zE b x.frm)=true from g16_6]; rfl)]) dQ hil) dQ]; rfl,rfl⟩
  refine au 690670680 ?_;refine bD Z Z Z Z (zaa hT (b:=b) (s:=s) (e:=e) oQ) ?_;rintro r16 K17 ⟨rfl,rfl⟩;refine au 93250300 ?_;constructor<;>intro hc6
  ·refine au 3542 ?_;refine bB hret [(s,_),(e,_)] ?_;exact ⟨by rw [kW hnum (c:=6) (by unfold heardM; rw [if_neg hc1]; exact yT h0 (c:=6) (by unfold heard1; rw [hx]; dsimp only; rw [if_neg (by rw [hnm]; decide),if_neg (by rw [hany]; decide),if_pos (by rw [show (!zE b x.til)=true from hc6,Bool.or_true])]) dQ hil) dQ]; rfl,rfl⟩
  have hst2:(!zE b x.frm || !zE b x.til)=false:=by rw [hc6,g16_6]; rfl
  refine au 69067042120 ?_;refine bD Z Z Z Z (yF hT) ?_;rintro r19 K20 ⟨rfl,rfl⟩;refine au 93300 ?_;constructor<;>intro hc7
  ·refine au 3542 ?_;refine bB hret [(s,_),(e,_)] ?_;exact ⟨by rw [kW hnum (c:=1) (by unfold heardM; rw [if_neg hc1]; exact yT h0 (c:=1) (by unfold heard1; rw [hx]; dsimp only; rw [if_neg (by rw [hnm]; decide),if_neg (by rw [hany]; decide),if_neg (by rw [hst2]; decide),zfV,if_pos hc7]) dQ hil) dQ]; rfl,rfl⟩
  refine au 3523014140120 ?_;refine bA [1,3] ?_;refine bC [(jb,_),(s,_),(e,_)] ?_;exact hnext _ _ _ oQ ⟨i+1,rfl,oQ,by unfold heardL; rw [if_pos h0]; unfold heard1; rw [hx]; dsimp only; rw [if_neg (by rw [hnm]; decide),if_neg (by rw [hany]; decide),if_neg (by rw [hst2]; decide),zfV,if_neg (by rw [hc7]; decide)],rfl,rfl⟩
 simp only [decide_eq_false_iff_not] at hc;obtain rfl:i=b.seekers.length:=by omega
 have hheard:heardM b=0:=by unfold heardM; rw [if_neg hc1,h0]
 refine au 937280690670422160 ?_;constructor<;>intro hc8
 ·have hc8:b.seen.length>4:=by have:=of_decide_eq_true hc8; omega
  refine au 3542 ?_;refine bB hret [(s,_),(e,_)] ?_;exact ⟨by rw [vR hnum hheard]; unfold lookedM; rw [if_pos hc8]; rfl,rfl⟩
 have hc8:¬ b.seen.length>4:=by have:=of_decide_eq_false hc8; omega
 refine au 13035422120 ?_;refine bA [1,6] ?_;refine bE (fun n env K=>∃ (k:Nat),n=b.seen.length - k/\k<=b.seen.length/\((b.seen.take k).any fun x => !zE b x.step)=false/\env=zJ 93 [(1,.ptr jb 0),(6,intA k)]/\K=[(jb,.cells (zx b s e) 27 true),(s,zn b),(e,zo b)]) b.seen.length ⟨0,rfl,mN _,rfl,rfl,rfl⟩ fun n env K hI hnext3=>?_;obtain ⟨k,rfl,hk,hany2,rfl,rfl⟩:=hI;refine au 9372806906701422 ?_;constructor<;>intro hc9
 ·simp only [decide_eq_true_eq] at hc9;obtain ⟨z,hz⟩:∃ z,b.seen[k]? =some z:=⟨_,lA oQ⟩;have hzt:=zdv b k oQ;rw [(lD.1 hz).2] at hzt;refine au 21302120 ?_;refine bL [0,1,2,3,4,5,6,7,8] ?_;refine ad [[12,1],[3,1],[10,85],[1,6],[2,86,87],[3,88]] ?_;refine TD.y [89] Z (hq:=zp Z Z zd.h (mC _) (ky hzt dQ Z)) (h:=?_);refine bQ (pend':=[⟨5,[88],[]⟩,⟨4,[86,87],[]⟩,⟨3,[6],[]⟩,⟨2,[85],[(_,_)]⟩,⟨1,[1],[]⟩]) [84,90] Z Z Z Z Z (zaa hT (b:=b) (s:=s) (e:=e) oQ) (fun r22 K23 h24=>⟨?_,?_⟩)
  ·rcases h24 with ⟨rfl,rfl⟩
   all_goals simp
  obtain ⟨rfl,rfl⟩:=h24;try simp only [cA]
  refine bS tQ ?_;refine TD.z [91] Z (q_not Z Z) ?_;refine ad [[14]] ?_;refine au 9 ?_;constructor<;>intro hc10
  ·refine au 3542 ?_;refine bB hret [(s,_),(e,_)] ?_;exact ⟨by rw [vR hnum hheard]; unfold lookedM; rw [if_neg hc8,if_pos (List.any_eq_true.2 ⟨z,lN hz,hc10⟩)]; rfl,rfl⟩
  refine au 3523014140120 ?_;refine bA [1,6] ?_;refine bC [(jb,_),(s,_),(e,_)] ?_;exact hnext3 _ _ _ oQ ⟨k+1,rfl,oQ,vA hz hany2 hc10,rfl,rfl⟩
 simp only [decide_eq_false_iff_not] at hc9;obtain rfl:k=b.seen.length:=by omega
 refine au 3542160 ?_;refine bB hret [(s,_),(e,_)] ?_;exact ⟨by rw [vR hnum hheard]; unfold lookedM; rw [if_neg hc8,if_neg (by rw [lW] at hany2; rw [hany2]; decide)]; rfl,rfl⟩
theorem zjP {xs ys:List Int} {i:Nat} (h:i<xs.length) (h2:i<ys.length) (ht:xs.take i=ys.take i) (he:xs[i]=ys[i]):xs.take (i+1)=ys.take (i+1):=by
 rw [List.take_add_one,List.take_add_one,lA h,lA h2,ht,he]
def stateSim (b:Bk) (xs:List Int):Bool×Int:=if checkM b≠0 then (false,checkM b) else if handedM b xs≠0 then (false,handedM b xs) else (canM b xs,0)
theorem zkq {main T} (hT:zh tp main T) {gm} {j off:Nat} {ob:AObj} {xs:List Int} {v:Int} (hI:IntsAt ob off xs) (hlx:xs.length<=1000)  :
  zg tp T gm 80 [.sl j off xs.length,intA v] [(j,ob)] (fun r K'=>r=zm (decide (v∈xs))/\K'=[(j,ob)]):=by
 refine ze 18 hT Tryz.func80 fun Y hret=>?_;refine au 130354223542 ?_;refine bA [0,1,5] ?_;refine bE (fun n env K=>∃ (i:Nat),n=xs.length - i/\i<=xs.length/\v∉xs.take i/\env=zJ 18 [(0,.sl j off xs.length),(1,intA v),(5,intA i)]/\K=[(j,ob)]) xs.length ⟨0,rfl,mN _,by simp,rfl,rfl⟩ fun n env K hI' hnext=>?_;obtain ⟨i,rfl,hi,hn,rfl,rfl⟩:=hI';refine au 93728011422 ?_;refine ⟨fun hc=>?_,fun hc=>?_⟩
 ·simp only [decide_eq_true_eq] at hc;have hil:i<xs.length:=by omega
  refine au 36011421302120 ?_;refine bH Z (zp Z Z zd.h mQ (hI i hil)) ?_;refine au 9371 ?_;constructor<;>intro hc1
  ·refine au 3542 ?_;refine bB hret [(j,_)] ?_;exact ⟨by rw [decide_eq_true (show v∈xs by have h:xs[i]=v:=(by simpa using hc1); rw [<- h]; exact List.getElem_mem hil)]; rfl,rfl⟩
  refine au 3523014140120 ?_;refine bA [0,1,5] ?_;exact hnext _ _ _ oQ ⟨i+1,rfl,oQ,vC hil hn (fun h=>by rw [h] at hc1; simp at hc1),rfl,rfl⟩
 simp only [decide_eq_false_iff_not] at hc;obtain rfl:i=xs.length:=by omega
 refine au 3542160 ?_;refine bB hret [(j,_)] ?_;exact ⟨by rw [decide_eq_false (by rwa [lW] at hn)]; rfl,rfl⟩
theorem zgu {main T} (hT:zh tp main T) {gm} {j off j2 off2:Nat} {ob ob2:AObj} {xs ys:List Int} (hjj:j≠j2) (hI:IntsAt ob off xs) (hI2:IntsAt ob2 off2 ys) (hlx:xs.length<=100000) :
  zg tp T gm 109 [.sl j off xs.length,.sl j2 off2 ys.length] [(j,ob),(j2,ob2)] (fun r K'=>r=zm (decide (xs=ys))/\K'=[(j,ob),(j2,ob2)]):=by
 refine ze 26 hT Tryz.func109 fun Y hret=>?_;refine au 937280128014223542 ?_;constructor<;>intro hc0
 ·refine au 3542 ?_;refine bB hret [(j,_),(j2,_)] ?_;exact ⟨by rw [decide_eq_false (fun h=>by rw [h] at hc0; simp at hc0)]; rfl,rfl⟩
 have hlen:xs.length=ys.length:=by have h:(xs.length:Int)=ys.length:=(by simpa using hc0); omega
 refine au 13035422120 ?_;refine bA [0,1,5] ?_;refine bE (fun n env K=>∃ (i:Nat),n=xs.length - i/\i<=xs.length/\xs.take i=ys.take i/\env=zJ 26 [(0,.sl j off xs.length),(1,.sl j2 off2 ys.length),(5,intA i)]/\K=[(j,ob),(j2,ob2)]) xs.length ⟨0,rfl,mN _,rfl,rfl,rfl⟩ fun n env K hI' hnext=>?_;obtain ⟨i,rfl,hi,hn,rfl,rfl⟩:=hI';refine au 93728011422 ?_;refine ⟨fun hc=>?_,fun hc=>?_⟩
 ·simp only [decide_eq_true_eq] at hc;have hil:i<xs.length:=by omega
  refine au 21302120 ?_;refine bL [0,1,2,3,4,5,6,7,8] ?_;refine ad [[1,0],[1,5],[2,17,18]] ?_;refine TD.y [19] Z (hq:=zp Z Z zd.h (mC _) (hI i hil)) (h:=?_);refine ad [[1,1],[1,5],[2,21,22]] ?_;refine TD.y [23] Z (hq:=zp Z Z zd.h (mC _) (hI2 i oQ)) (h:=?_);refine ad [[4,20,24],[14]] ?_;refine au 9 ?_;constructor<;>intro hc2
  ·refine au 3542 ?_;refine bB hret [(j,_),(j2,_)] ?_;exact ⟨by rw [decide_eq_false (fun h=>by subst h; simp at hc2)]; rfl,rfl⟩
  refine au 3523014140120 ?_;refine bA [0,1,5] ?_;exact hnext _ _ _ oQ ⟨i+1,rfl,oQ,zjP hil oQ hn (by simpa using hc2),rfl,rfl⟩
 simp only [decide_eq_false_iff_not] at hc;obtain rfl:i=xs.length:=by omega
 refine au 3542160 ?_;refine bB hret [(j,_),(j2,_)] ?_;exact ⟨by rw [decide_eq_true (by rwa [lW,hlen,lW] at hn)]; rfl,rfl⟩
def stairC (x:StR):List AV:=[intA x.holds,intA x.way,zm x.gate]
def grpC (x:GrR):List AV:=[.v (.string x.name),intA x.many]
def stbC (b:StB) (s g:Nat):List AV:=[intA b.platform,zm b.keeper,.sl s 0 b.stairs.length,.sl g 0 b.groups.length]
abbrev stO (b:StB):AObj:=.cells (b.stairs.flatMap stairC) 203 false
abbrev grO (b:StB):AObj:=.cells (b.groups.flatMap grpC) 125 false
def badStM (x:StR):Bool := !(decide (1<=x.holds)&&decide (x.holds<=99))||(decide (x.way<0)||decide (x.way>2))
structure StOk (b:StB):Prop where
 plat:1<=b.platform/\b.platform<=99
 nst:1<=b.stairs.length/\b.stairs.length<=2
 sts:∀ x∈b.stairs,1<=x.holds/\x.holds<=99/\0<=x.way/\x.way<=2
 ngr:1<=b.groups.length/\b.groups.length<=4
 nam:∀ x∈b.groups,isNameM x.name=true
 two:b.groups.Pairwise fun x y=>x.name.toList≠y.name.toList
 man:∀ x∈b.groups,1<=x.many/\x.many<=20
theorem zgR {α:Type} (f:α->List AV) (c:Nat) (hc:∀ x,(f x).length=c):∀ (xs:List α) (i:Nat) (h:i<xs.length),((xs.flatMap f).drop (i*c)).take c=f xs[i]
 | x::xs,0,_=>by
  rw [Nat.zero_mul,List.drop_zero,List.flatMap_cons,List.take_left' (hc x)]; rfl
 | x::xs,i+1,h=>by
  rw [List.flatMap_cons,Nat.succ_mul,Nat.add_comm,<- List.drop_drop,List.drop_left' (hc x)];exact zgR f c hc xs i (by simpa using h)
theorem fl_at {α:Type} {f:α->List AV} {c:Nat} (hc:∀ x,(f x).length=c) {xs:List α} {x:α} {i:Nat} {n:Int} {e:TypeId} {rw':Bool} (h:xs[i]? =some x) (hn:n=(i:Int)) (h0:0<c):zZ (.cells (xs.flatMap f) e rw') (0+n.toNat*c) c=some (f x):=by
 subst hn;obtain ⟨h1,h2⟩:=lD.1 h;have hle:(i+1)*c<=xs.length*c:=Nat.mul_le_mul_right _ h1;have:(i+1)*c=i*c+c:=Nat.succ_mul ..;simp only [zZ,AObj.look,mZ,mO];rw [if_pos ⟨by omega,by rw [yk f c hc]; omega⟩,zgR f c hc _ _ h1,h2]
def StsAt (ob:AObj) (off:Nat) (xs:List StR):Prop:=∀ (i:Nat) (h:i<xs.length),zZ ob (off+(i:Int).toNat*3) 3=some (stairC xs[i])
def GrsAt (ob:AObj) (off:Nat) (xs:List GrR):Prop:=∀ (i:Nat) (h:i<xs.length),zZ ob (off+(i:Int).toNat*2) 2=some (grpC xs[i])
theorem zdb {α:Type} {xs:List α} {p:α->Bool} {i:Nat} (h:i<xs.length) (hn:(xs.take i).any p=false) (he:p xs[i]=false):(xs.take (i+1)).any p=false:=by
 rw [List.take_add_one,lA h,List.any_append,hn];simp [he]
theorem zhk {s:ByteArray} {n i:Nat} {c:UInt8} (h:bytesOk s n=true) (hi:i<n) (hc:s.data[i]? =some c):byteOk i c.toNat=true:=by
 unfold bytesOk at h;have:=List.all_eq_true.1 h i (List.mem_range.2 hi);simpa [hc] using this
def stChecksG:AObj:=.cells [.fn 294 [] [],.fn 295 [] [],.fn 298 [] []] 319 false
instance:ArEl tp 320 3 319 true 1:={}
instance:BlOf tp 117 [(0,4)]:={}
instance:Cal tp 182:={}
instance:Cal tp 294:={}
instance:Cal tp 295:={}
instance:Cal tp 296:={}
instance:Cal tp 297:={}
instance:Cal tp 298:={}
instance:Cal tp 299:={}
instance:Cal tp 300:={}
instance:Cal tp 301:={}
instance:Cal tp 302:={}
instance:Cal tp 303:={}
instance:zl tp 117 0 0 true 4:={}
instance:zl tp 125 0 0 false 1:={}
instance:zl tp 125 1 1 false 1:={}
instance:zl tp 203 0 0 false 1:={}
instance:zl tp 203 1 1 false 1:={}
instance:zl tp 31 0 0 false 1:={}
instance:zl tp 31 2 2 false 1:={}
instance:zl tp 31 3 3 false 1:={}
instance:zl tp 319 0 0 false 1:={}
instance:SlEl tp 28 203 3:={}
instance:SlEl tp 29 125 2:={}
instance:zd tp 120 false 1:={}
instance:zd tp 125 true 2:={}
instance:zd tp 201 false 1:={}
instance:zd tp 203 true 3:={}
instance:zd tp 28 false 1:={}
instance:zd tp 29 false 1:={}
instance:zd tp 31 true 4:={}
instance:zd tp 319 true 1:={}
instance:zd tp 320 true 3:={}
instance:TyZ tp 117 [.int .i64 0,.bool false,.slice none 0 0,.slice none 0 0]:={}
instance:TyZA tp 125 [.v (.string ⟨#[]⟩),.v (.int .i64 0)]:={}
instance:TyZA tp 319 [.v (.nilFunc)]:={}
instance:Und tp 28 (.slice 203):={}
instance:Und tp 29 (.slice 125):={}
def sunC (x:SunR):List AV:=[intA x.step,intA x.high]
def eyeC (x:EyeR):List AV:=[intA x.at0,intA x.high]
def watC (x:WatR):List AV:=[intA x.hour,intA x.step,zm x.lit]
def slC (b:SlB) (c s e w:Nat):List AV:=[intA b.steps,intA b.dirty,intA b.slope,intA b.lo,intA b.hi,.sl c 0 b.clean.length,intA b.rf,intA b.rh,intA b.cf,intA b.ch,.sl s 0 b.suns.length,.sl e 0 b.eyes.length,.sl w 0 b.watches.length]
abbrev clO (b:SlB):AObj:=.cells (b.clean.map intA) 3 false
abbrev suO (b:SlB):AObj:=.cells (b.suns.flatMap sunC) 291 false
abbrev eyO (b:SlB):AObj:=.cells (b.eyes.flatMap eyeC) 293 false
abbrev waO (b:SlB):AObj:=.cells (b.watches.flatMap watC) 76 false
def eyeI (b:SlB) (i:Nat):EyeR:=b.eyes.getD i default
def watI (b:SlB) (i:Nat):WatR:=b.watches.getD i default
def badBand (x y lo hi:Int):Bool := !(decide (lo<=x)&&decide (x<=y)&&decide (y<=hi))
def watBar (b:SlB):Int:=if b.watches.length>4 then 2 else if b.watches.all (watOk b)=true then 0 else 6
def saChecksG:AObj:=.cells [.fn 276 [] [],.fn 277 [] [],.fn 278 [] [],.fn 279 [] [],.fn 280 [] []] 295 false
instance:ArEl tp 295 5 294 false 1:={}
instance:BlOf tp 186 [(0,13)]:={}
instance:Cal tp 170:={}
instance:Cal tp 276:={}
instance:Cal tp 277:={}
instance:Cal tp 278:={}
instance:Cal tp 279:={}
instance:Cal tp 280:={}
instance:Cal tp 281:={}
instance:Cal tp 282:={}
instance:Cal tp 283:={}
instance:Cal tp 90:={}
instance:zl tp 186 0 0 true 13:={}
instance:zl tp 291 0 0 false 1:={}
instance:zl tp 291 1 1 false 1:={}
instance:zl tp 293 0 0 false 1:={}
instance:zl tp 293 1 1 false 1:={}
instance:zl tp 69 0 0 false 1:={}
instance:zl tp 69 1 1 false 1:={}
instance:zl tp 74 0 0 false 1:={}
instance:zl tp 74 1 1 false 1:={}
instance:zl tp 74 2 2 false 1:={}
instance:zl tp 74 3 3 true 2:={}
instance:zl tp 74 4 5 false 1:={}
instance:zl tp 74 5 6 true 2:={}
instance:zl tp 74 6 8 true 2:={}
instance:zl tp 74 7 10 false 1:={}
instance:zl tp 74 8 11 false 1:={}
instance:zl tp 74 9 12 false 1:={}
instance:zl tp 76 0 0 false 1:={}
instance:zl tp 76 1 1 false 1:={}
instance:SlEl tp 70 291 2:={}
instance:SlEl tp 71 293 2:={}
instance:SlEl tp 72 76 3:={}
instance:zd tp 186 true 13:={}
instance:zd tp 291 true 2:={}
instance:zd tp 293 true 2:={}
instance:zd tp 295 true 5:={}
instance:zd tp 70 false 1:={}
instance:zd tp 71 false 1:={}
instance:zd tp 72 false 1:={}
instance:zd tp 74 true 13:={}
instance:zd tp 76 true 3:={}
instance:TyZ tp 186 [.int .i64 0,.int .i64 0,.int .i64 0,.int .i64 0,.int .i64 0,.slice none 0 0,.int .i64 0,.int .i64 0,.int .i64 0,.int .i64 0,.slice none 0 0,.slice none 0 0,.slice none 0 0]:={}
instance:TyZA tp 291 [.v (.int .i64 0),.v (.int .i64 0)]:={}
instance:TyZA tp 293 [.v (.int .i64 0),.v (.int .i64 0)]:={}
instance:TyZA tp 76 [.v (.int .i64 0),.v (.int .i64 0),.v (.bool false)]:={}
instance:Und tp 70 (.slice 291):={}
instance:Und tp 71 (.slice 293):={}
instance:Und tp 72 (.slice 76):={}
def eqP (a b:Int×Int):Bool:=(a.1==b.1)&&(a.2==b.2)
structure MapI (es:Array MapEntry) (clock:Nat) (ks L:List (Int×Int)):Prop where
 key:∀ (j:Nat) (en:MapEntry),es[j]? =some en->∃ k,ks[j]? =some k/\en.key=fcV k/\en.val=mv (L.count k)
 len:es.size=ks.length
 nd:∀ (i j:Nat) k,ks[i]? =some k->ks[j]? =some k->i=j
 all:∀ k∈L,k∈ks
 bn:∀ (i j:Nat) (a b:MapEntry),es[i]? =some a->es[j]? =some b->a.born=b.born->i=j
 lt:∀ (j:Nat) (en:MapEntry),es[j]? =some en->en.born<clock
def MapN (ob:Obj) (L:List (Int×Int)):Prop:=∃ es clock ks,ob=.map es clock/\MapI es clock ks L
def MapE (ob:Obj) (L:List (Int×Int)) (k:Int×Int) (born:Nat):Prop:=∃ es clock ks,ob=.map es clock/\MapI es clock ks L/\∃ (i:Nat) (en:MapEntry),es[i]? =some en/\ks[i]? =some k/\en.born=born
def FoundP (k:Int×Int) (es:List MapEntry) (ks:List (Int×Int)) (i:Nat):Option (Nat×Value)->Prop
 | none=>∀ j,j<es.length->ks[j]? ≠some k
 | some (q,v)=>∃ j en,q=i+j/\es[j]? =some en/\ks[j]? =some k/\v=en.val
theorem zkA {k:Int×Int} {es:Array MapEntry} {c:Nat} {ks L:List (Int×Int)} (h:MapI es c ks L) {q:Nat} (hk:ks[q]? =some k):MapI (es.modify q fun e=>{ e with val:=mv (L.count k+1:Nat) }) c ks (L++[k]):=by
 have key:∀ (j:Nat) en,(es.modify q fun e=>{ e with val:=mv (L.count k+1:Nat) })[j]? =some en->∃ en0,es[j]? =some en0/\((j≠q/\en=en0)\/(j=q/\en={ en0 with val:=mv (L.count k+1:Nat) })):=fun j en hj=>by
  rw [Array.getElem?_modify] at hj;split at hj
  ·rename_i e;cases hx:es[j]? with
   | none=>rw [hx] at hj; cases hj
   | some en0=>rw [hx] at hj; cases hj; exact ⟨en0,rfl,.inr ⟨e.symm,rfl⟩⟩
  ·rename_i e; exact ⟨en,hj,.inl ⟨fun h=>e h.symm,rfl⟩⟩
 refine ⟨fun j en hj=>?_,by rw [Array.size_modify]; exact h.len,h.nd,fun k' hm=>?_,fun i j a b ha hb e=>?_,fun j en hj=>?_⟩
 ·obtain ⟨en0,q1,⟨hne,rfl⟩ | ⟨rfl,rfl⟩⟩:=key j en hj
  ·obtain ⟨k',r1,r2,r3⟩:=h.key j _ q1;refine ⟨k',r1,r2,?_⟩;have:k'≠k:=fun e=>by subst e; exact hne (h.nd j q k' r1 hk)
   have hz:List.count k' [k]=0:=List.count_eq_zero.2 (by simpa using this);rw [List.count_append,hz,Nat.add_zero];exact r3
  ·obtain ⟨k',r1,r2,r3⟩:=h.key j _ q1;rw [hk] at r1;cases r1;refine ⟨k,hk,r2,?_⟩;rw [List.count_append,List.count_singleton_self]
 ·rcases lT.1 hm with hm | hm
  ·exact h.all k' hm
  ·rw [lS.1 hm]; exact lN hk
 ·obtain ⟨a0,q1,ha'⟩:=key i a ha;obtain ⟨b0,q2,hb'⟩:=key j b hb;have e1:a.born=a0.born:=by rcases ha' with ⟨_,rfl⟩ | ⟨_,rfl⟩ <;> rfl
  have e2:b.born=b0.born:=by rcases hb' with ⟨_,rfl⟩ | ⟨_,rfl⟩ <;> rfl
  exact h.bn i j a0 b0 q1 q2 (by rw [<- e1,<- e2,e])
 ·obtain ⟨a0,q1,ha'⟩:=key j en hj;have e1:en.born=a0.born:=by rcases ha' with ⟨_,rfl⟩ | ⟨_,rfl⟩ <;> rfl
  rw [e1]; exact h.lt j a0 q1
structure KeyP (P:Program):Prop where
 um:P.underlying 188=some (.map 196 3)
 ck:∀ e k,zO P (Instr.checkKey e 10000 196 (fcV k))=some ()
 fd:∀ (k:Int×Int) (es:Array MapEntry) (c:Nat) (ks L:List (Int×Int)),MapI es c ks L->∃ r,zO P (Instr.findKey 196 (fcV k) es.toList)=some r/\FoundP k es.toList ks 0 r
 zi:∃ ti,P.info? 3=some ti/\ti.zero=some (mv 0)
section
variable {P:Program} {gm:Nat->Option Nat} {V:KV} {env:List AV} {o:Oper}
theorem zm0 {x y z:Operand} {j born:Nat} {k:Int×Int} {ob:Obj} {L:List (Int×Int)} {t:TypeId} (ho:o.op=.entryStore t x y z) (hx:zr gm env x=some (.map j)) (hy:zr gm env y=some (intA born)) (hz:zr gm env z=some (intA (L.count k+1:Nat))) (hm:(j,.raw ob)∈V) (hf:MapE ob L k born) :
  ∃ ob',MapN ob' (L++[k])/\∀ A,zP V A->OpOk P gm env A o .any (A.set j (.raw ob')):=by
 obtain ⟨es,c,ks,rfl,hI,i,en,h1,h2,h3⟩:=hf;refine ⟨_,⟨_,c,ks,rfl,zkA hI h2⟩,fun A hA φ F H a hg hH hE=>?_⟩;unfold execOp; rw [ho];refine wpS_u ?_;have e1:=zu hg hE x;rw [zq hx] at e1;obtain ⟨hj,e1⟩:=vM e1;have e2:=zu hg hE y;rw [zq hy] at e2;have e3:=zu hg hE z;rw [zq hz] at e3;rw [e1,inv_v e2,inv_v e3];have hb:H (φ j).blk=some (true,.map es c):=hH.obj j _ (hA.get hm);have hfi:es.findIdx? (fun e=>(e.born:Int)==(born:Int))=some i:=by
  obtain ⟨hi,hi2⟩:=mG.1 h1;rw [Array.findIdx?_eq_some_iff_getElem];refine ⟨hi,by rw [hi2,h3]; simp,fun q hq=>?_⟩;have hqs:q<es.size:=by omega
  intro he;have he:es[q].born=born:=Int.ofNat.inj (by simpa using he);have:=hI.bn q i es[q] en (mD hqs) h1 (by rw [he,h3]);omega
 unfold Instr.entryStore;refine za _ _ _ ?_;refine ⟨true,_,hb,rfl,rfl,?_⟩;refine za _ _ _ ?_;show wpS P (pure (born:Int)) H _;rw [kb];rw [hfi];exact ⟨_,hb,rfl,rfl,undef,φ,.inr ⟨rfl,rfl⟩,Agr.refl _ _,by simp,hH.set (hA.get hm) rfl trivial (Hp.put_same _ _ _),.any _⟩
end
end Go.Vel
end
