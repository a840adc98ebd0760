/- Texts for the statements of chapter 9: what all of them need, part 6. It holds of every program, tape and world that the statements name, as each theorem says. -/
import Derived.Test.YtcddfkgckelhiaaGreatDoorProg
import Derived.Conc.LeavingOf
import Derived.Conc.Holds
import Derived.Carry
import Derived.LaidLaws
import Derived.Test.YtcddfkgckelhiaaGreatDoorCards
import Derived.Test.YtcddfkgckelhiaaGreatDoorTie
import Derived.SevenTiedAt
import Derived.Test.YtcddfkgckelhiaaGreatDoorC0
import Derived.Test.YtcddfkgckelhiaaGreatDoorC3
import Derived.Test.YtcddfkgckelhiaaGreatDoorC4
section
set_option linter.all false
set_option maxRecDepth 20000
set_option maxHeartbeats 60000000
open Go.Proofs.Tryz renaming prog -> tp
open List renaming getElem?_eq_getElem -> lA, nil_append -> lC, getElem?_eq_some_iff -> lD, getD_eq_getElem?_getD -> lE, length_append -> lF, perm_append_comm -> lH, mem_cons -> lI, eq_nil_of_length_eq_zero -> lK, mem_cons_of_mem -> lL, map_append -> lM, mem_of_getElem? -> lN, append_nil -> lR, mem_singleton -> lS, mem_append -> lT, take_length -> lW, mem_map -> lY
open List.Mem renaming head -> mC
open Nat renaming le_refl -> mL, zero_le -> mN, zero_add -> mO, eq_zero_or_pos -> mP, le_trans -> mT
open Bool renaming false_eq_true -> mU, and_eq_true -> mX
open Int renaming toNat_natCast -> mZ
open Go.Vel.TK renaming maskL -> bA, rt -> bB, kp -> bC, cl -> bD, loopN -> bE, sp -> bF, a -> bH, newR -> bI, dq -> bL, perm -> bN, appR -> bO
open Go.Vel.TD renaming cl -> bQ, norm -> bS
namespace Go.Vel
open Go Go.Conc Go.Proofs
theorem kN {b:Bk} {t:Bool} (h:askM b t=0):checkM b=0/\t=true/\zb b≠[]:=by
 unfold askM at h;split at h
 ·rename_i h1; exact absurd h h1
 ·rename_i h1;split at h
  ·cases h
  ·rename_i h2;split at h
   ·cases h
   ·rename_i h3;exact ⟨by simpa using h1,by simpa using h2,h3⟩
def statesApi (b:Bk):Int×Int:=if checkM b≠0 then (0,checkM b) else ((zb b).length,0)
def atApi (b:Bk) (n:Int):Int×Int:=if askM b (zJ b n)≠0 then (0,askM b (zJ b n)) else (wordM (zb b).length (oftM (zb b) n),0)
def withinApi (b:Bk) (lo hi:Int):(Int×Int)×Int:=if askM b (zJ b lo&&zJ b hi)≠0 then ((0,0),askM b (zJ b lo&&zJ b hi)) else (withinM b (zb b) lo ((hi - lo+b.steps) % b.steps+1),0)
def wrongApi (b:Bk) (k:Int):Int×Int:=if askM b (isSeekerM b k)≠0 then (0,askM b (isSeekerM b k)) else (wordM (zb b).length ((zb b).length - rightsM b (zb b) k.toNat),0)
def pickL (b:Bk) (w:Int) (n:Nat):List Int:=((List.range n).filter fun k:Nat=>wordM (zb b).length (oftM (zb b) (k:Int))==w).map fun k:Nat=>(k:Int)
theorem za8 {b:Bk} {w:Int} {n:Nat} (h:(wordM (zb b).length (oftM (zb b) (n:Int))==w)=true):pickL b w (n+1)=pickL b w n++[(n:Int)]:=by
 unfold pickL; rw [List.range_succ,List.filter_append]; simp [h]
theorem wH {b:Bk} {w:Int} {n:Nat} (h:(wordM (zb b).length (oftM (zb b) (n:Int))==w)=false):pickL b w (n+1)=pickL b w n:=by
 unfold pickL; rw [List.range_succ,List.filter_append]; simp [h]
theorem zdP (b:Bk) (w:Int) (n:Nat):(pickL b w n).length<=n:=by
 unfold pickL; rw [List.length_map]; exact mT (List.length_filter_le _ _) sQ
theorem zlK {b:Bk} (hb:BkOk b) (n:Int):0<=oftM (zb b) n/\oftM (zb b) n<=200000:=by
 have h0:(zb b).flatten.count n<=(zb b).flatten.length:=List.count_le_length;have h1:=uu (Ls:=zb b) (fun R hR=>(yJ hb R hR).len);have h2:=yE hb;unfold oftM;omega
theorem y5 {main:Bool} {T:Goroutine->Hp->Prop} (hT:zk tp main T)  {b:Bk} {s e:Nat} (hse:s≠e) (hn:∀ x∈b.seekers,x.name.size<=1000) (hl:b.seen.length<=1000) :
  zh tp T gmS 35 [.agg (zC b s e)] [(0,zx),(1,zB),(s,zo b),(e,zp b)] (fun r K'=>r=.tup [intA (statesApi b).1,intA (statesApi b).2]/\K'=[(0,zx),(1,zB),(s,zo b),(e,zp b)]):=by
 refine ze 14 hT Tryz.func35 fun Y hret=>?_;refine au 21042 ?_;intro j1 hj1;refine au 680422355 ?_;refine bD Z Z Z Z (kO hT (b:=b) (s:=s) (e:=e) hn hl) ?_;rintro r2 K3 ⟨rfl,rfl⟩;refine au 93714235 ?_;constructor<;>intro hc0
 ·refine au 355142 ?_;refine bB hret [(0,_),(1,_),(s,_),(e,_)] ?_;exact ⟨by unfold statesApi; rw [if_pos (by simpa using hc0)]; rfl,rfl⟩
 have hb:=yp (b:=b) (by simpa using hc0);refine au 43068042120 ?_;refine bD Z Z Z Z (zaV hT hse hb) ?_;rintro r5 K6 ⟨jl,rfl,rfl⟩;refine au 355280 ?_;refine bB hret [(0,_),(1,_),(s,_),(e,_)] ?_;exact ⟨by unfold statesApi; rw [if_neg (by simpa using hc0)]; rfl,rfl⟩
theorem zln {main T} (hT:zk tp main T) {gm} {b:Bk} {s e j:Nat} {n:Int} (hs:0<=b.steps/\b.steps<=16) :
  zh tp T gm 106 [.agg (zC b s e),.ptr j 0] [(j,.cells [intA n] 3 true)] (fun r K'=>r=zm (zJ b n)/\K'=[(j,.cells [intA n] 3 true)]):=by
 refine ze 7 hT Tryz.func106 fun Y hret=>?_;refine au 21042 ?_;intro jb hjb;refine au 6906804235 ?_;refine bD Z Z Z Z (kH hT (s:=s) (e:=e) hs) ?_;rintro r1 K2 ⟨rfl,rfl⟩;refine au 35 ?_;refine bB hret [(j,_)] ?_;exact ⟨rfl,rfl⟩
theorem uM {main:Bool} {T:Goroutine->Hp->Prop} (hT:zk tp main T)  {b:Bk} {s e:Nat} {n:Int} (hse:s≠e) (hn:∀ x∈b.seekers,x.name.size<=1000) (hl:b.seen.length<=1000) :
  zh tp T gmS 37 [.agg (zC b s e),intA n] [(0,zx),(1,zB),(s,zo b),(e,zp b)] (fun r K'=>r=.tup [intA (atApi b n).1,intA (atApi b n).2]/\K'=[(0,zx),(1,zB),(s,zo b),(e,zp b)]):=by
 refine ze 23 hT Tryz.func37 fun Y hret=>?_;refine au 21042 ?_;intro j1 hj1;refine au 210 ?_;intro j2 hj2;refine au 32068042355 ?_;refine bD Z Z Z Z (vk hT (b:=b) (s:=s) (e:=e) (t:=zJ b n) hse hn hl Z (fun hb=>yx Cal.h (zln hT (by have:=hb.steps; omega)))) ?_;rintro r3 K4 h5;rcases h5 with ⟨hb0,rfl,rfl⟩ | ⟨jl,jm,om,hb0,hom,rfl,rfl⟩
 ·refine au 220661 ?_;intro j6 hj6;refine au 937142235170 ?_;constructor<;>intro hc0
  ·
   refine au 355142 ?_;refine bB hret [(0,_),(1,_),(s,_),(e,_)] ?_;exact ⟨by unfold atApi; rw [if_pos hb0]; rfl,rfl⟩
  exact absurd (by simpa using hc0) hb0
 ·refine au 220661 ?_;intro j7 hj7;refine au 937142235170 ?_;constructor<;>intro hc0
  ·exact absurd hc0 dQ
  obtain ⟨hck,hth,hne⟩:=kN hb0;have hb:=yp hck;have hLo:=yJ hb;have hLn:=yE hb;refine au 69069067068042120 ?_;refine bH Z (vX Z Z Z Und.h Und.h InfO.h Z mQ hom) ?_;refine bD Z Z Z Z (zdf hT) ?_;rintro r8 K9 ⟨rfl,rfl⟩;refine au 355 ?_;refine bB hret [(0,_),(1,_),(s,_),(e,_)] ?_;exact ⟨by unfold atApi; rw [if_neg (by rw [hb0]; decide)]; rfl,rfl⟩
theorem zhq {main T} (hT:zk tp main T) {gm} {b:Bk} {s e j j2:Nat} {lo hi:Int} (hs:0<=b.steps/\b.steps<=16) :
  zh tp T gm 110 [.agg (zC b s e),.ptr j 0,.ptr j2 0] [(j,.cells [intA lo] 3 true),(j2,.cells [intA hi] 3 true)] (fun r K'=>r=zm (zJ b lo&&zJ b hi)/\K'=[(j,.cells [intA lo] 3 true),(j2,.cells [intA hi] 3 true)]):=by
 refine ze 13 hT Tryz.func110 fun Y hret=>?_;refine au 21042 ?_;intro jb hjb;refine au 6906804235 ?_;refine bD Z Z Z Z (kH hT (s:=s) (e:=e) hs) ?_;rintro r1 K2 ⟨rfl,rfl⟩;refine au 1 ?_;refine bF 8 (fun g1_4=>?_) (fun g1_4=>?_)
 ·refine au 690680 ?_;refine bD Z Z Z Z (kH hT (s:=s) (e:=e) hs) ?_;rintro r4 K5 ⟨rfl,rfl⟩;refine au 35260 ?_;refine bB hret [(j,_),(j2,_)] ?_;exact ⟨by unfold zJ; rw [g1_4]; rfl,rfl⟩
 refine au 35250888 ?_;refine bB hret [(j,_),(j2,_)] ?_;exact ⟨by unfold zJ; rw [g1_4]; rfl,rfl⟩
theorem wV {main:Bool} {T:Goroutine->Hp->Prop} (hT:zk tp main T)  {b:Bk} {s e:Nat} {lo hi:Int} (hse:s≠e) (hn:∀ x∈b.seekers,x.name.size<=1000) (hl:b.seen.length<=1000) :
  zh tp T gmS 40 [.agg (zC b s e),intA lo,intA hi] [(0,zx),(1,zB),(s,zo b),(e,zp b)] (fun r K'=>r=.tup [.agg [intA (withinApi b lo hi).1.1,intA (withinApi b lo hi).1.2],intA (withinApi b lo hi).2]/\K'=[(0,zx),(1,zB),(s,zo b),(e,zp b)]):=by
 refine ze 28 hT Tryz.func40 fun Y hret=>?_;refine au 21042 ?_;intro j1 hj1;refine au 210 ?_;intro j2 hj2;refine au 210 ?_;intro j3 hj3;refine au 220 ?_;intro j4 hj4;refine au 3206804235 ?_;refine bD Z Z Z Z (vk hT (b:=b) (s:=s) (e:=e) (t:=zJ b lo&&zJ b hi) hse hn hl Z (fun hb=>yx Cal.h (zhq hT (by have:=hb.steps; omega)))) ?_;rintro r5 K6 h7;rcases h7 with ⟨hb0,rfl,rfl⟩ | ⟨jl,jm,om,hb0,hom,rfl,rfl⟩
 ·refine au 220661 ?_;intro j8 hj8;refine au 937142235170 ?_;constructor<;>intro hc0
  ·
   refine au 35170139042 ?_;refine bB hret [(0,_),(1,_),(s,_),(e,_)] ?_;exact ⟨by unfold withinApi; rw [if_pos hb0]; rfl,rfl⟩
  exact absurd (by simpa using hc0) hb0
 ·refine au 220661 ?_;intro j9 hj9;refine au 937142235170 ?_;constructor<;>intro hc0
  ·exact absurd hc0 dQ
  obtain ⟨hck,hth,hne⟩:=kN hb0;have hb:=yp hck;have hLo:=yJ hb;have hLn:=yE hb;have hlo:(0<=lo/\lo<b.steps)/\(0<=hi/\hi<b.steps):=by simp only [zJ,mX,decide_eq_true_eq] at hth; omega
  refine au 2120 ?_;refine bL [0,1,2,3,4,5,6,7,8,9] ?_;refine ad [[12,8],[10,4],[3,8],[12,22],[10,4],[10,5]] ?_;refine bQ (pend':=[⟨2,[8],[]⟩,⟨1,[4],[(_,_)]⟩,⟨0,[8],[(_,_)]⟩]) [23,24,25] Z Z Z Z Z (zbd hT (s:=s) (e:=e) hb.steps hlo.1 hlo.2) (fun r10 K11 h12=>⟨?_,?_⟩)
  ·rcases h12 with ⟨rfl,rfl⟩
   all_goals simp
  obtain ⟨rfl,rfl⟩:=h12;try simp only [cA]
  refine bS tQ ?_;refine bQ (pend':=[⟨2,[8],[]⟩]) [20,21,26] Z Z Z Z Z (zd5 hT hb.steps hLo hLn hlo.1) (fun r13 K14 h15=>⟨?_,?_⟩)
  ·rcases h15 with ⟨rfl,rfl⟩
   all_goals simp
  obtain ⟨rfl,rfl⟩:=h15;try simp only [cA]
  refine bS tQ ?_;refine TD.s (pend':=[]) [6,27] Z Z (zq Z Z zd.h Z Z mQ Z) ?_;refine ad [[13],[14]] ?_;refine au 0 ?_;refine bB hret [(0,_),(1,_),(s,_),(e,_)] ?_;exact ⟨by unfold withinApi; rw [if_neg (by rw [hb0]; decide)]; rfl,rfl⟩
theorem ziY {main T} (hT:zk tp main T) {gm} {b:Bk} {s e j:Nat} {n:Int} (hs:b.seekers.length<=1000) :
  zh tp T gm 116 [.agg (zC b s e),.ptr j 0] [(j,.cells [intA n] 3 true)] (fun r K'=>r=zm (isSeekerM b n)/\K'=[(j,.cells [intA n] 3 true)]):=by
 refine ze 7 hT Tryz.func116 fun Y hret=>?_;refine au 21042 ?_;intro jb hjb;refine au 6906804235 ?_;refine bD Z Z Z Z (uv hT (s:=s) (e:=e) hs) ?_;rintro r1 K2 ⟨rfl,rfl⟩;refine au 35 ?_;refine bB hret [(j,_)] ?_;exact ⟨rfl,rfl⟩
theorem kX {main:Bool} {T:Goroutine->Hp->Prop} (hT:zk tp main T)  {b:Bk} {s e:Nat} {n:Int} (hse:s≠e) (hn:∀ x∈b.seekers,x.name.size<=1000) (hl:b.seen.length<=1000) :
  zh tp T gmS 42 [.agg (zC b s e),intA n] [(0,zx),(1,zB),(s,zo b),(e,zp b)] (fun r K'=>r=.tup [intA (wrongApi b n).1,intA (wrongApi b n).2]/\K'=[(0,zx),(1,zB),(s,zo b),(e,zp b)]):=by
 refine ze 26 hT Tryz.func42 fun Y hret=>?_;refine au 21042 ?_;intro j1 hj1;refine au 210 ?_;intro j2 hj2;refine au 32068042355 ?_;refine bD Z Z Z Z (vk hT (b:=b) (s:=s) (e:=e) (t:=isSeekerM b n) hse hn hl Z (fun hb=>yx Cal.h (ziY hT (by have:=hb.ns; omega)))) ?_;rintro r3 K4 h5;rcases h5 with ⟨hb0,rfl,rfl⟩ | ⟨jl,jm,om,hb0,hom,rfl,rfl⟩
 ·refine au 220661 ?_;intro j6 hj6;refine au 937142235170 ?_;constructor<;>intro hc0
  ·
   refine au 355142 ?_;refine bB hret [(0,_),(1,_),(s,_),(e,_)] ?_;exact ⟨by unfold wrongApi; rw [if_pos hb0]; rfl,rfl⟩
  exact absurd (by simpa using hc0) hb0
 ·refine au 220661 ?_;intro j7 hj7;refine au 937142235170 ?_;constructor<;>intro hc0
  ·exact absurd hc0 dQ
  obtain ⟨hck,hth,hne⟩:=kN hb0;have hb:=yp hck;have hLo:=yJ hb;have hLn:=yE hb;obtain ⟨k,rfl⟩:∃ k:Nat,n=k:=⟨n.toNat,by simp only [isSeekerM,mX,decide_eq_true_eq] at hth; omega⟩;have hk:k<b.seekers.length:=by simp only [isSeekerM,mX,decide_eq_true_eq] at hth; omega
  have hrl:=zah b (zb b) k;refine au 2120 ?_;refine bL [0,1,2,3,4,5,6,7,8,9,10] ?_;refine ad [[12,6],[3,6],[10,18]] ?_;refine TD.z [19] Z (q_len Z Z Z Und.h) ?_;refine ad [[12,6],[10,3]] ?_;refine bQ (pend':=[⟨3,[19],[]⟩,⟨2,[18],[(_,_)]⟩,⟨1,[6],[]⟩,⟨0,[6],[(_,_)]⟩]) [21,22] Z Z Z Z Z (zdV hT hb hLo hLn hk) (fun r8 K9 h10=>⟨?_,?_⟩)
  ·rcases h10 with ⟨rfl,rfl⟩
   all_goals simp
  obtain ⟨rfl,rfl⟩:=h10;try simp only [cA]
  refine bS tQ ?_;refine ad [[9,20,23]] ?_;refine bQ (pend':=[⟨3,[19],[]⟩,⟨2,[18],[(_,_)]⟩,⟨1,[6],[]⟩]) [17,24] Z Z Z Z Z (zdf hT) (fun r11 K12 h13=>⟨?_,?_⟩)
  ·rcases h13 with ⟨rfl,rfl⟩
   all_goals simp
  obtain ⟨rfl,rfl⟩:=h13;try simp only [cA]
  refine bS tQ ?_;refine ad [[13,25],[13],[14]] ?_;refine au 0 ?_;refine bB hret [(0,_),(1,_),(s,_),(e,_)] ?_;exact ⟨by unfold wrongApi; rw [if_neg (show ¬ (askM b (isSeekerM b (k:Int))≠0) by rw [hb0]; decide)]; rfl,rfl⟩
theorem zfX {main:Bool} {T:Goroutine->Hp->Prop} (hT:zk tp main T)  {b:Bk} {s e:Nat} (hse:s≠e) (hn:∀ x∈b.seekers,x.name.size<=1000) (hl:b.seen.length<=1000) :
  zh tp T gmS 39 [.agg (zC b s e)] [(0,zx),(1,zB),(s,zo b),(e,zp b)] (fun r K'=>(askM b true≠0/\r=.tup [.v (.slice none 0 0),.v (.slice none 0 0),intA (askM b true)]/\K'=[(0,zx),(1,zB),(s,zo b),(e,zp b)])\/(askM b true=0/\∃ j1 j2,r=.tup [.row j1 (pickL b 1 b.steps.toNat).length,.row j2 (pickL b 0 b.steps.toNat).length,intA 0]/\K'=[(0,zx),(1,zB),(s,zo b),(e,zp b),(j1,.row ((pickL b 1 b.steps.toNat).map intA) 3 1),(j2,.row ((pickL b 0 b.steps.toNat).map intA) 3 1)])):=by
 refine ze 41 hT Tryz.func39 fun Y hret=>?_;refine au 21042 ?_;intro jb hjb;refine au 555 ?_;refine TK.virt 2 3 1 Z fun j01 hj01=>?_;refine TK.virt 3 3 1 Z fun j02 hj02=>?_;refine au 680423 ?_;refine bD Z Z Z Z (vk hT (b:=b) (s:=s) (e:=e) (t:=true) hse hn hl Z (fun hb=>yx Cal.h (wA hT))) ?_;rintro r1 K2 h3;rcases h3 with ⟨hb0,rfl,rfl⟩ | ⟨jl,jm,om,hb0,hom,rfl,rfl⟩
 ·refine au 220661 ?_;intro jx hjx;refine au 937142235170 ?_;constructor<;>intro hc0
  ·
   refine au 3555142 ?_;refine bB hret [(0,_),(1,_),(s,_),(e,_)] ?_;exact .inl ⟨hb0,rfl,rfl⟩
  exact absurd (by simpa using hc0) hb0
 ·refine au 220661 ?_;intro jx hjx;refine au 937142235170 ?_;constructor<;>intro hc0
  ·exact absurd hc0 dQ
  obtain ⟨hck,hth,hne⟩:=kN hb0;have hb:=yp hck;have hLo:=yJ hb;have hLn:=yE hb;refine au 13031690670422120 ?_;refine bA [1,2,3,5,16,17] ?_;refine bC [(jx,_),(jm,_),(jl,_),(jb,_),(0,_),(1,_),(s,_),(e,_),(j01,_),(j02,_)] ?_;refine bE (fun n env K=>∃ (i j1 j2:Nat),n=b.steps.toNat - i/\i<=b.steps.toNat/\env=zW 41 [(1,.ptr jb 0),(2,.row j1 (pickL b 1 i).length),(3,.row j2 (pickL b 0 i).length),(5,.ptr jx 0),(16,intA b.steps),(17,intA i)]/\K=[(jx,.cells (knownC b s e (.sl jl 0 (zb b).length) jm) 219 true),(jm,.raw om),(jl,listO (zb b)),(jb,.cells (zC b s e) 27 true),(0,zx),(1,zB),(s,zo b),(e,zp b),(j1,.row ((pickL b 1 i).map intA) 3 1),(j2,.row ((pickL b 0 i).map intA) 3 1)]) b.steps.toNat ⟨0,j01,j02,rfl,mN _,rfl,rfl⟩ fun n env K hI' hnext=>?_;obtain ⟨i,j1,j2,rfl,hi,rfl,rfl⟩:=hI';refine au 923742 ?_;constructor<;>intro hc1
  ·simp only [decide_eq_true_eq] at hc1;have hst16:=hb.steps;have hp1:=zdP b 1 i;have hp2:=zdP b 0 i;refine au 169067068042351421302120 ?_;refine bH Z (vX Z Z Z Und.h Und.h InfO.h Z mQ hom) ?_;refine bD Z Z Z Z (zdf hT) ?_;rintro r4 K5 ⟨rfl,rfl⟩;refine au 9357421303 ?_;constructor<;>intro hc2
   ·refine au 114 ?_;refine bI Z Z Z (zS (l:=[_]) Z SlEl.h TyZ.h dQ dQ Z) (fun _=>zz rfl tQ) fun j7 hj7=>?_;refine bO Z Z Z (a_app Z ApOf.h Z mQ (by simp <;> omega) Z (kC (ln:=[_]) mQ dQ sQ Z) oQ Z (by unfold maxLen; omega) oQ) (fun _=>uQ) (fun _=>zz rfl tQ) fun j3=>?_;refine au 31230414014035 ?_;refine bA [1,2,3,5,16,17] ?_;refine bC [(jx,_),(jm,_),(jl,_),(jb,_),(0,_),(1,_),(s,_),(e,_),(j3,_),(j2,_)] ?_;exact hnext _ _ _ oQ ⟨i+1,j3,j2,rfl,oQ,by rw [za8 hc2,wH (w:=0) (by rw [beq_iff_eq.1 hc2]; rfl),lF]; rfl,by rw [za8 hc2,wH (w:=0) (by rw [beq_iff_eq.1 hc2]; rfl),lM]; rfl⟩
   refine au 935742 ?_;constructor<;>intro hc3
   ·refine au 114 ?_;refine bI Z Z Z (zS (l:=[_]) Z SlEl.h TyZ.h dQ dQ Z) (fun _=>zz rfl tQ) fun j8 hj8=>?_;refine bO Z Z Z (a_app Z ApOf.h Z mQ (by simp <;> omega) Z (kC (ln:=[_]) mQ dQ sQ Z) oQ Z (by unfold maxLen; omega) oQ) (fun _=>uQ) (fun _=>zz rfl tQ) fun j3=>?_;refine au 31230414014035 ?_;refine bA [1,2,3,5,16,17] ?_;refine bC [(jx,_),(jm,_),(jl,_),(jb,_),(0,_),(1,_),(s,_),(e,_),(j1,_),(j3,_)] ?_;exact hnext _ _ _ oQ ⟨i+1,j1,j3,rfl,oQ,by rw [wH hc2,za8 (w:=0) hc3,lF]; rfl,by rw [wH hc2,za8 (w:=0) hc3,lM]; rfl⟩
   refine au 312304140140120 ?_;refine bA [1,2,3,5,16,17] ?_;refine bC [(jx,_),(jm,_),(jl,_),(jb,_),(0,_),(1,_),(s,_),(e,_),(j1,_),(j2,_)] ?_;exact hnext _ _ _ oQ ⟨i+1,j1,j2,rfl,oQ,by rw [wH hc2,wH (w:=0) hc3] <;> rfl,by rw [wH hc2,wH (w:=0) hc3] <;> rfl⟩
  simp only [decide_eq_false_iff_not] at hc1;obtain rfl:i=b.steps.toNat:=by omega
  refine au 35551142160 ?_;refine bB hret [(0,_),(1,_),(s,_),(e,_),(j1,_),(j2,_)] ?_;exact .inr ⟨hb0,j1,j2,rfl,rfl⟩
theorem CallFK.frame {P:Program} {T:Goroutine->Hp->Prop} {gm:Nat->Option Nat} {yv:AV} {args:List AV} {K Kf R:KV} {x:AV} (hs:Split K Kf R) (h:CallFK P T gm yv args Kf fun r K'=>r=x/\K'=Kf):CallFK P T gm yv args K fun r K'=>r=x/\K'=K:=by
 intro A hv hn;obtain ⟨hv',hn'⟩:=hs.view hv hn;refine (h A hv' hn').mono fun r A' ⟨K',hk,hr,he⟩=>⟨K,?_,hr,rfl⟩;subst he;exact (hk.frame hs hv hn).perm hs.perm.symm
def maxM (a b:Int):Int:=if a<b then b else a
def halvesM (len:Int) (p:Nat->Bool) (f:Nat->Int):Nat->Int×Int
 | 0=>(-1,len)
 | k+1=>if (p k&&decide (maxM (f k) (len - f k)<(halvesM len p f k).2))=true then (k,maxM (f k) (len - f k)) else halvesM len p f k
def glassB (b:Bk) (k:Nat):Bool:=match b.seekers[k]? with | some x=>x.glass | none=>false
theorem zjk {α:Type} (f:α->List AV) (c:Nat) (hc:∀ x,(f x).length=c) (xs:List α) (i:Nat) (h:i<xs.length) (d n:Nat) (hd:d+n<=c):((xs.flatMap f).drop (i*c+d)).take n=((f xs[i]).drop d).take n:=by
 have hY:=kE f c hc xs i h;rw [<- List.drop_drop,List.take_drop,show ((xs.flatMap f).drop (i*c)).take (d+n)=(((xs.flatMap f).drop (i*c)).take c).take (d+n) by rw [List.take_take,Nat.min_eq_left hd],hY,<- List.take_drop]
theorem zcG {b:Bk} {k:Nat} (h:k<b.seekers.length):z8 (zo b) (0+(k:Int).toNat*5+4) 1=some [zm (glassB b k)]:=by
 have hle:(k+1)*5<=b.seekers.length*5:=Nat.mul_le_mul_right _ h;have hl:=yr saysC 5 (fun _=>rfl) b.seekers;simp only [z8,AObj.look,zo,mZ,mO];rw [if_pos ⟨by omega,oQ⟩,zjk saysC 5 (fun _=>rfl) _ k h 4 1 oQ];unfold glassB;rw [lA h];rfl
def askApi (b:Bk):Int×Int×Int:=if askM b true≠0 then (0,0,askM b true) else ((halvesM (zb b).length (fun k=>zJ b k) (fun k=>oftM (zb b) k) b.steps.toNat).1,(halvesM (zb b).length (fun k=>zJ b k) (fun k=>oftM (zb b) k) b.steps.toNat).2,0)
def lendApi (b:Bk):Int×Int×Int:=if askM b true≠0 then (0,0,askM b true) else ((halvesM (zb b).length (fun k => !glassB b k) (fun k=>rightsM b (zb b) k) b.seekers.length).1,(halvesM (zb b).length (fun k => !glassB b k) (fun k=>rightsM b (zb b) k) b.seekers.length).2,0)
theorem zdB {main T} (hT:zk tp main T) {gm} {b:Bk} {s e jl m:Nat} {Ls:List (List Int)} {N:Nat} {av sv:AV} {p:Nat->Bool} {f:Nat->Int} {Kt:KV} (hLn:Ls.length<=65536) (hN:N<=1000) (hp:∀ k,k<N->CallFK tp T gm av [intA k] Kt (fun r K'=>r=zm (p k)/\K'=Kt)) (hf:∀ k,k<N->CallFK tp T gm sv [intA k] Kt (fun r K'=>r=intA (f k)/\K'=Kt)) (hfb:∀ k,k<N->0<=f k/\f k<=1000000) :
  zh tp T gm 126 [.agg (knownC b s e (.sl jl 0 Ls.length) m),intA N,av,sv] Kt (fun r K'=>r=.tup [intA (halvesM Ls.length p f N).1,intA (halvesM Ls.length p f N).2]/\K'=Kt):=by
 refine ze 47 hT Tryz.func126 fun Y hret=>?_;refine au 21042 ?_;intro jx hjx;refine au 2355 ?_;refine bL [0,1,2,3,4] ?_;refine ad [[3,4],[10,12]] ?_;refine TD.z [13] Z (q_len Z Z Z Und.h) ?_;refine TD.as (pend':=[⟨2,[13],[]⟩,⟨1,[12],[(_,_)]⟩,⟨0,[4],[]⟩]) [] Z Z (zF Z Z) ?_;refine ad [[13,14],[14]] ?_;refine au 130311422 ?_;refine bA [2,3,4,8,9,15,16] ?_;refine bE (fun n env K=>∃ (i:Nat),n=N - i/\i<=N/\env=zW 47 [(2,av),(3,sv),(4,.ptr jx 0),(8,intA (halvesM Ls.length p f i).1),(9,intA (halvesM Ls.length p f i).2),(15,intA N),(16,intA i)]/\K=(jx,.cells (knownC b s e (.sl jl 0 Ls.length) m) 219 true)::Kt) N ⟨0,rfl,mN _,rfl,rfl⟩ fun n env K hI' hnext=>?_;obtain ⟨i,rfl,hi,rfl,rfl⟩:=hI';refine au 923742 ?_;refine ⟨fun hc=>?_,fun hc=>?_⟩
 ·simp only [decide_eq_true_eq] at hc;have hil:i<N:=by omega
  have hfi:=hfb i hil;refine au 1142351421302120 ?_;refine TK.callF' Z Z Z Z Z (hf i hil) (.right (.all _)) fun r1 K2 h3=>?_;obtain ⟨rfl,hK⟩:=h3;refine au 0 ?_;rw [hK];refine bN (K':=(jx,.cells (knownC b s e (.sl jl 0 Ls.length) m) 219 true)::Kt) (List.perm_append_singleton _ Kt) ?_;refine au 114235 ?_;refine TK.callF' Z Z Z Z Z (hp i hil) (.right (.all _)) fun r4 K5 h6=>?_;obtain ⟨rfl,hK2⟩:=h6;refine au 0 ?_;rw [hK2];refine bN (K':=(jx,.cells (knownC b s e (.sl jl 0 Ls.length) m) 219 true)::Kt) (List.perm_append_singleton _ Kt) ?_;refine au 1 ?_;refine bF 25 (fun g6_4=>?_) (fun g6_4=>?_)
  ·refine au 24012806906701 ?_;refine bH Z (q_max Z Z Z) ?_;refine au 9326071 ?_;constructor<;>intro hc1
   ·refine bL [0,1,2,3,4,5,6,7,8,9] ?_;refine ad [[1,10],[1,11],[3,4],[10,38]] ?_;refine TD.z [39] Z (q_len Z Z Z Und.h) ?_;refine ad [[1,11],[9,40,41]] ?_;refine TD.z [37,42] Z (q_max Z Z Z) ?_;refine TD.as (pend':=[⟨7,[37,42],[]⟩,⟨6,[40,41],[]⟩,⟨5,[11],[]⟩,⟨4,[39],[]⟩,⟨3,[38],[(_,_)]⟩,⟨2,[4],[]⟩,⟨1,[11],[]⟩]) [36] Z Z (zF Z Z) ?_;refine ad [[13,43],[14]] ?_;refine au 312304140 ?_;refine bA [2,3,4,8,9,15,16] ?_;have hst:halvesM Ls.length p f (i+1)=((i:Int),maxM (f i) (Ls.length - f i)):=if_pos (by rw [g6_4]; exact hc1);exact hnext _ _ _ oQ ⟨i+1,rfl,oQ,by rw [hst]; rfl,rfl⟩
   refine au 312304140120 ?_;refine bA [2,3,4,8,9,15,16] ?_;have hst:halvesM Ls.length p f (i+1)=halvesM Ls.length p f i:=if_neg (by rw [g6_4]; exact fun h=>absurd (hc1.symm.trans h) dQ);exact hnext _ _ _ oQ ⟨i+1,rfl,oQ,by rw [hst] <;> rfl,rfl⟩
  refine au 3123041401201903250888888888 ?_;refine bA [2,3,4,8,9,15,16] ?_;have hst:halvesM Ls.length p f (i+1)=halvesM Ls.length p f i:=if_neg (by rw [g6_4]; simp);exact hnext _ _ _ oQ ⟨i+1,rfl,oQ,by rw [hst] <;> rfl,rfl⟩
 simp only [decide_eq_false_iff_not] at hc;obtain rfl:i=N:=by omega
 refine au 3551142160 ?_;refine bB hret (Kt) ?_ (hs:=(.right (.all _)));exact ⟨rfl,rfl⟩
theorem zkl {main T} (hT:zk tp main T) {gm} {b:Bk} {s e jl m:Nat} {Ls:List (List Int)} {jx:Nat} {om:Obj} {f:Int->Int} {n:Int} (hom:MapOk om f) :
  zh tp T gm 127 [intA n,.ptr jx 0] [(jx,.cells (knownC b s e (.sl jl 0 Ls.length) m) 219 true),(m,.raw om)] (fun r K'=>r=intA (f n)/\K'=[(jx,.cells (knownC b s e (.sl jl 0 Ls.length) m) 219 true),(m,.raw om)]):=by
 refine ze 8 hT Tryz.func127 fun Y hret=>?_;refine au 1690670423542 ?_;refine bH Z (vX Z Z Z Und.h Und.h InfO.h Z mQ hom) ?_;refine au 35 ?_;refine bB hret [(jx,_),(m,_)] ?_;exact ⟨rfl,rfl⟩
theorem zjB {main T} (hT:zk tp main T) {gm} {b:Bk} {s e jb:Nat} {k:Nat} (hk:k<b.seekers.length) :
  zh tp T gm 128 [intA k,.ptr jb 0] [(jb,.cells (zC b s e) 27 true),(s,zo b)] (fun r K'=>r=zm (!glassB b k)/\K'=[(jb,.cells (zC b s e) 27 true),(s,zo b)]):=by
 refine ze 11 hT Tryz.func128 fun Y hret=>?_;refine au 6703601690670423542 ?_;refine bH Z (zl Z Z zd.h mQ (zcG hk)) ?_;refine au 35300 ?_;refine bB hret [(jb,_),(s,_)] ?_;exact ⟨rfl,rfl⟩
theorem zhu {main:Bool} {T:Goroutine->Hp->Prop} (hT:zk tp main T)  {b:Bk} {s e:Nat} (hse:s≠e) (hn:∀ x∈b.seekers,x.name.size<=1000) (hl:b.seen.length<=1000) :
  zh tp T gmS 46 [.agg (zC b s e)] [(0,zx),(1,zB),(s,zo b),(e,zp b)] (fun r K'=>r=.tup [intA (askApi b).1,intA (askApi b).2.1,intA (askApi b).2.2]/\K'=[(0,zx),(1,zB),(s,zo b),(e,zp b)]):=by
 refine ze 27 hT Tryz.func46 fun Y hret=>?_;refine au 21042 ?_;intro j1 hj1;refine au 680423555 ?_;refine bD Z Z Z Z (vk hT (b:=b) (s:=s) (e:=e) (t:=true) hse hn hl Z (fun hb=>yx Cal.h (wA hT))) ?_;rintro r2 K3 h4;rcases h4 with ⟨hb0,rfl,rfl⟩ | ⟨jl,jm,om,hb0,hom,rfl,rfl⟩
 ·refine au 220661 ?_;intro jx hjx;refine au 937142235170 ?_;constructor<;>intro hc0
  ·
   refine au 3555142 ?_;refine bB hret [(0,_),(1,_),(s,_),(e,_)] ?_;exact ⟨by unfold askApi; rw [if_pos hb0]; rfl,rfl⟩
  exact absurd (by simpa using hc0) hb0
 ·refine au 220661 ?_;intro jx hjx;refine au 937142235170 ?_;constructor<;>intro hc0
  ·exact absurd hc0 dQ
  obtain ⟨hck,hth,hne⟩:=kN hb0;have hb:=yp hck;have hLo:=yJ hb;have hLn:=yE hb;refine au 32032068067069067068042120 ?_;rw [show b.steps=((b.steps.toNat:Nat):Int) by have:=hb.steps; omega];refine bD Z Z Z Z (zdB hT (b:=b) (s:=s) (e:=e) (N:=b.steps.toNat) (p:=fun k=>zJ b k) (f:=fun k=>oftM (zb b) k) (Kt:=[(jx,.cells (knownC b s e (.sl jl 0 (zb b).length) jm) 219 true),(jm,.raw om)]) hLn (by have:=hb.steps; omega) (fun k _=>CallFK.frame (.none _) (yx Cal.h (kH hT (by have:=hb.steps; omega)))) (fun k _=>yx Cal.h (zkl hT hom)) (fun k _=>by have:=zlK hb k; omega)) ?_;rintro r5 K6 ⟨rfl,rfl⟩;refine au 35551142355661 ?_;refine bB hret [(0,_),(1,_),(s,_),(e,_)] ?_;exact ⟨by unfold askApi; rw [if_neg (show ¬ (askM b true≠0) by rw [hb0]; decide)]; rfl,rfl⟩
theorem zgT {main:Bool} {T:Goroutine->Hp->Prop} (hT:zk tp main T)  {b:Bk} {s e:Nat} (hse:s≠e) (hn:∀ x∈b.seekers,x.name.size<=1000) (hl:b.seen.length<=1000) :
  zh tp T gmS 47 [.agg (zC b s e)] [(0,zx),(1,zB),(s,zo b),(e,zp b)] (fun r K'=>r=.tup [intA (lendApi b).1,intA (lendApi b).2.1,intA (lendApi b).2.2]/\K'=[(0,zx),(1,zB),(s,zo b),(e,zp b)]):=by
 refine ze 27 hT Tryz.func47 fun Y hret=>?_;refine au 21042 ?_;intro jb hjb;refine au 680423555 ?_;refine bD Z Z Z Z (vk hT (b:=b) (s:=s) (e:=e) (t:=true) hse hn hl Z (fun hb=>yx Cal.h (wA hT))) ?_;rintro r1 K2 h3;rcases h3 with ⟨hb0,rfl,rfl⟩ | ⟨jl,jm,om,hb0,hom,rfl,rfl⟩
 ·refine au 220661 ?_;intro jx hjx;refine au 937142235170 ?_;constructor<;>intro hc0
  ·
   refine au 3555142 ?_;refine bB hret [(0,_),(1,_),(s,_),(e,_)] ?_;exact ⟨by unfold lendApi; rw [if_pos hb0]; rfl,rfl⟩
  exact absurd (by simpa using hc0) hb0
 ·refine au 220661 ?_;intro jx hjx;refine au 937142235170 ?_;constructor<;>intro hc0
  ·exact absurd hc0 dQ
  obtain ⟨hck,hth,hne⟩:=kN hb0;have hb:=yp hck;have hLo:=yJ hb;have hLn:=yE hb;refine au 32068032028069067068042120 ?_;refine bD Z Z Z Z (zdB hT (b:=b) (s:=s) (e:=e) (N:=b.seekers.length) (p:=fun k => !glassB b k) (f:=fun k=>rightsM b (zb b) k) (Kt:=[(jb,.cells (zC b s e) 27 true),(1,zB),(s,zo b),(jl,listO (zb b))]) hLn (by have:=hb.ns; omega) (fun k hk=>CallFK.frame (by repeat (first | exact Split.none _ | exact Split.all _ | (apply Split.rem; repeat (first | exact Rem.head | apply Rem.tail)) | apply Split.right)) (yx Cal.h (zjB hT hk))) (fun k hk=>CallFK.frame (by repeat (first | exact Split.none _ | exact Split.all _ | (apply Split.rem; repeat (first | exact Rem.head | apply Rem.tail)) | apply Split.right)) (yx Cal.h (zdV hT hb hLo hLn hk))) (fun k _=>by have:=zah b (zb b) k; omega)) ?_;rintro r4 K5 ⟨rfl,rfl⟩;refine au 35551142355661 ?_;refine bB hret [(0,_),(1,_),(s,_),(e,_)] ?_;exact ⟨by unfold lendApi; rw [if_neg (show ¬ (askM b true≠0) by rw [hb0]; decide)]; rfl,rfl⟩
section
variable {P:Program} {gm:Nat->Option Nat} {T:Goroutine->Hp->Prop} {Y:KX P gm T} {ds:List Nat} {k:List Item} {env env':List AV} {K K' K1:KV} {ops:Array Oper} {i:Nat} {rest:List Nat} {o:Oper} {envf:Nat->List AV}
theorem Upd.same' {K K':KV} {i j:Nat} {o o':AObj} (h:Upd K i o j o' K'):i=j->o'=o->K'=K:=by
 induction h with
 | head=>intro hj e; rw [e,hj]
 | tail _ ih=>intro hj e; rw [ih hj e]
theorem Upd.same {K K':KV} {i:Nat} {o o':AObj} (h:Upd K i o i o' K') (e:o'=o):K'=K:=h.same' rfl e
theorem TK.appG {s x:Operand} {t e:TypeId} {size bytes j n m:Nat} {lo ln:List AV} {u:AV} {K'':Nat->KV} (ho:ops[i]? =some o) (hw:yb ops env o=some true) (hop:o.op=.call { callee:=.builtin .append,args:=#[s,x],argTypes:=#[t,t] }) (ht:apOf P t=some (e,size,bytes)) (hs:zw gm env s=some (.row j n)) (hm:(j,.row lo e size)∈K) (hlo:lo.length=n*size) (hx:zw gm env x=some u) (hl:lenA u=some m) (hsrc:0<m->srcO K size u m ln) (hln:m=0->ln=[])
  (hone:ln.all oneA=true) (hmax:n+m<=maxLen) (hbytes:(n+m)*bytes<=140737488355328) (hu:∀ j',Upd K j (.row lo e size) j' (.row (lo++ln) e size) (K'' j')) (he:∀ j',putA env o.dst (.row j' (n+m))=envf j') (h:∀ j',TK Y ds (.inRegion ops rest::k) (envf j') (K'' j')):TK Y ds (.inRegion ops (i::rest)::k) env K:=by
 rcases mP m with e0 | hpos
 ·subst e0;have hk:K'' j=K:=(hu j).same (by rw [hln rfl,lR]);have ht':=ht;unfold apOf at ht';split at ht'
  ·rename_i e' h1;split at ht'
   ·rename_i ti h2;refine TK.q (r:=.row j n) ho (by rw [hop]; rfl) hw (zil hop h1 h2 hs hx hl) (he j) ?_;rw [<- hk]; exact h j
   ·cases ht'
  ·cases ht'
 ·exact bO ho (by rw [hop]; rfl) hw (a_app hop ht hs hm hlo hx (hsrc hpos) hpos hone hmax hbytes) hu he h
theorem TK.normK (he:K=K') (h:TK Y ds k env K'):TK Y ds k env K:=he ▸ h
theorem TK.nd (h:(keys K).Nodup->TK Y ds k env K):TK Y ds k env K:=fun A hA=>h hA.nd A hA
theorem TK.freezeBk (d:Nat) {a b c f:Value} {j1 n1 j2 n2:Nat} {l1 l2:List AV} {e1 s1 e2 s2:Nat} (hd:env[d]? =some (.agg [.v a,.v b,.v c,.v f,.row j1 n1,.row j2 n2])) (hu1:Upd K j1 (.row l1 e1 s1) j1 (.cells l1 e1 false) K1) (hu2:Upd K1 j2 (.row l2 e2 s2) j2 (.cells l2 e2 false) K') (he:env.set d (.agg [.v a,.v b,.v c,.v f,.sl j1 0 n1,.sl j2 0 n2])=env') (h:TK Y ds k env' K'):TK Y ds k env K:=by
 have hlt:d<env.length:=(lD.1 hd).1;refine TK.freeze d hd hu1 Z ?_;refine TK.freeze d (List.getElem?_set_self hlt) hu2 (env':=env') ?_ h;rw [<- he,List.set_set];congr 1;by_cases h:j2=j1
 ·subst h; simp [unrow1,unrow]
 ·simp [unrow1,unrow,h]
end
theorem uq {l:List AV} {e:TypeId} {rw':Bool} {n size:Nat} (hl:l.length=n*size) (h:0<n*size):z8 (.cells l e rw') 0 (n*size)=some l:=by
 simp only [z8,AObj.look,mO,List.drop_zero];rw [if_pos ⟨h,oQ⟩,<- hl,lW]
theorem zeC {α:Type} (f:α->List AV) (h:∀ x,(f x).all oneA=true) (xs:List α):(xs.flatMap f).all oneA=true:=by
 induction xs with
 | nil=>rfl
 | cons x xs ih=>rw [List.flatMap_cons,List.all_append,h,ih]; rfl
def ownC (b:Bk) (j1 j2:Nat):List AV:=[intA b.steps,intA b.wrong,intA b.low,intA b.high,.row j1 b.seekers.length,.row j2 b.seen.length]
def hearB (b:Bk) (x:Says):Bk:={ b with seekers:=b.seekers++[x] }
def lookB (b:Bk) (x:Seen):Bk:={ b with seen:=b.seen++[x] }
def giveB (b:Bk) (k:Nat):Bk:={ b with seekers:=b.seekers.modify k fun x=>{ x with glass:=true } }
theorem zdY:∀ (xs:List Says) (k:Nat),k<xs.length->(xs.flatMap saysC).set (k*5+4) (zm true)=(xs.modify k fun x=>{ x with glass:=true }).flatMap saysC
 | x::xs,0,_=>rfl
 | x::xs,k+1,h=>by
  rw [List.modify_succ_cons,List.flatMap_cons,List.flatMap_cons,<- zdY xs k (by simpa using h),show (k+1)*5+4=(k*5+4)+5 by omega];rfl
theorem zij {b:Bk} {k:Nat} (hk:k<b.seekers.length):putO (.row (b.seekers.flatMap saysC) 114 5) ((k:Int).toNat*5+4) [zm true]=some (.row ((giveB b k).seekers.flatMap saysC) 114 5):=by
 have hl:=yr saysC 5 (fun _=>rfl) b.seekers;have hle:(k+1)*5<=b.seekers.length*5:=Nat.mul_le_mul_right _ hk;unfold putO;dsimp only;rw [if_pos ⟨by rw [hl]; simp; omega,by simp,rfl⟩];show some (AObj.row ((b.seekers.flatMap saysC).set ((k:Int).toNat*5+4) (zm true)) _ _)=_;rw [mZ,zdY _ _ hk]; rfl
def newsM (b o:Bk):Int:=if checkM b≠0 then checkM b else askM o true
def giveM (b:Bk) (k:Int):Int:=if checkM b≠0 then checkM b else if isSeekerM b k=false then 6 else if glassB b k.toNat=true then 5 else askM (giveB b k.toNat) true
theorem zeJ (b:Bk) (x:Says):(hearB b x).seekers.flatMap saysC=b.seekers.flatMap saysC++saysC x:=by simp [hearB]
theorem zh0 (b:Bk) (x:Seen):(lookB b x).seen.flatMap seenC=b.seen.flatMap seenC++seenC x:=by simp [lookB]
theorem zjt (b:Bk) (x:Says):b.seekers.length+1=(hearB b x).seekers.length:=by simp [hearB]
theorem zjF (b:Bk) (x:Seen):b.seen.length+1=(lookB b x).seen.length:=by simp [lookB]
theorem zjn (b:Bk) (k:Nat):b.seekers.length=(giveB b k).seekers.length:=by simp [giveB]
theorem zgJ {b:Bk} {k:Nat} (hn:∀ x∈b.seekers,x.name.size<=1000):∀ x∈(giveB b k).seekers,x.name.size<=1000:=fun x hx=>by
 obtain ⟨i,hi⟩:=List.mem_iff_getElem?.1 hx;unfold giveB at hi;simp only [List.getElem?_modify] at hi;cases e:b.seekers[i]? with
 | none=>rw [e] at hi; cases hi
 | some y =>
  rw [e] at hi;have hy:=hn y (lN e);simp only [Option.map_eq_map,Option.map_some,Option.some.injEq] at hi;subst hi;split <;> exact hy
theorem zgO {b:Bk} {x:Says} (hn:∀ x∈b.seekers,x.name.size<=1000) (hx:x.name.size<=1000):∀ y∈(hearB b x).seekers,y.name.size<=1000:=fun y hy=>by
 rcases lT.1 hy with h | h
 ·exact hn y h
 ·rw [lS.1 h]; exact hx
theorem zau {main:Bool} {T:Goroutine->Hp->Prop} (hT:zk tp main T)  {b:Bk} {s e:Nat} (hse:s≠e) (hn:∀ x∈b.seekers,x.name.size<=1000) (hl:b.seen.length<=1000) :
  zh tp T gmS 130 [.agg (zC b s e)] [(0,zx),(1,zB),(s,zo b),(e,zp b)] (fun r K'=>((askM b true≠0/\r=.tup [.agg zeroBk,intA (askM b true)])\/(askM b true=0/\r=.tup [.agg (zC b s e),intA 0]))/\K'=[(0,zx),(1,zB),(s,zo b),(e,zp b)]):=by
 refine ze 16 hT Tryz.func130 fun Y hret=>?_;refine au 21042 ?_;intro j1 hj1;refine au 220 ?_;intro j2 hj2;refine au 68042235 ?_;refine bD Z Z Z Z (vk hT (b:=b) (s:=s) (e:=e) (t:=true) hse hn hl Z (fun hb=>yx Cal.h (wA hT))) ?_;rintro r3 K4 h5;rcases h5 with ⟨hb0,rfl,rfl⟩ | ⟨jl,jm,om,hb0,hom,rfl,rfl⟩
 ·refine au 220661 ?_;intro j6 hj6;refine au 93714235170 ?_;constructor<;>intro hc0
  ·
   refine au 35170143042 ?_;refine bB hret [(0,_),(1,_),(s,_),(e,_)] ?_;exact ⟨.inl ⟨hb0,rfl⟩,rfl⟩
  exact absurd (by simpa using hc0) hb0
 ·refine au 220661 ?_;intro j7 hj7;refine au 93714235170 ?_;constructor<;>intro hc0
  ·exact absurd hc0 dQ
  obtain ⟨hck,hth,hne⟩:=kN hb0;have hb:=yp hck;have hLo:=yJ hb;have hLn:=yE hb;refine au 3517068042120 ?_;refine bB hret [(0,_),(1,_),(s,_),(e,_)] ?_;exact ⟨.inr ⟨hb0,rfl⟩,rfl⟩
theorem zeq {main T} (hT:zk tp main T) {gm} {j n:Nat} {l:List AV} {rw':Bool} (hl:l.length=n*5) (hone:l.all oneA=true) (hn:n<=100000) :
  zh tp T gm 180 [.sl j 0 n] [(j,.cells l 114 rw')] (fun r K'=>∃ j2,r=.row j2 n/\K'=[(j,.cells l 114 rw'),(j2,.row l 114 5)]):=by
 refine ze 8 hT Tryz.func180 fun Y hret=>?_;refine au 14223542 ?_;refine TK.nilT Z Z Z Z Und.h fun tz hz=>?_;refine au 93 ?_;constructor<;>intro hc0
 ·refine au 542 ?_;refine TK.virt 2 114 5 Z fun j0 hj0=>?_;refine au 3 ?_;refine bB hret [(j,_),(j0,_)] ?_;obtain rfl:=hz hc0;obtain rfl:=lK (by simpa using hl);exact ⟨_,rfl,rfl⟩
 refine au 42120 ?_;refine bI Z Z Z (zS (l:=[]) Z SlEl.h TyZ.h dQ dQ Z) (fun _=>zz rfl tQ) fun j1 hj1=>?_;refine au 1 ?_;refine TK.appG (envf:=fun _=>[_,_,_,_,_,_,_,_]) (ln:=l) rfl rfl rfl ApOf.h rfl mQ rfl rfl rfl (fun hp=>zcN mQ oQ (uq hl oQ)) (fun h=>by subst h; exact lK (by simpa using hl)) hone (by unfold maxLen; omega) oQ (fun _=>uQ) (fun _=>rfl) fun j2=>?_;simp only [lC,mO];refine au 35 ?_;refine bB hret [(j,_),(j2,_)] ?_;exact ⟨_,rfl,rfl⟩
theorem zer {main T} (hT:zk tp main T) {gm} {j n:Nat} {l:List AV} {rw':Bool} (hl:l.length=n*2) (hone:l.all oneA=true) (hn:n<=100000) :
  zh tp T gm 181 [.sl j 0 n] [(j,.cells l 200 rw')] (fun r K'=>∃ j2,r=.row j2 n/\K'=[(j,.cells l 200 rw'),(j2,.row l 200 2)]):=by
 refine ze 8 hT Tryz.func181 fun Y hret=>?_;refine au 14223542 ?_;refine TK.nilT Z Z Z Z Und.h fun tz hz=>?_;refine au 93 ?_;constructor<;>intro hc0
 ·refine au 542 ?_;refine TK.virt 2 200 2 Z fun j0 hj0=>?_;refine au 3 ?_;refine bB hret [(j,_),(j0,_)] ?_;obtain rfl:=hz hc0;obtain rfl:=lK (by simpa using hl);exact ⟨_,rfl,rfl⟩
 refine au 42120 ?_;refine bI Z Z Z (zS (l:=[]) Z SlEl.h TyZ.h dQ dQ Z) (fun _=>zz rfl tQ) fun j1 hj1=>?_;refine au 1 ?_;refine TK.appG (envf:=fun _=>[_,_,_,_,_,_,_,_]) (ln:=l) rfl rfl rfl ApOf.h rfl mQ rfl rfl rfl (fun hp=>zcN mQ oQ (uq hl oQ)) (fun h=>by subst h; exact lK (by simpa using hl)) hone (by unfold maxLen; omega) oQ (fun _=>uQ) (fun _=>rfl) fun j2=>?_;simp only [lC,mO];refine au 35 ?_;refine bB hret [(j,_),(j2,_)] ?_;exact ⟨_,rfl,rfl⟩
theorem ze8 {main T} (hT:zk tp main T) {gm} {b:Bk} {s e:Nat} (hs5:b.seekers.length<=1000) (he5:b.seen.length<=1000) :
  zh tp T gm 129 [.agg (zC b s e)] [(s,zo b),(e,zp b)] (fun r K'=>∃ j1 j2,r=.agg (ownC b j1 j2)/\K'=[(s,zo b),(e,zp b),(j1,.row (b.seekers.flatMap saysC) 114 5),(j2,.row (b.seen.flatMap seenC) 200 2)]):=by
 refine ze 12 hT Tryz.func129 fun Y hret=>?_;refine au 21042 ?_;intro jb hjb;refine au 220 ?_;intro jr hjr;refine au 23 ?_;refine TK.dr [0,1,3,4,2,6,5,7,8,9] [0,1,2,3,4,5,6,7,8,9] ?_;refine ad [[3,1],[10,3],[3,1],[10,6]] ?_;refine bQ (pend':=[⟨4,[6],[(_,_)]⟩,⟨3,[1],[]⟩,⟨0,[1],[]⟩]) [4] Z Z Z Z Z (zeq hT (yr saysC 5 (fun _=>rfl) b.seekers) (zeC saysC (fun _=>rfl) _) oQ) (fun r1 K2 h3=>⟨?_,?_⟩)
 ·rcases h3 with ⟨j1,rfl,rfl⟩
  all_goals simp
 obtain ⟨j1,rfl,rfl⟩:=h3;try simp only [cA]
 refine bS tQ ?_;refine ad [[3,1]] ?_;refine bQ (pend':=[⟨6,[1],[]⟩,⟨3,[1],[]⟩,⟨0,[1],[]⟩]) [7] Z Z Z Z Z (zer hT (yr seenC 2 (fun _=>rfl) b.seen) (zeC seenC (fun _=>rfl) _) oQ) (fun r4 K5 h6=>⟨?_,?_⟩)
 ·rcases h6 with ⟨j2,rfl,rfl⟩
  all_goals simp
 obtain ⟨j2,rfl,rfl⟩:=h6;try simp only [cA]
 refine bS tQ ?_;refine TD.s (pend':=[]) [5,9] Z Z (zq Z Z zd.h Z Z mQ Z) ?_;refine ad [[3,1]] ?_;refine TD.s (pend':=[]) [8,10] Z Z (zq Z Z zd.h Z Z mQ Z) ?_;refine ad [[14]] ?_;refine au 317068042 ?_;refine bB hret [(s,_),(e,_),(j1,_),(j2,_)] ?_;exact ⟨j1,j2,rfl,rfl⟩
theorem zkE {main:Bool} {T:Goroutine->Hp->Prop} (hT:zk tp main T)  {b:Bk} {s e:Nat} {x:Says} (hse:s≠e) (hn:∀ x∈b.seekers,x.name.size<=1000) (hl:b.seen.length<=1000) (hx:x.name.size<=1000) :
  zh tp T gmS 50 [.agg (zC b s e),.agg (saysC x)] [(0,zx),(1,zB),(s,zo b),(e,zp b)] (fun r K'=>(newsM b (hearB b x)≠0/\r=.tup [.agg zeroBk,intA (newsM b (hearB b x))]/\K'=[(0,zx),(1,zB),(s,zo b),(e,zp b)])\/(newsM b (hearB b x)=0/\∃ j3 j2,r=.tup [.agg (zC (hearB b x) j3 j2),intA 0]/\K'=[(0,zx),(1,zB),(s,zo b),(e,zp b),(j3,zo (hearB b x)),(j2,zp (hearB b x))])):=by
 refine ze 26 hT Tryz.func50 fun Y hret=>?_;refine au 21042 ?_;intro j1 hj1;refine au 210 ?_;intro j2 hj2;refine au 220 ?_;intro jr hjr;refine au 68042235 ?_;refine bD Z Z Z Z (kO hT (b:=b) (s:=s) (e:=e) hn hl) ?_;rintro r3 K4 ⟨rfl,rfl⟩;refine au 93714235 ?_;constructor<;>intro hc0
 ·refine au 35170143042 ?_;refine bB hret [(0,_),(1,_),(s,_),(e,_)] ?_;have ha:newsM b (hearB b x)=checkM b:=if_pos (by simpa using hc0);exact .inl ⟨by rw [ha]; simpa using hc0,by rw [ha]; rfl,rfl⟩
 have hb:=yp (b:=b) (by simpa using hc0);refine au 68042120 ?_;refine bD Z Z Z Z (ze8 hT (by have:=hb.ns; omega) (by have:=hb.ne; omega)) ?_;rintro r6 K7 ⟨j1,j2,rfl,rfl⟩;refine au 220 ?_;intro jo hjo;refine au 680690670423170 ?_;refine bI Z Z Z (zS (l:=[_,_,_,_,_]) Z SlEl.h TyZ.h dQ dQ Z) (fun _=>zz rfl tQ) fun j9 hj9=>?_;refine bO Z Z Z (a_app Z ApOf.h Z mQ (yr saysC 5 (fun _=>rfl) _) rfl (kC (ln:=[_,_,_,_,_]) mQ dQ sQ rfl) oQ rfl (by have:=hb.ns; unfold maxLen; omega) (by have:=hb.ns; omega)) (fun _=>uQ) (fun _=>zz rfl tQ) fun j3=>?_;refine au 680423170670 ?_;refine TK.freezeBk 22 Z uQ uQ Z ?_;refine bC [(j3,_),(j2,_),(0,_),(1,_),(s,_),(e,_),(jr,_)] ?_;refine TK.normK (K':=[(j3,zo (hearB b x)),(j2,zp (hearB b x)),(0,_),(1,_),(s,_),(e,_),(jr,_)]) (by unfold zo; rw [zeJ]; rfl) ?_;rw [zjt b x];refine au 0 ?_;refine TK.nd fun hnd=>?_;have hjj:j3≠j2:=fun h=>by subst h; simp [keys] at hnd
 refine bD Z Z Z Z (zau hT (b:=hearB b x) (s:=j3) (e:=j2) hjj (zgO hn hx) (hl)) ?_;rintro r10 K11 h12;rcases h12 with ⟨⟨hb0,rfl⟩ | ⟨hb0,rfl⟩,rfl⟩
 ·refine au 3517066 ?_;refine bB hret [(0,_),(1,_),(s,_),(e,_)] ?_;have ha:newsM b (hearB b x)=askM (hearB b x) true:=if_neg (by simpa using hc0);exact .inl ⟨by rw [ha]; exact hb0,by rw [ha]; rfl,rfl⟩
 ·refine au 3517066 ?_;refine bB hret [(0,_),(1,_),(s,_),(e,_),(j3,_),(j2,_)] ?_;have ha:newsM b (hearB b x)=askM (hearB b x) true:=if_neg (by simpa using hc0);exact .inr ⟨by rw [ha]; exact hb0,j3,j2,rfl,rfl⟩
theorem zkL {main:Bool} {T:Goroutine->Hp->Prop} (hT:zk tp main T)  {b:Bk} {s e:Nat} {n:Int} {sm:Bool} (hse:s≠e) (hn:∀ x∈b.seekers,x.name.size<=1000) (hl:b.seen.length<=1000) :
  zh tp T gmS 49 [.agg (zC b s e),intA n,zm sm] [(0,zx),(1,zB),(s,zo b),(e,zp b)] (fun r K'=>(newsM b (lookB b ⟨n,sm⟩)≠0/\r=.tup [.agg zeroBk,intA (newsM b (lookB b ⟨n,sm⟩))]/\K'=[(0,zx),(1,zB),(s,zo b),(e,zp b)])\/(newsM b (lookB b ⟨n,sm⟩)=0/\∃ j3 j2,r=.tup [.agg (zC (lookB b ⟨n,sm⟩) j3 j2),intA 0]/\K'=[(0,zx),(1,zB),(s,zo b),(e,zp b),(j3,zo (lookB b ⟨n,sm⟩)),(j2,zp (lookB b ⟨n,sm⟩))])):=by
 refine ze 30 hT Tryz.func49 fun Y hret=>?_;refine au 21042 ?_;intro j1 hj1;refine au 220 ?_;intro jr hjr;refine au 68042235 ?_;refine bD Z Z Z Z (kO hT (b:=b) (s:=s) (e:=e) hn hl) ?_;rintro r2 K3 ⟨rfl,rfl⟩;refine au 93714235 ?_;constructor<;>intro hc0
 ·refine au 35170143042 ?_;refine bB hret [(0,_),(1,_),(s,_),(e,_)] ?_;have ha:newsM b (lookB b ⟨n,sm⟩)=checkM b:=if_pos (by simpa using hc0);exact .inl ⟨by rw [ha]; simpa using hc0,by rw [ha]; rfl,rfl⟩
 have hb:=yp (b:=b) (by simpa using hc0);refine au 68042120 ?_;refine bD Z Z Z Z (ze8 hT (by have:=hb.ns; omega) (by have:=hb.ne; omega)) ?_;rintro r5 K6 ⟨j1,j2,rfl,rfl⟩;refine au 220 ?_;intro jo hjo;refine au 39011690670423170 ?_;refine bI Z Z Z (zS (l:=[_,_]) Z SlEl.h TyZ.h dQ dQ Z) (fun _=>zz rfl tQ) fun j8 hj8=>?_;refine bO Z Z Z (a_app Z ApOf.h Z mQ (yr seenC 2 (fun _=>rfl) _) rfl (kC (ln:=[_,_]) mQ dQ sQ rfl) oQ rfl (by have:=hb.ne; unfold maxLen; omega) (by have:=hb.ne; omega)) (fun _=>uQ) (fun _=>zz rfl tQ) fun j3=>?_;refine au 680423170670 ?_;refine TK.freezeBk 26 Z uQ uQ Z ?_;refine bC [(j1,_),(j3,_),(0,_),(1,_),(s,_),(e,_),(jr,_)] ?_;refine TK.normK (K':=[(j1,zo (lookB b ⟨n,sm⟩)),(j3,zp (lookB b ⟨n,sm⟩)),(0,_),(1,_),(s,_),(e,_),(jr,_)]) (by unfold zp; rw [zh0]; rfl) ?_;rw [zjF b ⟨n,sm⟩];refine au 0 ?_;refine TK.nd fun hnd=>?_;have hjj:j1≠j3:=fun h=>by subst h; simp [keys] at hnd
 refine bD Z Z Z Z (zau hT (b:=lookB b ⟨n,sm⟩) (s:=j1) (e:=j3) hjj (hn) (by have:=hb.ne; simp [lookB]; omega)) ?_;rintro r9 K10 h11;rcases h11 with ⟨⟨hb0,rfl⟩ | ⟨hb0,rfl⟩,rfl⟩
 ·refine au 3517066 ?_;refine bB hret [(0,_),(1,_),(s,_),(e,_)] ?_;have ha:newsM b (lookB b ⟨n,sm⟩)=askM (lookB b ⟨n,sm⟩) true:=if_neg (by simpa using hc0);exact .inl ⟨by rw [ha]; exact hb0,by rw [ha]; rfl,rfl⟩
 ·refine au 3517066 ?_;refine bB hret [(0,_),(1,_),(s,_),(e,_),(j1,_),(j3,_)] ?_;have ha:newsM b (lookB b ⟨n,sm⟩)=askM (lookB b ⟨n,sm⟩) true:=if_neg (by simpa using hc0);exact .inr ⟨by rw [ha]; exact hb0,j1,j3,rfl,rfl⟩
theorem zkB {main:Bool} {T:Goroutine->Hp->Prop} (hT:zk tp main T)  {b:Bk} {s e:Nat} {n:Int} (hse:s≠e) (hn:∀ x∈b.seekers,x.name.size<=1000) (hl:b.seen.length<=1000) :
  zh tp T gmS 48 [.agg (zC b s e),intA n] [(0,zx),(1,zB),(s,zo b),(e,zp b)] (fun r K'=>(giveM b n≠0/\r=.tup [.agg zeroBk,intA (giveM b n)]/\K'=[(0,zx),(1,zB),(s,zo b),(e,zp b)])\/(giveM b n=0/\∃ j3 j2,r=.tup [.agg (zC (giveB b n.toNat) j3 j2),intA 0]/\K'=[(0,zx),(1,zB),(s,zo b),(e,zp b),(j3,zo (giveB b n.toNat)),(j2,zp (giveB b n.toNat))])):=by
 refine ze 40 hT Tryz.func48 fun Y hret=>?_;refine au 21042 ?_;intro jb hjb;refine au 220 ?_;intro jr hjr;refine au 68042235 ?_;refine bD Z Z Z Z (kO hT (b:=b) (s:=s) (e:=e) hn hl) ?_;rintro r1 K2 ⟨rfl,rfl⟩;refine au 93714235 ?_;constructor<;>intro hc0
 ·refine au 35170143042 ?_;refine bB hret [(0,_),(1,_),(s,_),(e,_)] ?_;have ha:giveM b n=checkM b:=if_pos (by simpa using hc0);exact .inl ⟨by rw [ha]; simpa using hc0,by rw [ha]; rfl,rfl⟩
 have hb:=yp (b:=b) (by simpa using hc0);refine au 1430680421302120 ?_;refine bD Z Z Z Z (uv hT (b:=b) (s:=s) (e:=e) (by have:=hb.ns; omega)) ?_;rintro r4 K5 ⟨rfl,rfl⟩;refine au 935300 ?_;constructor<;>intro hc1
 ·refine au 3517043042 ?_;refine bB hret [(0,_),(1,_),(s,_),(e,_)] ?_;have ha:giveM b n=6:=by unfold giveM; rw [if_neg (by simpa using hc0),if_pos (by simpa using hc1)]
  exact .inl ⟨by rw [ha]; decide,by rw [ha]; rfl,rfl⟩
 have hk0:isSeekerM b n=true:=by simpa using hc1
 obtain ⟨k,rfl⟩:∃ k:Nat,n=k:=⟨n.toNat,by simp only [isSeekerM,mX,decide_eq_true_eq] at hk0; omega⟩;have hk:k<b.seekers.length:=by simp only [isSeekerM,mX,decide_eq_true_eq] at hk0; omega
 refine au 670360169067042 ?_;refine bH Z (zl Z Z zd.h mQ (zcG hk)) ?_;refine au 935 ?_;constructor<;>intro hc2
 ·refine au 3517043042 ?_;refine bB hret [(0,_),(1,_),(s,_),(e,_)] ?_;have ha:giveM b (k:Int)=5:=by unfold giveM; rw [if_neg (by simpa using hc0),hk0,if_neg dQ,mZ,hc2,if_pos rfl]
  exact .inl ⟨by rw [ha]; decide,by rw [ha]; rfl,rfl⟩
 refine au 68042140120 ?_;refine bD Z Z Z Z (ze8 hT (by have:=hb.ns; omega) (by have:=hb.ne; omega)) ?_;rintro r7 K8 ⟨j1,j2,rfl,rfl⟩;refine au 220 ?_;intro jo hjo;refine au 6703701690670423170 ?_;refine TK.st Z Z Z (zq Z Z zd.h Z Z mQ (zij hk)) uQ (putN Z) ?_;refine au 680423 ?_;refine TK.freezeBk 36 Z uQ uQ Z ?_;refine bC [(j1,_),(j2,_),(0,_),(1,_),(s,_),(e,_),(jr,_)] ?_;refine TK.normK (K':=[(j1,zo (giveB b k)),(j2,zp (giveB b k)),(0,_),(1,_),(s,_),(e,_),(jr,_)]) (by rfl) ?_;rw [zjn b k];refine au 0 ?_;refine TK.nd fun hnd=>?_;have hjj:j1≠j2:=fun h=>by subst h; simp [keys] at hnd
 refine bD Z Z Z Z (zau hT (b:=giveB b k) (s:=j1) (e:=j2) hjj (zgJ hn) (hl)) ?_;rintro r10 K11 h12;rcases h12 with ⟨⟨hb0,rfl⟩ | ⟨hb0,rfl⟩,rfl⟩
 ·refine au 3517066 ?_;refine bB hret [(0,_),(1,_),(s,_),(e,_)] ?_;have ha:giveM b (k:Int)=askM (giveB b k) true:=by unfold giveM; rw [if_neg (by simpa using hc0),hk0,if_neg dQ,mZ,hc2,if_neg dQ]
  exact .inl ⟨by rw [ha]; exact hb0,by rw [ha]; rfl,rfl⟩
 ·refine au 3517066 ?_;refine bB hret [(0,_),(1,_),(s,_),(e,_),(j1,_),(j2,_)] ?_;have ha:giveM b (k:Int)=askM (giveB b k) true:=by unfold giveM; rw [if_neg (by simpa using hc0),hk0,if_neg dQ,mZ,hc2,if_neg dQ]
  exact .inr ⟨by rw [ha]; exact hb0,j1,j2,rfl,rfl⟩
def cmpI2 (x y:Int):Int:=if x<y then -1 else if x>y then 1 else 0
def cmpL:List Int->List Int->Int
 | [],[]=>0
 | [],_::_ => -1
 | _::_,[]=>1
 | x::xs,y::ys=>if cmpI2 x y≠0 then cmpI2 x y else cmpL xs ys
theorem zdr {xs ys:List Int} {i:Nat} (h1:i<xs.length) (h2:i<ys.length):cmpL (xs.drop i) (ys.drop i)=if cmpI2 xs[i] ys[i]≠0 then cmpI2 xs[i] ys[i] else cmpL (xs.drop (i+1)) (ys.drop (i+1)):=by
 rw [List.drop_eq_getElem_cons h1,List.drop_eq_getElem_cons h2]; rfl
theorem zi5 {xs ys:List Int} {i:Nat} (h1:i<xs.length) (h2:ys.length<=i):cmpL (xs.drop i) (ys.drop i)=1:=by
 rw [List.drop_eq_getElem_cons h1,List.drop_eq_nil_of_le h2]; rfl
theorem zes {xs ys:List Int} (h:xs.length<=ys.length):cmpL (xs.drop xs.length) (ys.drop xs.length)=if xs.length<ys.length then -1 else 0:=by
 rw [List.drop_eq_nil_of_le (mL _)];split
 ·rename_i h2; rw [List.drop_eq_getElem_cons h2]; rfl
 ·rw [List.drop_eq_nil_of_le oQ]; rfl
def ltLists (a b:List Int):Bool:=decide (a.length<b.length)||(a.length==b.length&&decide (cmpL a b<0))
def ltGuess (a b:List Int×Int):Bool:=decide (a.2<b.2)||(a.2==b.2&&decide (cmpL a.1 b.1<0))
def ltArc (a b:Int×Int):Bool:=decide (a.2<b.2)||(a.2==b.2&&decide (a.1<b.1))
def zQ {α:Type} (lt:α->α->Bool) (o:α) (xs:List α):α:=xs.foldl (fun o x=>if lt x o=true then x else o) o
theorem zbQ {α:Type} {lt:α->α->Bool} {o:α} {xs:List α} {i:Nat} (h:i<xs.length) (hl:lt xs[i] (zQ lt o (xs.take i))=true):zQ lt o (xs.take (i+1))=xs[i]:=by
 unfold zQ at hl ⊢;rw [List.take_add_one,lA h,List.foldl_append]; simp [hl]
theorem zbP {α:Type} {lt:α->α->Bool} {o:α} {xs:List α} {i:Nat} (h:i<xs.length) (hl:lt xs[i] (zQ lt o (xs.take i))=false):zQ lt o (xs.take (i+1))=zQ lt o (xs.take i):=by
 unfold zQ at hl ⊢;rw [List.take_add_one,lA h,List.foldl_append]; simp [hl]
theorem kf {α:Type} {lt:α->α->Bool} {o:α}:∀ {xs:List α},zQ lt o xs∈o::xs:=by
 intro xs
 induction xs generalizing o with
 | nil=>simp [zQ]
 | cons x xs ih =>
  have:=ih (o:=if lt x o=true then x else o);show zQ lt (if lt x o=true then x else o) xs∈_;rcases lI.1 this with h | h
  ·rw [h]; split <;> simp
  ·simp [h]
theorem firstL_mem' {α:Type} {lt:α->α->Bool} {o:α} {xs:List α} {i:Nat}:zQ lt o (xs.take i)∈o::xs:=by
 rcases lI.1 (kf (lt:=lt) (o:=o) (xs:=xs.take i)) with h | h
 ·rw [h]; simp
 ·exact lL _ (List.mem_of_mem_take h)
theorem zh5 {main T} (hT:zk tp main T) {gm} {n:Int} :
  zh tp T gm 216 [intA n] [] (fun r K'=>r=zm false/\K'=[]):=by
 refine ze 6 hT Tryz.func216 fun Y hret=>?_;refine au 35711423542 ?_;refine TK.rta hret ?_;exact ⟨by simp [zm],rfl⟩
theorem zlo {main T} (hT:zk tp main T) {gm} {x y:Int} :
  zh tp T gm 179 [intA x,intA y] [] (fun r K'=>r=intA (cmpI2 x y)/\K'=[]):=by
 refine ze 20 hT Tryz.func179 fun Y hret=>?_;refine au 1423542 ?_;refine bD Z Z Z Z (zh5 hT) ?_;rintro r1 K2 ⟨rfl,rfl⟩;refine au 14235 ?_;refine bD Z Z Z Z (zh5 hT) ?_;rintro r4 K5 ⟨rfl,rfl⟩;refine au 93711422120190314221201903142235 ?_;constructor<;>intro hc0
 ·refine au 3542 ?_;refine TK.rta hret ?_;exact ⟨by unfold cmpI2; rw [if_pos (by simpa using hc0)]; rfl,rfl⟩
 refine au 93711422120 ?_;constructor<;>intro hc1
 ·refine au 3542 ?_;refine TK.rta hret ?_;exact ⟨by unfold cmpI2; rw [if_neg (by simpa using hc0),if_pos (by simpa using hc1)]; rfl,rfl⟩
 refine au 3542120 ?_;refine TK.rta hret ?_;exact ⟨by unfold cmpI2; rw [if_neg (by simpa using hc0),if_neg (by simpa using hc1)]; rfl,rfl⟩
theorem zce {main T} (hT:zk tp main T) {gm} {j1 j2:Nat} {ob1 ob2:AObj} {xs ys:List Int} {K:KV} (h1:(j1,ob1)∈K) (h2:(j2,ob2)∈K) (hI1:IntsAt ob1 0 xs) (hI2:IntsAt ob2 0 ys) (hl1:xs.length<=1000) (hl2:ys.length<=1000) :
  zh tp T gm 122 [.sl j1 0 xs.length,.sl j2 0 ys.length] K (fun r K'=>r=intA (cmpL xs ys)/\K'=K):=by
 refine ze 36 hT Tryz.func122 fun Y hret=>?_;refine au 1303128014223542 ?_;refine bA [0,1,9,10,11] ?_;refine bE (fun n env K'=>∃ (i:Nat),n=xs.length - i/\i<=xs.length/\i<=ys.length/\cmpL (xs.drop i) (ys.drop i)=cmpL xs ys/\env=zW 36 [(0,.sl j1 0 xs.length),(1,.sl j2 0 ys.length),(9,.sl j1 0 xs.length),(10,intA xs.length),(11,intA i)]/\K'=K) xs.length ⟨0,rfl,mN _,mN _,rfl,rfl,rfl⟩ fun n env K' hI' hnext=>?_;obtain ⟨i,rfl,hi,hiy,hcm,rfl,rfl⟩:=hI';refine au 923742 ?_;refine ⟨fun hc=>?_,fun hc=>?_⟩
 ·simp only [decide_eq_true_eq] at hc;have hil:i<xs.length:=by omega
  refine au 3601421302120 ?_;refine bH Z (zl Z Z zd.h mQ (hI1 i hil)) ?_;refine au 93728011422355 ?_;constructor<;>intro hc1
  ·refine au 3542 ?_;refine TK.rta hret ?_;exact ⟨by rw [<- hcm,zi5 hil (by have:=of_decide_eq_true hc1; omega)]; rfl,rfl⟩
  have hyl:i<ys.length:=by have:=of_decide_eq_false hc1; omega
  refine au 3601142120 ?_;refine bH Z (zl Z Z zd.h mQ (hI2 i hyl)) ?_;refine au 114235 ?_;refine bD Z Z Z Z (zlo hT) ?_ (hs:=(.none _));rintro r1 K2 ⟨rfl,rfl⟩;refine au 0 ?_;skip;refine au 93714235 ?_;constructor<;>intro hc2
  ·have hc2:cmpI2 xs[i] ys[i]≠0:=by simpa using hc2
   refine au 35142 ?_;refine TK.rta hret ?_;exact ⟨by rw [<- hcm,zdr hil hyl,if_pos hc2],rfl⟩
  have hc2:cmpI2 xs[i] ys[i]=0:=by simpa using hc2
  refine au 312304140120 ?_;refine bA [0,1,9,10,11] ?_;exact hnext _ _ _ oQ ⟨i+1,rfl,oQ,oQ,by rw [<- hcm,zdr hil hyl,if_neg (fun h=>h hc2)],rfl,rfl⟩
 simp only [decide_eq_false_iff_not] at hc;obtain rfl:i=xs.length:=by omega
 refine au 93728012801422160 ?_;constructor<;>intro hc3
 ·refine au 3542 ?_;refine TK.rta hret ?_;exact ⟨by rw [<- hcm,zes hiy,if_pos (by have:=of_decide_eq_true hc3; omega)]; rfl,rfl⟩
 refine au 3542120 ?_;refine TK.rta hret ?_;exact ⟨by rw [<- hcm,zes hiy,if_neg (by have:=of_decide_eq_false hc3; omega)]; rfl,rfl⟩
theorem zhA {main T} (hT:zk tp main T) {gm} {j1 j2:Nat} {ob1 ob2:AObj} {xs ys:List Int} {K:KV} (h1:(j1,ob1)∈K) (h2:(j2,ob2)∈K) (hI1:IntsAt ob1 0 xs) (hI2:IntsAt ob2 0 ys) (hl1:xs.length<=1000) (hl2:ys.length<=1000) :
  zh tp T gm 125 [.sl j1 0 xs.length,.sl j2 0 ys.length] K (fun r K'=>r=zm (ltLists xs ys)/\K'=K):=by
 refine ze 23 hT Tryz.func125 fun Y hret=>?_;refine au 1728012801423542 ?_;refine bF 10 (fun g1_6=>?_) (fun g1_6=>?_)
 ·refine au 3526088888888888 ?_;refine TK.rta hret ?_;exact ⟨by unfold ltLists; rw [show decide (xs.length<ys.length)=true by have:=of_decide_eq_true g1_6; exact decide_eq_true oQ]; rfl,rfl⟩
 refine au 1728012801 ?_;refine bF 16 (fun g1_12=>?_) (fun g1_12=>?_)
 ·refine au 11 ?_;refine bD Z Z Z Z (zce hT h1 h2 hI1 hI2 hl1 hl2) ?_ (hs:=(.all _));rintro r1 K2 ⟨rfl,rfl⟩;refine au 0 ?_;rw [lR];refine au 352502607 ?_;refine TK.rta hret ?_;exact ⟨by unfold ltLists; rw [show decide (xs.length<ys.length)=false by have:=of_decide_eq_false g1_6; exact decide_eq_false oQ,show (xs.length==ys.length)=true from beq_iff_eq.2 (by have:=eq_of_beq g1_12; omega)]; rfl,rfl⟩
 refine au 352502508888 ?_;refine TK.rta hret ?_;exact ⟨by unfold ltLists; rw [show decide (xs.length<ys.length)=false by have:=of_decide_eq_false g1_6; exact decide_eq_false oQ,show (xs.length==ys.length)=false from beq_eq_false_iff_ne.2 (fun h=>by rw [h] at g1_12; simp at g1_12)]; rfl,rfl⟩
theorem zcn {main T} (hT:zk tp main T) {gm} {j1 j2:Nat} {ob1 ob2:AObj} {xs ys:List Int} {K:KV} {u v:Int} (h1:(j1,ob1)∈K) (h2:(j2,ob2)∈K) (hI1:IntsAt ob1 0 xs) (hI2:IntsAt ob2 0 ys) (hl1:xs.length<=1000) (hl2:ys.length<=1000) :
  zh tp T gm 121 [.agg [.sl j1 0 xs.length,intA u],.agg [.sl j2 0 ys.length,intA v]] K (fun r K'=>r=zm (ltGuess (xs,u) (ys,v))/\K'=K):=by
 refine ze 25 hT Tryz.func121 fun Y hret=>?_;refine au 21042 ?_;intro ja hja;refine au 210 ?_;intro jb hjb;refine au 176906706906704235 ?_;refine bF 10 (fun g1_6=>?_) (fun g1_6=>?_)
 ·refine au 352608888888888888 ?_;refine bB hret (K) ?_ (hs:=(.right (.right (.all _))));exact ⟨by unfold ltGuess; dsimp only; rw [g1_6]; rfl,rfl⟩
 refine au 17690670690670 ?_;refine bF 16 (fun g1_12=>?_) (fun g1_12=>?_)
 ·refine au 690670690670 ?_;refine bD Z Z Z Z (zce hT h1 h2 hI1 hI2 hl1 hl2) ?_ (hs:=(.right (.right (.all _))));rintro r1 K2 ⟨rfl,hK⟩;refine au 0 ?_;rw [hK];refine bN (K':=(jb,_)::(ja,_)::K) (lH (l₁:=K)) ?_;refine au 352502607 ?_;refine bB hret (K) ?_ (hs:=(.right (.right (.all _))));exact ⟨by unfold ltGuess; dsimp only; rw [g1_6,g1_12]; rfl,rfl⟩
 refine au 35250250888888 ?_;refine bB hret (K) ?_ (hs:=(.right (.right (.all _))));exact ⟨by unfold ltGuess; dsimp only; rw [g1_6,g1_12]; rfl,rfl⟩
theorem zcr {main T} (hT:zk tp main T) {gm} {a b:Int×Int} :
  zh tp T gm 115 [.agg [intA a.1,intA a.2],.agg [intA b.1,intA b.2]] [] (fun r K'=>r=zm (ltArc a b)/\K'=[]):=by
 refine ze 24 hT Tryz.func115 fun Y hret=>?_;refine au 21042 ?_;intro j1 hj1;refine au 210 ?_;intro j2 hj2;refine au 176906706906704235 ?_;refine bF 10 (fun g1_6=>?_) (fun g1_6=>?_)
 ·refine au 35260888888888888 ?_;refine bB hret [] ?_;exact ⟨by unfold ltArc; rw [g1_6]; rfl,rfl⟩
 refine au 17690670690670 ?_;refine bF 16 (fun g1_12=>?_) (fun g1_12=>?_)
 ·refine au 352502607690670690670 ?_;refine bB hret [] ?_;exact ⟨by unfold ltArc; rw [g1_6,g1_12]; rfl,rfl⟩
 refine au 3525025088888 ?_;refine bB hret [] ?_;exact ⟨by unfold ltArc; rw [g1_6,g1_12]; rfl,rfl⟩
theorem zez {main T} (hT:zk tp main T) {gm} {o:Nat×List Int} {xs:List (Nat×List Int)} {lt:Nat×List Int->Nat×List Int->Bool} {fv:AV} {jo off:Nat} {obo:AObj} {K:KV} (hl:xs.length<=100000) (hm:(jo,obo)∈K) (hI:∀ i (h:i<xs.length),z8 obo (off+(i:Int).toNat*1) 1=some [.sl xs[i].1 0 xs[i].2.length]) (hf:∀ a∈o::xs,∀ c∈o::xs,CallFK tp T gm fv [.sl a.1 0 a.2.length,.sl c.1 0 c.2.length] K (fun r K'=>r=zm (lt a c)/\K'=K)) :
  zh tp T gm 124 [fv,.sl o.1 0 o.2.length,.sl jo off xs.length] K (fun r K'=>r=.sl (zQ lt o xs).1 0 (zQ lt o xs).2.length/\K'=K):=by
 refine ze 22 hT Tryz.func124 fun Y hret=>?_;refine au 1303128014223542 ?_;refine bA [0,1,9,10,11] ?_;refine bE (fun n env K'=>∃ (i:Nat),n=xs.length - i/\i<=xs.length/\env=zW 22 [(0,fv),(1,.sl (zQ lt o (xs.take i)).1 0 (zQ lt o (xs.take i)).2.length),(9,.sl jo off xs.length),(10,intA xs.length),(11,intA i)]/\K'=K) xs.length ⟨0,rfl,mN _,rfl,rfl⟩ fun n env K' hI' hnext=>?_;obtain ⟨i,rfl,hi,rfl,rfl⟩:=hI';refine au 923742 ?_;refine ⟨fun hc=>?_,fun hc=>?_⟩
 ·simp only [decide_eq_true_eq] at hc;have hil:i<xs.length:=by omega
  refine au 360421302120 ?_;refine bH Z (zl Z Z zd.h mQ (hI i hil)) ?_;refine au 1114235 ?_;refine TK.callF' Z Z Z Z Z (hf xs[i] (lL _ (List.getElem_mem hil)) (zQ lt o (xs.take i)) firstL_mem') (.all _) fun r1 K2 h3=>?_;obtain ⟨rfl,hK⟩:=h3;refine au 0 ?_;rw [hK,lR];refine au 93 ?_;constructor<;>intro hc1
  ·refine au 3123041403514 ?_;refine bA [0,1,9,10,11] ?_;exact hnext _ _ _ oQ ⟨i+1,rfl,oQ,by rw [zbQ hil hc1] <;> rfl,rfl⟩
  refine au 312304140120 ?_;refine bA [0,1,9,10,11] ?_;exact hnext _ _ _ oQ ⟨i+1,rfl,oQ,by rw [zbP hil hc1] <;> rfl,rfl⟩
 simp only [decide_eq_false_iff_not] at hc;obtain rfl:i=xs.length:=by omega
 refine au 35142160 ?_;refine TK.rta hret ?_;exact ⟨by rw [lW] <;> rfl,rfl⟩
theorem zbo {main T} (hT:zk tp main T) {gm} {o:Int×Int} {xs:List (Int×Int)} {lt:Int×Int->Int×Int->Bool} {fv:AV} {jo off:Nat} {obo:AObj} {K:KV} (hl:xs.length<=100000) (hm:(jo,obo)∈K) (hI:∀ i (h:i<xs.length),z8 obo (off+(i:Int).toNat*2) 2=some [intA xs[i].1,intA xs[i].2]) (hf:∀ a∈o::xs,∀ c∈o::xs,CallFK tp T gm fv [.agg [intA a.1,intA a.2],.agg [intA c.1,intA c.2]] K (fun r K'=>r=zm (lt a c)/\K'=K)) :
  zh tp T gm 114 [fv,.agg [intA o.1,intA o.2],.sl jo off xs.length] K (fun r K'=>r=.agg [intA (zQ lt o xs).1,intA (zQ lt o xs).2]/\K'=K):=by
 refine ze 22 hT Tryz.func114 fun Y hret=>?_;refine au 21042 ?_;intro jc hjc;refine au 220 ?_;intro jr hjr;refine au 1303128014223 ?_;refine bA [0,4,6,9,10,11] ?_;refine bN (List.Perm.swap _ _ _) ?_;refine bE (fun n env K'=>∃ (i:Nat),n=xs.length - i/\i<=xs.length/\env=zW 22 [(0,fv),(4,.ptr jc 0),(6,.ptr jr 0),(9,.sl jo off xs.length),(10,intA xs.length),(11,intA i)]/\K'=(jc,.cells [intA (zQ lt o (xs.take i)).1,intA (zQ lt o (xs.take i)).2] 229 true)::(jr,.cells [intA 0,intA 0] 229 true)::K) xs.length ⟨0,rfl,mN _,rfl,rfl⟩ fun n env K' hI' hnext=>?_;obtain ⟨i,rfl,hi,rfl,rfl⟩:=hI';refine au 923742 ?_;refine ⟨fun hc=>?_,fun hc=>?_⟩
 ·simp only [decide_eq_true_eq] at hc;have hil:i<xs.length:=by omega
  refine au 360421302120 ?_;refine bH Z (zD Z Z zd.h mQ (hI i hil)) ?_;refine au 220 ?_;intro j9 hj9;refine au 6806801423170 ?_;refine TK.callF' Z Z Z Z Z (hf xs[i] (lL _ (List.getElem_mem hil)) (zQ lt o (xs.take i)) firstL_mem') (.right (.right (.right (.all _)))) fun r1 K2 h3=>?_;obtain ⟨rfl,hK⟩:=h3;refine au 0 ?_;rw [hK];refine bN (K':=(j9,_)::(jc,_)::(jr,_)::K) (lH (l₁:=K)) ?_;refine au 93 ?_;constructor<;>intro hc1
  ·refine au 31230414031706804 ?_;refine bA [0,4,6,9,10,11] ?_;refine TK.keep (R:=((jc,_)::(jr,_)::K)) (.rem (by repeat (first | exact Rem.head | apply Rem.tail)) (.rem (by repeat (first | exact Rem.head | apply Rem.tail)) (.right (.all _)))) ?_;exact hnext _ _ _ oQ ⟨i+1,rfl,oQ,rfl,by rw [zbQ hil hc1] <;> rfl⟩
  refine au 312304140120 ?_;refine bA [0,4,6,9,10,11] ?_;refine TK.keep (R:=((jc,_)::(jr,_)::K)) (.rem (by repeat (first | exact Rem.head | apply Rem.tail)) (.rem (by repeat (first | exact Rem.head | apply Rem.tail)) (.right (.all _)))) ?_;exact hnext _ _ _ oQ ⟨i+1,rfl,oQ,rfl,by rw [zbP hil hc1] <;> rfl⟩
 simp only [decide_eq_false_iff_not] at hc;obtain rfl:i=xs.length:=by omega
 refine au 317068042160 ?_;refine bB hret (K) ?_;exact ⟨by rw [lW] <;> rfl,rfl⟩
theorem zaq {main T} (hT:zk tp main T) {gm} {o:Nat×List Int×Int} {xs:List (Nat×List Int×Int)} {lt:Nat×List Int×Int->Nat×List Int×Int->Bool} {fv:AV} {jo off:Nat} {obo:AObj} {K:KV} (hl:xs.length<=100000) (hm:(jo,obo)∈K) (hI:∀ i (h:i<xs.length),z8 obo (off+(i:Int).toNat*2) 2=some [.sl xs[i].1 0 xs[i].2.1.length,intA xs[i].2.2]) (hf:∀ a∈o::xs,∀ c∈o::xs,CallFK tp T gm fv [.agg [.sl a.1 0 a.2.1.length,intA a.2.2],.agg [.sl c.1 0 c.2.1.length,intA c.2.2]] K (fun r K'=>r=zm (lt a c)/\K'=K)) :
  zh tp T gm 120 [fv,.agg [.sl o.1 0 o.2.1.length,intA o.2.2],.sl jo off xs.length] K (fun r K'=>r=.agg [.sl (zQ lt o xs).1 0 (zQ lt o xs).2.1.length,intA (zQ lt o xs).2.2]/\K'=K):=by
 refine ze 22 hT Tryz.func120 fun Y hret=>?_;refine au 21042 ?_;intro jc hjc;refine au 220 ?_;intro jr hjr;refine au 1303128014223 ?_;refine bA [0,4,6,9,10,11] ?_;refine bN (List.Perm.swap _ _ _) ?_;refine bE (fun n env K'=>∃ (i:Nat),n=xs.length - i/\i<=xs.length/\env=zW 22 [(0,fv),(4,.ptr jc 0),(6,.ptr jr 0),(9,.sl jo off xs.length),(10,intA xs.length),(11,intA i)]/\K'=(jc,.cells [.sl (zQ lt o (xs.take i)).1 0 (zQ lt o (xs.take i)).2.1.length,intA (zQ lt o (xs.take i)).2.2] 238 true)::(jr,.cells [.v (.slice none 0 0),intA 0] 238 true)::K) xs.length ⟨0,rfl,mN _,rfl,rfl⟩ fun n env K' hI' hnext=>?_;obtain ⟨i,rfl,hi,rfl,rfl⟩:=hI';refine au 923742 ?_;refine ⟨fun hc=>?_,fun hc=>?_⟩
 ·simp only [decide_eq_true_eq] at hc;have hil:i<xs.length:=by omega
  refine au 360421302120 ?_;refine bH Z (zD Z Z zd.h mQ (hI i hil)) ?_;refine au 220 ?_;intro j9 hj9;refine au 6806801423170 ?_;refine TK.callF' Z Z Z Z Z (hf xs[i] (lL _ (List.getElem_mem hil)) (zQ lt o (xs.take i)) firstL_mem') (.right (.right (.right (.all _)))) fun r1 K2 h3=>?_;obtain ⟨rfl,hK⟩:=h3;refine au 0 ?_;rw [hK];refine bN (K':=(j9,_)::(jc,_)::(jr,_)::K) (lH (l₁:=K)) ?_;refine au 93 ?_;constructor<;>intro hc1
  ·refine au 31230414031706804 ?_;refine bA [0,4,6,9,10,11] ?_;refine TK.keep (R:=((jc,_)::(jr,_)::K)) (.rem (by repeat (first | exact Rem.head | apply Rem.tail)) (.rem (by repeat (first | exact Rem.head | apply Rem.tail)) (.right (.all _)))) ?_;exact hnext _ _ _ oQ ⟨i+1,rfl,oQ,rfl,by rw [zbQ hil hc1] <;> rfl⟩
  refine au 312304140120 ?_;refine bA [0,4,6,9,10,11] ?_;refine TK.keep (R:=((jc,_)::(jr,_)::K)) (.rem (by repeat (first | exact Rem.head | apply Rem.tail)) (.rem (by repeat (first | exact Rem.head | apply Rem.tail)) (.right (.all _)))) ?_;exact hnext _ _ _ oQ ⟨i+1,rfl,oQ,rfl,by rw [zbP hil hc1] <;> rfl⟩
 simp only [decide_eq_false_iff_not] at hc;obtain rfl:i=xs.length:=by omega
 refine au 317068042160 ?_;refine bB hret (K) ?_;exact ⟨by rw [lW] <;> rfl,rfl⟩
section
variable {P:Program} {main:Bool} {gm:Nat->Option Nat} {T:Goroutine->Hp->Prop} {Y:KX P gm T} {ds:List Nat} {k:List Item} {env:List AV} {K:KV} {V:KV} {o:Oper}
theorem zj6 {kd:CallKind} {f:FuncId} {ro:Option Nat} {ts:Array Value} {ds:List Deferred} {cs:List Frame} {w:World} {c:Code}:stepG P main (G (fr kd f ro ts ds (.code (.scope c)::k)) cs) w=.go (G (fr kd f ro ts ds (.code c::.inScope c::k)) cs) w #[]:=by simp [G,stepG,stepG.exec,fr]
theorem zhd {kd:CallKind} {f:FuncId} {ro:Option Nat} {ts:Array Value} {ds:List Deferred} {cs:List Frame} {w:World} {c:Code}:stepG P main (G (fr kd f ro ts ds (.inScope c::k)) cs) w=.go (G (fr kd f ro ts ds k) cs) w #[]:=by simp [G,stepG,stepG.exec,fr]
theorem TK.scope {c:Code} (h:TK Y ds (.code c::.inScope c::k) env K):TK Y ds (.code (.scope c)::k) env K:=fun A hA φ H ts h1 h2 h3 h4 h5 h6=>Y.X.hT.ctlF rfl (fun _=>zj6) rfl (h A hA φ H ts h1 h2 h3 h4 h5 h6)
theorem TK.inScope {c:Code} (h:TK Y ds k env K):TK Y ds (.inScope c::k) env K:=fun A hA φ H ts h1 h2 h3 h4 h5 h6=>Y.X.hT.ctlF rfl (fun _=>zhd) rfl (h A hA φ H ts h1 h2 h3 h4 h5 h6)
theorem ziq {t yt:TypeId} {x y:Operand} {k':IntKind} {a b:Nat} (ho:o.op=.binOp .shr t x y yt) (hx:zw gm env x=some (.v (.int .i64 a))) (hy:zw gm env y=some (.v (.int k' b))) (h0:b<=60):Qk P gm env V o (.v (.int .i64 ((a / 2 ^ b:Nat):Int))):=by
 have:=q_shr (P:=P) (V:=V) ho hx hy oQ;rwa [mZ,show ((a:Int).fdiv (2 ^ b))=((a / 2 ^ b:Nat):Int) by rw [Int.fdiv_eq_ediv_of_nonneg _ (by exact_mod_cast mN (2 ^ b))]; norm_cast] at this
theorem zlR {t yt:TypeId} {x y:Operand} {k':IntKind} {b:Nat} (ho:o.op=.binOp .shl t x y yt) (hx:zw gm env x=some (.v (.int .i64 1))) (hy:zw gm env y=some (.v (.int k' b))) (h0:b<=20):Qk P gm env V o (.v (.int .i64 ((2 ^ b:Nat):Int))):=by
 have hp:2 ^ b<=2 ^ 20:=Nat.pow_le_pow_right oQ h0;have e:(1*2 ^ b:Int)=((2 ^ b:Nat):Int):=by rw [Int.one_mul]; norm_cast
 have:=q_shl (P:=P) (V:=V) ho hx hy oQ (by rw [mZ,e]; have hp':2 ^ b<=1048576:=hp; generalize 2 ^ b=m at hp' ⊢; omega);rwa [mZ,e] at this
theorem Kstep.trans {K1 K2:KV} {A A1 A2:List AObj} (h1:Kstep K A K1 A1) (h2:Kstep K1 A1 K2 A2):Kstep K A K2 A2:=by
 refine ⟨h2.view,h2.nd,fun i hi=>?_,fun j hj hn=>?_,mT h1.len h2.len⟩
 ·rcases h2.own i hi with h | h
  ·exact h1.own i h
  ·exact .inr (mT h1.len h)
 ·rw [h2.kept j (Nat.lt_of_lt_of_le hj h1.len) (fun hm=>?_)]
  ·exact h1.kept j hj hn
  ·rcases h1.own j hm with h | h
   ·exact hn h
   ·omega
theorem zem {g:FuncId} {args:List AV} {n:Nat} {l:List AV} {e:TypeId} {s:Nat} {R:KV} (h:zh P T gm g args K fun r K'=>∃ j,r=.row j n/\K'=(j,.row l e s)::R):zh P T gm g args K fun r K'=>∃ j,r=.sl j 0 n/\K'=(j,.cells l e false)::R:=by
 intro A hv hn φ F H vs c cs h1 h2 h3 q;refine h A hv hn φ F H vs c cs h1 h2 h3 fun r A' φ' H' v ⟨K',hk,j,hr,he⟩ hA hlen hH' hv'=>?_;subst hr he;have hj:A'[j]? =some (.row l e s):=hk.view.get sQ;have hb:(φ' j).base=0:=(hH'.obj j _ hj).2.1;refine q (.sl j 0 n) (A'.set j (.cells l e false)) φ' H' v ⟨_,hk.trans (.set hk.view hk.nd .head),j,rfl,rfl⟩ hA (by simpa using hlen) (hH'.turn hj (fun ho hl=>?_) (fun h=>by cases h) (fun _=>rfl) (fun hs=>?_)) ?_
 ·have hc:0<(φ' j).cap:=by
   rcases mP (φ' j).cap with e | e
   ·exact absurd (ho.1 e) hl
   ·exact e
  obtain ⟨cur,q1,q2,q3,q4,q5⟩:=ho.2.2 hc;exact ⟨true,cur,(_,0,0),q1,(fun h=>by cases h),fun t u hu=>by rw [hb,mO]; exact q5 t u hu⟩
 ·show 0<(φ' j).cap;rcases mP (φ' j).cap with e | e
  ·exact absurd ((hH'.obj j _ hj).1 e) hs
  ·exact e
 ·have:=wP (j:=j) hb hv';simpa [unrow] using this
end
theorem yB (xs:List Int) (e:TypeId) (rw':Bool):IntsAt (.cells (xs.map intA) e rw') 0 xs:=fun i h=>by
 simp only [z8,AObj.look,mZ,mO,Nat.mul_one];rw [if_pos (by simp; omega)];simp [List.take_one,h]
theorem vI {K:KV} {x:Nat×AObj}:x∈K->∃ R,Rem K x R:=by
 induction K with
 | nil=>intro h; cases h
 | cons y K ih =>
  intro h;rcases lI.1 h with rfl | h
  ·exact ⟨_,.head⟩
  ·obtain ⟨R,hR⟩:=ih h; exact ⟨_,.tail hR⟩
theorem zjC {main T} (hT:zk tp main T) {gm} {S:List Int} (hS:S.length<=3) (hB:∀ x∈S,0<=x/\x<1000):zh tp T gm 119 [.agg (zX S)] [] (fun r K'=>∃ j,r=.sl j 0 S.length/\K'=[(j,.cells (S.map intA) 3 false)]):=zem (za6 hT hS hB)
def bitB (bits i:Nat):Bool:=((bits / 2 ^ i % 2:Nat):Int)==1
def allR (b:Bk) (S:List Int) (bits n:Nat):Bool:=(List.range n).all fun i => !(bitB bits i)||rightM b S i
def togM (b:Bk) (bits:Nat):Bool:=(allM b).any fun S=>allR b S bits b.seekers.length
theorem zdj (b:Bk) (S:List Int) (bits i:Nat):allR b S bits (i+1)=(allR b S bits i&&(!(bitB bits i)||rightM b S i)):=by
 unfold allR; rw [List.range_succ,List.all_append]; simp
theorem zi1 {b:Bk} {S:List Int} {bits i n:Nat} (hi:i<n) (h:(!(bitB bits i)||rightM b S i)=false):allR b S bits n=false:=by
 unfold allR;rw [List.all_eq_false];exact ⟨i,List.mem_range.2 hi,by rw [h]; decide⟩
theorem zbF {main:Bool} {T:Goroutine->Hp->Prop} (hT:zk tp main T)  {b:Bk} {s e:Nat} {bits:Nat} (hse:s≠e) (hb:BkOk b) (hbt:bits<100000) :
  zh tp T gmS 123 [.agg (zC b s e),intA bits] [(1,zB),(s,zo b),(e,zp b)] (fun r K'=>r=zm (togM b bits)/\K'=[(1,zB),(s,zo b),(e,zp b)]):=by
 refine vm 30 hT Tryz.func123 fun Y hro hret=>?_;refine au 21042 ?_;intro jb hjb;refine au 210 ?_;intro jt hjt;refine au 220 ?_;intro jr hjr;refine au 3 ?_;refine TK.scope ?_;refine au 13033206804221502 ?_;refine TK.rangeAll hT hb (s:=s) (e:=e) (J:=fun pre K1=>K1=[(jr,.cells [zm false] 4 true),(jb,.cells (zC b s e) 205 true),(jt,.cells [intA bits] 3 true),(1,zB),(s,zo b)]/\∀ S∈pre,allR b S bits b.seekers.length=false) (D:=fun c K1=>c=.ret/\K1=[(jr,.cells [zm true] 4 true),(jb,.cells (zC b s e) 205 true),(jt,.cells [intA bits] 3 true),(1,zB),(s,zo b)]/\togM b bits=true) rfl hro rfl (by repeat (first | exact Split.none _ | exact Split.all _ | (apply Split.rem; repeat (first | exact Rem.head | apply Rem.tail)) | apply Split.right)) ⟨rfl,by simp⟩ (fun Y' l lo lb pre S K1 hbegin hfin hout hpre hJ=>?_) (fun d K2 hJ=>?_) (fun d c K2 hD=>?_)
 ·obtain ⟨rfl,hni⟩:=hJ;have hSm:=uL hb hpre;have hn5:=hb.ns;refine au 2204 ?_;intro j9 hj9;refine au 3170 ?_;refine hbegin _ _ _ _ _ uQ ?_;refine au 13031280690670670422130 ?_;refine bA [2,3,4,5,13,14] ?_;refine bC [(j9,_),(l,_),(e,_),(jr,_),(jb,_),(jt,_),(1,_),(s,_)] ?_;refine bE (fun n env K=>∃ (i:Nat),n=b.seekers.length - i/\i<=b.seekers.length/\allR b S bits i=true/\env=zW 30 [(2,.ptr jb 0),(3,.ptr jt 0),(4,.ptr jr 0),(5,.ptr j9 0),(13,intA b.seekers.length),(14,intA i)]/\K=[(j9,.cells (zX S) 209 true),(l,lb),(e,zp b),(jr,.cells [zm false] 4 true),(jb,.cells (zC b s e) 205 true),(jt,.cells [intA bits] 3 true),(1,zB),(s,zo b)]) b.seekers.length ⟨0,rfl,mN _,rfl,rfl,rfl⟩ fun n env K hI' hnext=>?_;obtain ⟨i,rfl,hi,hall,rfl,rfl⟩:=hI';refine au 923742 ?_;refine ⟨fun hc=>?_,fun hc=>?_⟩
  ·simp only [decide_eq_true_eq] at hc;have hil:i<b.seekers.length:=by omega
   refine au 169042351421302120 ?_;refine bH Z (ziq Z Z Z oQ) ?_;refine bH Z (zik Z Z Z (by have:=Nat.div_le_self bits (2 ^ i); omega)) ?_;refine au 17 ?_;refine bF 22 (fun g6_6=>?_) (fun g6_6=>?_)
   ·refine au 1680680 ?_;refine bD Z Z Z Z (zag hT (s:=s) (e:=e) hb hSm hil) ?_;rintro r1 K2 ⟨rfl,rfl⟩;refine au 93260300 ?_;constructor<;>intro hc1
    ·refine au 160 ?_;exact hfin _ _ [(jr,_),(jb,_),(jt,_),(1,_),(s,_)] _ (by repeat (first | exact Split.none _ | exact Split.all _ | (apply Split.rem; repeat (first | exact Rem.head | apply Rem.tail)) | apply Split.right)) ⟨rfl,fun R hR=>by
      rcases lT.1 hR with hR | hR
      ·exact hni R hR
      ·rw [lS.1 hR]; exact zi1 hil (by rw [show bitB bits i=true from g6_6,show rightM b S i=false by simpa using hc1]; rfl)⟩
    refine au 312304140120 ?_;refine bA [2,3,4,5,13,14] ?_;refine bC [(j9,_),(l,_),(e,_),(jr,_),(jb,_),(jt,_),(1,_),(s,_)] ?_;exact hnext _ _ _ oQ ⟨i+1,rfl,oQ,by rw [zdj,hall,show rightM b S i=true by simpa using hc1]; simp,rfl,rfl⟩
   refine au 312304140120190325088888 ?_;refine bA [2,3,4,5,13,14] ?_;refine bC [(j9,_),(l,_),(e,_),(jr,_),(jb,_),(jt,_),(1,_),(s,_)] ?_;exact hnext _ _ _ oQ ⟨i+1,rfl,oQ,by rw [zdj,hall,show bitB bits i=false from g6_6]; rfl,rfl,rfl⟩
  simp only [decide_eq_false_iff_not] at hc;obtain rfl:i=b.seekers.length:=by omega
  refine au 317042160 ?_;exact hout _ _ _ _ [(jr,_),(jb,_),(jt,_),(1,_),(s,_)] _ (.ret _) (by repeat (first | exact Split.none _ | exact Split.all _ | (apply Split.rem; repeat (first | exact Rem.head | apply Rem.tail)) | apply Split.right)) ⟨rfl,rfl,List.any_eq_true.2 ⟨S,hpre.subset sQ,hall⟩⟩
 ·obtain ⟨rfl,hni⟩:=hJ;simp only [cA];refine au 317042140 ?_;refine TK.leave (.ret _) fun A hA=>hret _ _ _ _ ([(1,_),(s,_),(e,_),(jr,_)]) ([(1,_),(s,_),(e,_)]) _ _ _ (.inr rfl) (by repeat (first | exact Split.none _ | exact Split.all _ | (apply Split.rem; repeat (first | exact Rem.head | apply Rem.tail)) | apply Split.right)) sQ sQ (by repeat (first | exact Split.none _ | exact Split.all _ | (apply Split.rem; repeat (first | exact Rem.head | apply Rem.tail)) | apply Split.right)) (yQ (yD Z zd.h mQ rfl)) ?_ A hA;exact ⟨by rw [show togM b bits=false from List.any_eq_false.2 fun S hS=>by rw [hni S hS]; decide]; rfl,rfl⟩
 ·obtain ⟨rfl,rfl,htg⟩:=hD;simp only [cA];refine au 0 ?_;refine TK.leave (.ret _) fun A hA=>hret _ _ _ _ ([(1,_),(s,_),(e,_),(jr,_)]) ([(1,_),(s,_),(e,_)]) _ _ _ (.inr rfl) (by repeat (first | exact Split.none _ | exact Split.all _ | (apply Split.rem; repeat (first | exact Rem.head | apply Rem.tail)) | apply Split.right)) sQ sQ (by repeat (first | exact Split.none _ | exact Split.all _ | (apply Split.rem; repeat (first | exact Rem.head | apply Rem.tail)) | apply Split.right)) (yQ (yD Z zd.h mQ rfl)) ?_ A hA;exact ⟨by rw [htg] <;> rfl,rfl⟩
def locV:Value->Loc3
 | .slice (some a) _ _=>⟨a.block,a.off,0⟩
 | _=>⟨0,0,0⟩
def holdAll (W:World):Hp:=fun b=>(W.heap[b]?).map fun o=>(false,o)
theorem zeK (W:World):zY (holdAll W) W:=fun b rw' o h=>by
 unfold holdAll at h;obtain ⟨x,h1,h2⟩:=Option.map_eq_some_iff.1 h;cases h2;exact h1
theorem wj {W:World} {b:Nat} {o:Obj} (h:W.heap[b]? =some o):holdAll W b=some (false,o):=by unfold holdAll; rw [h]; rfl
theorem zeD {α:Type} {f:α->List AV} {c:Nat} (hc:∀ x,(f x).length=c):∀ (zs:List α) (j:Nat) a,(zs.flatMap f)[j]? =some a->∃ i z jj,zs[i]? =some z/\jj<c/\j=i*c+jj/\(f z)[jj]? =some a
 | [],j,a,h=>by simp at h
 | z::zs,j,a,h=>by
  rw [List.flatMap_cons] at h;rcases Nat.lt_or_ge j c with hj | hj
  ·rw [List.getElem?_append_left (by rw [hc]; exact hj)] at h;exact ⟨0,z,j,rfl,hj,oQ,h⟩
  ·rw [List.getElem?_append_right (by rw [hc]; exact hj),hc] at h;obtain ⟨i,y,jj,h1,h2,h3,h4⟩:=zeD hc zs _ a h;exact ⟨i+1,y,jj,h1,h2,by rw [Nat.succ_mul]; omega,h4⟩
theorem za9 {W:World} {α:Type} {vals:α->List Value} {f:α->List AV} {c:Nat} {zs:List α} {v:Value} {φ:Nat->Loc3} {n:Nat} {e:TypeId} (h:SlIn W vals c zs v) (hc:∀ x,(f x).length=c)
  (hrel:∀ z (jj:Nat) a,(f z)[jj]? =some a->∃ y,(vals z)[jj]? =some y/\RelV φ n a y):RelO φ n (locV v) (holdAll W) (.cells (zs.flatMap f) e false):=by
 intro hne;obtain ⟨b,cap,rfl,hle,hq⟩:=h;have hpos:0<zs.length:=by
  rcases mP zs.length with h0 | h0
  ·rw [lK h0] at hne; exact absurd rfl hne
  ·exact h0
 obtain ⟨blk,off,cur,e',fz,rfl,hh,hcell⟩:=hq hpos;refine ⟨false,cur,(e',fz),wj hh,(fun h=>by cases h),fun j a ha=>?_⟩;obtain ⟨i,z,jj,h1,h2,rfl,h4⟩:=zeD hc zs j a ha;obtain ⟨y,h5,h6⟩:=hrel z jj a h4;exact ⟨y,(hcell i z jj h1 h2).trans h5,h6⟩
theorem zba {W:World} {α:Type} {vals:α->List Value} {c:Nat} {zs:List α} {v:Value} {φ:Nat->Loc3} {n i:Nat} (h:SlIn W vals c zs v) (hi:i<n) (hφ:φ i=locV v):RelV φ n (.sl i 0 zs.length) v:=by
 obtain ⟨b,cap,rfl,hle,hq⟩:=h;refine .sl hi hle fun hpos=>?_;obtain ⟨blk,off,cur,e',fz,rfl,_⟩:=hq hpos;rw [hφ];rfl
theorem zjZ {φ:Nat->Loc3} {n:Nat} (z:Says) (jj:Nat) (a:AV) (h:(saysC z)[jj]? =some a):∃ y,(saysV z)[jj]? =some y/\RelV φ n a y:=by
 match jj,h with
 | 0,h=>cases h; exact ⟨_,rfl,.v _⟩
 | 1,h=>cases h; exact ⟨_,rfl,.v _⟩
 | 2,h=>cases h; exact ⟨_,rfl,.v _⟩
 | 3,h=>cases h; exact ⟨_,rfl,.v _⟩
 | 4,h=>cases h; exact ⟨_,rfl,.v _⟩
 | jj+5,h=>simp [saysC] at h
theorem zj3 {φ:Nat->Loc3} {n:Nat} (z:Seen) (jj:Nat) (a:AV) (h:(seenC z)[jj]? =some a):∃ y,(seenV z)[jj]? =some y/\RelV φ n a y:=by
 match jj,h with
 | 0,h=>cases h; exact ⟨_,rfl,.v _⟩
 | 1,h=>cases h; exact ⟨_,rfl,.v _⟩
 | jj+2,h=>simp [seenC] at h
end Go.Vel
namespace Go.Vel
open Go Go.Proofs
section
variable {P:Program}
theorem zc4 (s:String):zE P (Extern.RuntimeError.text s):=trivial
instance (s:String):SOk P (Extern.RuntimeError.text s):=⟨zc4 s⟩
instance {α:Type} (a:α):SOk P (pure a:Sem α):=⟨trivial⟩
theorem zg5 (a:Array Value):zE P (Extern.RuntimeError.nothing a):=trivial
theorem zie (a:Array Value):zE P (Extern.RuntimeError.boundsError a):=by
 have hs:∀ x,zE P (stuck x:Sem Value):=fun x=>SOk.ok;rcases a with ⟨_ | ⟨v,_ | ⟨w,l⟩⟩⟩
 ·exact hs _
 ·cases v <;> try exact hs _
  rename_i xs;rcases xs with ⟨_ | ⟨v1,_ | ⟨v2,_ | ⟨v3,_ | ⟨v4,_ | ⟨v5,l⟩⟩⟩⟩⟩⟩ <;> try exact hs _
  ·cases v1 <;> try exact hs _
   cases v2 <;> try exact hs _
   cases v3 <;> try exact hs _
   cases v4 <;> try exact hs _
   show zE P (match (_:Option String) with | some fmt=>Extern.RuntimeError.text _ | none=>stuck _);split
   ·exact zc4 _
   ·exact hs _
 ·cases v <;> exact hs _
theorem zaL {α:Type} (s:Sem α) (h:zE P s:=by repeat' (first | assumption | exact SOk.ok | exact zam _ | (refine zf ?_ (fun _=>?_)) | split | (intro _) | with_reducible exact trivial)):zE P s:=h
theorem zeZ (v:Value):zE P (Extern.RuntimeError.described v):=by
 unfold Extern.RuntimeError.described
 repeat' (first | assumption | exact SOk.ok | exact zam _ | (refine zf ?_ (fun _=>?_)) | split | (intro _) | with_reducible exact trivial)
instance (v:Value):SOk P (Extern.RuntimeError.described v):=⟨zeZ v⟩
theorem zg6 (v:TypeInfo):zE P (Extern.RuntimeError.pkgpathOf v):=by
 unfold Extern.RuntimeError.pkgpathOf;exact zaL _
instance (v:TypeInfo):SOk P (Extern.RuntimeError.pkgpathOf v):=⟨zg6 v⟩
theorem zig (a:Array Value):zE P (Extern.RuntimeError.unhashableTypeError a):=by
 have hs:∀ x,zE P (stuck x:Sem Value):=fun x=>SOk.ok;rcases a with ⟨_ | ⟨v,_ | ⟨w,l⟩⟩⟩
 ·exact hs _
 ·cases v <;> try exact hs _
  rename_i xs;rcases xs with ⟨_ | ⟨t,_ | ⟨v2,l⟩⟩⟩
  ·exact hs _
  ·show zE P (Extern.RuntimeError.described t >>= _);exact zaL _
  ·exact hs _
 ·cases v <;> exact hs _
theorem zic (a:Array Value):zE P (Extern.RuntimeError.typeAssertionError a):=by
 unfold Extern.RuntimeError.typeAssertionError;exact zaL _
theorem yM {l:List (String×(Array Value->Sem Value))} (h:∀ x∈l,∀ a,zE P (x.2 a)) {k:String} {e:Array Value->Sem Value} (he:l.lookup k=some e) (a:Array Value):zE P (e a):=by
 induction l with
 | nil=>cases he
 | cons x l ih =>
  obtain ⟨n,f⟩:=x;rw [List.lookup_cons] at he;split at he
  ·cases he; exact h _ List.mem_cons_self a
  ·exact ih (fun x hx=>h x (lL _ hx)) he
theorem yL:∀ x∈Extern.RuntimeError.rows,∀ a,zE P (x.2 a):=by
 intro x hx a;unfold Extern.RuntimeError.rows at hx;simp only [lI,List.not_mem_nil,or_false] at hx;rcases hx with rfl | rfl | rfl | rfl | rfl | rfl | rfl | rfl | rfl | rfl | rfl | rfl | rfl | rfl | rfl;all_goals
  dsimp only;first
  | exact zg5 a
  | exact zie a
  | exact zic a
  | exact zig a
  | exact zc4 _
  | exact zaL _
theorem zkJ {e:Array Value->Sem Value} (he:(Extern.ReflectliteType.rows.getLast?).map (·.2)=some e) (a:Array Value):zE P (e a):=by
 unfold Extern.ReflectliteType.rows at he;simp only [List.getLast?_cons_cons,List.getLast?_singleton,Option.map_some,Option.some.injEq] at he;subst he;exact zaL _
end
theorem nx0:Extern.findNext Tryz.f0=none:=Option.isNone_iff_eq_none.1 (by kernel_rfl)
theorem fd0:Extern.find Tryz.f0=none:=Option.isNone_iff_eq_none.1 (by kernel_rfl)
theorem nx1:Extern.findNext Tryz.f1=none:=Option.isNone_iff_eq_none.1 (by kernel_rfl)
theorem fd1:Extern.find Tryz.f1=none:=Option.isNone_iff_eq_none.1 (by kernel_rfl)
theorem nx244:Extern.findNext Tryz.f244=none:=Option.isNone_iff_eq_none.1 (by kernel_rfl)
theorem fd244:Extern.find Tryz.f244=Extern.RuntimeError.rows.lookup Tryz.f244.name:=by kernel_rfl
theorem nx245:Extern.findNext Tryz.f245=none:=Option.isNone_iff_eq_none.1 (by kernel_rfl)
theorem fd245:Extern.find Tryz.f245=Extern.RuntimeError.rows.lookup Tryz.f245.name:=by kernel_rfl
theorem nx246:Extern.findNext Tryz.f246=none:=Option.isNone_iff_eq_none.1 (by kernel_rfl)
theorem fd246:Extern.find Tryz.f246=Extern.RuntimeError.rows.lookup Tryz.f246.name:=by kernel_rfl
theorem nx247:Extern.findNext Tryz.f247=none:=Option.isNone_iff_eq_none.1 (by kernel_rfl)
theorem fd247:Extern.find Tryz.f247=Extern.RuntimeError.rows.lookup Tryz.f247.name:=by kernel_rfl
theorem nx248:Extern.findNext Tryz.f248=none:=Option.isNone_iff_eq_none.1 (by kernel_rfl)
theorem fd248:Extern.find Tryz.f248=Extern.RuntimeError.rows.lookup Tryz.f248.name:=by kernel_rfl
theorem nx249:Extern.findNext Tryz.f249=none:=Option.isNone_iff_eq_none.1 (by kernel_rfl)
theorem fd249:Extern.find Tryz.f249=Extern.RuntimeError.rows.lookup Tryz.f249.name:=by kernel_rfl
theorem nx250:Extern.findNext Tryz.f250=none:=Option.isNone_iff_eq_none.1 (by kernel_rfl)
theorem fd250:Extern.find Tryz.f250=Extern.RuntimeError.rows.lookup Tryz.f250.name:=by kernel_rfl
theorem nx251:Extern.findNext Tryz.f251=none:=Option.isNone_iff_eq_none.1 (by kernel_rfl)
theorem fd251:Extern.find Tryz.f251=Extern.RuntimeError.rows.lookup Tryz.f251.name:=by kernel_rfl
theorem nx252:Extern.findNext Tryz.f252=none:=Option.isNone_iff_eq_none.1 (by kernel_rfl)
theorem fd252:Extern.find Tryz.f252=Extern.RuntimeError.rows.lookup Tryz.f252.name:=by kernel_rfl
theorem nx253:Extern.findNext Tryz.f253=none:=Option.isNone_iff_eq_none.1 (by kernel_rfl)
theorem fd253:Extern.find Tryz.f253=Extern.RuntimeError.rows.lookup Tryz.f253.name:=by kernel_rfl
theorem nx254:Extern.findNext Tryz.f254=none:=Option.isNone_iff_eq_none.1 (by kernel_rfl)
theorem fd254:Extern.find Tryz.f254=Extern.RuntimeError.rows.lookup Tryz.f254.name:=by kernel_rfl
theorem nx255:Extern.findNext Tryz.f255=none:=Option.isNone_iff_eq_none.1 (by kernel_rfl)
theorem fd255:Extern.find Tryz.f255=Extern.RuntimeError.rows.lookup Tryz.f255.name:=by kernel_rfl
theorem nx256:Extern.findNext Tryz.f256=none:=Option.isNone_iff_eq_none.1 (by kernel_rfl)
theorem fd256:Extern.find Tryz.f256=none:=Option.isNone_iff_eq_none.1 (by kernel_rfl)
theorem nx257:Extern.findNext Tryz.f257=none:=Option.isNone_iff_eq_none.1 (by kernel_rfl)
theorem fd257:Extern.find Tryz.f257=Extern.RuntimeError.rows.lookup Tryz.f257.name:=by kernel_rfl
theorem nx258:Extern.findNext Tryz.f258=none:=Option.isNone_iff_eq_none.1 (by kernel_rfl)
theorem fd258:Extern.find Tryz.f258=Extern.RuntimeError.rows.lookup Tryz.f258.name:=by kernel_rfl
theorem nx259:Extern.findNext Tryz.f259=none:=Option.isNone_iff_eq_none.1 (by kernel_rfl)
theorem fd259:Extern.find Tryz.f259=none:=Option.isNone_iff_eq_none.1 (by kernel_rfl)
theorem nx260:Extern.findNext Tryz.f260=none:=Option.isNone_iff_eq_none.1 (by kernel_rfl)
theorem fd260:Extern.find Tryz.f260=none:=Option.isNone_iff_eq_none.1 (by kernel_rfl)
theorem nx261:Extern.findNext Tryz.f261=none:=Option.isNone_iff_eq_none.1 (by kernel_rfl)
theorem fd261:Extern.find Tryz.f261=none:=Option.isNone_iff_eq_none.1 (by kernel_rfl)
theorem nx263:Extern.findNext Tryz.f263=none:=Option.isNone_iff_eq_none.1 (by kernel_rfl)
theorem fd263:Extern.find Tryz.f263=(Extern.ReflectliteType.rows.getLast?).map (·.2):=by kernel_rfl
theorem nx319:Extern.findNext Tryz.f319=none:=Option.isNone_iff_eq_none.1 (by kernel_rfl)
theorem fd319:Extern.find Tryz.f319=none:=Option.isNone_iff_eq_none.1 (by kernel_rfl)
theorem nx320:Extern.findNext Tryz.f320=none:=Option.isNone_iff_eq_none.1 (by kernel_rfl)
theorem fd320:Extern.find Tryz.f320=none:=Option.isNone_iff_eq_none.1 (by kernel_rfl)
theorem nx321:Extern.findNext Tryz.f321=none:=Option.isNone_iff_eq_none.1 (by kernel_rfl)
theorem fd321:Extern.find Tryz.f321=none:=Option.isNone_iff_eq_none.1 (by kernel_rfl)
theorem nx322:Extern.findNext Tryz.f322=none:=Option.isNone_iff_eq_none.1 (by kernel_rfl)
theorem fd322:Extern.find Tryz.f322=none:=Option.isNone_iff_eq_none.1 (by kernel_rfl)
theorem nx323:Extern.findNext Tryz.f323=none:=Option.isNone_iff_eq_none.1 (by kernel_rfl)
theorem fd323:Extern.find Tryz.f323=none:=Option.isNone_iff_eq_none.1 (by kernel_rfl)
theorem nx324:Extern.findNext Tryz.f324=none:=Option.isNone_iff_eq_none.1 (by kernel_rfl)
theorem fd324:Extern.find Tryz.f324=none:=Option.isNone_iff_eq_none.1 (by kernel_rfl)
theorem nx325:Extern.findNext Tryz.f325=none:=Option.isNone_iff_eq_none.1 (by kernel_rfl)
theorem fd325:Extern.find Tryz.f325=none:=Option.isNone_iff_eq_none.1 (by kernel_rfl)
theorem nx326:Extern.findNext Tryz.f326=none:=Option.isNone_iff_eq_none.1 (by kernel_rfl)
theorem fd326:Extern.find Tryz.f326=none:=Option.isNone_iff_eq_none.1 (by kernel_rfl)
theorem nx327:Extern.findNext Tryz.f327=none:=Option.isNone_iff_eq_none.1 (by kernel_rfl)
theorem fd327:Extern.find Tryz.f327=none:=Option.isNone_iff_eq_none.1 (by kernel_rfl)
theorem nx328:Extern.findNext Tryz.f328=none:=Option.isNone_iff_eq_none.1 (by kernel_rfl)
theorem fd328:Extern.find Tryz.f328=none:=Option.isNone_iff_eq_none.1 (by kernel_rfl)
theorem tameN:(tp.funcs.all fun fn => !(fn.name == "runtime.NumGoroutine"))=true:=by kernel_rfl
theorem tameB:((List.range tp.funcs.size).all fun i=>[0,1,244,245,246,247,248,249,250,251,252,253,254,255,256,257,258,259,260,261,263,319,320,321,322,323,324,325,326,327,328].elem i||((tp.funcs[i]?).map (·.body.isSome)).getD false)=true:=by kernel_rfl
theorem tame:Tame tp:=fun f fn hf=>by
 refine ⟨by simpa using Array.all_eq_true_iff_forall_mem.1 tameN fn (Array.mem_of_getElem? hf),fun hb=>?_⟩;have hlt:=(Array.getElem?_eq_some_iff.1 hf).1;have h:=List.all_eq_true.1 tameB f (List.mem_range.2 hlt);rw [hf,Option.map_some,Option.getD_some] at h;rw [Option.isNone_iff_eq_none] at hb;rw [hb] at h;simp only [Option.isSome_none,Bool.or_false,List.elem_eq_mem,decide_eq_true_eq,lI,List.not_mem_nil,or_false] at h;rcases h with rfl | rfl | rfl | rfl | rfl | rfl | rfl | rfl | rfl | rfl | rfl | rfl | rfl | rfl | rfl | rfl | rfl | rfl | rfl | rfl | rfl | rfl | rfl | rfl | rfl | rfl | rfl | rfl | rfl | rfl | rfl
 ·obtain rfl:fn=Tryz.f0:=(Option.some.inj (Tryz.func0.symm.trans hf)).symm;exact ⟨nx0,fun e he=>by rw [fd0] at he; cases he⟩
 ·obtain rfl:fn=Tryz.f1:=(Option.some.inj (Tryz.func1.symm.trans hf)).symm;exact ⟨nx1,fun e he=>by rw [fd1] at he; cases he⟩
 ·obtain rfl:fn=Tryz.f244:=(Option.some.inj (Tryz.func244.symm.trans hf)).symm;exact ⟨nx244,fun e he args=>by rw [fd244] at he; exact yM yL he args⟩
 ·obtain rfl:fn=Tryz.f245:=(Option.some.inj (Tryz.func245.symm.trans hf)).symm;exact ⟨nx245,fun e he args=>by rw [fd245] at he; exact yM yL he args⟩
 ·obtain rfl:fn=Tryz.f246:=(Option.some.inj (Tryz.func246.symm.trans hf)).symm;exact ⟨nx246,fun e he args=>by rw [fd246] at he; exact yM yL he args⟩
 ·obtain rfl:fn=Tryz.f247:=(Option.some.inj (Tryz.func247.symm.trans hf)).symm;exact ⟨nx247,fun e he args=>by rw [fd247] at he; exact yM yL he args⟩
 ·obtain rfl:fn=Tryz.f248:=(Option.some.inj (Tryz.func248.symm.trans hf)).symm;exact ⟨nx248,fun e he args=>by rw [fd248] at he; exact yM yL he args⟩
 ·obtain rfl:fn=Tryz.f249:=(Option.some.inj (Tryz.func249.symm.trans hf)).symm;exact ⟨nx249,fun e he args=>by rw [fd249] at he; exact yM yL he args⟩
 ·obtain rfl:fn=Tryz.f250:=(Option.some.inj (Tryz.func250.symm.trans hf)).symm;exact ⟨nx250,fun e he args=>by rw [fd250] at he; exact yM yL he args⟩
 ·obtain rfl:fn=Tryz.f251:=(Option.some.inj (Tryz.func251.symm.trans hf)).symm;exact ⟨nx251,fun e he args=>by rw [fd251] at he; exact yM yL he args⟩
 ·obtain rfl:fn=Tryz.f252:=(Option.some.inj (Tryz.func252.symm.trans hf)).symm;exact ⟨nx252,fun e he args=>by rw [fd252] at he; exact yM yL he args⟩
 ·obtain rfl:fn=Tryz.f253:=(Option.some.inj (Tryz.func253.symm.trans hf)).symm;exact ⟨nx253,fun e he args=>by rw [fd253] at he; exact yM yL he args⟩
 ·obtain rfl:fn=Tryz.f254:=(Option.some.inj (Tryz.func254.symm.trans hf)).symm;exact ⟨nx254,fun e he args=>by rw [fd254] at he; exact yM yL he args⟩
 ·obtain rfl:fn=Tryz.f255:=(Option.some.inj (Tryz.func255.symm.trans hf)).symm;exact ⟨nx255,fun e he args=>by rw [fd255] at he; exact yM yL he args⟩
 ·obtain rfl:fn=Tryz.f256:=(Option.some.inj (Tryz.func256.symm.trans hf)).symm;exact ⟨nx256,fun e he=>by rw [fd256] at he; cases he⟩
 ·obtain rfl:fn=Tryz.f257:=(Option.some.inj (Tryz.func257.symm.trans hf)).symm;exact ⟨nx257,fun e he args=>by rw [fd257] at he; exact yM yL he args⟩
 ·obtain rfl:fn=Tryz.f258:=(Option.some.inj (Tryz.func258.symm.trans hf)).symm;exact ⟨nx258,fun e he args=>by rw [fd258] at he; exact yM yL he args⟩
 ·obtain rfl:fn=Tryz.f259:=(Option.some.inj (Tryz.func259.symm.trans hf)).symm;exact ⟨nx259,fun e he=>by rw [fd259] at he; cases he⟩
 ·obtain rfl:fn=Tryz.f260:=(Option.some.inj (Tryz.func260.symm.trans hf)).symm;exact ⟨nx260,fun e he=>by rw [fd260] at he; cases he⟩
 ·obtain rfl:fn=Tryz.f261:=(Option.some.inj (Tryz.func261.symm.trans hf)).symm;exact ⟨nx261,fun e he=>by rw [fd261] at he; cases he⟩
 ·obtain rfl:fn=Tryz.f263:=(Option.some.inj (Tryz.func263.symm.trans hf)).symm;exact ⟨nx263,fun e he args=>by rw [fd263] at he; exact zkJ he args⟩
 ·obtain rfl:fn=Tryz.f319:=(Option.some.inj (Tryz.func319.symm.trans hf)).symm;exact ⟨nx319,fun e he=>by rw [fd319] at he; cases he⟩
 ·obtain rfl:fn=Tryz.f320:=(Option.some.inj (Tryz.func320.symm.trans hf)).symm;exact ⟨nx320,fun e he=>by rw [fd320] at he; cases he⟩
 ·obtain rfl:fn=Tryz.f321:=(Option.some.inj (Tryz.func321.symm.trans hf)).symm;exact ⟨nx321,fun e he=>by rw [fd321] at he; cases he⟩
 ·obtain rfl:fn=Tryz.f322:=(Option.some.inj (Tryz.func322.symm.trans hf)).symm;exact ⟨nx322,fun e he=>by rw [fd322] at he; cases he⟩
 ·obtain rfl:fn=Tryz.f323:=(Option.some.inj (Tryz.func323.symm.trans hf)).symm;exact ⟨nx323,fun e he=>by rw [fd323] at he; cases he⟩
 ·obtain rfl:fn=Tryz.f324:=(Option.some.inj (Tryz.func324.symm.trans hf)).symm;exact ⟨nx324,fun e he=>by rw [fd324] at he; cases he⟩
 ·obtain rfl:fn=Tryz.f325:=(Option.some.inj (Tryz.func325.symm.trans hf)).symm;exact ⟨nx325,fun e he=>by rw [fd325] at he; cases he⟩
 ·obtain rfl:fn=Tryz.f326:=(Option.some.inj (Tryz.func326.symm.trans hf)).symm;exact ⟨nx326,fun e he=>by rw [fd326] at he; cases he⟩
 ·obtain rfl:fn=Tryz.f327:=(Option.some.inj (Tryz.func327.symm.trans hf)).symm;exact ⟨nx327,fun e he=>by rw [fd327] at he; cases he⟩
 ·obtain rfl:fn=Tryz.f328:=(Option.some.inj (Tryz.func328.symm.trans hf)).symm;exact ⟨nx328,fun e he=>by rw [fd328] at he; cases he⟩
end Go.Vel
namespace Go.Vel
open Go Go.Conc Go.Proofs Go.ChangeShapes Go.WideShapes Go.ChangeAt Go.RowKit
theorem vT {φ:Nat->Loc3} {n f:Nat}:RelV φ n (.fn f [] []) (.func (.func f) #[] #[]):=.fn rfl (fun j a y h=>by simp at h) rfl (fun j a y h=>by simp at h)
theorem zde {W:World} {φ:Nat->Loc3} {n g f1 f2 f3:Nat} {e:TypeId} (h:∃ cur e fz,W.heap[g]? =some (.cells cur e fz)/\cur[0]? =some (.func (.func f1) #[] #[])/\cur[1]? =some (.func (.func f2) #[] #[])/\cur[2]? =some (.func (.func f3) #[] #[])):RelO φ n ⟨g,0,0⟩ (holdAll W) (.cells [.fn f1 [] [],.fn f2 [] [],.fn f3 [] []] e false):=by
 intro _;obtain ⟨cur,e',fz,hh,h0,h1,h2⟩:=h;refine ⟨false,cur,(e',fz),wj hh,(fun h=>by cases h),fun j a ha=>?_⟩
 match j,ha with
 | 0,ha=>cases ha; exact ⟨_,h0,vT⟩
 | 1,ha=>cases ha; exact ⟨_,h1,vT⟩
 | 2,ha=>cases ha; exact ⟨_,h2,vT⟩
 | j+3,ha=>simp at ha
def KeptAll (W w:World):Prop:=∀ i,i<W.heap.size->w.heap[i]? =W.heap[i]?
theorem own:ownKnob tp.godebug=none:=by kernel_rfl
theorem zjz {W w:World} (ho:w.os=W.os) (hu:w.output=W.output) (hk:KeptAll W w) (may:MemPlace->Prop):W.keptBut w may:=by
 refine ⟨ho,hu,fun i hi=>?_⟩;rw [hk i hi];cases W.heap[i]? with
 | none=>rfl
 | some o=>cases o <;> simp
theorem zk6 {W w:World} (hk:KeptAll W w) {p:MemPlace} (hp:p.block<W.heap.size):W.sameAt w p:=by
 have:=hk p.block hp;cases p with
 | cell b o=>exact World.cell?_of_block (w:=W) this
 | map b=>exact this
theorem okAgg {P:Program} {W:World} {base:Nat} {t:TypeId} {fs:Array Field} {v:Value} (ht:P.underlying t=some (.struct fs)) (h:Value.okWide P W .any base t v):∃ cs,v=.agg cs:=by
 unfold Value.okWide at h;rw [ht] at h;obtain ⟨cs,h1,_⟩:=h;exact ⟨cs,h1⟩
theorem wt:laidOutB tp=true:=by kernel_rfl
theorem wO {H:Type} {enc:TypeId×Value->H} {W w:World} {t:TypeId} {v:Value} {d:DataW H} {p:List MemPlace} (hl:laidOutB Tryz.prog=true) (h:DataW.Trod enc Tryz.prog W 0 (fun _=>true) true t v d p) (hk:KeptAll W w) (hr:Tryz.prog.readableRec t=true:=by kernel_rfl) (hrow:decide (t<Tryz.prog.types.size)=true:=by kernel_rfl):DataW.Trod enc Tryz.prog w 0 (fun b=>decide (b<W.heap.size)) true t v d p:=by
 have hlt:∀ x∈p,x.block<W.heap.size:=by obtain ⟨n,hn⟩:=h; exact DataW.trod_lt n t _ _ hn
 exact WideElems.Trod_stays hl hr (of_decide_eq_true hrow) h (fun x hx=>zk6 hk (hlt x hx)) (fun x hx=>by simpa using hlt x hx)
theorem u8_wf {k:Int} (h:(Lit.int IntKind.u8 k).wf=true):0<=k/\k<256:=by
 simp only [Lit.wf,mX,decide_eq_true_eq] at h;have h1:IntKind.u8.min=0:=by decide
 have h2:IntKind.u8.max=255:=by decide
 omega
theorem zkj (Lk:Looks) {p:Pinned} {s:OpenSpec} {c:OpenClaim} (kinds:List LaidKind) (tests:Bool) (har:Bool×String) (lk:Bool)
  (hc:c.holds p s) (hw:c.wfByText s=true)
  (htie:c.laidByTextAt Lk p kinds tests)
  (hst:c.start=.entering) (hnb:c.noBlocks=false/\c.again=false) (hm:p.checked.prog.mainIs=some (har.1,har.2.toList)) (hn:(!har.1&&har.2.isEmpty && !lk)=false)
  (hl:∀ f fn,p.checked.prog.funcNamed c.func=some f->p.checked.prog.funcs[f]? =some fn->lk=p.checked.prog.looks []/\∀ (j:Nat) t,fn.params[j]? =some t->p.checked.prog.wantsStandIn t=false)
  (hg:true=c.goesBy p.checked.prog) :
  Claim7.holds p (.plain s) { stood:={ row:=c,standIns:=[],harness:=har,looks:=lk },kinds:=[],alts:=[],goes:=true,laidByText:=true,laidKinds:=kinds,laidTests:=tests,laidLooks:=Lk }:=by
 have h6:∀ r:OpenClaim,Claim7.isSixth { stood:={ row:=r,standIns:=[],harness:=har,looks:=lk },kinds:=[] }=false:=fun r=>by simpa [Claim7.isSixth] using hn
 exact ⟨Claim7.tied_new_at Lk kinds tests (Claim7.new_of_sixth hc har lk hst hnb hm (h6 c) hl) hw,(fun D hD=>by cases hD),htie,(fun h=>by cases h),hg⟩
end Go.Vel
namespace Go.Vel
open Go Go.Conc
structure StR where
 holds:Int
 way:Int
 gate:Bool
structure GrR where
 name:ByteArray
 many:Int
structure StB where
 platform:Int
 keeper:Bool
 stairs:List StR
 groups:List GrR
structure StA where
 stage:Int
 stair:Int
 deriving DecidableEq
instance:Inhabited StR:=⟨⟨0,0,false⟩⟩
instance:Inhabited GrR:=⟨⟨ByteArray.empty,0⟩⟩
def a0:StA:=⟨0,0⟩
def atI (s:List StA) (i:Nat):StA:=s.getD i a0
def str (b:StB) (k:Nat):StR:=b.stairs.getD k default
def grp (b:StB) (i:Nat):GrR:=b.groups.getD i default
def sumZ (f:Nat->Int):Nat->Int
 | 0=>0
 | k+1=>sumZ f k+f k
def manyI (b:StB) (s:List StA) (p:StA->Bool) (i:Nat):Int:=if p (atI s i)=true then (grp b i).many else 0
def sumS (b:StB) (s:List StA) (p:StA->Bool):Int:=sumZ (manyI b s p) b.groups.length
def onS (b:StB) (s:List StA) (stage:Int) (k:Int):Int:=sumS b s fun a=>decide (a=⟨stage,k⟩)
def atS (b:StB) (s:List StA) (stage:Int):Int:=sumS b s fun a=>decide (a.stage=stage)
def stUp (b:StB) (s:List StA) (i k:Nat):Bool :=
 !((str b k).gate&&decide (atS b s 2+atS b s 1+(grp b i).many>b.platform))&&(decide ((str b k).way≠2)&&(decide (onS b s 3 k=0)&&decide (onS b s 1 k+(grp b i).many<=(str b k).holds)))
def arriveS (b:StB) (s:List StA) (i k:Nat):Bool:=decide ((atI s i).stair=k)&&(!b.keeper||decide (atS b s 2+(grp b i).many<=b.platform))
def downS (b:StB) (s:List StA) (i k:Nat):Bool:=decide ((str b k).way≠1)&&(decide (onS b s 1 k=0)&&decide (onS b s 3 k+(grp b i).many<=(str b k).holds))
def leaveS (s:List StA) (i k:Nat):Bool:=decide ((atI s i).stair=k)
def mayS (b:StB) (s:List StA) (i k:Nat):Bool :=
 if (atI s i).stage=0 then stUp b s i k else if (atI s i).stage=1 then arriveS b s i k else if (atI s i).stage=2 then downS b s i k else if (atI s i).stage=3 then leaveS s i k else false
def nextA (a:StA) (k:Nat):StA:=⟨a.stage+1,if a.stage+1=1\/a.stage+1=3 then k else 0⟩
def ya (s:List StA) (i k:Nat):List StA:=s.set i (nextA (atI s i) k)
def movesI (b:StB) (s:List StA) (i:Nat):List (Nat×Nat):=((List.range b.stairs.length).filter fun k=>mayS b s i k).map fun k=>(i,k)
def movesS (b:StB) (s:List StA):List (Nat×Nat):=(List.range b.groups.length).flatMap (movesI b s)
def stMost (b:StB):Nat->List StA->Int
 | 0,s=>atS b s 2
 | n+1,s=>(movesS b s).foldl (fun m x=>max m (stMost b n (ya s x.1 x.2))) (atS b s 2)
def restS (s:List StA):Nat:=((4 - (atI s 0).stage)+(4 - (atI s 1).stage)+(4 - (atI s 2).stage)+(4 - (atI s 3).stage)).toNat
structure SpOk (s:List StA):Prop where
 len:s.length=4
 bnd:∀ i,0<=(atI s i).stage/\(atI s i).stage<=4
def spot0:List StA:=[a0,a0,a0,a0]
theorem zj8:SpOk spot0:=⟨rfl,fun i=>by
 have:atI spot0 i=a0:=by
  unfold atI spot0
  match i with
  | 0=>rfl
  | 1=>rfl
  | 2=>rfl
  | 3=>rfl
  | i+4=>rfl
 rw [this]; exact ⟨Int.le_refl _,by decide⟩⟩
theorem za0 {s:List StA} {i:Nat} {a:StA} (h:i<s.length) (j:Nat):atI (s.set i a) j=if j=i then a else atI s j:=by
 unfold atI;rw [lE,List.getElem?_set];by_cases e:j=i
 ·subst e; rw [if_pos rfl,if_pos h,if_pos rfl]; rfl
 ·rw [if_neg (fun e2=>e e2.symm),if_neg e,lE]
theorem uh {b:StB} {s:List StA} {i k:Nat} (h:mayS b s i k=true) (hs:SpOk s):(atI s i).stage<4:=by
 have hb:=hs.bnd i;unfold mayS at h;split at h
 ·omega
 ·split at h
  ·omega
  ·split at h
   ·omega
   ·split at h
    ·omega
    ·cases h
theorem wC {b:StB} {s:List StA} {x:Nat×Nat}:x∈movesS b s↔x.1<b.groups.length/\x.2<b.stairs.length/\mayS b s x.1 x.2=true:=by
 unfold movesS movesI;simp only [List.mem_flatMap,lY,List.mem_filter,List.mem_range];constructor
 ·rintro ⟨i,hi,k,⟨hk,hm⟩,rfl⟩;exact ⟨hi,hk,hm⟩
 ·rintro ⟨h1,h2,h3⟩;exact ⟨x.1,h1,x.2,⟨h2,h3⟩,rfl⟩
theorem uc {s:List StA} {i k:Nat} (hs:SpOk s) (hi:i<4) (h:(atI s i).stage<4):SpOk (ya s i k)/\restS (ya s i k)+1=restS s:=by
 have hl:=hs.len;have e:=za0 (s:=s) (i:=i) (a:=nextA (atI s i) k) oQ;have e0:=e 0; have e1:=e 1; have e2:=e 2; have e3:=e 3;have b0:=hs.bnd 0; have b1:=hs.bnd 1; have b2:=hs.bnd 2; have b3:=hs.bnd 3;refine ⟨⟨by unfold ya; rw [List.length_set]; exact hl,fun j=>?_⟩,?_⟩
 ·unfold ya;rw [e j];split
  ·have:=hs.bnd i;show 0<=(atI s i).stage+1/\(atI s i).stage+1<=4;omega
  ·exact hs.bnd j
 ·unfold restS ya;rw [e0,e1,e2,e3];have hn:(nextA (atI s i) k).stage=(atI s i).stage+1:=rfl;have:i=0\/i=1\/i=2\/i=3:=by omega
  rcases this with rfl | rfl | rfl | rfl <;> simp [hn] <;> omega
theorem uW {f:Nat×Nat->Int}:∀ (l:List (Nat×Nat)) (z:Int),z<=l.foldl (fun m x=>max m (f x)) z/\(∀ x∈l,f x<=l.foldl (fun m x=>max m (f x)) z)/\∀ M,z<=M->(∀ x∈l,f x<=M)->l.foldl (fun m x=>max m (f x)) z<=M
 | [],z=>⟨Int.le_refl _,(fun x h=>by cases h),fun M h _=>h⟩
 | y::l,z=>by
  obtain ⟨h1,h2,h3⟩:=uW (f:=f) l (max z (f y));rw [List.foldl_cons];refine ⟨by omega,fun x hx=>?_,fun M hz hM=>?_⟩
  ·rcases lI.1 hx with rfl | hx
   ·omega
   ·exact h2 x hx
  ·have:=hM y sQ;exact h3 M oQ fun x hx=>hM x (by simp [hx])
def skip (i j:Nat):Nat:=if j<i then j else j+1
theorem zal {f g:Nat->Int}:∀ n,(∀ i,i<n->f i=g i)->sumZ f n=sumZ g n
 | 0,_=>rfl
 | n+1,h=>by
  unfold sumZ;rw [zal n fun i hi=>h i oQ,h n oQ]
theorem zfp {f:Nat->Int} {i:Nat} (h0:f i=0):∀ m,i<=m->sumZ f (m+1)=sumZ (fun j=>f (skip i j)) m
 | 0,h=>by
  obtain rfl:i=0:=by omega
  show 0+f 0=0;rw [h0]; rfl
 | m+1,h=>by
  show sumZ f (m+1)+f (m+1)=sumZ (fun j=>f (skip i j)) m+f (skip i m);by_cases e:i=m+1
  ·subst e;rw [h0,Int.add_zero];have e1:skip (m+1) m=m:=if_pos oQ;rw [e1];show sumZ f m+f m=_;congr 1;exact zal m fun j hj=>by show f j=f (skip (m+1) j); rw [show skip (m+1) j=j from if_pos oQ]
  ·rw [zfp h0 m oQ];have e1:skip i m=m+1:=if_neg oQ;rw [e1]
structure Gone (b o:StB) (i:Nat):Prop where
 lt:i<b.groups.length
 platform:o.platform=b.platform
 keeper:o.keeper=b.keeper
 stairs:o.stairs=b.stairs
 len:o.groups.length+1=b.groups.length
 grp:∀ j,grp o j=grp b (skip i j)
structure LiftS (i:Nat) (s z:List StA):Prop where
 zero:atI z i=a0
 other:∀ j,j<3->atI s j=atI z (skip i j)
section
variable {b o:StB} {i:Nat} {s z:List StA}
theorem Gone.sum (h:Gone b o i) (h4:b.groups.length<=4) (hl:LiftS i s z) {p:StA->Bool} (hp:p a0=false):sumS o s p=sumS b z p:=by
 have hlt:=h.lt;have hle:=h.len;unfold sumS;rw [<- hle,zfp (f:=manyI b z p) (i:=i) (by unfold manyI; rw [hl.zero,hp]; rfl) _ oQ];refine zal _ fun j hj=>?_;unfold manyI;rw [hl.other j oQ,h.grp]
theorem Gone.atE (h:Gone b o i) (h4:b.groups.length<=4) (hl:LiftS i s z) {t:Int} (ht:t≠0):atS o s t=atS b z t:=h.sum h4 hl (decide_eq_false fun e=>ht e.symm)
theorem Gone.onE (h:Gone b o i) (h4:b.groups.length<=4) (hl:LiftS i s z) {t k:Int} (ht:t≠0):onS o s t k=onS b z t k:=h.sum h4 hl (decide_eq_false fun e=>ht (StA.mk.inj e).1.symm)
theorem Gone.may (h:Gone b o i) (h4:b.groups.length<=4) (hl:LiftS i s z) {j k:Nat} (hj:j<o.groups.length):mayS o s j k=mayS b z (skip i j) k:=by
 have hle:=h.len;have e:atI s j=atI z (skip i j):=hl.other j oQ;have e2:∀ k,str o k=str b k:=fun k=>by unfold str; rw [h.stairs]
 unfold mayS stUp arriveS downS leaveS;rw [h.atE h4 hl dQ,h.atE h4 hl dQ,h.onE h4 hl dQ,h.onE h4 hl dQ,e,e2,h.grp,h.platform,h.keeper]
theorem zhZ (hz:z.length=4) (hs:s.length=4) (hl:LiftS i s z) {j k:Nat} (hj:j<3) (hi:i<4):LiftS i (ya s j k) (ya z (skip i j) k):=by
 have hk:skip i j<4:=by unfold skip; split <;> omega
 refine ⟨?_,fun t ht=>?_⟩
 ·unfold ya;rw [za0 oQ,if_neg (by unfold skip; split <;> omega),hl.zero]
 ·unfold ya;rw [za0 oQ,za0 oQ,hl.other j hj];have:t=j↔skip i t=skip i j:=by unfold skip; split <;> split <;> omega
  by_cases e:t=j
  ·rw [if_pos e,if_pos (this.1 e)]
  ·rw [if_neg e,if_neg (fun h=>e (this.2 h)),hl.other t ht]
theorem Gone.most (h:Gone b o i) (h4:b.groups.length<=4):∀ (n:Nat) (s z:List StA),s.length=4->z.length=4->LiftS i s z->stMost o n s<=stMost b n z
 | 0,s,z,_,_,hl=>by
  show atS o s 2<=atS b z 2;rw [h.atE h4 hl dQ]; exact Int.le_refl _
 | n+1,s,z,hs,hz,hl=>by
  have hlt:=h.lt;have hle:=h.len;obtain ⟨q1,q2,_⟩:=uW (f:=fun x=>stMost b n (ya z x.1 x.2)) (movesS b z) (atS b z 2);refine (uW (f:=fun x=>stMost o n (ya s x.1 x.2)) (movesS o s) (atS o s 2)).2.2 _ (by rw [h.atE h4 hl dQ]; exact q1) fun x hx=>?_;obtain ⟨h1,h2,h3⟩:=wC.1 hx;have hk:skip i x.1<b.groups.length:=by unfold skip; split <;> omega
  have hm:=q2 (skip i x.1,x.2) (wC.2 ⟨hk,by rw [<- h.stairs]; exact h2,by rw [<- h.may h4 hl h1]; exact h3⟩);exact Int.le_trans (h.most h4 n _ _ (by unfold ya; rw [List.length_set]; exact hs) (by unfold ya; rw [List.length_set]; exact hz) (zhZ hz hs hl oQ oQ)) hm
end
theorem lift0 (i:Nat):LiftS i spot0 spot0:=by
 have e:∀ j,atI spot0 j=a0:=fun j=>by
  unfold atI spot0
  match j with
  | 0=>rfl
  | 1=>rfl
  | 2=>rfl
  | 3=>rfl
  | j+4=>rfl
 exact ⟨e i,fun j _=>by rw [e,e]⟩
theorem zgo {f:Nat->Int} (h:∀ i,0<=f i):∀ n,0<=sumZ f n
 | 0=>Int.le_refl _
 | n+1=>by
  have:=zgo h n;have:=h n;show 0<=sumZ f n+f n;omega
def mostA (b:StB) (s:List StA):Int:=stMost b (restS s) s
theorem zgc {b:StB} (hb:∀ i,0<=(grp b i).many) (s:List StA) (p:StA->Bool):0<=sumS b s p:=zgo (fun i=>by
 unfold manyI;split
 ·exact hb i
 ·exact Int.le_refl _) _
theorem ziK {b:StB} (hb:∀ i,0<=(grp b i).many):∀ (n:Nat) (s:List StA),0<=stMost b n s
 | 0,s=>zgc hb _ _
 | n+1,s=>Int.le_trans (zgc hb _ _) (uW (f:=fun x=>stMost b n (ya s x.1 x.2)) _ _).1
theorem zjI {b:StB} {s:List StA} (hs:SpOk s) (h4:b.groups.length<=4):mostA b s=(movesS b s).foldl (fun m x=>max m (mostA b (ya s x.1 x.2))) (atS b s 2):=by
 unfold mostA;cases hr:restS s with
 | zero =>
  have:movesS b s=[]:=List.eq_nil_iff_forall_not_mem.2 fun x hx=>by
   obtain ⟨h1,h2,h3⟩:=wC.1 hx;have:=(uc (k:=x.2) hs oQ (uh h3 hs)).2;omega
  rw [this]; rfl
 | succ n =>
  show (movesS b s).foldl _ _=_;have key:∀ (l:List (Nat×Nat)) (z:Int),(∀ x∈l,x∈movesS b s)->l.foldl (fun m x=>max m (stMost b n (ya s x.1 x.2))) z=l.foldl (fun m x=>max m (stMost b (restS (ya s x.1 x.2)) (ya s x.1 x.2))) z:=by
   intro l
   induction l with
   | nil=>intro z _; rfl
   | cons y l ih =>
    intro z h;obtain ⟨h1,h2,h3⟩:=wC.1 (h y sQ);have:=(uc (k:=y.2) hs oQ (uh h3 hs)).2;rw [List.foldl_cons,List.foldl_cons,show restS (ya s y.1 y.2)=n by omega];exact ih _ fun x hx=>h x (by simp [hx])
  exact key _ _ fun x hx=>hx
end Go.Vel
namespace Go.Vel
open Go Go.Conc Go.Proofs
def atC (a:StA):List AV:=[intA a.stage,intA a.stair]
def spC (s:List StA):List AV:=[intA (atI s 0).stage,intA (atI s 0).stair,intA (atI s 1).stage,intA (atI s 1).stair,intA (atI s 2).stage,intA (atI s 2).stair,intA (atI s 3).stage,intA (atI s 3).stair]
def fcC (f:Int×Int):List AV:=[intA f.1,intA f.2]
def mv (a:Int):Value:=.int .i64 a
def spV (s:List StA):Value:=.agg #[mv (atI s 0).stage,mv (atI s 0).stair,mv (atI s 1).stage,mv (atI s 1).stair,mv (atI s 2).stage,mv (atI s 2).stair,mv (atI s 3).stage,mv (atI s 3).stair]
def fcV (f:Int×Int):Value:=.agg #[mv f.1,mv f.2]
def eqA (a b:StA):Bool:=(a.stage==b.stage)&&(a.stair==b.stair)
def eqSp (s t:List StA):Bool:=eqA (atI s 0) (atI t 0)&&(eqA (atI s 1) (atI t 1)&&(eqA (atI s 2) (atI t 2)&&eqA (atI s 3) (atI t 3)))
theorem eqA_t {a b:StA} (h:eqA a b=true):a=b:=by
 obtain ⟨x,y⟩:=a;obtain ⟨z,w⟩:=b;simp [eqA] at h;rw [h.1,h.2]
theorem zlp {s t:List StA} (hs:s.length=4) (ht:t.length=4) (h:eqSp s t=true):s=t:=by
 unfold eqSp at h;simp only [mX] at h;obtain ⟨h0,h1,h2,h3⟩:=h;refine List.ext_getElem oQ fun i hi1 hi2=>?_;have key:∀ (l:List StA) (hl:i<l.length),atI l i=l[i]:=fun l hl=>by
  unfold atI;rw [lE,lA hl]; rfl
 rw [<- key s hi1,<- key t hi2];have:i=0\/i=1\/i=2\/i=3:=by omega
 rcases this with rfl | rfl | rfl | rfl
 ·exact eqA_t h0
 ·exact eqA_t h1
 ·exact eqA_t h2
 ·exact eqA_t h3
theorem uSp:tp.underlying 133=some (.array 4 131):=by kernel_rfl
theorem iAt:tp.info? 131=some Tryz.t131:=by kernel_rfl
theorem iAts:Tryz.t131.size=2:=by kernel_rfl
theorem uI3:tp.underlying 3=some (.int .i64):=by kernel_rfl
theorem uI129:tp.underlying 129=some (.int .i64):=by kernel_rfl
theorem fAt:flatF tp 131=some [(129,0),(3,1)]:=by kernel_rfl
theorem zlV {P:Program} {t:TypeId} {i:TypeInfo} (h:P.info? t=some i):zH P (sizeOf t)=some i.size:=by
 unfold sizeOf typeInfo
 show zH P ((match P.info? t with | some i=>pure i | none=>stuck "no such type") >>= fun i=>pure i.size)=_
 rw [h]; rfl
theorem szAt:zH tp (sizeOf 131)=some 2:=by rw [zlV iAt,iAts]
theorem zca {α β:Type} {P:Program} (s:Sem α) (f:α->Sem β):zH P (s >>= f)=(zH P s).bind fun a=>zH P (f a):=by
 show zH P (s.bind f)=_
 induction s with
 | pure a=>rfl
 | program k ih=>exact ih P
 | _=>rfl
theorem zcz {α:Type} {P:Program} (a:α):zH P (pure a)=some a:=rfl
theorem zjb {P:Program} {d:Nat} {t:TypeId} {l:List (TypeId×Nat)} {xs ys:Array Value} {bs:List Bool} (hl:flatF P t=some l) (h:EqL P xs ys l bs):zH P (Op.equalIn (d+2) t (.agg xs) (.agg ys))=some (bs.all id):=by
 unfold flatF at hl;split at hl
 ·rename_i fs hu;split at hl
  ·rename_i hc;simp only [mX,List.all_eq_true,Bool.not_eq_true'] at hc;obtain ⟨hall,hst⟩:=hc;show zH _ (Op.equalIn ((d+1)+1) t _ _)=_;unfold Op.equalIn;refine zA (zN hu) ?_;dsimp only;refine zA (a:=P) Z ?_;rw [hst];simp only [mU,if_false];refine zA (a:=(if bs.all id=true then none else some false,())) ?_ (by cases bs.all id <;> rfl);rw [<- Array.forIn_toList];refine zf7 _ fs.toList (fun f hf v w b hv hw h1 h2 he=>?_) (Option.some.inj hl) h
   have hn:f.name ≠ "_" := by have:=(hall f hf).1; simpa using this
   have hs:=(hall f hf).2;rw [if_pos hn];refine zA (wG hs hv) (zA (wG hs hw) (zA (zf8 (d:=d) h1 h2 he) ?_));cases b <;> rfl
  ·cases hl
 ·cases hl
theorem zlq {d:Nat} (a b:StA):zH tp (Op.equalIn (d+2) 131 (.agg #[mv a.stage,mv a.stair]) (.agg #[mv b.stage,mv b.stair]))=some (eqA a b):=by
 have h:=zjb (P:=tp) (d:=d) fAt (EqL.consI uI129 (xs:=#[mv a.stage,mv a.stair]) (ys:=#[mv b.stage,mv b.stair]) (off:=0) rfl rfl (EqL.consI uI3 (off:=1) rfl rfl EqL.nil));rw [h];simp [eqA]
theorem aggT:zH tp (isAgg 131)=some true:=by
 have h:(match tp.underlying 131 with | some (.struct _)=>true | _=>false)=true:=by kernel_rfl
 unfold isAgg;cases hu:tp.underlying 131 with
 | none=>rw [hu] at h; cases h
 | some d =>
  rw [hu] at h;cases d <;> first | exact Bool.noConfusion h | exact zA (zN hu) rfl
theorem wF {v0 v1 v2 v3 v4 v5 v6 v7:Value} {off:Nat} {x y:Value} (h:(#[v0,v1,v2,v3,v4,v5,v6,v7]:Array Value).extract off (off+2)=#[x,y]):zH tp (part 131 #[v0,v1,v2,v3,v4,v5,v6,v7] off)=some (.agg #[x,y]):=by
 unfold part;refine zA aggT ?_;simp only [if_true];exact zA szAt (by rw [h]; rfl)
theorem eq_sp (s t:List StA):zH tp (Op.equal 133 (spV s) (spV t))=some (eqSp s t):=by
 show zH _ (Op.equalIn (9999+1) 133 _ _)=_;unfold Op.equalIn;refine zA (zN uSp) ?_;unfold spV;dsimp only;refine zA szAt ?_;simp only [Std.Legacy.Range.forIn_eq_forIn_range',Std.Legacy.Range.size,Nat.sub_zero,Nat.add_sub_cancel,Nat.div_one];simp [List.range'];have p0:=fun a b c d e f g h:Value=>wF (v0:=a) (v1:=b) (v2:=c) (v3:=d) (v4:=e) (v5:=f) (v6:=g) (v7:=h) (off:=0) (x:=a) (y:=b) rfl;have p1:=fun a b c d e f g h:Value=>wF (v0:=a) (v1:=b) (v2:=c) (v3:=d) (v4:=e) (v5:=f) (v6:=g) (v7:=h) (off:=2) (x:=c) (y:=d) rfl;have p2:=fun a b c d e f g h:Value=>wF (v0:=a) (v1:=b) (v2:=c) (v3:=d) (v4:=e) (v5:=f) (v6:=g) (v7:=h) (off:=4) (x:=e) (y:=f) rfl;have p3:=fun a b c d e f g h:Value=>wF (v0:=a) (v1:=b) (v2:=c) (v3:=d) (v4:=e) (v5:=f) (v6:=g) (v7:=h) (off:=6) (x:=g) (y:=h) rfl;have e:=fun a b:StA=>zlq (d:=9997) a b;unfold eqSp;rcases h1:eqA (atI s 0) (atI t 0) <;> rcases h2:eqA (atI s 1) (atI t 1) <;> rcases h3:eqA (atI s 2) (atI t 2) <;> rcases h4:eqA (atI s 3) (atI t 3) <;> simp [zca,zcz,p0,p1,p2,p3,e,h1,h2,h3,h4]
theorem zf5 {d:Nat} {e:Bool} {a:Int} {t:TypeId} (h:tp.underlying t=some (.int .i64)):zH tp (Instr.checkKey e (d+1) t (mv a))=some ():=by
 unfold Instr.checkKey;exact zA (zN h) rfl
theorem zh2 {P:Program} {F:Field->PUnit->Sem (ForInStep PUnit)}:∀ fl:List Field,(∀ f∈fl,zH P (F f PUnit.unit)=some (.yield PUnit.unit))->zH P (forIn fl PUnit.unit F)=some PUnit.unit
 | [],_=>rfl
 | f::fl,h=>by
  rw [List.forIn_cons];exact zA (h f sQ) (zh2 fl fun f hf=>h f (by simp [hf]))
theorem zi3 {d:Nat} {e:Bool} (a:StA):zH tp (Instr.checkKey e (d+2) 131 (.agg #[mv a.stage,mv a.stair]))=some ():=by
 have h:∃ fs,tp.underlying 131=some (.struct fs)/\fs.toList.map (fun f=>(f.type,f.offset))=[(129,0),(3,1)]:=by
  have h:=fAt;unfold flatF at h;split at h
  ·rename_i fs hu;split at h
   ·exact ⟨fs,hu,Option.some.inj h⟩
   ·cases h
  ·cases h
 obtain ⟨fs,hu,hm⟩:=h;show zH _ (Instr.checkKey e ((d+1)+1) 131 _)=_;unfold Instr.checkKey;refine zA (zN hu) ?_;dsimp only;rw [<- Array.forIn_toList];refine zA (a:=PUnit.unit) (zh2 fs.toList fun f hf=>?_) rfl;have h2:(f.type,f.offset)∈fs.toList.map (fun f=>(f.type,f.offset)):=lY.2 ⟨f,hf,rfl⟩;rw [hm] at h2;have h3:∃ v,zH tp (part f.type #[mv a.stage,mv a.stair] f.offset)=some v/\zH tp (Instr.checkKey e (d+1) f.type v)=some ():=by
  simp only [lI,Prod.mk.injEq,List.not_mem_nil,or_false] at h2;rcases h2 with ⟨h1,h2⟩ | ⟨h1,h2⟩
  ·rw [h1,h2];exact ⟨mv a.stage,wG (by unfold scalT; rw [uI129]) rfl,zf5 uI129⟩
  ·rw [h1,h2];exact ⟨mv a.stair,wG (by unfold scalT; rw [uI3]) rfl,zf5 uI3⟩
 obtain ⟨v,h3,h4⟩:=h3
 by_cases hn:f.name ≠ "_"
 ·rw [if_pos hn];simp [zca,zcz,h3];exact zA (s:=Instr.checkKey e (d+1) f.type v) h4 rfl
 ·rw [if_neg hn];simp [zca,zcz]
theorem zi4 {e:Bool} (s:List StA):zH tp (Instr.checkKey e 10000 133 (spV s))=some ():=by
 show zH _ (Instr.checkKey e (9999+1) 133 _)=_;unfold Instr.checkKey;refine zA (zN uSp) ?_;unfold spV;dsimp only;simp only [Std.Legacy.Range.forIn_eq_forIn_range',Std.Legacy.Range.size,Nat.sub_zero,Nat.add_sub_cancel,Nat.div_one];simp [List.range'];have p0:=fun a b c d e f g h:Value=>wF (v0:=a) (v1:=b) (v2:=c) (v3:=d) (v4:=e) (v5:=f) (v6:=g) (v7:=h) (off:=0) (x:=a) (y:=b) rfl;have p1:=fun a b c d e f g h:Value=>wF (v0:=a) (v1:=b) (v2:=c) (v3:=d) (v4:=e) (v5:=f) (v6:=g) (v7:=h) (off:=2) (x:=c) (y:=d) rfl;have p2:=fun a b c d e f g h:Value=>wF (v0:=a) (v1:=b) (v2:=c) (v3:=d) (v4:=e) (v5:=f) (v6:=g) (v7:=h) (off:=4) (x:=e) (y:=f) rfl;have p3:=fun a b c d e f g h:Value=>wF (v0:=a) (v1:=b) (v2:=c) (v3:=d) (v4:=e) (v5:=f) (v6:=g) (v7:=h) (off:=6) (x:=g) (y:=h) rfl;have ck:=fun (a:StA)=>zi3 (d:=9997) (e:=e) a;simp [zca,zcz,p0,p1,p2,p3,szAt,ck]
def EnOk (G:List StA->Int×Int->Prop) (en:MapEntry):Prop:=∃ s f,s.length=4/\en.key=spV s/\en.val=fcV f/\G s f
def MapF (ob:Obj) (G:List StA->Int×Int->Prop):Prop:=∃ es clock,ob=.map es clock/\∀ en∈es.toList,EnOk G en
theorem zjG (G:List StA->Int×Int->Prop):MapF (.map #[] 0) G:=⟨#[],0,rfl,fun en h=>by cases h⟩
def Found (G:List StA->Int×Int->Prop) (s:List StA) (es:List MapEntry) (i:Nat):Option (Nat×Value)->Prop
 | none=>True
 | some (k,v)=>i<=k/\(∃ en,es[k - i]? =some en/\en.key=spV s)/\∃ f,v=fcV f/\G s f
theorem zhv {G:List StA->Int×Int->Prop} {s:List StA} (hs:s.length=4):∀ (es:List MapEntry) (i:Nat),(∀ en∈es,EnOk G en)->∃ r,zH tp (Instr.findAsking 133 (spV s) es i)=some r/\Found G s es i r
 | [],i,_=>⟨none,rfl,trivial⟩
 | en::es,i,h=>by
  obtain ⟨t,f,ht,hk,hv,hG⟩:=h en sQ;unfold Instr.findAsking;by_cases he:eqSp s t=true
  ·have:=zlp hs ht he;subst this;refine ⟨some (i,en.val),zA (a:=true) (by rw [hk,eq_sp,he]) rfl,mL _,⟨en,by rw [Nat.sub_self]; rfl,hk⟩,f,hv,hG⟩
  ·obtain ⟨r,h1,h2⟩:=zhv hs es (i+1) (fun e he=>h e (by simp [he]));refine ⟨r,zA (a:=false) (by rw [hk,eq_sp]; simpa using he) (by simp only [mU,if_false]; exact h1),?_⟩;cases r with
   | none=>trivial
   | some z =>
    obtain ⟨k,v⟩:=z;obtain ⟨q1,⟨en2,q2,q3⟩,q4⟩:=h2;refine ⟨by omega,⟨en2,?_,q3⟩,q4⟩;rw [show k - i=(k - (i+1))+1 by omega,List.getElem?_cons_succ];exact q2
theorem zkA {G:List StA->Int×Int->Prop} {s:List StA} (hs:s.length=4) {es:List MapEntry} (h:∀ en∈es,EnOk G en):∃ r,zH tp (Instr.findKey 133 (spV s) es)=some r/\Found G s es 0 r:=by
 unfold Instr.findKey;cases es with
 | nil=>exact ⟨none,zA (zN uSp) rfl,trivial⟩
 | cons en es =>
  obtain ⟨r,h1,h2⟩:=zhv hs (en::es) 0 h;refine ⟨r,zA (zN uSp) ?_,h2⟩;have:Instr.findNow (.array 4 131) (spV s) (en::es) 0=none:=rfl;rw [this];exact h1
theorem ziR (s:List StA):toV (.agg (spC s))=some (spV s):=rfl
theorem zlZ (f:Int×Int):toV (.agg (fcC f))=some (fcV f):=rfl
theorem zlS {φ:Nat->Loc3} {n:Nat} (f:Int×Int):RelV φ n (.agg (fcC f)) (fcV f):=.agg rfl fun j a y ha hy=>by
 match j,ha,hy with
 | 0,ha,hy=>cases ha; cases hy; exact .v _
 | 1,ha,hy=>cases ha; cases hy; exact .v _
 | j+2,ha,hy=>cases ha
theorem uMp:tp.underlying 134=some (.map 133 127):=by kernel_rfl
theorem iFc:tp.info? 127=some Tryz.t127:=by kernel_rfl
theorem zFc:Tryz.t127.zero=some (fcV (0,0)):=by kernel_rfl
structure KeyS (P:Program):Prop where
 um:P.underlying 134=some (.map 133 127)
 ck:∀ e s,zH P (Instr.checkKey e 10000 133 (spV s))=some ()
 fd:∀ (G:List StA->Int×Int->Prop) (s:List StA) (es:List MapEntry),s.length=4->(∀ en∈es,EnOk G en)->∃ r,zH P (Instr.findKey 133 (spV s) es)=some r/\Found G s es 0 r
 zi:∃ ti,P.info? 127=some ti/\ti.zero=some (fcV (0,0))
theorem keyS:KeyS tp:=⟨uMp,fun _ s=>zi4 s,fun G s es h1 h2=>zkA h1 h2,_,iFc,zFc⟩
section
variable {P:Program} {gm:Nat->Option Nat} {V:KV} {env:List AV} {o:Oper}
theorem zk1 (hP:KeyS P) {G:List StA->Int×Int->Prop} {x y:Operand} {j:Nat} {s:List StA} {ob:Obj} (ho:o.op=.lookup 134 x y true) (hx:zw gm env x=some (.map j)) (hy:zw gm env y=some (.agg (spC s))) (hs:s.length=4) (hm:(j,.raw ob)∈V) (hf:MapF ob G):∃ f ok,(ok=true->G s f)/\Qk P gm env V o (.tup [.agg (fcC f),zm ok]):=by
 obtain ⟨es,c,rfl,hes⟩:=hf;obtain ⟨r,h1,h2⟩:=hP.fd G s es.toList hs hes;have key:∀ f ok,((r=none/\f=(0,0)/\ok=false)\/∃ k,r=some (k,fcV f)/\ok=true)->Qk P gm env V o (.tup [.agg (fcC f),zm ok]):=fun f ok hq A hA φ F H a hg hH hE=>by
  unfold execOp; rw [ho];refine wpS_v ?_;have e1:=zt hg hE x;rw [zn hx] at e1;obtain ⟨hj,e1⟩:=za4 e1;have e2:=zt hg hE y;rw [zn hy] at e2;rw [e1,wN (ziR s) e2];have hb:H (φ j).blk=some (true,.map es c):=hH.obj j _ (hA.get hm);unfold Instr.lookup;refine za _ _ _ (zr hP.um ?_);dsimp only;refine za _ _ _ ?_;refine ⟨true,_,hb,rfl,rfl,?_⟩;refine za _ _ _ ?_;rw [ky];refine za _ _ _ (wa _ (hP.ck _ s) ?_);refine za _ _ _ (wa _ h1 ?_);have hend:RelV φ A.length (.tup [.agg (fcC f),zm ok]) (.tuple #[fcV f,.bool ok]):=.tup rfl fun k u v hu hv=>by
   match k,hu,hv with
   | 0,hu,hv=>cases hu; cases hv; exact zlS f
   | 1,hu,hv=>cases hu; cases hv; exact .v _
   | k+2,hu,hv=>cases hu
  rcases hq with ⟨rfl,rfl,rfl⟩ | ⟨k,rfl,rfl⟩
  ·obtain ⟨ti,hti,hz⟩:=hP.zi;exact za _ _ _ (ke hti hz (zP.quiet hH hend))
  ·exact zP.quiet hH hend
 cases r with
 | none=>exact ⟨(0,0),false,(fun h=>by cases h),key _ _ (.inl ⟨rfl,rfl,rfl⟩)⟩
 | some z =>
  obtain ⟨k,v⟩:=z;obtain ⟨_,_,f,rfl,hG⟩:=h2;exact ⟨f,true,fun _=>hG,key _ _ (.inr ⟨k,rfl,rfl⟩)⟩
theorem zk7 (s:List StA):Instr.sameBits 10000 (spV s) (spV s)=true:=by
 show Instr.sameBits (9999+1) (spV s) (spV s)=true;unfold spV;simp [Instr.sameBits,mv]
theorem zlT (hP:KeyS P) {G:List StA->Int×Int->Prop} {x y z:Operand} {j:Nat} {s:List StA} {f:Int×Int} {ob:Obj} (ho:o.op=.mapUpdate 134 x y z) (hx:zw gm env x=some (.map j)) (hy:zw gm env y=some (.agg (spC s))) (hz:zw gm env z=some (.agg (fcC f))) (hs:s.length=4) (hm:(j,.raw ob)∈V) (hf:MapF ob G) (hG:G s f) :
  ∃ ob',MapF ob' G/\∀ A,zO V A->OpOk P gm env A o .any (A.set j (.raw ob')):=by
 obtain ⟨es,c,rfl,hes⟩:=hf;obtain ⟨r,h1,h2⟩:=hP.fd G s es.toList hs hes;have key:∀ ob',MapF ob' G->(∀ (H:Hp) (b:Nat) (Q:Unit->Hp->Prop),H b=some (true,.map es c)->Q () (H.put b (true,ob'))->wpS P (match r with | some (i,_)=>Instr.keyThatStays (((es[i]?).map (·.key)).getD (spV s)) (spV s) >>= fun key=>setObj b (.map (es.modify i fun e=>{ e with key:=key,val:=fcV f }) c) | none=>setObj b (.map (es.push { key:=spV s,val:=fcV f,born:=c }) (c+1))) H Q)->∃ ob',MapF ob' G/\∀ A,zO V A->OpOk P gm env A o .any (A.set j (.raw ob')):=fun ob' hob hq=>by
  refine ⟨ob',hob,fun A hA φ F H a hg hH hE=>?_⟩;unfold execOp; rw [ho];refine wpS_u ?_;have e1:=zt hg hE x;rw [zn hx] at e1;obtain ⟨hj,e1⟩:=za4 e1;have e2:=zt hg hE y;rw [zn hy] at e2;have e3:=zt hg hE z;rw [zn hz] at e3;rw [e1,wN (ziR s) e2,wN (zlZ f) e3];have hb:H (φ j).blk=some (true,.map es c):=hH.obj j _ (hA.get hm);unfold Instr.mapUpdate;refine za _ _ _ (zr hP.um ?_);dsimp only;refine za _ _ _ ?_;refine ⟨true,_,hb,rfl,rfl,?_⟩;refine za _ _ _ (wa _ (hP.ck _ s) ?_);refine za _ _ _ (wa _ h1 ?_);exact hq H _ _ hb ⟨undef,φ,.inr ⟨rfl,rfl⟩,Agr.refl _ _,by simp,hH.set (hA.get hm) rfl trivial (Hp.put_same _ _ _),.any _⟩
 have hnew:EnOk G { key:=spV s,val:=fcV f,born:=c }:=⟨s,f,hs,rfl,rfl,hG⟩;cases r with
 | none =>
  refine key (.map (es.push { key:=spV s,val:=fcV f,born:=c }) (c+1)) ⟨_,_,rfl,fun en hen=>?_⟩ fun H b Q hb hq=>⟨_,hb,rfl,rfl,hq⟩;rw [Array.toList_push,lT] at hen;rcases hen with hen | hen
  ·exact hes en hen
  ·rw [lS.1 hen]; exact hnew
 | some w =>
  obtain ⟨i,v⟩:=w;obtain ⟨_,⟨en,he1,he2⟩,_⟩:=h2;rw [Nat.sub_zero,Array.getElem?_toList] at he1;refine key (.map (es.modify i fun e=>{ e with key:=spV s,val:=fcV f }) c) ⟨_,_,rfl,fun en' hen=>?_⟩ fun H b Q hb hq=>?_
  ·rw [Array.toList_modify] at hen;obtain ⟨k,hk,rfl⟩:=List.getElem_of_mem hen;rw [List.getElem_modify];rw [List.length_modify] at hk;split
   ·exact ⟨s,f,hs,rfl,rfl,hG⟩
   ·exact hes _ (List.getElem_mem _)
  ·dsimp only;refine za _ _ _ ?_;rw [he1];simp only [Option.map_some,Option.getD_some,he2];unfold Instr.keyThatStays;rw [if_pos (zk7 s)];exact ⟨_,hb,rfl,rfl,hq⟩
end
theorem not_f {a:Bool} (h:(!a)=true):a=false:=by cases a <;> simp_all
theorem not_t {a:Bool} (h:(!a)=false):a=true:=by cases a <;> simp_all
theorem zbf (c:UInt8):IntKind.i64.wrap (c.toNat:Int)=(c.toNat:Int):=kS (by have:=c.toNat_lt; omega)
theorem wc {ob:AObj} {p n c:Nat} {l:List AV} {v:AV} (h:z8 ob p n=some l) (hc:c<n) (hl:l[c]? =some v):z8 ob (p+c) 1=some [v]:=by
 unfold z8 at h ⊢;cases hk:ob.look with
 | none=>rw [hk] at h; cases h
 | some q =>
  rw [hk] at h;dsimp only at h ⊢;split at h
  ·rename_i hb;cases h;rw [if_pos ⟨by omega,oQ⟩];rw [List.getElem?_take,if_pos hc,List.getElem?_drop] at hl;obtain ⟨h1,h2⟩:=lD.1 hl;rw [List.take_one,List.head?_drop,hl];rfl
  ·cases h
def insideM (a z lo hi:Int):Bool:=(decide (lo<=a)&&decide (a<=z))&&decide (z<=hi)
theorem vF (b:Bk):numbersM b=bif !(decide (4<=b.steps)&&decide (b.steps<=16))||(!(decide (0<=b.wrong)&&decide (b.wrong<=3)) || !insideM b.low b.high 0 3) then 1 else 0:=by
 unfold numbersM insideM;congr 3;have e1:decide (b.low<0) = !decide (0<=b.low):=by by_cases h:0<=b.low <;> simp [h] <;> omega
 have e2:decide (b.low>b.high) = !decide (b.low<=b.high):=by by_cases h:b.low<=b.high <;> simp [h] <;> omega
 have e3:decide (b.high>3) = !decide (b.high<=3):=by by_cases h:b.high<=3 <;> simp [h] <;> omega
 rw [e1,e2,e3];cases decide (0<=b.low) <;> cases decide (b.low<=b.high) <;> cases decide (b.high<=3) <;> rfl
theorem zax {b:Bk} (h:numbersM b=1):checkM b=1:=by unfold checkM; rw [h]; rfl
theorem kV {b:Bk} {c:Int} (h:numbersM b=0) (h2:heardM b=c) (hc:c≠0):checkM b=c:=by
 unfold checkM; rw [h,if_neg dQ,h2,if_pos (by simpa using hc)]
theorem vP {b:Bk} (h:numbersM b=0) (h2:heardM b=0):checkM b=lookedM b:=by
 unfold checkM; rw [h,if_neg dQ,h2,if_neg dQ]
theorem zfi {n:Int}:(decide (n<0)||decide (n>2)) = !(decide (0<=n)&&decide (n<=2)):=by
 by_cases h1:n<0 <;> by_cases h2:n>2 <;> simp [h1,h2] <;> omega
theorem vy {α:Type} {xs:List α} {p:α->Bool} {i:Nat} {x:α} (h:xs[i]? =some x) (hn:(xs.take i).any p=false) (he:p x=false):(xs.take (i+1)).any p=false:=by
 rw [List.take_add_one,h,List.any_append,hn]; simp [he]
theorem zll {α:Type} {xs:List α} {p:α->Bool} {i n:Nat} {x:α} (h:xs[i]? =some x) (hi:i<n) (he:p x=true):(xs.take n).any p=true:=by
 rw [List.any_eq_true];refine ⟨x,lN (i:=i) ?_,he⟩;rw [List.getElem?_take,if_pos hi,h]
theorem zhy {i:Nat} {c:Int} (h:(!(decide (97<=c)&&decide (c<=122)))=false):byteOk i c=true:=by
 unfold byteOk;rw [show (decide (97<=c)&&decide (c<=122))=true by simpa using h]; rfl
theorem zav {i:Nat} {c:Int} (h:(!(decide (97<=c)&&decide (c<=122)))=true) (h2:((i:Int)==0)=true):byteOk i c=false:=by
 unfold byteOk;rw [show (decide (97<=c)&&decide (c<=122))=false from not_f h,show (i:Int)=0 by simpa using h2]; rfl
theorem ur {i:Nat} {c:Int} (h:(!(decide (97<=c)&&decide (c<=122)))=true) (h2:((i:Int)==0)=false):byteOk i c=(decide (48<=c)&&decide (c<=57)):=by
 unfold byteOk;rw [show (decide (97<=c)&&decide (c<=122))=false from not_f h,show decide ((i:Int)>0)=true by have:(i:Int)≠0:=(by simpa using h2); simp; omega]; rfl
theorem zlf (s:ByteArray) (i:Nat):s[i]? =s.data[i]? :=by
 first | rfl | (simp [ByteArray.getElem?_eq,Array.getElem?_eq] <;> rfl) | (by_cases h:i<s.size <;> simp [getElem?_pos,getElem?_neg,h] <;> rfl)
theorem yy {main T} (hT:zk tp main T) {gm} {n lo hi:Int} :
  zh tp T gm 12 [intA n,intA lo,intA hi] [] (fun r K'=>r=zm (decide (lo<=n)&&decide (n<=hi))/\K'=[]):=by
 refine ze 15 hT Tryz.func12 fun Y hret=>?_;refine au 1711423542 ?_;refine bF 10 (fun g1_4=>?_) (fun g1_4=>?_)
 ·refine au 35260711 ?_;refine TK.rta hret ?_;exact ⟨by simp [zm,g1_4],rfl⟩
 refine au 35250888 ?_;refine TK.rta hret ?_;exact ⟨by simp [zm,g1_4],rfl⟩
theorem zhU {main T} (hT:zk tp main T) {gm} {a z lo hi:Int} :
  zh tp T gm 92 [.agg [intA a,intA z],intA lo,intA hi] [] (fun r K'=>r=zm (insideM a z lo hi)/\K'=[]):=by
 refine ze 24 hT Tryz.func92 fun Y hret=>?_;refine au 21042 ?_;intro j1 hj1;refine au 1769067014235 ?_;refine bF 11 (fun g1_5=>?_) (fun g1_5=>?_)
 ·refine au 12607690670690670 ?_;refine bF 18 (fun g1_12=>?_) (fun g1_12=>?_)
  ·refine au 3526071690670 ?_;refine bB hret [] ?_;exact ⟨by simp [insideM,zm,g1_5,g1_12],rfl⟩
  refine au 352508888 ?_;refine bB hret [] ?_;exact ⟨by simp [insideM,zm,g1_5,g1_12],rfl⟩
 refine au 352508888125088888 ?_;refine bB hret [] ?_;exact ⟨by simp [insideM,zm,g1_5],rfl⟩
theorem zcm {main T} (hT:zk tp main T) {gm} {s:ByteArray} (hl:s.size<=1000) :
  zh tp T gm 93 [.v (.string s)] [] (fun r K'=>r=zm (isNameM s)/\K'=[]):=by
 refine ze 31 hT Tryz.func93 fun Y hret=>?_;refine au 130354223542 ?_;refine bA [0,3] ?_;refine bE (fun n env K=>∃ (i:Nat),n=s.size - i/\i<=s.size/\bytesOk s i=true/\env=zW 31 [(0,.v (.string s)),(3,intA i)]/\K=[]) s.size ⟨0,rfl,mN _,rfl,rfl,rfl⟩ fun n env K hI hnext=>?_;obtain ⟨i,rfl,hi,hok,rfl,rfl⟩:=hI;refine au 93729011422 ?_;refine ⟨fun hc=>?_,fun hc=>?_⟩
 ·simp only [decide_eq_true_eq] at hc;have hil:i<s.data.size:=by have:s.data.size=s.size:=rfl; omega
  obtain ⟨cb,hcb⟩:∃ cb,s.data[i]? =some cb:=⟨_,Array.getElem?_eq_getElem hil⟩;have hcs:s[((i:Int)).toNat]? =some cb:=by rw [mZ]; exact (zlf s i).trans hcb
  refine au 11421302120 ?_;refine bH Z (zcB Z Z Z Und.h oQ (by exact hcs)) ?_;refine bH Z (ku Z Z Und.h Und.h (zbf _)) ?_;refine bD Z Z Z Z (yy hT) ?_;rintro r1 K2 ⟨rfl,rfl⟩;refine au 1300 ?_;refine bF 16 (fun g4_7=>?_) (fun g4_7=>?_)
  ·refine au 171 ?_;refine bF 19 (fun g4_10=>?_) (fun g4_10=>?_)
   ·refine au 35421803260260888888 ?_;refine bB hret [] ?_;exact ⟨by unfold isNameM; rw [ki (n:=s.size) hcb hil (zav g4_7 g4_10)]; rfl,rfl⟩
   refine au 11 ?_;refine bH Z (zcB Z Z Z Und.h oQ (by exact hcs)) ?_;refine bH Z (ku Z Z Und.h Und.h (zbf _)) ?_;refine bD Z Z Z Z (yy hT) ?_;rintro r4 K5 ⟨rfl,rfl⟩;refine au 93260250300 ?_;constructor<;>intro hc1
   ·refine au 3542 ?_;refine bB hret [] ?_;exact ⟨by unfold isNameM; rw [ki (n:=s.size) hcb hil (by exact (ur g4_7 g4_10).trans (not_f hc1))]; rfl,rfl⟩
   refine au 3523014140120 ?_;refine bA [0,3] ?_;exact hnext _ _ _ oQ ⟨i+1,rfl,oQ,by rw [kZ hcb,hok,ur g4_7 g4_10,not_t hc1]; rfl,rfl,rfl⟩
  refine au 352301414012019032508888888888 ?_;refine bA [0,3] ?_;exact hnext _ _ _ oQ ⟨i+1,rfl,oQ,by rw [kZ hcb,hok,zhy g4_7]; rfl,rfl,rfl⟩
 simp only [decide_eq_false_iff_not] at hc;obtain rfl:i=s.size:=by omega
 refine au 290142160 ?_;refine bD Z Z Z Z (yy hT) ?_;rintro r7 K8 ⟨rfl,rfl⟩;refine au 35 ?_;refine bB hret [] ?_;exact ⟨by unfold isNameM; rw [hok]; rfl,rfl⟩
theorem uY {main T} (hT:zk tp main T) {gm} {b:Bk} {s e:Nat} {n:Int} (hs:0<=b.steps/\b.steps<=16) :
  zh tp T gm 94 [.agg (zC b s e),intA n] [] (fun r K'=>r=zm (zJ b n)/\K'=[]):=by
 refine ze 10 hT Tryz.func94 fun Y hret=>?_;refine au 21042 ?_;intro j1 hj1;refine au 24069067014235 ?_;refine bD Z Z Z Z (yy hT) ?_;rintro r2 K3 ⟨rfl,rfl⟩;refine au 35 ?_;refine bB hret [] ?_;exact ⟨rfl,rfl⟩
theorem zaw {main T} (hT:zk tp main T) {gm} {b:Bk} {s e:Nat} (hse:s≠e) (hn:∀ x∈b.seekers,x.name.size<=1000) (hl:b.seen.length<=1000) (hl2:b.seekers.length<=1000) :
  zh tp T gm 29 [.agg (zC b s e)] [(s,zo b),(e,zp b)] (fun r K'=>r=intA (checkM b)/\K'=[(s,zo b),(e,zp b)]):=by
 refine ze 93 hT Tryz.func29 fun Y hret=>?_;refine au 21042 ?_;intro jb hjb;refine au 69067042235 ?_;refine bD Z Z Z Z (yy hT) ?_;rintro r1 K2 ⟨rfl,rfl⟩;refine au 1300 ?_;refine bF 11 (fun g1_5=>?_) (fun g1_5=>?_)
 ·refine au 35421803260888812608888 ?_;refine bB hret [(s,_),(e,_)] ?_;exact ⟨by rw [zax (b:=b) (by rw [vF]; simp only [*,Bool.true_or,Bool.or_true,cond_true])]; rfl,rfl⟩
 refine au 690670 ?_;refine bD Z Z Z Z (yy hT) ?_;rintro r4 K5 ⟨rfl,rfl⟩;refine au 1250300 ?_;refine bF 17 (fun g1_11=>?_) (fun g1_11=>?_)
 ·refine au 354218032608888 ?_;refine bB hret [(s,_),(e,_)] ?_;exact ⟨by rw [zax (b:=b) (by rw [vF]; simp only [*,Bool.true_or,Bool.or_true,cond_true])]; rfl,rfl⟩
 refine au 680670 ?_;refine bD Z Z Z Z (zhU hT) ?_;rintro r7 K8 ⟨rfl,rfl⟩;refine au 93250300 ?_;constructor<;>intro hc0
 ·refine au 3542 ?_;refine bB hret [(s,_),(e,_)] ?_;exact ⟨by rw [zax (b:=b) (by rw [vF]; simp only [*,Bool.true_or,Bool.or_true,cond_true])]; rfl,rfl⟩
 have hnum:numbersM b=0:=by rw [vF]; simp only [*]; rfl
 have hs:=y7 (b:=b) (by rw [hnum]; rfl);refine au 280690670422120 ?_;refine bH Z (q_cmp Z Z Z Z) ?_;refine au 93 ?_;constructor<;>intro hc1
 ·have hc1:b.seekers.length>5:=by have:=of_decide_eq_true hc1; omega
  refine au 3542 ?_;refine bB hret [(s,_),(e,_)] ?_;exact ⟨by rw [kV hnum (c:=2) (if_pos hc1) dQ]; rfl,rfl⟩
 have hc1:¬ b.seekers.length>5:=by have:=of_decide_eq_false hc1; omega
 refine au 13035422120 ?_;refine bA [1,3] ?_;refine bE (fun n env K=>∃ (i:Nat),n=b.seekers.length - i/\i<=b.seekers.length/\heardL b i=0/\env=zW 93 [(1,.ptr jb 0),(3,intA i)]/\K=[(jb,.cells (zC b s e) 27 true),(s,zo b),(e,zp b)]) b.seekers.length ⟨0,rfl,mN _,rfl,rfl,rfl⟩ fun n env K hI hnext=>?_;obtain ⟨i,rfl,hi,h0,rfl,rfl⟩:=hI;refine au 9372806906701422 ?_;refine ⟨fun hc=>?_,fun hc=>?_⟩
 ·simp only [decide_eq_true_eq] at hc;have hil:i<b.seekers.length:=by omega
  obtain ⟨x,hx⟩:∃ x,b.seekers[i]? =some x:=⟨_,lA hil⟩;have hxm:=lN hx;refine au 3601690670421302120 ?_;refine bH Z (zD Z Z zd.h mQ (says_at' b hx)) ?_;refine au 220 ?_;intro jx hjx;refine au 6906704223170 ?_;refine bD Z Z Z Z (zcm hT (hn x hxm)) ?_;rintro r10 K11 ⟨rfl,rfl⟩;refine au 93300 ?_;refine ⟨fun hnm=>?_,fun hnm=>?_⟩
  ·refine au 3542 ?_;refine bB hret [(s,_),(e,_)] ?_;exact ⟨by rw [kV hnum (c:=4) (by unfold heardM; rw [if_neg hc1]; exact yV h0 (c:=4) (by unfold heard1; rw [hx]; dsimp only; rw [if_pos hnm]) dQ hil) dQ]; rfl,rfl⟩
  refine au 13035422120 ?_;refine bA [1,3,4,5] ?_;refine bE (fun n env K=>∃ (k:Nat),n=i - k/\k<=i/\((b.seekers.take k).any fun o=>o.name.toList==x.name.toList)=false/\env=zW 93 [(1,.ptr jb 0),(3,intA i),(4,.ptr jx 0),(5,intA k)]/\K=[(jx,.cells (saysC x) 114 true),(jb,.cells (zC b s e) 27 true),(s,zo b),(e,zp b)]) i ⟨0,rfl,mN _,rfl,rfl,rfl⟩ fun n env K hI hnext2=>?_;obtain ⟨k,rfl,hk,hany,rfl,rfl⟩:=hI;refine au 93711422 ?_;constructor<;>intro hc4
  ·simp only [decide_eq_true_eq] at hc4;have hki:k<i:=by omega
   obtain ⟨y,hy⟩:∃ y,b.seekers[k]? =some y:=⟨_,lA oQ⟩;refine au 21302120 ?_;refine bL [0,1,2,3,4,5,6,7,8] ?_;refine ad [[3,1],[10,48],[1,5],[2,49,50],[3,51]] ?_;refine TD.y [52] Z (hq:=zl Z Z zd.h (mC _) (wc (says_at' b hy) dQ Z)) (h:=?_);refine ad [[3,4],[10,54]] ?_;refine TD.z [53,55] Z (zfb Z Z Z Z) ?_;refine ad [[14]] ?_;refine au 9 ?_;constructor<;>intro hc5
   ·have hdup:((b.seekers.take i).any fun o=>o.name.toList==x.name.toList)=true:=zll hy hki hc5;refine au 3542 ?_;refine bB hret [(s,_),(e,_)] ?_;exact ⟨by rw [kV hnum (c:=5) (by unfold heardM; rw [if_neg hc1]; exact yV h0 (c:=5) (by unfold heard1; rw [hx]; dsimp only; rw [if_neg (by rw [hnm]; decide),if_pos hdup]) dQ hil) dQ]; rfl,rfl⟩
   refine au 3523014140120 ?_;refine bA [1,3,4,5] ?_;refine bC [(jx,_),(jb,_),(s,_),(e,_)] ?_;exact hnext2 _ _ _ oQ ⟨k+1,rfl,oQ,vy hy hany hc5,rfl,rfl⟩
  simp only [decide_eq_false_iff_not] at hc4;obtain rfl:i=k:=by omega
  refine au 690670680422160 ?_;refine bD Z Z Z Z (uY hT (b:=b) (s:=s) (e:=e) oQ) ?_;rintro r13 K14 ⟨rfl,rfl⟩;refine au 1300 ?_;refine bF 62 (fun g16_6=>?_) (fun g16_6=>?_)
  ·refine au 3542180326088888 ?_;refine bB hret [(s,_),(e,_)] ?_;exact ⟨by rw [kV hnum (c:=6) (by unfold heardM; rw [if_neg hc1]; exact yV h0 (c:=6) (by unfold heard1; rw [hx]; dsimp only; rw [if_neg (by rw [hnm]; decide),if_neg (by rw [hany]; decide),if_pos (by rw [show (!zJ b x.frm)=true from g16_6]; rfl)]) dQ hil) dQ]; rfl,rfl⟩
  refine au 690670680 ?_;refine bD Z Z Z Z (uY hT (b:=b) (s:=s) (e:=e) oQ) ?_;rintro r16 K17 ⟨rfl,rfl⟩;refine au 93250300 ?_;constructor<;>intro hc6
  ·refine au 3542 ?_;refine bB hret [(s,_),(e,_)] ?_;exact ⟨by rw [kV hnum (c:=6) (by unfold heardM; rw [if_neg hc1]; exact yV h0 (c:=6) (by unfold heard1; rw [hx]; dsimp only; rw [if_neg (by rw [hnm]; decide),if_neg (by rw [hany]; decide),if_pos (by rw [show (!zJ b x.til)=true from hc6,Bool.or_true])]) dQ hil) dQ]; rfl,rfl⟩
  have hst2:(!zJ b x.frm || !zJ b x.til)=false:=by rw [hc6,g16_6]; rfl
  refine au 69067042120 ?_;refine bD Z Z Z Z (yy hT) ?_;rintro r19 K20 ⟨rfl,rfl⟩;refine au 93300 ?_;constructor<;>intro hc7
  ·refine au 3542 ?_;refine bB hret [(s,_),(e,_)] ?_;exact ⟨by rw [kV hnum (c:=1) (by unfold heardM; rw [if_neg hc1]; exact yV h0 (c:=1) (by unfold heard1; rw [hx]; dsimp only; rw [if_neg (by rw [hnm]; decide),if_neg (by rw [hany]; decide),if_neg (by rw [hst2]; decide),zfi,if_pos hc7]) dQ hil) dQ]; rfl,rfl⟩
  refine au 3523014140120 ?_;refine bA [1,3] ?_;refine bC [(jb,_),(s,_),(e,_)] ?_;exact hnext _ _ _ oQ ⟨i+1,rfl,oQ,by unfold heardL; rw [if_pos h0]; unfold heard1; rw [hx]; dsimp only; rw [if_neg (by rw [hnm]; decide),if_neg (by rw [hany]; decide),if_neg (by rw [hst2]; decide),zfi,if_neg (by rw [hc7]; decide)],rfl,rfl⟩
 simp only [decide_eq_false_iff_not] at hc;obtain rfl:i=b.seekers.length:=by omega
 have hheard:heardM b=0:=by unfold heardM; rw [if_neg hc1,h0]
 refine au 937280690670422160 ?_;constructor<;>intro hc8
 ·have hc8:b.seen.length>4:=by have:=of_decide_eq_true hc8; omega
  refine au 3542 ?_;refine bB hret [(s,_),(e,_)] ?_;exact ⟨by rw [vP hnum hheard]; unfold lookedM; rw [if_pos hc8]; rfl,rfl⟩
 have hc8:¬ b.seen.length>4:=by have:=of_decide_eq_false hc8; omega
 refine au 13035422120 ?_;refine bA [1,6] ?_;refine bE (fun n env K=>∃ (k:Nat),n=b.seen.length - k/\k<=b.seen.length/\((b.seen.take k).any fun x => !zJ b x.step)=false/\env=zW 93 [(1,.ptr jb 0),(6,intA k)]/\K=[(jb,.cells (zC b s e) 27 true),(s,zo b),(e,zp b)]) b.seen.length ⟨0,rfl,mN _,rfl,rfl,rfl⟩ fun n env K hI hnext3=>?_;obtain ⟨k,rfl,hk,hany2,rfl,rfl⟩:=hI;refine au 9372806906701422 ?_;constructor<;>intro hc9
 ·simp only [decide_eq_true_eq] at hc9;obtain ⟨z,hz⟩:∃ z,b.seen[k]? =some z:=⟨_,lA oQ⟩;have hzt:=zc8 b k oQ;rw [(lD.1 hz).2] at hzt;refine au 21302120 ?_;refine bL [0,1,2,3,4,5,6,7,8] ?_;refine ad [[12,1],[3,1],[10,85],[1,6],[2,86,87],[3,88]] ?_;refine TD.y [89] Z (hq:=zl Z Z zd.h (mC _) (wc hzt dQ Z)) (h:=?_);refine bQ (pend':=[⟨5,[88],[]⟩,⟨4,[86,87],[]⟩,⟨3,[6],[]⟩,⟨2,[85],[(_,_)]⟩,⟨1,[1],[]⟩]) [84,90] Z Z Z Z Z (uY hT (b:=b) (s:=s) (e:=e) oQ) (fun r22 K23 h24=>⟨?_,?_⟩)
  ·rcases h24 with ⟨rfl,rfl⟩
   all_goals simp
  obtain ⟨rfl,rfl⟩:=h24;try simp only [cA]
  refine bS tQ ?_;refine TD.z [91] Z (q_not Z Z) ?_;refine ad [[14]] ?_;refine au 9 ?_;constructor<;>intro hc10
  ·refine au 3542 ?_;refine bB hret [(s,_),(e,_)] ?_;exact ⟨by rw [vP hnum hheard]; unfold lookedM; rw [if_neg hc8,if_pos (List.any_eq_true.2 ⟨z,lN hz,hc10⟩)]; rfl,rfl⟩
  refine au 3523014140120 ?_;refine bA [1,6] ?_;refine bC [(jb,_),(s,_),(e,_)] ?_;exact hnext3 _ _ _ oQ ⟨k+1,rfl,oQ,vy hz hany2 hc10,rfl,rfl⟩
 simp only [decide_eq_false_iff_not] at hc9;obtain rfl:k=b.seen.length:=by omega
 refine au 3542160 ?_;refine bB hret [(s,_),(e,_)] ?_;exact ⟨by rw [vP hnum hheard]; unfold lookedM; rw [if_neg hc8,if_neg (by rw [lW] at hany2; rw [hany2]; decide)]; rfl,rfl⟩
end Go.Vel
end
