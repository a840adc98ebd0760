/- Texts for the statements of chapter 9: what all of them need, part 6. It holds of every program, tape and world that the statements name, as each theorem says. -/
import Derived.Test.YtcddfkgckelhiaaGreatDoorProg
import Derived.Conc.LeavingOf
import Derived.Conc.Holds
import Derived.Carry
import Derived.LaidLaws
import Derived.Test.YtcddfkgckelhiaaGreatDoorCards
import Derived.Test.YtcddfkgckelhiaaGreatDoorTie
import Derived.SevenTiedAt
import Derived.Test.YtcddfkgckelhiaaGreatDoorL0
import Derived.Test.YtcddfkgckelhiaaGreatDoorL3
import Derived.Test.YtcddfkgckelhiaaGreatDoorL4
section
set_option linter.all false
set_option maxRecDepth 20000
set_option maxHeartbeats 60000000
open Go.Proofs.Tryz renaming prog -> tp
open List renaming getElem?_eq_getElem -> lA, nil_append -> lC, getElem?_eq_some_iff -> lD, length_append -> lF, perm_append_comm -> lH, mem_cons -> lI, length_map -> lJ, eq_nil_of_length_eq_zero -> lK, mem_cons_of_mem -> lL, map_append -> lM, mem_of_getElem? -> lN, append_nil -> lR, mem_singleton -> lS, mem_append -> lT, take_length -> lW, mem_map -> lY, length_cons -> lZ
open List.Mem renaming head -> mC
open Nat renaming zero_le -> mN, zero_add -> mO, eq_zero_or_pos -> mP, le_trans -> mT
open Bool renaming and_eq_true -> mX
open Int renaming toNat_natCast -> mZ
open Go.Vel.TK renaming maskL -> bA, rt -> bB, kp -> bC, cl -> bD, loopN -> bE, sp -> bF, a -> bH, newR -> bI, dq -> bL, perm -> bN, appR -> bO
open Go.Vel.TD renaming cl -> bQ, norm -> bS, y -> bT
namespace Go.Vel
open Go Go.Conc Go.Proofs
section
variable {P:Program} {gm:Nat->Option Nat} {T:Goroutine->Hp->Prop} {Y:KX P gm T} {ds:List Nat} {k:List Item} {env env':List AV} {K K':KV}
theorem TK.freezeR (d:Nat) {j n:Nat} {l:List AV} {e:TypeId} {s:Nat} (hd:env[d]? =some (.row j n)) (hu:Upd K j (.row l e s) j (.cells l e false) K') (he:env.set d (.sl j 0 n)=env') (h:TK Y ds k env' K'):TK Y ds k env K :=
 TK.freeze d hd hu (by rw [<- he]; simp [unrow1,unrow]) h
end
def knownC (b:Bk) (s e:Nat) (l:AV) (m:Nat):List AV:=[intA b.steps,intA b.wrong,intA b.low,intA b.high,.sl s 0 b.seekers.length,.sl e 0 b.seen.length,l,.map m]
def listO (Ls:List (List Int)):AObj:=.cells (Ls.flatMap zX) 209 false
theorem zbc (Ls:List (List Int)) (i:Nat) (h:i<Ls.length):z6 (listO Ls) (0+(i:Int).toNat*4) 4=some (zX Ls[i]):=by
 have hle:(i+1)*4<=Ls.length*4:=Nat.mul_le_mul_right _ h;simp only [z6,AObj.look,listO,mZ,mO];rw [if_pos ⟨by omega,by rw [yx zX 4 (fun _=>rfl)]; omega⟩,kE zX 4 (fun _=>rfl) _ _ h]
def oftM (Ls:List (List Int)) (n:Int):Int:=(Ls.flatten.count n:Nat)
def wordM (all some:Int):Int:=if (some==all)=true then 1 else if (some==0)=true then 2 else 0
def bandM (b:Bk) (lo w:Int) (x:Int×Int) (S:List Int):Int×Int:=(if inM b S lo w<x.1 then inM b S lo w else x.1,if x.2<inM b S lo w then inM b S lo w else x.2)
def withinM (b:Bk) (Ls:List (List Int)) (lo w:Int):Int×Int:=Ls.foldl (bandM b lo w) (3,0)
theorem zf9 {b:Bk} {Ls:List (List Int)} {lo w:Int} {i:Nat} (h:i<Ls.length):withinM b (Ls.take (i+1)) lo w=bandM b lo w (withinM b (Ls.take i) lo w) Ls[i]:=by
 unfold withinM;rw [List.take_add_one,lA h,List.foldl_append]; rfl
def rightsM (b:Bk) (Ls:List (List Int)) (k:Nat):Int:=((Ls.filter (rightM b · k)).length:Nat)
theorem zaj (b:Bk) (Ls:List (List Int)) (k:Nat):0<=rightsM b Ls k/\rightsM b Ls k<=Ls.length:=⟨Int.natCast_nonneg _,Int.ofNat_le.2 (List.length_filter_le _ _)⟩
theorem zjz {b:Bk} {Ls:List (List Int)} {k i:Nat} (h:i<Ls.length) (hr:rightM b Ls[i] k=true):rightsM b (Ls.take (i+1)) k=rightsM b (Ls.take i) k+1:=by
 unfold rightsM;rw [List.take_add_one,lA h,List.filter_append,lF]; simp [hr]
theorem zjy {b:Bk} {Ls:List (List Int)} {k i:Nat} (h:i<Ls.length) (hr:rightM b Ls[i] k=false):rightsM b (Ls.take (i+1)) k=rightsM b (Ls.take i) k:=by
 unfold rightsM;rw [List.take_add_one,lA h,List.filter_append,lF]; simp [hr]
def askM (b:Bk) (t:Bool):Int:=if checkM b≠0 then checkM b else if t=false then 6 else if zb b=[] then 9 else 0
def zeroKn:List AV:=zeroBk++[.v (.slice none 0 0),.v (.map none)]
theorem yM {b:Bk} (hb:BkOk b):∀ S∈zb b,SmOk b S:=fun S h=>uI hb S (List.mem_filter.1 h).1
theorem yH {b:Bk} (hb:BkOk b):(zb b).length<=65536:=mT (List.length_filter_le _ _) (zbN hb)
theorem ux {Ls:List (List Int)} (h:∀ S∈Ls,S.length<=3):Ls.flatten.length<=Ls.length*3:=by
 induction Ls with
 | nil=>simp
 | cons S Ls ih =>
  have:=ih fun R hR=>h R (by simp [hR]);have:=h S sQ;rw [List.flatten_cons,lF,lZ]; omega
theorem zfu {Ls:List (List Int)} {i k:Nat} (h:i<Ls.length) (hk:k<Ls[i].length) (n:Int):((((Ls.take i).flatten++Ls[i].take (k+1)).count n:Nat):Int)=if n=Ls[i][k] then ((((Ls.take i).flatten++Ls[i].take k).count Ls[i][k]:Nat):Int)+1 else ((((Ls.take i).flatten++Ls[i].take k).count n:Nat):Int):=by
 rw [List.take_add_one,lA hk,<- List.append_assoc,List.count_append];by_cases e:n=Ls[i][k]
 ·subst e; simp
 ·rw [if_neg e]; simp [List.count_cons,Ne.symm e]
theorem zft {Ls:List (List Int)} {i:Nat} (h:i<Ls.length):(Ls.take i).flatten++Ls[i].take Ls[i].length=(Ls.take (i+1)).flatten:=by
 rw [List.take_add_one,lA h,lW,List.flatten_append]; simp
theorem vl {ob:Obj} {f g:Int->Int} (h:MapOk ob f) (e:∀ n,f n=g n):MapOk ob g:=by
 obtain ⟨es,c,rfl,hI,hf⟩:=h;exact ⟨es,c,rfl,hI,fun n=>(hf n).trans (e n)⟩
theorem wz {main T} (hT:zk tp main T) {gm} {b:Bk} {s e:Nat} :
  zh tp T gm 103 [.agg (zx b s e)] [] (fun r K'=>r=zl true/\K'=[]):=by
 refine ze 3 hT Tryz.func103 fun Y hret=>?_;refine au 21042 ?_;intro j1 hj1;refine au 354235 ?_;refine bB hret [] ?_;exact ⟨rfl,rfl⟩
theorem zdC {main T} (hT:zk tp main T) {gm} {b:Bk} {s e jl m:Nat} {Ls:List (List Int)} {x:Int} :
  zh tp T gm 108 [.agg (knownC b s e (.sl jl 0 Ls.length) m),intA x] [] (fun r K'=>r=intA (wordM Ls.length x)/\K'=[]):=by
 refine ze 13 hT Tryz.func108 fun Y hret=>?_;refine au 21042 ?_;intro j1 hj1;refine au 9357280690670421303142235 ?_;constructor<;>intro hc0
 ·refine au 3542 ?_;refine bB hret [] ?_;exact ⟨by unfold wordM; rw [if_pos hc0]; rfl,rfl⟩
 refine au 935742 ?_;constructor<;>intro hc1
 ·refine au 3542 ?_;refine bB hret [] ?_;exact ⟨by unfold wordM; rw [if_neg (by rw [hc0]; decide),if_pos hc1]; rfl,rfl⟩
 refine au 3542140120 ?_;refine bB hret [] ?_;exact ⟨by unfold wordM; rw [if_neg (by rw [hc0]; decide),if_neg (by rw [hc1]; decide)]; rfl,rfl⟩
theorem zez {main T} (hT:zk tp main T) {gm} {b:Bk} {s e jl m:Nat} {Ls:List (List Int)} {lo w:Int} (hs:4<=b.steps/\b.steps<=16) (hLo:∀ S∈Ls,SmOk b S) (hLn:Ls.length<=65536) (h0:0<=lo/\lo<b.steps) :
  zh tp T gm 111 [.agg (knownC b s e (.sl jl 0 Ls.length) m),intA lo,intA w] [(jl,listO Ls)] (fun r K'=>r=.agg [intA (withinM b Ls lo w).1,intA (withinM b Ls lo w).2]/\K'=[(jl,listO Ls)]):=by
 refine ze 36 hT Tryz.func111 fun Y hret=>?_;refine au 21042 ?_;intro jx hjx;refine au 220 ?_;intro jr hjr;refine au 220390423 ?_;intro jo hjo;refine au 130312806906704223170 ?_;refine bA [1,2,3,6,7,13,14,15] ?_;refine bE (fun n env K=>∃ (i:Nat),n=Ls.length - i/\i<=Ls.length/\env=zK 36 [(1,intA lo),(2,intA w),(3,.ptr jx 0),(6,.ptr jr 0),(7,.ptr jo 0),(13,.sl jl 0 Ls.length),(14,intA Ls.length),(15,intA i)]/\K=[(jo,.cells [intA (withinM b (Ls.take i) lo w).1,intA (withinM b (Ls.take i) lo w).2] 23 true),(jr,.cells [intA 0,intA 0] 23 true),(jx,.cells (knownC b s e (.sl jl 0 Ls.length) m) 219 true),(jl,listO Ls)]) Ls.length ⟨0,rfl,mN _,rfl,rfl⟩ fun n env K hI' hnext=>?_;obtain ⟨i,rfl,hi,rfl,rfl⟩:=hI';refine au 923742 ?_;refine ⟨fun hc=>?_,fun hc=>?_⟩
 ·simp only [decide_eq_true_eq] at hc;have hil:i<Ls.length:=by omega
  have hSm:=hLo _ (List.getElem_mem hil);refine au 360421302120 ?_;refine bH Z (zN Z Z zd.h mQ (zbc Ls i hil)) ?_;refine au 220 ?_;intro j9 hj9;refine au 11680680670423170 ?_;refine bD Z Z Z Z (in_ok hT (s:=s) (e:=e) hs hSm.len hSm.mem h0) ?_;rintro r1 K2 ⟨rfl,rfl⟩;refine au 1690670435 ?_;refine bH Z (q_min Z Z Z) ?_;refine au 1690670 ?_;refine bH Z (q_max Z Z Z) ?_;refine au 3123041403170390 ?_;refine bA [1,2,3,6,7,13,14,15] ?_;refine bC [(jo,_),(jr,_),(jx,_),(jl,_)] ?_;exact hnext _ _ _ oQ ⟨i+1,rfl,oQ,rfl,by rw [zf9 hil]; rfl⟩
 simp only [decide_eq_false_iff_not] at hc;obtain rfl:i=Ls.length:=by omega
 refine au 317068042160 ?_;refine bB hret [(jl,_)] ?_;exact ⟨by rw [lW]; rfl,rfl⟩
theorem zem {main:Bool} {T:Goroutine->Hp->Prop} (hT:zk tp main T)  {b:Bk} {s e jl m:Nat} {Ls:List (List Int)} {k:Nat} (hb:BkOk b) (hLo:∀ S∈Ls,SmOk b S) (hLn:Ls.length<=65536) (hk:k<b.seekers.length) :
  zh tp T gmS 117 [.agg (knownC b s e (.sl jl 0 Ls.length) m),intA k] [(1,zz),(s,zo b),(jl,listO Ls)] (fun r K'=>r=intA (rightsM b Ls k)/\K'=[(1,zz),(s,zo b),(jl,listO Ls)]):=by
 refine ze 24 hT Tryz.func117 fun Y hret=>?_;refine au 21042 ?_;intro jx hjx;refine au 13031280690670422354235 ?_;refine bA [1,2,5,9,10,11] ?_;refine bE (fun n env K=>∃ (i:Nat),n=Ls.length - i/\i<=Ls.length/\env=zK 24 [(1,intA k),(2,.ptr jx 0),(5,intA (rightsM b (Ls.take i) k)),(9,.sl jl 0 Ls.length),(10,intA Ls.length),(11,intA i)]/\K=[(jx,.cells (knownC b s e (.sl jl 0 Ls.length) m) 219 true),(1,zz),(s,zo b),(jl,listO Ls)]) Ls.length ⟨0,rfl,mN _,rfl,rfl⟩ fun n env K hI' hnext=>?_;obtain ⟨i,rfl,hi,rfl,rfl⟩:=hI';refine au 923742 ?_;refine ⟨fun hc=>?_,fun hc=>?_⟩
 ·simp only [decide_eq_true_eq] at hc;have hil:i<Ls.length:=by omega
  have hSm:=hLo _ (List.getElem_mem hil);have hrl:=zaj b (Ls.take i) k;have htl:(Ls.take i).length<=65536:=by rw [List.length_take]; omega
  refine au 360421302120 ?_;refine bH Z (zN Z Z zd.h mQ (zbc Ls i hil)) ?_;refine au 220 ?_;intro j9 hj9;refine au 1680680670423170 ?_;refine bD Z Z Z Z (zai hT (s:=s) (e:=e) hb hSm hk) ?_;rintro r1 K2 ⟨rfl,rfl⟩;refine au 93 ?_;constructor<;>intro hc1
  ·refine au 3123041403523014 ?_;refine bA [1,2,5,9,10,11] ?_;refine bC [(jx,_),(1,_),(s,_),(jl,_)] ?_;exact hnext _ _ _ oQ ⟨i+1,rfl,oQ,by rw [zjz hil hc1]; rfl,rfl⟩
  refine au 312304140120 ?_;refine bA [1,2,5,9,10,11] ?_;refine bC [(jx,_),(1,_),(s,_),(jl,_)] ?_;exact hnext _ _ _ oQ ⟨i+1,rfl,oQ,by rw [zjy hil hc1]; rfl,rfl⟩
 simp only [decide_eq_false_iff_not] at hc;obtain rfl:i=Ls.length:=by omega
 refine au 35142160 ?_;refine bB hret [(1,_),(s,_),(jl,_)] ?_;exact ⟨by rw [lW],rfl⟩
theorem vq {main:Bool} {T:Goroutine->Hp->Prop} (hT:zk tp main T)  {b:Bk} {s e:Nat} {yv:AV} {t:Bool} {Kt:KV} (hse:s≠e) (hn:∀ x∈b.seekers,x.name.size<=1000) (hl:b.seen.length<=1000) (hy1:oneA yv=true) (hth:BkOk b->CallFK tp T gmS yv [.agg (zx b s e)] Kt (fun r K'=>r=zl t/\K'=Kt)) :
  zh tp T gmS 102 [.agg (zx b s e),yv] ((0,zr)::(1,zz)::(s,zo b)::(e,zp b)::Kt) (fun r K'=>(askM b t≠0/\r=.tup [.agg zeroKn,intA (askM b t)]/\K'=(0,zr)::(1,zz)::(s,zo b)::(e,zp b)::Kt)\/(∃ jl m om,askM b t=0/\MapOk om (oftM (zb b))/\r=.tup [.agg (knownC b s e (.sl jl 0 (zb b).length) m),intA 0]/\K'=(jl,listO (zb b))::(m,.raw om)::(0,zr)::(1,zz)::(s,zo b)::(e,zp b)::Kt)):=by
 refine ze 59 hT Tryz.func102 fun Y hret=>?_;refine au 21042 ?_;intro jb hjb;refine au 220 ?_;intro jk hjk;refine au 68042235 ?_;refine bD Z Z Z Z (kN hT (b:=b) (s:=s) (e:=e) hn hl) ?_;rintro r1 K2 ⟨rfl,rfl⟩;refine au 93714235 ?_;constructor<;>intro hc0
 ·refine au 35170145042 ?_;refine bB hret (((0,zr)::(1,zz)::(s,zo b)::(e,zp b)::Kt)) ?_;have ha:askM b t=checkM b:=if_pos (by simpa using hc0);exact .inl ⟨by rw [ha]; simpa using hc0,by rw [ha]; rfl,rfl⟩
 have hc1:checkM b=0:=by simpa using hc0
 have hb:=yy hc1;refine au 43068042120 ?_;refine TK.newM Z Z Z (zaO Z) (fun _=>zt rfl tQ) fun jm hjm=>?_;refine au 220450 ?_;intro jx hjx;refine au 68067014223170 ?_;refine TK.callF' Z Z Z Z Z (hth hb) (.right (.right (.right (.right (.right (.right (.right (.right (.all _))))))))) fun r4 K5 h6=>?_;obtain ⟨rfl,hK⟩:=h6;refine au 0 ?_;rw [hK];refine bN (K':=(jx,_)::(jm,_)::(0,_)::(s,_)::(e,_)::(jk,_)::(jb,_)::(1,_)::Kt) (lH (l₁:=Kt)) ?_;refine au 93300 ?_;constructor<;>intro hc2
 ·have ht:t=false:=by simpa using hc2
  refine au 3517045042 ?_;refine bB hret (((0,zr)::(1,zz)::(s,zo b)::(e,zp b)::Kt)) ?_;have ha:askM b t=6:=by unfold askM; rw [if_neg (by simpa using hc1),ht,if_pos rfl]
  exact .inl ⟨by rw [ha]; decide,by rw [ha]; rfl,rfl⟩
 have ht:t=true:=by simpa using hc2
 refine au 680670422120 ?_;refine bD Z Z Z Z (za1 hT hse hb) ?_;rintro r7 K8 ⟨jl,rfl,rfl⟩;refine au 0 ?_;refine TK.freezeR 30 Z uQ Z ?_;refine au 937280690670423170670 ?_;constructor<;>intro hc3
 ·have hst:zb b=[]:=lK (by have h:((zb b).length:Int)=0:=(by simpa using hc3); omega);refine au 3517045042 ?_;refine bB hret (((0,zr)::(1,zz)::(s,zo b)::(e,zp b)::Kt)) ?_;have ha:askM b t=9:=by unfold askM; rw [if_neg (by simpa using hc1),ht,if_neg dQ,if_pos hst]
  exact .inl ⟨by rw [ha]; decide,by rw [ha]; rfl,rfl⟩
 have hst:zb b≠[]:=fun h=>by rw [h] at hc3; exact absurd hc3 dQ
 have hLo:=yM hb;have hLn:=yH hb;refine au 13031280690670422120 ?_;refine bA [4,7,38,39,40] ?_;refine bC (((jx,_)::(jm,_)::(jl,_)::(jk,_)::(0,_)::(1,_)::(s,_)::(e,_)::Kt)) ?_;refine bE (fun n env K=>∃ (i:Nat) (om:Obj),n=(zb b).length - i/\i<=(zb b).length/\MapOk om (fun q=>(((zb b).take i).flatten.count q:Nat))/\env=zK 59 [(4,.ptr jk 0),(7,.ptr jx 0),(38,.sl jl 0 (zb b).length),(39,intA (zb b).length),(40,intA i)]/\K=(jx,.cells (knownC b s e (.sl jl 0 (zb b).length) jm) 219 true)::(jm,.raw om)::(jl,listO (zb b))::(jk,.cells zeroKn 219 true)::(0,zr)::(1,zz)::(s,zo b)::(e,zp b)::Kt) (zb b).length ⟨0,_,rfl,mN _,zd8,rfl,rfl⟩ fun n env K hI' hnext=>?_;obtain ⟨i,om,rfl,hi,hom,rfl,rfl⟩:=hI';refine au 923742 ?_;refine ⟨fun hc=>?_,fun hc=>?_⟩
 ·simp only [decide_eq_true_eq] at hc;have hil:i<(zb b).length:=by omega
  have hSm:=hLo _ (List.getElem_mem hil);refine au 360421302120 ?_;refine bH Z (zN Z Z zd.h mQ (zbc (zb b) i hil)) ?_;refine au 220 ?_;intro j9 hj9;refine au 680423170 ?_;refine bD Z Z Z Z (zbd hT hSm.len fun x hx=>⟨(hSm.mem x hx).1,by have:=(hSm.mem x hx).2; have:=hb.steps; omega⟩) ?_;rintro r10 K11 ⟨jr,rfl,rfl⟩;refine au 13031280 ?_;refine bA [4,7,38,39,40,45,46,47] ?_;refine bC (((jr,_)::(jx,_)::(jm,_)::(jl,_)::(jk,_)::(0,_)::(1,_)::(s,_)::(e,_)::Kt)) ?_;refine bE (fun n env K=>∃ (q:Nat) (om2:Obj),n=(zb b)[i].length - q/\q<=(zb b)[i].length/\MapOk om2 (fun z=>(((((zb b).take i).flatten++(zb b)[i].take q).count z:Nat):Int))/\env=zK 59 [(4,.ptr jk 0),(7,.ptr jx 0),(38,.sl jl 0 (zb b).length),(39,intA (zb b).length),(40,intA i),(45,.row jr (zb b)[i].length),(46,intA (zb b)[i].length),(47,intA q)]/\K=(jr,.row ((zb b)[i].map intA) 3 1)::(jx,.cells (knownC b s e (.sl jl 0 (zb b).length) jm) 219 true)::(jm,.raw om2)::(jl,listO (zb b))::(jk,.cells zeroKn 219 true)::(0,zr)::(1,zz)::(s,zo b)::(e,zp b)::Kt) (zb b)[i].length ⟨0,om,rfl,mN _,by simpa using hom,rfl,rfl⟩ fun n env K hI' hnext2=>?_;obtain ⟨q,om2,rfl,hq,hom2,rfl,rfl⟩:=hI';refine au 923742 ?_;refine ⟨fun hcq=>?_,fun hcq=>?_⟩
  ·simp only [decide_eq_true_eq] at hcq;have hlen3:=hSm.len;have hql:q<(zb b)[i].length:=by omega
   have hcnt:(((zb b).take i).flatten++(zb b)[i].take q).count (zb b)[i][q]<=200000:=mT List.count_le_length (by
    have h1:=ux (Ls:=(zb b).take i) (fun R hR=>(hLo R (List.mem_of_mem_take hR)).len);have h2:((zb b).take i).length<=65536:=by rw [List.length_take]; omega
    have h3:=hSm.len;rw [lF,List.length_take]; omega)
   refine au 370421302120 ?_;refine bH Z (zm Z Z zd.h mQ (zb4 (i:=q) hql Z)) ?_;refine au 1690670435 ?_;refine bH Z (ue Z Z Z Und.h Und.h InfO.h Z mQ hom2) ?_;refine au 230 ?_;refine TK.st Z Z Z (zbB Z Z Z Z Und.h Und.h mQ hom2) uQ (putN Z) ?_;refine au 3123041403 ?_;refine bA [4,7,38,39,40,45,46,47] ?_;refine bC (((jr,_)::(jx,_)::(jm,_)::(jl,_)::(jk,_)::(0,_)::(1,_)::(s,_)::(e,_)::Kt)) ?_;exact hnext2 _ _ _ oQ ⟨q+1,_,rfl,oQ,vl (zjU hom2) (fun z=>(zfu hil hql z).symm),rfl,rfl⟩
  simp only [decide_eq_false_iff_not] at hcq;obtain rfl:q=(zb b)[i].length:=by omega
  refine au 312304140160 ?_;refine bA [4,7,38,39,40] ?_;refine bC (((jx,_)::(jm,_)::(jl,_)::(jk,_)::(0,_)::(1,_)::(s,_)::(e,_)::Kt)) ?_;exact hnext _ _ _ oQ ⟨i+1,om2,rfl,oQ,vl hom2 (fun q=>by rw [zft hil]),rfl,rfl⟩
 simp only [decide_eq_false_iff_not] at hc;obtain rfl:i=(zb b).length:=by omega
 refine au 3517068042160 ?_;refine bB hret (((jl,_)::(jm,_)::(0,zr)::(1,zz)::(s,zo b)::(e,zp b)::Kt)) ?_;have ha:askM b t=0:=by unfold askM; rw [if_neg (by simpa using hc1),ht,if_neg dQ,if_neg hst]
 rw [lW] at hom;exact .inr ⟨jl,jm,_,ha,hom,rfl,rfl⟩
theorem kM {b:Bk} {t:Bool} (h:askM b t=0):checkM b=0/\t=true/\zb b≠[]:=by
 unfold askM at h;split at h
 ·rename_i h1; exact absurd h h1
 ·rename_i h1;split at h
  ·cases h
  ·rename_i h2;split at h
   ·cases h
   ·rename_i h3;exact ⟨by simpa using h1,by simpa using h2,h3⟩
def statesApi (b:Bk):Int×Int:=if checkM b≠0 then (0,checkM b) else ((zb b).length,0)
def atApi (b:Bk) (n:Int):Int×Int:=if askM b (zF b n)≠0 then (0,askM b (zF b n)) else (wordM (zb b).length (oftM (zb b) n),0)
def withinApi (b:Bk) (lo hi:Int):(Int×Int)×Int:=if askM b (zF b lo&&zF b hi)≠0 then ((0,0),askM b (zF b lo&&zF b hi)) else (withinM b (zb b) lo ((hi - lo+b.steps) % b.steps+1),0)
def wrongApi (b:Bk) (k:Int):Int×Int:=if askM b (isSeekerM b k)≠0 then (0,askM b (isSeekerM b k)) else (wordM (zb b).length ((zb b).length - rightsM b (zb b) k.toNat),0)
def pickL (b:Bk) (w:Int) (n:Nat):List Int:=((List.range n).filter fun k:Nat=>wordM (zb b).length (oftM (zb b) (k:Int))==w).map fun k:Nat=>(k:Int)
theorem zbf {b:Bk} {w:Int} {n:Nat} (h:(wordM (zb b).length (oftM (zb b) (n:Int))==w)=true):pickL b w (n+1)=pickL b w n++[(n:Int)]:=by
 unfold pickL; rw [List.range_succ,List.filter_append]; simp [h]
theorem wH {b:Bk} {w:Int} {n:Nat} (h:(wordM (zb b).length (oftM (zb b) (n:Int))==w)=false):pickL b w (n+1)=pickL b w n:=by
 unfold pickL; rw [List.range_succ,List.filter_append]; simp [h]
theorem zej (b:Bk) (w:Int) (n:Nat):(pickL b w n).length<=n:=by
 unfold pickL; rw [lJ]; exact mT (List.length_filter_le _ _) sQ
theorem zmT {b:Bk} (hb:BkOk b) (n:Int):0<=oftM (zb b) n/\oftM (zb b) n<=200000:=by
 have h0:(zb b).flatten.count n<=(zb b).flatten.length:=List.count_le_length;have h1:=ux (Ls:=zb b) (fun R hR=>(yM hb R hR).len);have h2:=yH hb;unfold oftM;omega
theorem kc {main:Bool} {T:Goroutine->Hp->Prop} (hT:zk tp main T)  {b:Bk} {s e:Nat} (hse:s≠e) (hn:∀ x∈b.seekers,x.name.size<=1000) (hl:b.seen.length<=1000) :
  zh tp T gmS 35 [.agg (zx b s e)] [(0,zr),(1,zz),(s,zo b),(e,zp b)] (fun r K'=>r=.tup [intA (statesApi b).1,intA (statesApi b).2]/\K'=[(0,zr),(1,zz),(s,zo b),(e,zp b)]):=by
 refine ze 14 hT Tryz.func35 fun Y hret=>?_;refine au 21042 ?_;intro j1 hj1;refine au 680422355 ?_;refine bD Z Z Z Z (kN hT (b:=b) (s:=s) (e:=e) hn hl) ?_;rintro r2 K3 ⟨rfl,rfl⟩;refine au 93714235 ?_;constructor<;>intro hc0
 ·refine au 355142 ?_;refine bB hret [(0,_),(1,_),(s,_),(e,_)] ?_;exact ⟨by unfold statesApi; rw [if_pos (by simpa using hc0)]; rfl,rfl⟩
 have hb:=yy (b:=b) (by simpa using hc0);refine au 43068042120 ?_;refine bD Z Z Z Z (za1 hT hse hb) ?_;rintro r5 K6 ⟨jl,rfl,rfl⟩;refine au 355280 ?_;refine bB hret [(0,_),(1,_),(s,_),(e,_)] ?_;exact ⟨by unfold statesApi; rw [if_neg (by simpa using hc0)]; rfl,rfl⟩
theorem zmx {main T} (hT:zk tp main T) {gm} {b:Bk} {s e j:Nat} {n:Int} (hs:0<=b.steps/\b.steps<=16) :
  zh tp T gm 106 [.agg (zx b s e),.ptr j 0] [(j,.cells [intA n] 3 true)] (fun r K'=>r=zl (zF b n)/\K'=[(j,.cells [intA n] 3 true)]):=by
 refine ze 7 hT Tryz.func106 fun Y hret=>?_;refine au 21042 ?_;intro jb hjb;refine au 6906804235 ?_;refine bD Z Z Z Z (kH hT (s:=s) (e:=e) hs) ?_;rintro r1 K2 ⟨rfl,rfl⟩;refine au 35 ?_;refine bB hret [(j,_)] ?_;exact ⟨rfl,rfl⟩
theorem uP {main:Bool} {T:Goroutine->Hp->Prop} (hT:zk tp main T)  {b:Bk} {s e:Nat} {n:Int} (hse:s≠e) (hn:∀ x∈b.seekers,x.name.size<=1000) (hl:b.seen.length<=1000) :
  zh tp T gmS 37 [.agg (zx b s e),intA n] [(0,zr),(1,zz),(s,zo b),(e,zp b)] (fun r K'=>r=.tup [intA (atApi b n).1,intA (atApi b n).2]/\K'=[(0,zr),(1,zz),(s,zo b),(e,zp b)]):=by
 refine ze 23 hT Tryz.func37 fun Y hret=>?_;refine au 21042 ?_;intro j1 hj1;refine au 210 ?_;intro j2 hj2;refine au 32068042355 ?_;refine bD Z Z Z Z (vq hT (b:=b) (s:=s) (e:=e) (t:=zF b n) hse hn hl Z (fun hb=>yC Cal.h (zmx hT (by have:=hb.steps; omega)))) ?_;rintro r3 K4 h5;rcases h5 with ⟨hb0,rfl,rfl⟩ | ⟨jl,jm,om,hb0,hom,rfl,rfl⟩
 ·refine au 220661 ?_;intro j6 hj6;refine au 937142235170 ?_;constructor<;>intro hc0
  ·
   refine au 355142 ?_;refine bB hret [(0,_),(1,_),(s,_),(e,_)] ?_;exact ⟨by unfold atApi; rw [if_pos hb0]; rfl,rfl⟩
  exact absurd (by simpa using hc0) hb0
 ·refine au 220661 ?_;intro j7 hj7;refine au 937142235170 ?_;constructor<;>intro hc0
  ·exact absurd hc0 dQ
  obtain ⟨hck,hth,hne⟩:=kM hb0;have hb:=yy hck;have hLo:=yM hb;have hLn:=yH hb;refine au 69069067068042120 ?_;refine bH Z (ue Z Z Z Und.h Und.h InfO.h Z mQ hom) ?_;refine bD Z Z Z Z (zdC hT) ?_;rintro r8 K9 ⟨rfl,rfl⟩;refine au 355 ?_;refine bB hret [(0,_),(1,_),(s,_),(e,_)] ?_;exact ⟨by unfold atApi; rw [if_neg (by rw [hb0]; decide)]; rfl,rfl⟩
theorem zid {main T} (hT:zk tp main T) {gm} {b:Bk} {s e j j2:Nat} {lo hi:Int} (hs:0<=b.steps/\b.steps<=16) :
  zh tp T gm 110 [.agg (zx b s e),.ptr j 0,.ptr j2 0] [(j,.cells [intA lo] 3 true),(j2,.cells [intA hi] 3 true)] (fun r K'=>r=zl (zF b lo&&zF b hi)/\K'=[(j,.cells [intA lo] 3 true),(j2,.cells [intA hi] 3 true)]):=by
 refine ze 13 hT Tryz.func110 fun Y hret=>?_;refine au 21042 ?_;intro jb hjb;refine au 6906804235 ?_;refine bD Z Z Z Z (kH hT (s:=s) (e:=e) hs) ?_;rintro r1 K2 ⟨rfl,rfl⟩;refine au 1 ?_;refine bF 8 (fun g1_4=>?_) (fun g1_4=>?_)
 ·refine au 690680 ?_;refine bD Z Z Z Z (kH hT (s:=s) (e:=e) hs) ?_;rintro r4 K5 ⟨rfl,rfl⟩;refine au 35260 ?_;refine bB hret [(j,_),(j2,_)] ?_;exact ⟨by unfold zF; rw [g1_4]; rfl,rfl⟩
 refine au 35250888 ?_;refine bB hret [(j,_),(j2,_)] ?_;exact ⟨by unfold zF; rw [g1_4]; rfl,rfl⟩
theorem wX {main:Bool} {T:Goroutine->Hp->Prop} (hT:zk tp main T)  {b:Bk} {s e:Nat} {lo hi:Int} (hse:s≠e) (hn:∀ x∈b.seekers,x.name.size<=1000) (hl:b.seen.length<=1000) :
  zh tp T gmS 40 [.agg (zx b s e),intA lo,intA hi] [(0,zr),(1,zz),(s,zo b),(e,zp b)] (fun r K'=>r=.tup [.agg [intA (withinApi b lo hi).1.1,intA (withinApi b lo hi).1.2],intA (withinApi b lo hi).2]/\K'=[(0,zr),(1,zz),(s,zo b),(e,zp b)]):=by
 refine ze 28 hT Tryz.func40 fun Y hret=>?_;refine au 21042 ?_;intro j1 hj1;refine au 210 ?_;intro j2 hj2;refine au 210 ?_;intro j3 hj3;refine au 220 ?_;intro j4 hj4;refine au 3206804235 ?_;refine bD Z Z Z Z (vq hT (b:=b) (s:=s) (e:=e) (t:=zF b lo&&zF b hi) hse hn hl Z (fun hb=>yC Cal.h (zid hT (by have:=hb.steps; omega)))) ?_;rintro r5 K6 h7;rcases h7 with ⟨hb0,rfl,rfl⟩ | ⟨jl,jm,om,hb0,hom,rfl,rfl⟩
 ·refine au 220661 ?_;intro j8 hj8;refine au 937142235170 ?_;constructor<;>intro hc0
  ·
   refine au 35170139042 ?_;refine bB hret [(0,_),(1,_),(s,_),(e,_)] ?_;exact ⟨by unfold withinApi; rw [if_pos hb0]; rfl,rfl⟩
  exact absurd (by simpa using hc0) hb0
 ·refine au 220661 ?_;intro j9 hj9;refine au 937142235170 ?_;constructor<;>intro hc0
  ·exact absurd hc0 dQ
  obtain ⟨hck,hth,hne⟩:=kM hb0;have hb:=yy hck;have hLo:=yM hb;have hLn:=yH hb;have hlo:(0<=lo/\lo<b.steps)/\(0<=hi/\hi<b.steps):=by simp only [zF,mX,decide_eq_true_eq] at hth; omega
  refine au 2120 ?_;refine bL [0,1,2,3,4,5,6,7,8,9] ?_;refine ad [[12,8],[10,4],[3,8],[12,22],[10,4],[10,5]] ?_;refine bQ (pend':=[⟨2,[8],[]⟩,⟨1,[4],[(_,_)]⟩,⟨0,[8],[(_,_)]⟩]) [23,24,25] Z Z Z Z Z (zbh hT (s:=s) (e:=e) hb.steps hlo.1 hlo.2) (fun r10 K11 h12=>⟨?_,?_⟩)
  ·rcases h12 with ⟨rfl,rfl⟩
   all_goals simp
  obtain ⟨rfl,rfl⟩:=h12;try simp only [cA]
  refine bS tQ ?_;refine bQ (pend':=[⟨2,[8],[]⟩]) [20,21,26] Z Z Z Z Z (zez hT hb.steps hLo hLn hlo.1) (fun r13 K14 h15=>⟨?_,?_⟩)
  ·rcases h15 with ⟨rfl,rfl⟩
   all_goals simp
  obtain ⟨rfl,rfl⟩:=h15;try simp only [cA]
  refine bS tQ ?_;refine TD.s (pend':=[]) [6,27] Z Z (zy Z Z zd.h Z Z mQ Z) ?_;refine ad [[13],[14]] ?_;refine au 0 ?_;refine bB hret [(0,_),(1,_),(s,_),(e,_)] ?_;exact ⟨by unfold withinApi; rw [if_neg (by rw [hb0]; decide)]; rfl,rfl⟩
theorem zj0 {main T} (hT:zk tp main T) {gm} {b:Bk} {s e j:Nat} {n:Int} (hs:b.seekers.length<=1000) :
  zh tp T gm 116 [.agg (zx b s e),.ptr j 0] [(j,.cells [intA n] 3 true)] (fun r K'=>r=zl (isSeekerM b n)/\K'=[(j,.cells [intA n] 3 true)]):=by
 refine ze 7 hT Tryz.func116 fun Y hret=>?_;refine au 21042 ?_;intro jb hjb;refine au 6906804235 ?_;refine bD Z Z Z Z (uy hT (s:=s) (e:=e) hs) ?_;rintro r1 K2 ⟨rfl,rfl⟩;refine au 35 ?_;refine bB hret [(j,_)] ?_;exact ⟨rfl,rfl⟩
theorem kV {main:Bool} {T:Goroutine->Hp->Prop} (hT:zk tp main T)  {b:Bk} {s e:Nat} {n:Int} (hse:s≠e) (hn:∀ x∈b.seekers,x.name.size<=1000) (hl:b.seen.length<=1000) :
  zh tp T gmS 42 [.agg (zx b s e),intA n] [(0,zr),(1,zz),(s,zo b),(e,zp b)] (fun r K'=>r=.tup [intA (wrongApi b n).1,intA (wrongApi b n).2]/\K'=[(0,zr),(1,zz),(s,zo b),(e,zp b)]):=by
 refine ze 26 hT Tryz.func42 fun Y hret=>?_;refine au 21042 ?_;intro j1 hj1;refine au 210 ?_;intro j2 hj2;refine au 32068042355 ?_;refine bD Z Z Z Z (vq hT (b:=b) (s:=s) (e:=e) (t:=isSeekerM b n) hse hn hl Z (fun hb=>yC Cal.h (zj0 hT (by have:=hb.ns; omega)))) ?_;rintro r3 K4 h5;rcases h5 with ⟨hb0,rfl,rfl⟩ | ⟨jl,jm,om,hb0,hom,rfl,rfl⟩
 ·refine au 220661 ?_;intro j6 hj6;refine au 937142235170 ?_;constructor<;>intro hc0
  ·
   refine au 355142 ?_;refine bB hret [(0,_),(1,_),(s,_),(e,_)] ?_;exact ⟨by unfold wrongApi; rw [if_pos hb0]; rfl,rfl⟩
  exact absurd (by simpa using hc0) hb0
 ·refine au 220661 ?_;intro j7 hj7;refine au 937142235170 ?_;constructor<;>intro hc0
  ·exact absurd hc0 dQ
  obtain ⟨hck,hth,hne⟩:=kM hb0;have hb:=yy hck;have hLo:=yM hb;have hLn:=yH hb;obtain ⟨k,rfl⟩:∃ k:Nat,n=k:=⟨n.toNat,by simp only [isSeekerM,mX,decide_eq_true_eq] at hth; omega⟩;have hk:k<b.seekers.length:=by simp only [isSeekerM,mX,decide_eq_true_eq] at hth; omega
  have hrl:=zaj b (zb b) k;refine au 2120 ?_;refine bL [0,1,2,3,4,5,6,7,8,9,10] ?_;refine ad [[12,6],[3,6],[10,18]] ?_;refine TD.z [19] Z (q_len Z Z Z Und.h) ?_;refine ad [[12,6],[10,3]] ?_;refine bQ (pend':=[⟨3,[19],[]⟩,⟨2,[18],[(_,_)]⟩,⟨1,[6],[]⟩,⟨0,[6],[(_,_)]⟩]) [21,22] Z Z Z Z Z (zem hT hb hLo hLn hk) (fun r8 K9 h10=>⟨?_,?_⟩)
  ·rcases h10 with ⟨rfl,rfl⟩
   all_goals simp
  obtain ⟨rfl,rfl⟩:=h10;try simp only [cA]
  refine bS tQ ?_;refine ad [[9,20,23]] ?_;refine bQ (pend':=[⟨3,[19],[]⟩,⟨2,[18],[(_,_)]⟩,⟨1,[6],[]⟩]) [17,24] Z Z Z Z Z (zdC hT) (fun r11 K12 h13=>⟨?_,?_⟩)
  ·rcases h13 with ⟨rfl,rfl⟩
   all_goals simp
  obtain ⟨rfl,rfl⟩:=h13;try simp only [cA]
  refine bS tQ ?_;refine ad [[13,25],[13],[14]] ?_;refine au 0 ?_;refine bB hret [(0,_),(1,_),(s,_),(e,_)] ?_;exact ⟨by unfold wrongApi; rw [if_neg (show ¬ (askM b (isSeekerM b (k:Int))≠0) by rw [hb0]; decide)]; rfl,rfl⟩
theorem zgC {main:Bool} {T:Goroutine->Hp->Prop} (hT:zk tp main T)  {b:Bk} {s e:Nat} (hse:s≠e) (hn:∀ x∈b.seekers,x.name.size<=1000) (hl:b.seen.length<=1000) :
  zh tp T gmS 39 [.agg (zx b s e)] [(0,zr),(1,zz),(s,zo b),(e,zp b)] (fun r K'=>(askM b true≠0/\r=.tup [.v (.slice none 0 0),.v (.slice none 0 0),intA (askM b true)]/\K'=[(0,zr),(1,zz),(s,zo b),(e,zp b)])\/(askM b true=0/\∃ j1 j2,r=.tup [.row j1 (pickL b 1 b.steps.toNat).length,.row j2 (pickL b 0 b.steps.toNat).length,intA 0]/\K'=[(0,zr),(1,zz),(s,zo b),(e,zp b),(j1,.row ((pickL b 1 b.steps.toNat).map intA) 3 1),(j2,.row ((pickL b 0 b.steps.toNat).map intA) 3 1)])):=by
 refine ze 41 hT Tryz.func39 fun Y hret=>?_;refine au 21042 ?_;intro jb hjb;refine au 555 ?_;refine TK.virt 2 3 1 Z fun j01 hj01=>?_;refine TK.virt 3 3 1 Z fun j02 hj02=>?_;refine au 680423 ?_;refine bD Z Z Z Z (vq hT (b:=b) (s:=s) (e:=e) (t:=true) hse hn hl Z (fun hb=>yC Cal.h (wz hT))) ?_;rintro r1 K2 h3;rcases h3 with ⟨hb0,rfl,rfl⟩ | ⟨jl,jm,om,hb0,hom,rfl,rfl⟩
 ·refine au 220661 ?_;intro jx hjx;refine au 937142235170 ?_;constructor<;>intro hc0
  ·
   refine au 3555142 ?_;refine bB hret [(0,_),(1,_),(s,_),(e,_)] ?_;exact .inl ⟨hb0,rfl,rfl⟩
  exact absurd (by simpa using hc0) hb0
 ·refine au 220661 ?_;intro jx hjx;refine au 937142235170 ?_;constructor<;>intro hc0
  ·exact absurd hc0 dQ
  obtain ⟨hck,hth,hne⟩:=kM hb0;have hb:=yy hck;have hLo:=yM hb;have hLn:=yH hb;refine au 13031690670422120 ?_;refine bA [1,2,3,5,16,17] ?_;refine bC [(jx,_),(jm,_),(jl,_),(jb,_),(0,_),(1,_),(s,_),(e,_),(j01,_),(j02,_)] ?_;refine bE (fun n env K=>∃ (i j1 j2:Nat),n=b.steps.toNat - i/\i<=b.steps.toNat/\env=zK 41 [(1,.ptr jb 0),(2,.row j1 (pickL b 1 i).length),(3,.row j2 (pickL b 0 i).length),(5,.ptr jx 0),(16,intA b.steps),(17,intA i)]/\K=[(jx,.cells (knownC b s e (.sl jl 0 (zb b).length) jm) 219 true),(jm,.raw om),(jl,listO (zb b)),(jb,.cells (zx b s e) 27 true),(0,zr),(1,zz),(s,zo b),(e,zp b),(j1,.row ((pickL b 1 i).map intA) 3 1),(j2,.row ((pickL b 0 i).map intA) 3 1)]) b.steps.toNat ⟨0,j01,j02,rfl,mN _,rfl,rfl⟩ fun n env K hI' hnext=>?_;obtain ⟨i,j1,j2,rfl,hi,rfl,rfl⟩:=hI';refine au 923742 ?_;constructor<;>intro hc1
  ·simp only [decide_eq_true_eq] at hc1;have hst16:=hb.steps;have hp1:=zej b 1 i;have hp2:=zej b 0 i;refine au 169067068042351421302120 ?_;refine bH Z (ue Z Z Z Und.h Und.h InfO.h Z mQ hom) ?_;refine bD Z Z Z Z (zdC hT) ?_;rintro r4 K5 ⟨rfl,rfl⟩;refine au 9357421303 ?_;constructor<;>intro hc2
   ·refine au 114 ?_;refine bI Z Z Z (zD (l:=[_]) Z zT.h TyZ.h dQ dQ Z) (fun _=>zt rfl tQ) fun j7 hj7=>?_;refine bO Z Z Z (a_app Z ApOf.h Z mQ (by simp <;> omega) Z (yG (ln:=[_]) mQ dQ sQ Z) oQ Z (by unfold maxLen; omega) oQ) (fun _=>uQ) (fun _=>zt rfl tQ) fun j3=>?_;refine au 31230414014035 ?_;refine bA [1,2,3,5,16,17] ?_;refine bC [(jx,_),(jm,_),(jl,_),(jb,_),(0,_),(1,_),(s,_),(e,_),(j3,_),(j2,_)] ?_;exact hnext _ _ _ oQ ⟨i+1,j3,j2,rfl,oQ,by rw [zbf hc2,wH (w:=0) (by rw [beq_iff_eq.1 hc2]; rfl),lF]; rfl,by rw [zbf hc2,wH (w:=0) (by rw [beq_iff_eq.1 hc2]; rfl),lM]; rfl⟩
   refine au 935742 ?_;constructor<;>intro hc3
   ·refine au 114 ?_;refine bI Z Z Z (zD (l:=[_]) Z zT.h TyZ.h dQ dQ Z) (fun _=>zt rfl tQ) fun j8 hj8=>?_;refine bO Z Z Z (a_app Z ApOf.h Z mQ (by simp <;> omega) Z (yG (ln:=[_]) mQ dQ sQ Z) oQ Z (by unfold maxLen; omega) oQ) (fun _=>uQ) (fun _=>zt rfl tQ) fun j3=>?_;refine au 31230414014035 ?_;refine bA [1,2,3,5,16,17] ?_;refine bC [(jx,_),(jm,_),(jl,_),(jb,_),(0,_),(1,_),(s,_),(e,_),(j1,_),(j3,_)] ?_;exact hnext _ _ _ oQ ⟨i+1,j1,j3,rfl,oQ,by rw [wH hc2,zbf (w:=0) hc3,lF]; rfl,by rw [wH hc2,zbf (w:=0) hc3,lM]; rfl⟩
   refine au 312304140140120 ?_;refine bA [1,2,3,5,16,17] ?_;refine bC [(jx,_),(jm,_),(jl,_),(jb,_),(0,_),(1,_),(s,_),(e,_),(j1,_),(j2,_)] ?_;exact hnext _ _ _ oQ ⟨i+1,j1,j2,rfl,oQ,by rw [wH hc2,wH (w:=0) hc3] <;> rfl,by rw [wH hc2,wH (w:=0) hc3] <;> rfl⟩
  simp only [decide_eq_false_iff_not] at hc1;obtain rfl:i=b.steps.toNat:=by omega
  refine au 35551142160 ?_;refine bB hret [(0,_),(1,_),(s,_),(e,_),(j1,_),(j2,_)] ?_;exact .inr ⟨hb0,j1,j2,rfl,rfl⟩
theorem CallFK.frame {P:Program} {T:Goroutine->Hp->Prop} {gm:Nat->Option Nat} {yv:AV} {args:List AV} {K Kf R:KV} {x:AV} (hs:Split K Kf R) (h:CallFK P T gm yv args Kf fun r K'=>r=x/\K'=Kf):CallFK P T gm yv args K fun r K'=>r=x/\K'=K:=by
 intro A hv hn;obtain ⟨hv',hn'⟩:=hs.view hv hn;refine (h A hv' hn').mono fun r A' ⟨K',hk,hr,he⟩=>⟨K,?_,hr,rfl⟩;subst he;exact (hk.frame hs hv hn).perm hs.perm.symm
def maxM (a b:Int):Int:=if a<b then b else a
def halvesM (len:Int) (p:Nat->Bool) (f:Nat->Int):Nat->Int×Int
 | 0=>(-1,len)
 | k+1=>if (p k&&decide (maxM (f k) (len - f k)<(halvesM len p f k).2))=true then (k,maxM (f k) (len - f k)) else halvesM len p f k
def glassB (b:Bk) (k:Nat):Bool:=match b.seekers[k]? with | some x=>x.glass | none=>false
theorem zko {α:Type} (f:α->List AV) (c:Nat) (hc:∀ x,(f x).length=c) (xs:List α) (i:Nat) (h:i<xs.length) (d n:Nat) (hd:d+n<=c):((xs.flatMap f).drop (i*c+d)).take n=((f xs[i]).drop d).take n:=by
 have hY:=kE f c hc xs i h;rw [<- List.drop_drop,List.take_drop,show ((xs.flatMap f).drop (i*c)).take (d+n)=(((xs.flatMap f).drop (i*c)).take c).take (d+n) by rw [List.take_take,Nat.min_eq_left hd],hY,<- List.take_drop]
theorem zcT {b:Bk} {k:Nat} (h:k<b.seekers.length):z6 (zo b) (0+(k:Int).toNat*5+4) 1=some [zl (glassB b k)]:=by
 have hle:(k+1)*5<=b.seekers.length*5:=Nat.mul_le_mul_right _ h;have hl:=yx saysC 5 (fun _=>rfl) b.seekers;simp only [z6,AObj.look,zo,mZ,mO];rw [if_pos ⟨by omega,oQ⟩,zko saysC 5 (fun _=>rfl) _ k h 4 1 oQ];unfold glassB;rw [lA h];rfl
def askApi (b:Bk):Int×Int×Int:=if askM b true≠0 then (0,0,askM b true) else ((halvesM (zb b).length (fun k=>zF b k) (fun k=>oftM (zb b) k) b.steps.toNat).1,(halvesM (zb b).length (fun k=>zF b k) (fun k=>oftM (zb b) k) b.steps.toNat).2,0)
def lendApi (b:Bk):Int×Int×Int:=if askM b true≠0 then (0,0,askM b true) else ((halvesM (zb b).length (fun k => !glassB b k) (fun k=>rightsM b (zb b) k) b.seekers.length).1,(halvesM (zb b).length (fun k => !glassB b k) (fun k=>rightsM b (zb b) k) b.seekers.length).2,0)
theorem zd1 {main T} (hT:zk tp main T) {gm} {b:Bk} {s e jl m:Nat} {Ls:List (List Int)} {N:Nat} {av sv:AV} {p:Nat->Bool} {f:Nat->Int} {Kt:KV} (hLn:Ls.length<=65536) (hN:N<=1000) (hp:∀ k,k<N->CallFK tp T gm av [intA k] Kt (fun r K'=>r=zl (p k)/\K'=Kt)) (hf:∀ k,k<N->CallFK tp T gm sv [intA k] Kt (fun r K'=>r=intA (f k)/\K'=Kt)) (hfb:∀ k,k<N->0<=f k/\f k<=1000000) :
  zh tp T gm 126 [.agg (knownC b s e (.sl jl 0 Ls.length) m),intA N,av,sv] Kt (fun r K'=>r=.tup [intA (halvesM Ls.length p f N).1,intA (halvesM Ls.length p f N).2]/\K'=Kt):=by
 refine ze 47 hT Tryz.func126 fun Y hret=>?_;refine au 21042 ?_;intro jx hjx;refine au 2355 ?_;refine bL [0,1,2,3,4] ?_;refine ad [[3,4],[10,12]] ?_;refine TD.z [13] Z (q_len Z Z Z Und.h) ?_;refine TD.as (pend':=[⟨2,[13],[]⟩,⟨1,[12],[(_,_)]⟩,⟨0,[4],[]⟩]) [] Z Z (zV Z Z) ?_;refine ad [[13,14],[14]] ?_;refine au 130311422 ?_;refine bA [2,3,4,8,9,15,16] ?_;refine bE (fun n env K=>∃ (i:Nat),n=N - i/\i<=N/\env=zK 47 [(2,av),(3,sv),(4,.ptr jx 0),(8,intA (halvesM Ls.length p f i).1),(9,intA (halvesM Ls.length p f i).2),(15,intA N),(16,intA i)]/\K=(jx,.cells (knownC b s e (.sl jl 0 Ls.length) m) 219 true)::Kt) N ⟨0,rfl,mN _,rfl,rfl⟩ fun n env K hI' hnext=>?_;obtain ⟨i,rfl,hi,rfl,rfl⟩:=hI';refine au 923742 ?_;refine ⟨fun hc=>?_,fun hc=>?_⟩
 ·simp only [decide_eq_true_eq] at hc;have hil:i<N:=by omega
  have hfi:=hfb i hil;refine au 1142351421302120 ?_;refine TK.callF' Z Z Z Z Z (hf i hil) (.right (.all _)) fun r1 K2 h3=>?_;obtain ⟨rfl,hK⟩:=h3;refine au 0 ?_;rw [hK];refine bN (K':=(jx,.cells (knownC b s e (.sl jl 0 Ls.length) m) 219 true)::Kt) (List.perm_append_singleton _ Kt) ?_;refine au 114235 ?_;refine TK.callF' Z Z Z Z Z (hp i hil) (.right (.all _)) fun r4 K5 h6=>?_;obtain ⟨rfl,hK2⟩:=h6;refine au 0 ?_;rw [hK2];refine bN (K':=(jx,.cells (knownC b s e (.sl jl 0 Ls.length) m) 219 true)::Kt) (List.perm_append_singleton _ Kt) ?_;refine au 1 ?_;refine bF 25 (fun g6_4=>?_) (fun g6_4=>?_)
  ·refine au 24012806906701 ?_;refine bH Z (q_max Z Z Z) ?_;refine au 9326071 ?_;constructor<;>intro hc1
   ·refine bL [0,1,2,3,4,5,6,7,8,9] ?_;refine ad [[1,10],[1,11],[3,4],[10,38]] ?_;refine TD.z [39] Z (q_len Z Z Z Und.h) ?_;refine ad [[1,11],[9,40,41]] ?_;refine TD.z [37,42] Z (q_max Z Z Z) ?_;refine TD.as (pend':=[⟨7,[37,42],[]⟩,⟨6,[40,41],[]⟩,⟨5,[11],[]⟩,⟨4,[39],[]⟩,⟨3,[38],[(_,_)]⟩,⟨2,[4],[]⟩,⟨1,[11],[]⟩]) [36] Z Z (zV Z Z) ?_;refine ad [[13,43],[14]] ?_;refine au 312304140 ?_;refine bA [2,3,4,8,9,15,16] ?_;have hst:halvesM Ls.length p f (i+1)=((i:Int),maxM (f i) (Ls.length - f i)):=if_pos (by rw [g6_4]; exact hc1);exact hnext _ _ _ oQ ⟨i+1,rfl,oQ,by rw [hst]; rfl,rfl⟩
   refine au 312304140120 ?_;refine bA [2,3,4,8,9,15,16] ?_;have hst:halvesM Ls.length p f (i+1)=halvesM Ls.length p f i:=if_neg (by rw [g6_4]; exact fun h=>absurd (hc1.symm.trans h) dQ);exact hnext _ _ _ oQ ⟨i+1,rfl,oQ,by rw [hst] <;> rfl,rfl⟩
  refine au 3123041401201903250888888888 ?_;refine bA [2,3,4,8,9,15,16] ?_;have hst:halvesM Ls.length p f (i+1)=halvesM Ls.length p f i:=if_neg (by rw [g6_4]; simp);exact hnext _ _ _ oQ ⟨i+1,rfl,oQ,by rw [hst] <;> rfl,rfl⟩
 simp only [decide_eq_false_iff_not] at hc;obtain rfl:i=N:=by omega
 refine au 3551142160 ?_;refine bB hret (Kt) ?_ (hs:=(.right (.all _)));exact ⟨rfl,rfl⟩
theorem zlq {main T} (hT:zk tp main T) {gm} {b:Bk} {s e jl m:Nat} {Ls:List (List Int)} {jx:Nat} {om:Obj} {f:Int->Int} {n:Int} (hom:MapOk om f) :
  zh tp T gm 127 [intA n,.ptr jx 0] [(jx,.cells (knownC b s e (.sl jl 0 Ls.length) m) 219 true),(m,.raw om)] (fun r K'=>r=intA (f n)/\K'=[(jx,.cells (knownC b s e (.sl jl 0 Ls.length) m) 219 true),(m,.raw om)]):=by
 refine ze 8 hT Tryz.func127 fun Y hret=>?_;refine au 1690670423542 ?_;refine bH Z (ue Z Z Z Und.h Und.h InfO.h Z mQ hom) ?_;refine au 35 ?_;refine bB hret [(jx,_),(m,_)] ?_;exact ⟨rfl,rfl⟩
theorem zkE {main T} (hT:zk tp main T) {gm} {b:Bk} {s e jb:Nat} {k:Nat} (hk:k<b.seekers.length) :
  zh tp T gm 128 [intA k,.ptr jb 0] [(jb,.cells (zx b s e) 27 true),(s,zo b)] (fun r K'=>r=zl (!glassB b k)/\K'=[(jb,.cells (zx b s e) 27 true),(s,zo b)]):=by
 refine ze 11 hT Tryz.func128 fun Y hret=>?_;refine au 6703601690670423542 ?_;refine bH Z (zm Z Z zd.h mQ (zcT hk)) ?_;refine au 35300 ?_;refine bB hret [(jb,_),(s,_)] ?_;exact ⟨rfl,rfl⟩
theorem zig {main:Bool} {T:Goroutine->Hp->Prop} (hT:zk tp main T)  {b:Bk} {s e:Nat} (hse:s≠e) (hn:∀ x∈b.seekers,x.name.size<=1000) (hl:b.seen.length<=1000) :
  zh tp T gmS 46 [.agg (zx b s e)] [(0,zr),(1,zz),(s,zo b),(e,zp b)] (fun r K'=>r=.tup [intA (askApi b).1,intA (askApi b).2.1,intA (askApi b).2.2]/\K'=[(0,zr),(1,zz),(s,zo b),(e,zp b)]):=by
 refine ze 27 hT Tryz.func46 fun Y hret=>?_;refine au 21042 ?_;intro j1 hj1;refine au 680423555 ?_;refine bD Z Z Z Z (vq hT (b:=b) (s:=s) (e:=e) (t:=true) hse hn hl Z (fun hb=>yC Cal.h (wz hT))) ?_;rintro r2 K3 h4;rcases h4 with ⟨hb0,rfl,rfl⟩ | ⟨jl,jm,om,hb0,hom,rfl,rfl⟩
 ·refine au 220661 ?_;intro jx hjx;refine au 937142235170 ?_;constructor<;>intro hc0
  ·
   refine au 3555142 ?_;refine bB hret [(0,_),(1,_),(s,_),(e,_)] ?_;exact ⟨by unfold askApi; rw [if_pos hb0]; rfl,rfl⟩
  exact absurd (by simpa using hc0) hb0
 ·refine au 220661 ?_;intro jx hjx;refine au 937142235170 ?_;constructor<;>intro hc0
  ·exact absurd hc0 dQ
  obtain ⟨hck,hth,hne⟩:=kM hb0;have hb:=yy hck;have hLo:=yM hb;have hLn:=yH hb;refine au 32032068067069067068042120 ?_;rw [show b.steps=((b.steps.toNat:Nat):Int) by have:=hb.steps; omega];refine bD Z Z Z Z (zd1 hT (b:=b) (s:=s) (e:=e) (N:=b.steps.toNat) (p:=fun k=>zF b k) (f:=fun k=>oftM (zb b) k) (Kt:=[(jx,.cells (knownC b s e (.sl jl 0 (zb b).length) jm) 219 true),(jm,.raw om)]) hLn (by have:=hb.steps; omega) (fun k _=>CallFK.frame (.none _) (yC Cal.h (kH hT (by have:=hb.steps; omega)))) (fun k _=>yC Cal.h (zlq hT hom)) (fun k _=>by have:=zmT hb k; omega)) ?_;rintro r5 K6 ⟨rfl,rfl⟩;refine au 35551142355661 ?_;refine bB hret [(0,_),(1,_),(s,_),(e,_)] ?_;exact ⟨by unfold askApi; rw [if_neg (show ¬ (askM b true≠0) by rw [hb0]; decide)]; rfl,rfl⟩
theorem zhH {main:Bool} {T:Goroutine->Hp->Prop} (hT:zk tp main T)  {b:Bk} {s e:Nat} (hse:s≠e) (hn:∀ x∈b.seekers,x.name.size<=1000) (hl:b.seen.length<=1000) :
  zh tp T gmS 47 [.agg (zx b s e)] [(0,zr),(1,zz),(s,zo b),(e,zp b)] (fun r K'=>r=.tup [intA (lendApi b).1,intA (lendApi b).2.1,intA (lendApi b).2.2]/\K'=[(0,zr),(1,zz),(s,zo b),(e,zp b)]):=by
 refine ze 27 hT Tryz.func47 fun Y hret=>?_;refine au 21042 ?_;intro jb hjb;refine au 680423555 ?_;refine bD Z Z Z Z (vq hT (b:=b) (s:=s) (e:=e) (t:=true) hse hn hl Z (fun hb=>yC Cal.h (wz hT))) ?_;rintro r1 K2 h3;rcases h3 with ⟨hb0,rfl,rfl⟩ | ⟨jl,jm,om,hb0,hom,rfl,rfl⟩
 ·refine au 220661 ?_;intro jx hjx;refine au 937142235170 ?_;constructor<;>intro hc0
  ·
   refine au 3555142 ?_;refine bB hret [(0,_),(1,_),(s,_),(e,_)] ?_;exact ⟨by unfold lendApi; rw [if_pos hb0]; rfl,rfl⟩
  exact absurd (by simpa using hc0) hb0
 ·refine au 220661 ?_;intro jx hjx;refine au 937142235170 ?_;constructor<;>intro hc0
  ·exact absurd hc0 dQ
  obtain ⟨hck,hth,hne⟩:=kM hb0;have hb:=yy hck;have hLo:=yM hb;have hLn:=yH hb;refine au 32068032028069067068042120 ?_;refine bD Z Z Z Z (zd1 hT (b:=b) (s:=s) (e:=e) (N:=b.seekers.length) (p:=fun k => !glassB b k) (f:=fun k=>rightsM b (zb b) k) (Kt:=[(jb,.cells (zx b s e) 27 true),(1,zz),(s,zo b),(jl,listO (zb b))]) hLn (by have:=hb.ns; omega) (fun k hk=>CallFK.frame (by repeat (first | exact Split.none _ | exact Split.all _ | (apply Split.rem; repeat (first | exact Rem.head | apply Rem.tail)) | apply Split.right)) (yC Cal.h (zkE hT hk))) (fun k hk=>CallFK.frame (by repeat (first | exact Split.none _ | exact Split.all _ | (apply Split.rem; repeat (first | exact Rem.head | apply Rem.tail)) | apply Split.right)) (yC Cal.h (zem hT hb hLo hLn hk))) (fun k _=>by have:=zaj b (zb b) k; omega)) ?_;rintro r4 K5 ⟨rfl,rfl⟩;refine au 35551142355661 ?_;refine bB hret [(0,_),(1,_),(s,_),(e,_)] ?_;exact ⟨by unfold lendApi; rw [if_neg (show ¬ (askM b true≠0) by rw [hb0]; decide)]; rfl,rfl⟩
section
variable {P:Program} {gm:Nat->Option Nat} {T:Goroutine->Hp->Prop} {Y:KX P gm T} {ds:List Nat} {k:List Item} {env env':List AV} {K K' K1:KV} {ops:Array Oper} {i:Nat} {rest:List Nat} {o:Oper} {envf:Nat->List AV}
theorem Upd.same' {K K':KV} {i j:Nat} {o o':AObj} (h:Upd K i o j o' K'):i=j->o'=o->K'=K:=by
 induction h with
 | head=>intro hj e; rw [e,hj]
 | tail _ ih=>intro hj e; rw [ih hj e]
theorem Upd.same {K K':KV} {i:Nat} {o o':AObj} (h:Upd K i o i o' K') (e:o'=o):K'=K:=h.same' rfl e
theorem TK.appG {s x:Operand} {t e:TypeId} {size bytes j n m:Nat} {lo ln:List AV} {u:AV} {K'':Nat->KV} (ho:ops[i]? =some o) (hw:yd ops env o=some true) (hop:o.op=.call { callee:=.builtin .append,args:=#[s,x],argTypes:=#[t,t] }) (ht:apOf P t=some (e,size,bytes)) (hs:zw gm env s=some (.row j n)) (hm:(j,.row lo e size)∈K) (hlo:lo.length=n*size) (hx:zw gm env x=some u) (hl:lenA u=some m) (hsrc:0<m->srcO K size u m ln) (hln:m=0->ln=[])
  (hone:ln.all oneA=true) (hmax:n+m<=maxLen) (hbytes:(n+m)*bytes<=140737488355328) (hu:∀ j',Upd K j (.row lo e size) j' (.row (lo++ln) e size) (K'' j')) (he:∀ j',putA env o.dst (.row j' (n+m))=envf j') (h:∀ j',TK Y ds (.inRegion ops rest::k) (envf j') (K'' j')):TK Y ds (.inRegion ops (i::rest)::k) env K:=by
 rcases mP m with e0 | hpos
 ·subst e0;have hk:K'' j=K:=(hu j).same (by rw [hln rfl,lR]);have ht':=ht;unfold apOf at ht';split at ht'
  ·rename_i e' h1;split at ht'
   ·rename_i ti h2;refine TK.q (r:=.row j n) ho (by rw [hop]; rfl) hw (zmZ hop h1 h2 hs hx hl) (he j) ?_;rw [<- hk]; exact h j
   ·cases ht'
  ·cases ht'
 ·exact bO ho (by rw [hop]; rfl) hw (a_app hop ht hs hm hlo hx (hsrc hpos) hpos hone hmax hbytes) hu he h
theorem TK.normK (he:K=K') (h:TK Y ds k env K'):TK Y ds k env K:=he ▸ h
theorem TK.nd (h:(keys K).Nodup->TK Y ds k env K):TK Y ds k env K:=fun A hA=>h hA.nd A hA
theorem TK.freezeBk (d:Nat) {a b c f:Value} {j1 n1 j2 n2:Nat} {l1 l2:List AV} {e1 s1 e2 s2:Nat} (hd:env[d]? =some (.agg [.v a,.v b,.v c,.v f,.row j1 n1,.row j2 n2])) (hu1:Upd K j1 (.row l1 e1 s1) j1 (.cells l1 e1 false) K1) (hu2:Upd K1 j2 (.row l2 e2 s2) j2 (.cells l2 e2 false) K') (he:env.set d (.agg [.v a,.v b,.v c,.v f,.sl j1 0 n1,.sl j2 0 n2])=env') (h:TK Y ds k env' K'):TK Y ds k env K:=by
 have hlt:d<env.length:=(lD.1 hd).1;refine TK.freeze d hd hu1 Z ?_;refine TK.freeze d (List.getElem?_set_self hlt) hu2 (env':=env') ?_ h;rw [<- he,List.set_set];congr 1;by_cases h:j2=j1
 ·subst h; simp [unrow1,unrow]
 ·simp [unrow1,unrow,h]
end
theorem wc {l:List AV} {e:TypeId} {rw':Bool} {n size:Nat} (hl:l.length=n*size) (h:0<n*size):z6 (.cells l e rw') 0 (n*size)=some l:=by
 simp only [z6,AObj.look,mO,List.drop_zero];rw [if_pos ⟨h,oQ⟩,<- hl,lW]
theorem ze9 {α:Type} (f:α->List AV) (h:∀ x,(f x).all oneA=true) (xs:List α):(xs.flatMap f).all oneA=true:=by
 induction xs with
 | nil=>rfl
 | cons x xs ih=>rw [List.flatMap_cons,List.all_append,h,ih]; rfl
def ownC (b:Bk) (j1 j2:Nat):List AV:=[intA b.steps,intA b.wrong,intA b.low,intA b.high,.row j1 b.seekers.length,.row j2 b.seen.length]
def hearB (b:Bk) (x:Says):Bk:={ b with seekers:=b.seekers++[x] }
def lookB (b:Bk) (x:Seen):Bk:={ b with seen:=b.seen++[x] }
def giveB (b:Bk) (k:Nat):Bk:={ b with seekers:=b.seekers.modify k fun x=>{ x with glass:=true } }
theorem zep:∀ (xs:List Says) (k:Nat),k<xs.length->(xs.flatMap saysC).set (k*5+4) (zl true)=(xs.modify k fun x=>{ x with glass:=true }).flatMap saysC
 | x::xs,0,_=>rfl
 | x::xs,k+1,h=>by
  rw [List.modify_succ_cons,List.flatMap_cons,List.flatMap_cons,<- zep xs k (by simpa using h),show (k+1)*5+4=(k*5+4)+5 by omega];rfl
theorem zjg {b:Bk} {k:Nat} (hk:k<b.seekers.length):putO (.row (b.seekers.flatMap saysC) 114 5) ((k:Int).toNat*5+4) [zl true]=some (.row ((giveB b k).seekers.flatMap saysC) 114 5):=by
 have hl:=yx saysC 5 (fun _=>rfl) b.seekers;have hle:(k+1)*5<=b.seekers.length*5:=Nat.mul_le_mul_right _ hk;unfold putO;dsimp only;rw [if_pos ⟨by rw [hl]; simp; omega,by simp,rfl⟩];show some (AObj.row ((b.seekers.flatMap saysC).set ((k:Int).toNat*5+4) (zl true)) _ _)=_;rw [mZ,zep _ _ hk]; rfl
def newsM (b o:Bk):Int:=if checkM b≠0 then checkM b else askM o true
def giveM (b:Bk) (k:Int):Int:=if checkM b≠0 then checkM b else if isSeekerM b k=false then 6 else if glassB b k.toNat=true then 5 else askM (giveB b k.toNat) true
theorem zff (b:Bk) (x:Says):(hearB b x).seekers.flatMap saysC=b.seekers.flatMap saysC++saysC x:=by simp [hearB]
theorem ziS (b:Bk) (x:Seen):(lookB b x).seen.flatMap seenC=b.seen.flatMap seenC++seenC x:=by simp [lookB]
theorem zkv (b:Bk) (x:Says):b.seekers.length+1=(hearB b x).seekers.length:=by simp [hearB]
theorem zkI (b:Bk) (x:Seen):b.seen.length+1=(lookB b x).seen.length:=by simp [lookB]
theorem zkq (b:Bk) (k:Nat):b.seekers.length=(giveB b k).seekers.length:=by simp [giveB]
theorem zht {b:Bk} {k:Nat} (hn:∀ x∈b.seekers,x.name.size<=1000):∀ x∈(giveB b k).seekers,x.name.size<=1000:=fun x hx=>by
 obtain ⟨i,hi⟩:=List.mem_iff_getElem?.1 hx;unfold giveB at hi;simp only [List.getElem?_modify] at hi;cases e:b.seekers[i]? with
 | none=>rw [e] at hi; cases hi
 | some y =>
  rw [e] at hi;have hy:=hn y (lN e);simp only [Option.map_eq_map,Option.map_some,Option.some.injEq] at hi;subst hi;split <;> exact hy
theorem zhB {b:Bk} {x:Says} (hn:∀ x∈b.seekers,x.name.size<=1000) (hx:x.name.size<=1000):∀ y∈(hearB b x).seekers,y.name.size<=1000:=fun y hy=>by
 rcases lT.1 hy with h | h
 ·exact hn y h
 ·rw [lS.1 h]; exact hx
theorem zay {main:Bool} {T:Goroutine->Hp->Prop} (hT:zk tp main T)  {b:Bk} {s e:Nat} (hse:s≠e) (hn:∀ x∈b.seekers,x.name.size<=1000) (hl:b.seen.length<=1000) :
  zh tp T gmS 130 [.agg (zx b s e)] [(0,zr),(1,zz),(s,zo b),(e,zp b)] (fun r K'=>((askM b true≠0/\r=.tup [.agg zeroBk,intA (askM b true)])\/(askM b true=0/\r=.tup [.agg (zx b s e),intA 0]))/\K'=[(0,zr),(1,zz),(s,zo b),(e,zp b)]):=by
 refine ze 16 hT Tryz.func130 fun Y hret=>?_;refine au 21042 ?_;intro j1 hj1;refine au 220 ?_;intro j2 hj2;refine au 68042235 ?_;refine bD Z Z Z Z (vq hT (b:=b) (s:=s) (e:=e) (t:=true) hse hn hl Z (fun hb=>yC Cal.h (wz hT))) ?_;rintro r3 K4 h5;rcases h5 with ⟨hb0,rfl,rfl⟩ | ⟨jl,jm,om,hb0,hom,rfl,rfl⟩
 ·refine au 220661 ?_;intro j6 hj6;refine au 93714235170 ?_;constructor<;>intro hc0
  ·
   refine au 35170143042 ?_;refine bB hret [(0,_),(1,_),(s,_),(e,_)] ?_;exact ⟨.inl ⟨hb0,rfl⟩,rfl⟩
  exact absurd (by simpa using hc0) hb0
 ·refine au 220661 ?_;intro j7 hj7;refine au 93714235170 ?_;constructor<;>intro hc0
  ·exact absurd hc0 dQ
  obtain ⟨hck,hth,hne⟩:=kM hb0;have hb:=yy hck;have hLo:=yM hb;have hLn:=yH hb;refine au 3517068042120 ?_;refine bB hret [(0,_),(1,_),(s,_),(e,_)] ?_;exact ⟨.inr ⟨hb0,rfl⟩,rfl⟩
theorem zeX {main T} (hT:zk tp main T) {gm} {j n:Nat} {l:List AV} {rw':Bool} (hl:l.length=n*5) (hone:l.all oneA=true) (hn:n<=100000) :
  zh tp T gm 180 [.sl j 0 n] [(j,.cells l 114 rw')] (fun r K'=>∃ j2,r=.row j2 n/\K'=[(j,.cells l 114 rw'),(j2,.row l 114 5)]):=by
 refine ze 8 hT Tryz.func180 fun Y hret=>?_;refine au 14223542 ?_;refine TK.nilT Z Z Z Z Und.h fun tz hz=>?_;refine au 93 ?_;constructor<;>intro hc0
 ·refine au 542 ?_;refine TK.virt 2 114 5 Z fun j0 hj0=>?_;refine au 3 ?_;refine bB hret [(j,_),(j0,_)] ?_;obtain rfl:=hz hc0;obtain rfl:=lK (by simpa using hl);exact ⟨_,rfl,rfl⟩
 refine au 42120 ?_;refine bI Z Z Z (zD (l:=[]) Z zT.h TyZ.h dQ dQ Z) (fun _=>zt rfl tQ) fun j1 hj1=>?_;refine au 1 ?_;refine TK.appG (envf:=fun _=>[_,_,_,_,_,_,_,_]) (ln:=l) rfl rfl rfl ApOf.h rfl mQ rfl rfl rfl (fun hp=>ui mQ oQ (wc hl oQ)) (fun h=>by subst h; exact lK (by simpa using hl)) hone (by unfold maxLen; omega) oQ (fun _=>uQ) (fun _=>rfl) fun j2=>?_;simp only [lC,mO];refine au 35 ?_;refine bB hret [(j,_),(j2,_)] ?_;exact ⟨_,rfl,rfl⟩
theorem zeY {main T} (hT:zk tp main T) {gm} {j n:Nat} {l:List AV} {rw':Bool} (hl:l.length=n*2) (hone:l.all oneA=true) (hn:n<=100000) :
  zh tp T gm 181 [.sl j 0 n] [(j,.cells l 200 rw')] (fun r K'=>∃ j2,r=.row j2 n/\K'=[(j,.cells l 200 rw'),(j2,.row l 200 2)]):=by
 refine ze 8 hT Tryz.func181 fun Y hret=>?_;refine au 14223542 ?_;refine TK.nilT Z Z Z Z Und.h fun tz hz=>?_;refine au 93 ?_;constructor<;>intro hc0
 ·refine au 542 ?_;refine TK.virt 2 200 2 Z fun j0 hj0=>?_;refine au 3 ?_;refine bB hret [(j,_),(j0,_)] ?_;obtain rfl:=hz hc0;obtain rfl:=lK (by simpa using hl);exact ⟨_,rfl,rfl⟩
 refine au 42120 ?_;refine bI Z Z Z (zD (l:=[]) Z zT.h TyZ.h dQ dQ Z) (fun _=>zt rfl tQ) fun j1 hj1=>?_;refine au 1 ?_;refine TK.appG (envf:=fun _=>[_,_,_,_,_,_,_,_]) (ln:=l) rfl rfl rfl ApOf.h rfl mQ rfl rfl rfl (fun hp=>ui mQ oQ (wc hl oQ)) (fun h=>by subst h; exact lK (by simpa using hl)) hone (by unfold maxLen; omega) oQ (fun _=>uQ) (fun _=>rfl) fun j2=>?_;simp only [lC,mO];refine au 35 ?_;refine bB hret [(j,_),(j2,_)] ?_;exact ⟨_,rfl,rfl⟩
theorem zfF {main T} (hT:zk tp main T) {gm} {b:Bk} {s e:Nat} (hs5:b.seekers.length<=1000) (he5:b.seen.length<=1000) :
  zh tp T gm 129 [.agg (zx b s e)] [(s,zo b),(e,zp b)] (fun r K'=>∃ j1 j2,r=.agg (ownC b j1 j2)/\K'=[(s,zo b),(e,zp b),(j1,.row (b.seekers.flatMap saysC) 114 5),(j2,.row (b.seen.flatMap seenC) 200 2)]):=by
 refine ze 12 hT Tryz.func129 fun Y hret=>?_;refine au 21042 ?_;intro jb hjb;refine au 220 ?_;intro jr hjr;refine au 23 ?_;refine TK.dr [0,1,3,4,2,6,5,7,8,9] [0,1,2,3,4,5,6,7,8,9] ?_;refine ad [[3,1],[10,3],[3,1],[10,6]] ?_;refine bQ (pend':=[⟨4,[6],[(_,_)]⟩,⟨3,[1],[]⟩,⟨0,[1],[]⟩]) [4] Z Z Z Z Z (zeX hT (yx saysC 5 (fun _=>rfl) b.seekers) (ze9 saysC (fun _=>rfl) _) oQ) (fun r1 K2 h3=>⟨?_,?_⟩)
 ·rcases h3 with ⟨j1,rfl,rfl⟩
  all_goals simp
 obtain ⟨j1,rfl,rfl⟩:=h3;try simp only [cA]
 refine bS tQ ?_;refine ad [[3,1]] ?_;refine bQ (pend':=[⟨6,[1],[]⟩,⟨3,[1],[]⟩,⟨0,[1],[]⟩]) [7] Z Z Z Z Z (zeY hT (yx seenC 2 (fun _=>rfl) b.seen) (ze9 seenC (fun _=>rfl) _) oQ) (fun r4 K5 h6=>⟨?_,?_⟩)
 ·rcases h6 with ⟨j2,rfl,rfl⟩
  all_goals simp
 obtain ⟨j2,rfl,rfl⟩:=h6;try simp only [cA]
 refine bS tQ ?_;refine TD.s (pend':=[]) [5,9] Z Z (zy Z Z zd.h Z Z mQ Z) ?_;refine ad [[3,1]] ?_;refine TD.s (pend':=[]) [8,10] Z Z (zy Z Z zd.h Z Z mQ Z) ?_;refine ad [[14]] ?_;refine au 317068042 ?_;refine bB hret [(s,_),(e,_),(j1,_),(j2,_)] ?_;exact ⟨j1,j2,rfl,rfl⟩
theorem zlH {main:Bool} {T:Goroutine->Hp->Prop} (hT:zk tp main T)  {b:Bk} {s e:Nat} {x:Says} (hse:s≠e) (hn:∀ x∈b.seekers,x.name.size<=1000) (hl:b.seen.length<=1000) (hx:x.name.size<=1000) :
  zh tp T gmS 50 [.agg (zx b s e),.agg (saysC x)] [(0,zr),(1,zz),(s,zo b),(e,zp b)] (fun r K'=>(newsM b (hearB b x)≠0/\r=.tup [.agg zeroBk,intA (newsM b (hearB b x))]/\K'=[(0,zr),(1,zz),(s,zo b),(e,zp b)])\/(newsM b (hearB b x)=0/\∃ j3 j2,r=.tup [.agg (zx (hearB b x) j3 j2),intA 0]/\K'=[(0,zr),(1,zz),(s,zo b),(e,zp b),(j3,zo (hearB b x)),(j2,zp (hearB b x))])):=by
 refine ze 26 hT Tryz.func50 fun Y hret=>?_;refine au 21042 ?_;intro j1 hj1;refine au 210 ?_;intro j2 hj2;refine au 220 ?_;intro jr hjr;refine au 68042235 ?_;refine bD Z Z Z Z (kN hT (b:=b) (s:=s) (e:=e) hn hl) ?_;rintro r3 K4 ⟨rfl,rfl⟩;refine au 93714235 ?_;constructor<;>intro hc0
 ·refine au 35170143042 ?_;refine bB hret [(0,_),(1,_),(s,_),(e,_)] ?_;have ha:newsM b (hearB b x)=checkM b:=if_pos (by simpa using hc0);exact .inl ⟨by rw [ha]; simpa using hc0,by rw [ha]; rfl,rfl⟩
 have hb:=yy (b:=b) (by simpa using hc0);refine au 68042120 ?_;refine bD Z Z Z Z (zfF hT (by have:=hb.ns; omega) (by have:=hb.ne; omega)) ?_;rintro r6 K7 ⟨j1,j2,rfl,rfl⟩;refine au 220 ?_;intro jo hjo;refine au 680690670423170 ?_;refine bI Z Z Z (zD (l:=[_,_,_,_,_]) Z zT.h TyZ.h dQ dQ Z) (fun _=>zt rfl tQ) fun j9 hj9=>?_;refine bO Z Z Z (a_app Z ApOf.h Z mQ (yx saysC 5 (fun _=>rfl) _) rfl (yG (ln:=[_,_,_,_,_]) mQ dQ sQ rfl) oQ rfl (by have:=hb.ns; unfold maxLen; omega) (by have:=hb.ns; omega)) (fun _=>uQ) (fun _=>zt rfl tQ) fun j3=>?_;refine au 680423170670 ?_;refine TK.freezeBk 22 Z uQ uQ Z ?_;refine bC [(j3,_),(j2,_),(0,_),(1,_),(s,_),(e,_),(jr,_)] ?_;refine TK.normK (K':=[(j3,zo (hearB b x)),(j2,zp (hearB b x)),(0,_),(1,_),(s,_),(e,_),(jr,_)]) (by unfold zo; rw [zff]; rfl) ?_;rw [zkv b x];refine au 0 ?_;refine TK.nd fun hnd=>?_;have hjj:j3≠j2:=fun h=>by subst h; simp [keys] at hnd
 refine bD Z Z Z Z (zay hT (b:=hearB b x) (s:=j3) (e:=j2) hjj (zhB hn hx) (hl)) ?_;rintro r10 K11 h12;rcases h12 with ⟨⟨hb0,rfl⟩ | ⟨hb0,rfl⟩,rfl⟩
 ·refine au 3517066 ?_;refine bB hret [(0,_),(1,_),(s,_),(e,_)] ?_;have ha:newsM b (hearB b x)=askM (hearB b x) true:=if_neg (by simpa using hc0);exact .inl ⟨by rw [ha]; exact hb0,by rw [ha]; rfl,rfl⟩
 ·refine au 3517066 ?_;refine bB hret [(0,_),(1,_),(s,_),(e,_),(j3,_),(j2,_)] ?_;have ha:newsM b (hearB b x)=askM (hearB b x) true:=if_neg (by simpa using hc0);exact .inr ⟨by rw [ha]; exact hb0,j3,j2,rfl,rfl⟩
theorem zlR {main:Bool} {T:Goroutine->Hp->Prop} (hT:zk tp main T)  {b:Bk} {s e:Nat} {n:Int} {sm:Bool} (hse:s≠e) (hn:∀ x∈b.seekers,x.name.size<=1000) (hl:b.seen.length<=1000) :
  zh tp T gmS 49 [.agg (zx b s e),intA n,zl sm] [(0,zr),(1,zz),(s,zo b),(e,zp b)] (fun r K'=>(newsM b (lookB b ⟨n,sm⟩)≠0/\r=.tup [.agg zeroBk,intA (newsM b (lookB b ⟨n,sm⟩))]/\K'=[(0,zr),(1,zz),(s,zo b),(e,zp b)])\/(newsM b (lookB b ⟨n,sm⟩)=0/\∃ j3 j2,r=.tup [.agg (zx (lookB b ⟨n,sm⟩) j3 j2),intA 0]/\K'=[(0,zr),(1,zz),(s,zo b),(e,zp b),(j3,zo (lookB b ⟨n,sm⟩)),(j2,zp (lookB b ⟨n,sm⟩))])):=by
 refine ze 30 hT Tryz.func49 fun Y hret=>?_;refine au 21042 ?_;intro j1 hj1;refine au 220 ?_;intro jr hjr;refine au 68042235 ?_;refine bD Z Z Z Z (kN hT (b:=b) (s:=s) (e:=e) hn hl) ?_;rintro r2 K3 ⟨rfl,rfl⟩;refine au 93714235 ?_;constructor<;>intro hc0
 ·refine au 35170143042 ?_;refine bB hret [(0,_),(1,_),(s,_),(e,_)] ?_;have ha:newsM b (lookB b ⟨n,sm⟩)=checkM b:=if_pos (by simpa using hc0);exact .inl ⟨by rw [ha]; simpa using hc0,by rw [ha]; rfl,rfl⟩
 have hb:=yy (b:=b) (by simpa using hc0);refine au 68042120 ?_;refine bD Z Z Z Z (zfF hT (by have:=hb.ns; omega) (by have:=hb.ne; omega)) ?_;rintro r5 K6 ⟨j1,j2,rfl,rfl⟩;refine au 220 ?_;intro jo hjo;refine au 39011690670423170 ?_;refine bI Z Z Z (zD (l:=[_,_]) Z zT.h TyZ.h dQ dQ Z) (fun _=>zt rfl tQ) fun j8 hj8=>?_;refine bO Z Z Z (a_app Z ApOf.h Z mQ (yx seenC 2 (fun _=>rfl) _) rfl (yG (ln:=[_,_]) mQ dQ sQ rfl) oQ rfl (by have:=hb.ne; unfold maxLen; omega) (by have:=hb.ne; omega)) (fun _=>uQ) (fun _=>zt rfl tQ) fun j3=>?_;refine au 680423170670 ?_;refine TK.freezeBk 26 Z uQ uQ Z ?_;refine bC [(j1,_),(j3,_),(0,_),(1,_),(s,_),(e,_),(jr,_)] ?_;refine TK.normK (K':=[(j1,zo (lookB b ⟨n,sm⟩)),(j3,zp (lookB b ⟨n,sm⟩)),(0,_),(1,_),(s,_),(e,_),(jr,_)]) (by unfold zp; rw [ziS]; rfl) ?_;rw [zkI b ⟨n,sm⟩];refine au 0 ?_;refine TK.nd fun hnd=>?_;have hjj:j1≠j3:=fun h=>by subst h; simp [keys] at hnd
 refine bD Z Z Z Z (zay hT (b:=lookB b ⟨n,sm⟩) (s:=j1) (e:=j3) hjj (hn) (by have:=hb.ne; simp [lookB]; omega)) ?_;rintro r9 K10 h11;rcases h11 with ⟨⟨hb0,rfl⟩ | ⟨hb0,rfl⟩,rfl⟩
 ·refine au 3517066 ?_;refine bB hret [(0,_),(1,_),(s,_),(e,_)] ?_;have ha:newsM b (lookB b ⟨n,sm⟩)=askM (lookB b ⟨n,sm⟩) true:=if_neg (by simpa using hc0);exact .inl ⟨by rw [ha]; exact hb0,by rw [ha]; rfl,rfl⟩
 ·refine au 3517066 ?_;refine bB hret [(0,_),(1,_),(s,_),(e,_),(j1,_),(j3,_)] ?_;have ha:newsM b (lookB b ⟨n,sm⟩)=askM (lookB b ⟨n,sm⟩) true:=if_neg (by simpa using hc0);exact .inr ⟨by rw [ha]; exact hb0,j1,j3,rfl,rfl⟩
theorem zlG {main:Bool} {T:Goroutine->Hp->Prop} (hT:zk tp main T)  {b:Bk} {s e:Nat} {n:Int} (hse:s≠e) (hn:∀ x∈b.seekers,x.name.size<=1000) (hl:b.seen.length<=1000) :
  zh tp T gmS 48 [.agg (zx b s e),intA n] [(0,zr),(1,zz),(s,zo b),(e,zp b)] (fun r K'=>(giveM b n≠0/\r=.tup [.agg zeroBk,intA (giveM b n)]/\K'=[(0,zr),(1,zz),(s,zo b),(e,zp b)])\/(giveM b n=0/\∃ j3 j2,r=.tup [.agg (zx (giveB b n.toNat) j3 j2),intA 0]/\K'=[(0,zr),(1,zz),(s,zo b),(e,zp b),(j3,zo (giveB b n.toNat)),(j2,zp (giveB b n.toNat))])):=by
 refine ze 40 hT Tryz.func48 fun Y hret=>?_;refine au 21042 ?_;intro jb hjb;refine au 220 ?_;intro jr hjr;refine au 68042235 ?_;refine bD Z Z Z Z (kN hT (b:=b) (s:=s) (e:=e) hn hl) ?_;rintro r1 K2 ⟨rfl,rfl⟩;refine au 93714235 ?_;constructor<;>intro hc0
 ·refine au 35170143042 ?_;refine bB hret [(0,_),(1,_),(s,_),(e,_)] ?_;have ha:giveM b n=checkM b:=if_pos (by simpa using hc0);exact .inl ⟨by rw [ha]; simpa using hc0,by rw [ha]; rfl,rfl⟩
 have hb:=yy (b:=b) (by simpa using hc0);refine au 1430680421302120 ?_;refine bD Z Z Z Z (uy hT (b:=b) (s:=s) (e:=e) (by have:=hb.ns; omega)) ?_;rintro r4 K5 ⟨rfl,rfl⟩;refine au 935300 ?_;constructor<;>intro hc1
 ·refine au 3517043042 ?_;refine bB hret [(0,_),(1,_),(s,_),(e,_)] ?_;have ha:giveM b n=6:=by unfold giveM; rw [if_neg (by simpa using hc0),if_pos (by simpa using hc1)]
  exact .inl ⟨by rw [ha]; decide,by rw [ha]; rfl,rfl⟩
 have hk0:isSeekerM b n=true:=by simpa using hc1
 obtain ⟨k,rfl⟩:∃ k:Nat,n=k:=⟨n.toNat,by simp only [isSeekerM,mX,decide_eq_true_eq] at hk0; omega⟩;have hk:k<b.seekers.length:=by simp only [isSeekerM,mX,decide_eq_true_eq] at hk0; omega
 refine au 670360169067042 ?_;refine bH Z (zm Z Z zd.h mQ (zcT hk)) ?_;refine au 935 ?_;constructor<;>intro hc2
 ·refine au 3517043042 ?_;refine bB hret [(0,_),(1,_),(s,_),(e,_)] ?_;have ha:giveM b (k:Int)=5:=by unfold giveM; rw [if_neg (by simpa using hc0),hk0,if_neg dQ,mZ,hc2,if_pos rfl]
  exact .inl ⟨by rw [ha]; decide,by rw [ha]; rfl,rfl⟩
 refine au 68042140120 ?_;refine bD Z Z Z Z (zfF hT (by have:=hb.ns; omega) (by have:=hb.ne; omega)) ?_;rintro r7 K8 ⟨j1,j2,rfl,rfl⟩;refine au 220 ?_;intro jo hjo;refine au 6703701690670423170 ?_;refine TK.st Z Z Z (zy Z Z zd.h Z Z mQ (zjg hk)) uQ (putN Z) ?_;refine au 680423 ?_;refine TK.freezeBk 36 Z uQ uQ Z ?_;refine bC [(j1,_),(j2,_),(0,_),(1,_),(s,_),(e,_),(jr,_)] ?_;refine TK.normK (K':=[(j1,zo (giveB b k)),(j2,zp (giveB b k)),(0,_),(1,_),(s,_),(e,_),(jr,_)]) (by rfl) ?_;rw [zkq b k];refine au 0 ?_;refine TK.nd fun hnd=>?_;have hjj:j1≠j2:=fun h=>by subst h; simp [keys] at hnd
 refine bD Z Z Z Z (zay hT (b:=giveB b k) (s:=j1) (e:=j2) hjj (zht hn) (hl)) ?_;rintro r10 K11 h12;rcases h12 with ⟨⟨hb0,rfl⟩ | ⟨hb0,rfl⟩,rfl⟩
 ·refine au 3517066 ?_;refine bB hret [(0,_),(1,_),(s,_),(e,_)] ?_;have ha:giveM b (k:Int)=askM (giveB b k) true:=by unfold giveM; rw [if_neg (by simpa using hc0),hk0,if_neg dQ,mZ,hc2,if_neg dQ]
  exact .inl ⟨by rw [ha]; exact hb0,by rw [ha]; rfl,rfl⟩
 ·refine au 3517066 ?_;refine bB hret [(0,_),(1,_),(s,_),(e,_),(j1,_),(j2,_)] ?_;have ha:giveM b (k:Int)=askM (giveB b k) true:=by unfold giveM; rw [if_neg (by simpa using hc0),hk0,if_neg dQ,mZ,hc2,if_neg dQ]
  exact .inr ⟨by rw [ha]; exact hb0,j1,j2,rfl,rfl⟩
def cmpI2 (x y:Int):Int:=if x<y then -1 else if x>y then 1 else 0
def cmpL:List Int->List Int->Int
 | [],[]=>0
 | [],_::_ => -1
 | _::_,[]=>1
 | x::xs,y::ys=>if cmpI2 x y≠0 then cmpI2 x y else cmpL xs ys
theorem zdP {xs ys:List Int} {i:Nat} (h1:i<xs.length) (h2:i<ys.length):cmpL (xs.drop i) (ys.drop i)=if cmpI2 xs[i] ys[i]≠0 then cmpI2 xs[i] ys[i] else cmpL (xs.drop (i+1)) (ys.drop (i+1)):=by
 rw [List.drop_eq_getElem_cons h1,List.drop_eq_getElem_cons h2]; rfl
theorem zj8 {xs ys:List Int} {i:Nat} (h1:i<xs.length) (h2:ys.length<=i):cmpL (xs.drop i) (ys.drop i)=1:=by
 rw [List.drop_eq_getElem_cons h1,List.drop_eq_nil_of_le h2]; rfl
theorem zeZ {xs ys:List Int} (h:xs.length<=ys.length):cmpL (xs.drop xs.length) (ys.drop xs.length)=if xs.length<ys.length then -1 else 0:=by
 rw [List.drop_eq_nil_of_le (Nat.le_refl _)];split
 ·rename_i h2; rw [List.drop_eq_getElem_cons h2]; rfl
 ·rw [List.drop_eq_nil_of_le oQ]; rfl
def ltLists (a b:List Int):Bool:=decide (a.length<b.length)||(a.length==b.length&&decide (cmpL a b<0))
def ltGuess (a b:List Int×Int):Bool:=decide (a.2<b.2)||(a.2==b.2&&decide (cmpL a.1 b.1<0))
def ltArc (a b:Int×Int):Bool:=decide (a.2<b.2)||(a.2==b.2&&decide (a.1<b.1))
def zQ {α:Type} (lt:α->α->Bool) (o:α) (xs:List α):α:=xs.foldl (fun o x=>if lt x o=true then x else o) o
theorem zbU {α:Type} {lt:α->α->Bool} {o:α} {xs:List α} {i:Nat} (h:i<xs.length) (hl:lt xs[i] (zQ lt o (xs.take i))=true):zQ lt o (xs.take (i+1))=xs[i]:=by
 unfold zQ at hl ⊢;rw [List.take_add_one,lA h,List.foldl_append]; simp [hl]
theorem zbT {α:Type} {lt:α->α->Bool} {o:α} {xs:List α} {i:Nat} (h:i<xs.length) (hl:lt xs[i] (zQ lt o (xs.take i))=false):zQ lt o (xs.take (i+1))=zQ lt o (xs.take i):=by
 unfold zQ at hl ⊢;rw [List.take_add_one,lA h,List.foldl_append]; simp [hl]
theorem kl {α:Type} {lt:α->α->Bool} {o:α}:∀ {xs:List α},zQ lt o xs∈o::xs:=by
 intro xs
 induction xs generalizing o with
 | nil=>simp [zQ]
 | cons x xs ih =>
  have:=ih (o:=if lt x o=true then x else o);show zQ lt (if lt x o=true then x else o) xs∈_;rcases lI.1 this with h | h
  ·rw [h]; split <;> simp
  ·simp [h]
theorem firstL_mem' {α:Type} {lt:α->α->Bool} {o:α} {xs:List α} {i:Nat}:zQ lt o (xs.take i)∈o::xs:=by
 rcases lI.1 (kl (lt:=lt) (o:=o) (xs:=xs.take i)) with h | h
 ·rw [h]; simp
 ·exact lL _ (List.mem_of_mem_take h)
theorem ziZ {main T} (hT:zk tp main T) {gm} {n:Int} :
  zh tp T gm 216 [intA n] [] (fun r K'=>r=zl false/\K'=[]):=by
 refine ze 6 hT Tryz.func216 fun Y hret=>?_;refine au 35711423542 ?_;refine TK.rta hret ?_;exact ⟨by simp [zl],rfl⟩
theorem zmy {main T} (hT:zk tp main T) {gm} {x y:Int} :
  zh tp T gm 179 [intA x,intA y] [] (fun r K'=>r=intA (cmpI2 x y)/\K'=[]):=by
 refine ze 20 hT Tryz.func179 fun Y hret=>?_;refine au 1423542 ?_;refine bD Z Z Z Z (ziZ hT) ?_;rintro r1 K2 ⟨rfl,rfl⟩;refine au 14235 ?_;refine bD Z Z Z Z (ziZ hT) ?_;rintro r4 K5 ⟨rfl,rfl⟩;refine au 93711422120190314221201903142235 ?_;constructor<;>intro hc0
 ·refine au 3542 ?_;refine TK.rta hret ?_;exact ⟨by unfold cmpI2; rw [if_pos (by simpa using hc0)]; rfl,rfl⟩
 refine au 93711422120 ?_;constructor<;>intro hc1
 ·refine au 3542 ?_;refine TK.rta hret ?_;exact ⟨by unfold cmpI2; rw [if_neg (by simpa using hc0),if_pos (by simpa using hc1)]; rfl,rfl⟩
 refine au 3542120 ?_;refine TK.rta hret ?_;exact ⟨by unfold cmpI2; rw [if_neg (by simpa using hc0),if_neg (by simpa using hc1)]; rfl,rfl⟩
theorem zcj {main T} (hT:zk tp main T) {gm} {j1 j2:Nat} {ob1 ob2:AObj} {xs ys:List Int} {K:KV} (h1:(j1,ob1)∈K) (h2:(j2,ob2)∈K) (hI1:IntsAt ob1 0 xs) (hI2:IntsAt ob2 0 ys) (hl1:xs.length<=1000) (hl2:ys.length<=1000) :
  zh tp T gm 122 [.sl j1 0 xs.length,.sl j2 0 ys.length] K (fun r K'=>r=intA (cmpL xs ys)/\K'=K):=by
 refine ze 36 hT Tryz.func122 fun Y hret=>?_;refine au 1303128014223542 ?_;refine bA [0,1,9,10,11] ?_;refine bE (fun n env K'=>∃ (i:Nat),n=xs.length - i/\i<=xs.length/\i<=ys.length/\cmpL (xs.drop i) (ys.drop i)=cmpL xs ys/\env=zK 36 [(0,.sl j1 0 xs.length),(1,.sl j2 0 ys.length),(9,.sl j1 0 xs.length),(10,intA xs.length),(11,intA i)]/\K'=K) xs.length ⟨0,rfl,mN _,mN _,rfl,rfl,rfl⟩ fun n env K' hI' hnext=>?_;obtain ⟨i,rfl,hi,hiy,hcm,rfl,rfl⟩:=hI';refine au 923742 ?_;refine ⟨fun hc=>?_,fun hc=>?_⟩
 ·simp only [decide_eq_true_eq] at hc;have hil:i<xs.length:=by omega
  refine au 3601421302120 ?_;refine bH Z (zm Z Z zd.h mQ (hI1 i hil)) ?_;refine au 93728011422355 ?_;constructor<;>intro hc1
  ·refine au 3542 ?_;refine TK.rta hret ?_;exact ⟨by rw [<- hcm,zj8 hil (by have:=of_decide_eq_true hc1; omega)]; rfl,rfl⟩
  have hyl:i<ys.length:=by have:=of_decide_eq_false hc1; omega
  refine au 3601142120 ?_;refine bH Z (zm Z Z zd.h mQ (hI2 i hyl)) ?_;refine au 114235 ?_;refine bD Z Z Z Z (zmy hT) ?_ (hs:=(.none _));rintro r1 K2 ⟨rfl,rfl⟩;refine au 0 ?_;skip;refine au 93714235 ?_;constructor<;>intro hc2
  ·have hc2:cmpI2 xs[i] ys[i]≠0:=by simpa using hc2
   refine au 35142 ?_;refine TK.rta hret ?_;exact ⟨by rw [<- hcm,zdP hil hyl,if_pos hc2],rfl⟩
  have hc2:cmpI2 xs[i] ys[i]=0:=by simpa using hc2
  refine au 312304140120 ?_;refine bA [0,1,9,10,11] ?_;exact hnext _ _ _ oQ ⟨i+1,rfl,oQ,oQ,by rw [<- hcm,zdP hil hyl,if_neg (fun h=>h hc2)],rfl,rfl⟩
 simp only [decide_eq_false_iff_not] at hc;obtain rfl:i=xs.length:=by omega
 refine au 93728012801422160 ?_;constructor<;>intro hc3
 ·refine au 3542 ?_;refine TK.rta hret ?_;exact ⟨by rw [<- hcm,zeZ hiy,if_pos (by have:=of_decide_eq_true hc3; omega)]; rfl,rfl⟩
 refine au 3542120 ?_;refine TK.rta hret ?_;exact ⟨by rw [<- hcm,zeZ hiy,if_neg (by have:=of_decide_eq_false hc3; omega)]; rfl,rfl⟩
theorem ziq {main T} (hT:zk tp main T) {gm} {j1 j2:Nat} {ob1 ob2:AObj} {xs ys:List Int} {K:KV} (h1:(j1,ob1)∈K) (h2:(j2,ob2)∈K) (hI1:IntsAt ob1 0 xs) (hI2:IntsAt ob2 0 ys) (hl1:xs.length<=1000) (hl2:ys.length<=1000) :
  zh tp T gm 125 [.sl j1 0 xs.length,.sl j2 0 ys.length] K (fun r K'=>r=zl (ltLists xs ys)/\K'=K):=by
 refine ze 23 hT Tryz.func125 fun Y hret=>?_;refine au 1728012801423542 ?_;refine bF 10 (fun g1_6=>?_) (fun g1_6=>?_)
 ·refine au 3526088888888888 ?_;refine TK.rta hret ?_;exact ⟨by unfold ltLists; rw [show decide (xs.length<ys.length)=true by have:=of_decide_eq_true g1_6; exact decide_eq_true oQ]; rfl,rfl⟩
 refine au 1728012801 ?_;refine bF 16 (fun g1_12=>?_) (fun g1_12=>?_)
 ·refine au 11 ?_;refine bD Z Z Z Z (zcj hT h1 h2 hI1 hI2 hl1 hl2) ?_ (hs:=(.all _));rintro r1 K2 ⟨rfl,rfl⟩;refine au 0 ?_;rw [lR];refine au 352502607 ?_;refine TK.rta hret ?_;exact ⟨by unfold ltLists; rw [show decide (xs.length<ys.length)=false by have:=of_decide_eq_false g1_6; exact decide_eq_false oQ,show (xs.length==ys.length)=true from beq_iff_eq.2 (by have:=eq_of_beq g1_12; omega)]; rfl,rfl⟩
 refine au 352502508888 ?_;refine TK.rta hret ?_;exact ⟨by unfold ltLists; rw [show decide (xs.length<ys.length)=false by have:=of_decide_eq_false g1_6; exact decide_eq_false oQ,show (xs.length==ys.length)=false from beq_eq_false_iff_ne.2 (fun h=>by rw [h] at g1_12; simp at g1_12)]; rfl,rfl⟩
theorem zcy {main T} (hT:zk tp main T) {gm} {j1 j2:Nat} {ob1 ob2:AObj} {xs ys:List Int} {K:KV} {u v:Int} (h1:(j1,ob1)∈K) (h2:(j2,ob2)∈K) (hI1:IntsAt ob1 0 xs) (hI2:IntsAt ob2 0 ys) (hl1:xs.length<=1000) (hl2:ys.length<=1000) :
  zh tp T gm 121 [.agg [.sl j1 0 xs.length,intA u],.agg [.sl j2 0 ys.length,intA v]] K (fun r K'=>r=zl (ltGuess (xs,u) (ys,v))/\K'=K):=by
 refine ze 25 hT Tryz.func121 fun Y hret=>?_;refine au 21042 ?_;intro ja hja;refine au 210 ?_;intro jb hjb;refine au 176906706906704235 ?_;refine bF 10 (fun g1_6=>?_) (fun g1_6=>?_)
 ·refine au 352608888888888888 ?_;refine bB hret (K) ?_ (hs:=(.right (.right (.all _))));exact ⟨by unfold ltGuess; dsimp only; rw [g1_6]; rfl,rfl⟩
 refine au 17690670690670 ?_;refine bF 16 (fun g1_12=>?_) (fun g1_12=>?_)
 ·refine au 690670690670 ?_;refine bD Z Z Z Z (zcj hT h1 h2 hI1 hI2 hl1 hl2) ?_ (hs:=(.right (.right (.all _))));rintro r1 K2 ⟨rfl,hK⟩;refine au 0 ?_;rw [hK];refine bN (K':=(jb,_)::(ja,_)::K) (lH (l₁:=K)) ?_;refine au 352502607 ?_;refine bB hret (K) ?_ (hs:=(.right (.right (.all _))));exact ⟨by unfold ltGuess; dsimp only; rw [g1_6,g1_12]; rfl,rfl⟩
 refine au 35250250888888 ?_;refine bB hret (K) ?_ (hs:=(.right (.right (.all _))));exact ⟨by unfold ltGuess; dsimp only; rw [g1_6,g1_12]; rfl,rfl⟩
theorem zcB {main T} (hT:zk tp main T) {gm} {a b:Int×Int} :
  zh tp T gm 115 [.agg [intA a.1,intA a.2],.agg [intA b.1,intA b.2]] [] (fun r K'=>r=zl (ltArc a b)/\K'=[]):=by
 refine ze 24 hT Tryz.func115 fun Y hret=>?_;refine au 21042 ?_;intro j1 hj1;refine au 210 ?_;intro j2 hj2;refine au 176906706906704235 ?_;refine bF 10 (fun g1_6=>?_) (fun g1_6=>?_)
 ·refine au 35260888888888888 ?_;refine bB hret [] ?_;exact ⟨by unfold ltArc; rw [g1_6]; rfl,rfl⟩
 refine au 17690670690670 ?_;refine bF 16 (fun g1_12=>?_) (fun g1_12=>?_)
 ·refine au 352502607690670690670 ?_;refine bB hret [] ?_;exact ⟨by unfold ltArc; rw [g1_6,g1_12]; rfl,rfl⟩
 refine au 3525025088888 ?_;refine bB hret [] ?_;exact ⟨by unfold ltArc; rw [g1_6,g1_12]; rfl,rfl⟩
theorem ze7 {main T} (hT:zk tp main T) {gm} {o:Nat×List Int} {xs:List (Nat×List Int)} {lt:Nat×List Int->Nat×List Int->Bool} {fv:AV} {jo off:Nat} {obo:AObj} {K:KV} (hl:xs.length<=100000) (hm:(jo,obo)∈K) (hI:∀ i (h:i<xs.length),z6 obo (off+(i:Int).toNat*1) 1=some [.sl xs[i].1 0 xs[i].2.length]) (hf:∀ a∈o::xs,∀ c∈o::xs,CallFK tp T gm fv [.sl a.1 0 a.2.length,.sl c.1 0 c.2.length] K (fun r K'=>r=zl (lt a c)/\K'=K)) :
  zh tp T gm 124 [fv,.sl o.1 0 o.2.length,.sl jo off xs.length] K (fun r K'=>r=.sl (zQ lt o xs).1 0 (zQ lt o xs).2.length/\K'=K):=by
 refine ze 22 hT Tryz.func124 fun Y hret=>?_;refine au 1303128014223542 ?_;refine bA [0,1,9,10,11] ?_;refine bE (fun n env K'=>∃ (i:Nat),n=xs.length - i/\i<=xs.length/\env=zK 22 [(0,fv),(1,.sl (zQ lt o (xs.take i)).1 0 (zQ lt o (xs.take i)).2.length),(9,.sl jo off xs.length),(10,intA xs.length),(11,intA i)]/\K'=K) xs.length ⟨0,rfl,mN _,rfl,rfl⟩ fun n env K' hI' hnext=>?_;obtain ⟨i,rfl,hi,rfl,rfl⟩:=hI';refine au 923742 ?_;refine ⟨fun hc=>?_,fun hc=>?_⟩
 ·simp only [decide_eq_true_eq] at hc;have hil:i<xs.length:=by omega
  refine au 360421302120 ?_;refine bH Z (zm Z Z zd.h mQ (hI i hil)) ?_;refine au 1114235 ?_;refine TK.callF' Z Z Z Z Z (hf xs[i] (lL _ (List.getElem_mem hil)) (zQ lt o (xs.take i)) firstL_mem') (.all _) fun r1 K2 h3=>?_;obtain ⟨rfl,hK⟩:=h3;refine au 0 ?_;rw [hK,lR];refine au 93 ?_;constructor<;>intro hc1
  ·refine au 3123041403514 ?_;refine bA [0,1,9,10,11] ?_;exact hnext _ _ _ oQ ⟨i+1,rfl,oQ,by rw [zbU hil hc1] <;> rfl,rfl⟩
  refine au 312304140120 ?_;refine bA [0,1,9,10,11] ?_;exact hnext _ _ _ oQ ⟨i+1,rfl,oQ,by rw [zbT hil hc1] <;> rfl,rfl⟩
 simp only [decide_eq_false_iff_not] at hc;obtain rfl:i=xs.length:=by omega
 refine au 35142160 ?_;refine TK.rta hret ?_;exact ⟨by rw [lW] <;> rfl,rfl⟩
theorem zbu {main T} (hT:zk tp main T) {gm} {o:Int×Int} {xs:List (Int×Int)} {lt:Int×Int->Int×Int->Bool} {fv:AV} {jo off:Nat} {obo:AObj} {K:KV} (hl:xs.length<=100000) (hm:(jo,obo)∈K) (hI:∀ i (h:i<xs.length),z6 obo (off+(i:Int).toNat*2) 2=some [intA xs[i].1,intA xs[i].2]) (hf:∀ a∈o::xs,∀ c∈o::xs,CallFK tp T gm fv [.agg [intA a.1,intA a.2],.agg [intA c.1,intA c.2]] K (fun r K'=>r=zl (lt a c)/\K'=K)) :
  zh tp T gm 114 [fv,.agg [intA o.1,intA o.2],.sl jo off xs.length] K (fun r K'=>r=.agg [intA (zQ lt o xs).1,intA (zQ lt o xs).2]/\K'=K):=by
 refine ze 22 hT Tryz.func114 fun Y hret=>?_;refine au 21042 ?_;intro jc hjc;refine au 220 ?_;intro jr hjr;refine au 1303128014223 ?_;refine bA [0,4,6,9,10,11] ?_;refine bN (List.Perm.swap _ _ _) ?_;refine bE (fun n env K'=>∃ (i:Nat),n=xs.length - i/\i<=xs.length/\env=zK 22 [(0,fv),(4,.ptr jc 0),(6,.ptr jr 0),(9,.sl jo off xs.length),(10,intA xs.length),(11,intA i)]/\K'=(jc,.cells [intA (zQ lt o (xs.take i)).1,intA (zQ lt o (xs.take i)).2] 229 true)::(jr,.cells [intA 0,intA 0] 229 true)::K) xs.length ⟨0,rfl,mN _,rfl,rfl⟩ fun n env K' hI' hnext=>?_;obtain ⟨i,rfl,hi,rfl,rfl⟩:=hI';refine au 923742 ?_;refine ⟨fun hc=>?_,fun hc=>?_⟩
 ·simp only [decide_eq_true_eq] at hc;have hil:i<xs.length:=by omega
  refine au 360421302120 ?_;refine bH Z (zN Z Z zd.h mQ (hI i hil)) ?_;refine au 220 ?_;intro j9 hj9;refine au 6806801423170 ?_;refine TK.callF' Z Z Z Z Z (hf xs[i] (lL _ (List.getElem_mem hil)) (zQ lt o (xs.take i)) firstL_mem') (.right (.right (.right (.all _)))) fun r1 K2 h3=>?_;obtain ⟨rfl,hK⟩:=h3;refine au 0 ?_;rw [hK];refine bN (K':=(j9,_)::(jc,_)::(jr,_)::K) (lH (l₁:=K)) ?_;refine au 93 ?_;constructor<;>intro hc1
  ·refine au 31230414031706804 ?_;refine bA [0,4,6,9,10,11] ?_;refine TK.keep (R:=((jc,_)::(jr,_)::K)) (.rem (by repeat (first | exact Rem.head | apply Rem.tail)) (.rem (by repeat (first | exact Rem.head | apply Rem.tail)) (.right (.all _)))) ?_;exact hnext _ _ _ oQ ⟨i+1,rfl,oQ,rfl,by rw [zbU hil hc1] <;> rfl⟩
  refine au 312304140120 ?_;refine bA [0,4,6,9,10,11] ?_;refine TK.keep (R:=((jc,_)::(jr,_)::K)) (.rem (by repeat (first | exact Rem.head | apply Rem.tail)) (.rem (by repeat (first | exact Rem.head | apply Rem.tail)) (.right (.all _)))) ?_;exact hnext _ _ _ oQ ⟨i+1,rfl,oQ,rfl,by rw [zbT hil hc1] <;> rfl⟩
 simp only [decide_eq_false_iff_not] at hc;obtain rfl:i=xs.length:=by omega
 refine au 317068042160 ?_;refine bB hret (K) ?_;exact ⟨by rw [lW] <;> rfl,rfl⟩
theorem zau {main T} (hT:zk tp main T) {gm} {o:Nat×List Int×Int} {xs:List (Nat×List Int×Int)} {lt:Nat×List Int×Int->Nat×List Int×Int->Bool} {fv:AV} {jo off:Nat} {obo:AObj} {K:KV} (hl:xs.length<=100000) (hm:(jo,obo)∈K) (hI:∀ i (h:i<xs.length),z6 obo (off+(i:Int).toNat*2) 2=some [.sl xs[i].1 0 xs[i].2.1.length,intA xs[i].2.2]) (hf:∀ a∈o::xs,∀ c∈o::xs,CallFK tp T gm fv [.agg [.sl a.1 0 a.2.1.length,intA a.2.2],.agg [.sl c.1 0 c.2.1.length,intA c.2.2]] K (fun r K'=>r=zl (lt a c)/\K'=K)) :
  zh tp T gm 120 [fv,.agg [.sl o.1 0 o.2.1.length,intA o.2.2],.sl jo off xs.length] K (fun r K'=>r=.agg [.sl (zQ lt o xs).1 0 (zQ lt o xs).2.1.length,intA (zQ lt o xs).2.2]/\K'=K):=by
 refine ze 22 hT Tryz.func120 fun Y hret=>?_;refine au 21042 ?_;intro jc hjc;refine au 220 ?_;intro jr hjr;refine au 1303128014223 ?_;refine bA [0,4,6,9,10,11] ?_;refine bN (List.Perm.swap _ _ _) ?_;refine bE (fun n env K'=>∃ (i:Nat),n=xs.length - i/\i<=xs.length/\env=zK 22 [(0,fv),(4,.ptr jc 0),(6,.ptr jr 0),(9,.sl jo off xs.length),(10,intA xs.length),(11,intA i)]/\K'=(jc,.cells [.sl (zQ lt o (xs.take i)).1 0 (zQ lt o (xs.take i)).2.1.length,intA (zQ lt o (xs.take i)).2.2] 238 true)::(jr,.cells [.v (.slice none 0 0),intA 0] 238 true)::K) xs.length ⟨0,rfl,mN _,rfl,rfl⟩ fun n env K' hI' hnext=>?_;obtain ⟨i,rfl,hi,rfl,rfl⟩:=hI';refine au 923742 ?_;refine ⟨fun hc=>?_,fun hc=>?_⟩
 ·simp only [decide_eq_true_eq] at hc;have hil:i<xs.length:=by omega
  refine au 360421302120 ?_;refine bH Z (zN Z Z zd.h mQ (hI i hil)) ?_;refine au 220 ?_;intro j9 hj9;refine au 6806801423170 ?_;refine TK.callF' Z Z Z Z Z (hf xs[i] (lL _ (List.getElem_mem hil)) (zQ lt o (xs.take i)) firstL_mem') (.right (.right (.right (.all _)))) fun r1 K2 h3=>?_;obtain ⟨rfl,hK⟩:=h3;refine au 0 ?_;rw [hK];refine bN (K':=(j9,_)::(jc,_)::(jr,_)::K) (lH (l₁:=K)) ?_;refine au 93 ?_;constructor<;>intro hc1
  ·refine au 31230414031706804 ?_;refine bA [0,4,6,9,10,11] ?_;refine TK.keep (R:=((jc,_)::(jr,_)::K)) (.rem (by repeat (first | exact Rem.head | apply Rem.tail)) (.rem (by repeat (first | exact Rem.head | apply Rem.tail)) (.right (.all _)))) ?_;exact hnext _ _ _ oQ ⟨i+1,rfl,oQ,rfl,by rw [zbU hil hc1] <;> rfl⟩
  refine au 312304140120 ?_;refine bA [0,4,6,9,10,11] ?_;refine TK.keep (R:=((jc,_)::(jr,_)::K)) (.rem (by repeat (first | exact Rem.head | apply Rem.tail)) (.rem (by repeat (first | exact Rem.head | apply Rem.tail)) (.right (.all _)))) ?_;exact hnext _ _ _ oQ ⟨i+1,rfl,oQ,rfl,by rw [zbT hil hc1] <;> rfl⟩
 simp only [decide_eq_false_iff_not] at hc;obtain rfl:i=xs.length:=by omega
 refine au 317068042160 ?_;refine bB hret (K) ?_;exact ⟨by rw [lW] <;> rfl,rfl⟩
section
variable {P:Program} {main:Bool} {gm:Nat->Option Nat} {T:Goroutine->Hp->Prop} {Y:KX P gm T} {ds:List Nat} {k:List Item} {env:List AV} {K:KV} {V:KV} {o:Oper}
theorem zk9 {kd:CallKind} {f:FuncId} {ro:Option Nat} {ts:Array Value} {ds:List Deferred} {cs:List Frame} {w:World} {c:Code}:stepG P main (G (fr kd f ro ts ds (.code (.scope c)::k)) cs) w=.go (G (fr kd f ro ts ds (.code c::.inScope c::k)) cs) w #[]:=by simp [G,stepG,stepG.exec,fr]
theorem zhX {kd:CallKind} {f:FuncId} {ro:Option Nat} {ts:Array Value} {ds:List Deferred} {cs:List Frame} {w:World} {c:Code}:stepG P main (G (fr kd f ro ts ds (.inScope c::k)) cs) w=.go (G (fr kd f ro ts ds k) cs) w #[]:=by simp [G,stepG,stepG.exec,fr]
theorem TK.scope {c:Code} (h:TK Y ds (.code c::.inScope c::k) env K):TK Y ds (.code (.scope c)::k) env K:=fun A hA φ H ts h1 h2 h3 h4 h5 h6=>Y.X.hT.ctlF rfl (fun _=>zk9) rfl (h A hA φ H ts h1 h2 h3 h4 h5 h6)
theorem TK.inScope {c:Code} (h:TK Y ds k env K):TK Y ds (.inScope c::k) env K:=fun A hA φ H ts h1 h2 h3 h4 h5 h6=>Y.X.hT.ctlF rfl (fun _=>zhX) rfl (h A hA φ H ts h1 h2 h3 h4 h5 h6)
theorem zjn {t yt:TypeId} {x y:Operand} {k':IntKind} {a b:Nat} (ho:o.op=.binOp .shr t x y yt) (hx:zw gm env x=some (.v (.int .i64 a))) (hy:zw gm env y=some (.v (.int k' b))) (h0:b<=60):Qk P gm env V o (.v (.int .i64 ((a / 2 ^ b:Nat):Int))):=by
 have:=q_shr (P:=P) (V:=V) ho hx hy oQ;rwa [mZ,show ((a:Int).fdiv (2 ^ b))=((a / 2 ^ b:Nat):Int) by rw [Int.fdiv_eq_ediv_of_nonneg _ (by exact_mod_cast mN (2 ^ b))]; norm_cast] at this
theorem zm1 {t yt:TypeId} {x y:Operand} {k':IntKind} {b:Nat} (ho:o.op=.binOp .shl t x y yt) (hx:zw gm env x=some (.v (.int .i64 1))) (hy:zw gm env y=some (.v (.int k' b))) (h0:b<=20):Qk P gm env V o (.v (.int .i64 ((2 ^ b:Nat):Int))):=by
 have hp:2 ^ b<=2 ^ 20:=Nat.pow_le_pow_right oQ h0;have e:(1*2 ^ b:Int)=((2 ^ b:Nat):Int):=by rw [Int.one_mul]; norm_cast
 have:=q_shl (P:=P) (V:=V) ho hx hy oQ (by rw [mZ,e]; have hp':2 ^ b<=1048576:=hp; generalize 2 ^ b=m at hp' ⊢; omega);rwa [mZ,e] at this
theorem Kstep.trans {K1 K2:KV} {A A1 A2:List AObj} (h1:Kstep K A K1 A1) (h2:Kstep K1 A1 K2 A2):Kstep K A K2 A2:=by
 refine ⟨h2.view,h2.nd,fun i hi=>?_,fun j hj hn=>?_,mT h1.len h2.len⟩
 ·rcases h2.own i hi with h | h
  ·exact h1.own i h
  ·exact .inr (mT h1.len h)
 ·rw [h2.kept j (Nat.lt_of_lt_of_le hj h1.len) (fun hm=>?_)]
  ·exact h1.kept j hj hn
  ·rcases h1.own j hm with h | h
   ·exact hn h
   ·omega
theorem zeT {g:FuncId} {args:List AV} {n:Nat} {l:List AV} {e:TypeId} {s:Nat} {R:KV} (h:zh P T gm g args K fun r K'=>∃ j,r=.row j n/\K'=(j,.row l e s)::R):zh P T gm g args K fun r K'=>∃ j,r=.sl j 0 n/\K'=(j,.cells l e false)::R:=by
 intro A hv hn φ F H vs c cs h1 h2 h3 q;refine h A hv hn φ F H vs c cs h1 h2 h3 fun r A' φ' H' v ⟨K',hk,j,hr,he⟩ hA hlen hH' hv'=>?_;subst hr he;have hj:A'[j]? =some (.row l e s):=hk.view.get sQ;have hb:(φ' j).base=0:=(hH'.obj j _ hj).2.1;refine q (.sl j 0 n) (A'.set j (.cells l e false)) φ' H' v ⟨_,hk.trans (.set hk.view hk.nd .head),j,rfl,rfl⟩ hA (by simpa using hlen) (hH'.turn hj (fun ho hl=>?_) (fun h=>by cases h) (fun _=>rfl) (fun hs=>?_)) ?_
 ·have hc:0<(φ' j).cap:=by
   rcases mP (φ' j).cap with e | e
   ·exact absurd (ho.1 e) hl
   ·exact e
  obtain ⟨cur,q1,q2,q3,q4,q5⟩:=ho.2.2 hc;exact ⟨true,cur,(_,0,0),q1,(fun h=>by cases h),fun t u hu=>by rw [hb,mO]; exact q5 t u hu⟩
 ·show 0<(φ' j).cap;rcases mP (φ' j).cap with e | e
  ·exact absurd ((hH'.obj j _ hj).1 e) hs
  ·exact e
 ·have:=wN (j:=j) hb hv';simpa [unrow] using this
end
theorem ym (xs:List Int) (e:TypeId) (rw':Bool):IntsAt (.cells (xs.map intA) e rw') 0 xs:=fun i h=>by
 simp only [z6,AObj.look,mZ,mO,Nat.mul_one];rw [if_pos (by simp; omega)];simp [List.take_one,h]
theorem vO {K:KV} {x:Nat×AObj}:x∈K->∃ R,Rem K x R:=by
 induction K with
 | nil=>intro h; cases h
 | cons y K ih =>
  intro h;rcases lI.1 h with rfl | h
  ·exact ⟨_,.head⟩
  ·obtain ⟨R,hR⟩:=ih h; exact ⟨_,.tail hR⟩
theorem zkF {main T} (hT:zk tp main T) {gm} {S:List Int} (hS:S.length<=3) (hB:∀ x∈S,0<=x/\x<1000):zh tp T gm 119 [.agg (zX S)] [] (fun r K'=>∃ j,r=.sl j 0 S.length/\K'=[(j,.cells (S.map intA) 3 false)]):=zeT (zbd hT hS hB)
def bitB (bits i:Nat):Bool:=((bits / 2 ^ i % 2:Nat):Int)==1
def allR (b:Bk) (S:List Int) (bits n:Nat):Bool:=(List.range n).all fun i => !(bitB bits i)||rightM b S i
def togM (b:Bk) (bits:Nat):Bool:=(allM b).any fun S=>allR b S bits b.seekers.length
theorem zdG (b:Bk) (S:List Int) (bits i:Nat):allR b S bits (i+1)=(allR b S bits i&&(!(bitB bits i)||rightM b S i)):=by
 unfold allR; rw [List.range_succ,List.all_append]; simp
theorem zj3 {b:Bk} {S:List Int} {bits i n:Nat} (hi:i<n) (h:(!(bitB bits i)||rightM b S i)=false):allR b S bits n=false:=by
 unfold allR;rw [List.all_eq_false];exact ⟨i,List.mem_range.2 hi,by rw [h]; decide⟩
theorem zbJ {main:Bool} {T:Goroutine->Hp->Prop} (hT:zk tp main T)  {b:Bk} {s e:Nat} {bits:Nat} (hse:s≠e) (hb:BkOk b) (hbt:bits<100000) :
  zh tp T gmS 123 [.agg (zx b s e),intA bits] [(1,zz),(s,zo b),(e,zp b)] (fun r K'=>r=zl (togM b bits)/\K'=[(1,zz),(s,zo b),(e,zp b)]):=by
 refine wB 30 hT Tryz.func123 fun Y hro hret=>?_;refine au 21042 ?_;intro jb hjb;refine au 210 ?_;intro jt hjt;refine au 220 ?_;intro jr hjr;refine au 3 ?_;refine TK.scope ?_;refine au 13033206804221502 ?_;refine TK.rangeAll hT hb (s:=s) (e:=e) (J:=fun pre K1=>K1=[(jr,.cells [zl false] 4 true),(jb,.cells (zx b s e) 205 true),(jt,.cells [intA bits] 3 true),(1,zz),(s,zo b)]/\∀ S∈pre,allR b S bits b.seekers.length=false) (D:=fun c K1=>c=.ret/\K1=[(jr,.cells [zl true] 4 true),(jb,.cells (zx b s e) 205 true),(jt,.cells [intA bits] 3 true),(1,zz),(s,zo b)]/\togM b bits=true) rfl hro rfl (by repeat (first | exact Split.none _ | exact Split.all _ | (apply Split.rem; repeat (first | exact Rem.head | apply Rem.tail)) | apply Split.right)) ⟨rfl,by simp⟩ (fun Y' l lo lb pre S K1 hbegin hfin hout hpre hJ=>?_) (fun d K2 hJ=>?_) (fun d c K2 hD=>?_)
 ·obtain ⟨rfl,hni⟩:=hJ;have hSm:=uO hb hpre;have hn5:=hb.ns;refine au 2204 ?_;intro j9 hj9;refine au 3170 ?_;refine hbegin _ _ _ _ _ uQ ?_;refine au 13031280690670670422130 ?_;refine bA [2,3,4,5,13,14] ?_;refine bC [(j9,_),(l,_),(e,_),(jr,_),(jb,_),(jt,_),(1,_),(s,_)] ?_;refine bE (fun n env K=>∃ (i:Nat),n=b.seekers.length - i/\i<=b.seekers.length/\allR b S bits i=true/\env=zK 30 [(2,.ptr jb 0),(3,.ptr jt 0),(4,.ptr jr 0),(5,.ptr j9 0),(13,intA b.seekers.length),(14,intA i)]/\K=[(j9,.cells (zX S) 209 true),(l,lb),(e,zp b),(jr,.cells [zl false] 4 true),(jb,.cells (zx b s e) 205 true),(jt,.cells [intA bits] 3 true),(1,zz),(s,zo b)]) b.seekers.length ⟨0,rfl,mN _,rfl,rfl,rfl⟩ fun n env K hI' hnext=>?_;obtain ⟨i,rfl,hi,hall,rfl,rfl⟩:=hI';refine au 923742 ?_;refine ⟨fun hc=>?_,fun hc=>?_⟩
  ·simp only [decide_eq_true_eq] at hc;have hil:i<b.seekers.length:=by omega
   refine au 169042351421302120 ?_;refine bH Z (zjn Z Z Z oQ) ?_;refine bH Z (zji Z Z Z (by have:=Nat.div_le_self bits (2 ^ i); omega)) ?_;refine au 17 ?_;refine bF 22 (fun g6_6=>?_) (fun g6_6=>?_)
   ·refine au 1680680 ?_;refine bD Z Z Z Z (zai hT (s:=s) (e:=e) hb hSm hil) ?_;rintro r1 K2 ⟨rfl,rfl⟩;refine au 93260300 ?_;constructor<;>intro hc1
    ·refine au 160 ?_;exact hfin _ _ [(jr,_),(jb,_),(jt,_),(1,_),(s,_)] _ (by repeat (first | exact Split.none _ | exact Split.all _ | (apply Split.rem; repeat (first | exact Rem.head | apply Rem.tail)) | apply Split.right)) ⟨rfl,fun R hR=>by
      rcases lT.1 hR with hR | hR
      ·exact hni R hR
      ·rw [lS.1 hR]; exact zj3 hil (by rw [show bitB bits i=true from g6_6,show rightM b S i=false by simpa using hc1]; rfl)⟩
    refine au 312304140120 ?_;refine bA [2,3,4,5,13,14] ?_;refine bC [(j9,_),(l,_),(e,_),(jr,_),(jb,_),(jt,_),(1,_),(s,_)] ?_;exact hnext _ _ _ oQ ⟨i+1,rfl,oQ,by rw [zdG,hall,show rightM b S i=true by simpa using hc1]; simp,rfl,rfl⟩
   refine au 312304140120190325088888 ?_;refine bA [2,3,4,5,13,14] ?_;refine bC [(j9,_),(l,_),(e,_),(jr,_),(jb,_),(jt,_),(1,_),(s,_)] ?_;exact hnext _ _ _ oQ ⟨i+1,rfl,oQ,by rw [zdG,hall,show bitB bits i=false from g6_6]; rfl,rfl,rfl⟩
  simp only [decide_eq_false_iff_not] at hc;obtain rfl:i=b.seekers.length:=by omega
  refine au 317042160 ?_;exact hout _ _ _ _ [(jr,_),(jb,_),(jt,_),(1,_),(s,_)] _ (.ret _) (by repeat (first | exact Split.none _ | exact Split.all _ | (apply Split.rem; repeat (first | exact Rem.head | apply Rem.tail)) | apply Split.right)) ⟨rfl,rfl,List.any_eq_true.2 ⟨S,hpre.subset sQ,hall⟩⟩
 ·obtain ⟨rfl,hni⟩:=hJ;simp only [cA];refine au 317042140 ?_;refine TK.leave (.ret _) fun A hA=>hret _ _ _ _ ([(1,_),(s,_),(e,_),(jr,_)]) ([(1,_),(s,_),(e,_)]) _ _ _ (.inr rfl) (by repeat (first | exact Split.none _ | exact Split.all _ | (apply Split.rem; repeat (first | exact Rem.head | apply Rem.tail)) | apply Split.right)) sQ sQ (by repeat (first | exact Split.none _ | exact Split.all _ | (apply Split.rem; repeat (first | exact Rem.head | apply Rem.tail)) | apply Split.right)) (yX (yA Z zd.h mQ rfl)) ?_ A hA;exact ⟨by rw [show togM b bits=false from List.any_eq_false.2 fun S hS=>by rw [hni S hS]; decide]; rfl,rfl⟩
 ·obtain ⟨rfl,rfl,htg⟩:=hD;simp only [cA];refine au 0 ?_;refine TK.leave (.ret _) fun A hA=>hret _ _ _ _ ([(1,_),(s,_),(e,_),(jr,_)]) ([(1,_),(s,_),(e,_)]) _ _ _ (.inr rfl) (by repeat (first | exact Split.none _ | exact Split.all _ | (apply Split.rem; repeat (first | exact Rem.head | apply Rem.tail)) | apply Split.right)) sQ sQ (by repeat (first | exact Split.none _ | exact Split.all _ | (apply Split.rem; repeat (first | exact Rem.head | apply Rem.tail)) | apply Split.right)) (yX (yA Z zd.h mQ rfl)) ?_ A hA;exact ⟨by rw [htg] <;> rfl,rfl⟩
def locV:Value->Loc3
 | .slice (some a) _ _=>⟨a.block,a.off,0⟩
 | _=>⟨0,0,0⟩
def holdAll (W:World):Hp:=fun b=>(W.heap[b]?).map fun o=>(false,o)
theorem zfg (W:World):zZ (holdAll W) W:=fun b rw' o h=>by
 unfold holdAll at h;obtain ⟨x,h1,h2⟩:=Option.map_eq_some_iff.1 h;cases h2;exact h1
theorem vi {W:World} {b:Nat} {o:Obj} (h:W.heap[b]? =some o):holdAll W b=some (false,o):=by unfold holdAll; rw [h]; rfl
theorem zfa {α:Type} {f:α->List AV} {c:Nat} (hc:∀ x,(f x).length=c):∀ (zs:List α) (j:Nat) a,(zs.flatMap f)[j]? =some a->∃ i z jj,zs[i]? =some z/\jj<c/\j=i*c+jj/\(f z)[jj]? =some a
 | [],j,a,h=>by simp at h
 | z::zs,j,a,h=>by
  rw [List.flatMap_cons] at h;rcases Nat.lt_or_ge j c with hj | hj
  ·rw [List.getElem?_append_left (by rw [hc]; exact hj)] at h;exact ⟨0,z,j,rfl,hj,oQ,h⟩
  ·rw [List.getElem?_append_right (by rw [hc]; exact hj),hc] at h;obtain ⟨i,y,jj,h1,h2,h3,h4⟩:=zfa hc zs _ a h;exact ⟨i+1,y,jj,h1,h2,by rw [Nat.succ_mul]; omega,h4⟩
theorem vT {W:World} {α:Type} {vals:α->List Value} {f:α->List AV} {c:Nat} {zs:List α} {v:Value} {φ:Nat->Loc3} {n:Nat} {e:TypeId} (h:SlIn W vals c zs v) (hc:∀ x,(f x).length=c)
  (hrel:∀ z (jj:Nat) a,(f z)[jj]? =some a->∃ y,(vals z)[jj]? =some y/\RelV φ n a y):RelO φ n (locV v) (holdAll W) (.cells (zs.flatMap f) e false):=by
 intro hne;obtain ⟨b,cap,rfl,hle,hq⟩:=h;have hpos:0<zs.length:=by
  rcases mP zs.length with h0 | h0
  ·rw [lK h0] at hne; exact absurd rfl hne
  ·exact h0
 obtain ⟨blk,off,cur,e',fz,rfl,hh,hcell⟩:=hq hpos;refine ⟨false,cur,(e',fz),vi hh,(fun h=>by cases h),fun j a ha=>?_⟩;obtain ⟨i,z,jj,h1,h2,rfl,h4⟩:=zfa hc zs j a ha;obtain ⟨y,h5,h6⟩:=hrel z jj a h4;exact ⟨y,(hcell i z jj h1 h2).trans h5,h6⟩
theorem vU {W:World} {α:Type} {vals:α->List Value} {c:Nat} {zs:List α} {v:Value} {φ:Nat->Loc3} {n i:Nat} (h:SlIn W vals c zs v) (hi:i<n) (hφ:φ i=locV v):RelV φ n (.sl i 0 zs.length) v:=by
 obtain ⟨b,cap,rfl,hle,hq⟩:=h;refine .sl hi hle fun hpos=>?_;obtain ⟨blk,off,cur,e',fz,rfl,_⟩:=hq hpos;rw [hφ];rfl
theorem zk3 {φ:Nat->Loc3} {n:Nat} (z:Says) (jj:Nat) (a:AV) (h:(saysC z)[jj]? =some a):∃ y,(saysV z)[jj]? =some y/\RelV φ n a y:=by
 match jj,h with
 | 0,h=>cases h; exact ⟨_,rfl,.v _⟩
 | 1,h=>cases h; exact ⟨_,rfl,.v _⟩
 | 2,h=>cases h; exact ⟨_,rfl,.v _⟩
 | 3,h=>cases h; exact ⟨_,rfl,.v _⟩
 | 4,h=>cases h; exact ⟨_,rfl,.v _⟩
 | jj+5,h=>simp [saysC] at h
theorem zk6 {φ:Nat->Loc3} {n:Nat} (z:Seen) (jj:Nat) (a:AV) (h:(seenC z)[jj]? =some a):∃ y,(seenV z)[jj]? =some y/\RelV φ n a y:=by
 match jj,h with
 | 0,h=>cases h; exact ⟨_,rfl,.v _⟩
 | 1,h=>cases h; exact ⟨_,rfl,.v _⟩
 | jj+2,h=>simp [seenC] at h
theorem zlK {φ:Nat->Loc3} {n:Nat} (z:Int) (jj:Nat) (a:AV) (h:([intA z]:List AV)[jj]? =some a):∃ y,([Value.int .i64 z]:List Value)[jj]? =some y/\RelV φ n a y:=by
 match jj,h with
 | 0,h=>cases h; exact ⟨_,rfl,.v _⟩
 | jj+1,h=>simp at h
theorem zkL (xs:List Int):xs.map intA=xs.flatMap fun x=>[intA x]:=by
 induction xs with
 | nil=>rfl
 | cons x xs ih=>rw [List.map_cons,List.flatMap_cons,ih]; rfl
end Go.Vel
namespace Go.Vel
open Go Go.Proofs
section
variable {P:Program}
theorem zdp (s:String):zC P (Extern.RuntimeError.text s):=trivial
instance (s:String):SOk P (Extern.RuntimeError.text s):=⟨zdp s⟩
instance {α:Type} (a:α):SOk P (pure a:Sem α):=⟨trivial⟩
theorem zhQ (a:Array Value):zC P (Extern.RuntimeError.nothing a):=trivial
theorem zi9 (a:Array Value):zC P (Extern.RuntimeError.boundsError a):=by
 have hs:∀ x,zC P (stuck x:Sem Value):=fun x=>SOk.ok;rcases a with ⟨_ | ⟨v,_ | ⟨w,l⟩⟩⟩
 ·exact hs _
 ·cases v <;> try exact hs _
  rename_i xs;rcases xs with ⟨_ | ⟨v1,_ | ⟨v2,_ | ⟨v3,_ | ⟨v4,_ | ⟨v5,l⟩⟩⟩⟩⟩⟩ <;> try exact hs _
  ·cases v1 <;> try exact hs _
   cases v2 <;> try exact hs _
   cases v3 <;> try exact hs _
   cases v4 <;> try exact hs _
   show zC P (match (_:Option String) with | some fmt=>Extern.RuntimeError.text _ | none=>stuck _);split
   ·exact zdp _
   ·exact hs _
 ·cases v <;> exact hs _
theorem zaQ {α:Type} (s:Sem α) (h:zC P s:=by repeat' (first | assumption | exact SOk.ok | exact zap _ | (refine zf ?_ (fun _=>?_)) | split | (intro _) | with_reducible exact trivial)):zC P s:=h
theorem zfv (v:Value):zC P (Extern.RuntimeError.described v):=by
 unfold Extern.RuntimeError.described
 repeat' (first | assumption | exact SOk.ok | exact zap _ | (refine zf ?_ (fun _=>?_)) | split | (intro _) | with_reducible exact trivial)
instance (v:Value):SOk P (Extern.RuntimeError.described v):=⟨zfv v⟩
theorem zhR (v:TypeInfo):zC P (Extern.RuntimeError.pkgpathOf v):=by
 unfold Extern.RuntimeError.pkgpathOf;exact zaQ _
instance (v:TypeInfo):SOk P (Extern.RuntimeError.pkgpathOf v):=⟨zhR v⟩
theorem zjb (a:Array Value):zC P (Extern.RuntimeError.unhashableTypeError a):=by
 have hs:∀ x,zC P (stuck x:Sem Value):=fun x=>SOk.ok;rcases a with ⟨_ | ⟨v,_ | ⟨w,l⟩⟩⟩
 ·exact hs _
 ·cases v <;> try exact hs _
  rename_i xs;rcases xs with ⟨_ | ⟨t,_ | ⟨v2,l⟩⟩⟩
  ·exact hs _
  ·show zC P (Extern.RuntimeError.described t >>= _);exact zaQ _
  ·exact hs _
 ·cases v <;> exact hs _
theorem zi7 (a:Array Value):zC P (Extern.RuntimeError.typeAssertionError a):=by
 unfold Extern.RuntimeError.typeAssertionError;exact zaQ _
theorem yP {l:List (String×(Array Value->Sem Value))} (h:∀ x∈l,∀ a,zC P (x.2 a)) {k:String} {e:Array Value->Sem Value} (he:l.lookup k=some e) (a:Array Value):zC P (e a):=by
 induction l with
 | nil=>cases he
 | cons x l ih =>
  obtain ⟨n,f⟩:=x;rw [List.lookup_cons] at he;split at he
  ·cases he; exact h _ List.mem_cons_self a
  ·exact ih (fun x hx=>h x (lL _ hx)) he
theorem yO:∀ x∈Extern.RuntimeError.rows,∀ a,zC P (x.2 a):=by
 intro x hx a;unfold Extern.RuntimeError.rows at hx;simp only [lI,List.not_mem_nil,or_false] at hx;rcases hx with rfl | rfl | rfl | rfl | rfl | rfl | rfl | rfl | rfl | rfl | rfl | rfl | rfl | rfl | rfl;all_goals
  dsimp only;first
  | exact zhQ a
  | exact zi9 a
  | exact zi7 a
  | exact zjb a
  | exact zdp _
  | exact zaQ _
theorem zlN {e:Array Value->Sem Value} (he:(Extern.ReflectliteType.rows.getLast?).map (·.2)=some e) (a:Array Value):zC P (e a):=by
 unfold Extern.ReflectliteType.rows at he;simp only [List.getLast?_cons_cons,List.getLast?_singleton,Option.map_some,Option.some.injEq] at he;subst he;exact zaQ _
end
theorem nx0:Extern.findNext Tryz.f0=none:=Option.isNone_iff_eq_none.1 (by kernel_rfl)
theorem fd0:Extern.find Tryz.f0=none:=Option.isNone_iff_eq_none.1 (by kernel_rfl)
theorem nx1:Extern.findNext Tryz.f1=none:=Option.isNone_iff_eq_none.1 (by kernel_rfl)
theorem fd1:Extern.find Tryz.f1=none:=Option.isNone_iff_eq_none.1 (by kernel_rfl)
theorem nx244:Extern.findNext Tryz.f244=none:=Option.isNone_iff_eq_none.1 (by kernel_rfl)
theorem fd244:Extern.find Tryz.f244=Extern.RuntimeError.rows.lookup Tryz.f244.name:=by kernel_rfl
theorem nx245:Extern.findNext Tryz.f245=none:=Option.isNone_iff_eq_none.1 (by kernel_rfl)
theorem fd245:Extern.find Tryz.f245=Extern.RuntimeError.rows.lookup Tryz.f245.name:=by kernel_rfl
theorem nx246:Extern.findNext Tryz.f246=none:=Option.isNone_iff_eq_none.1 (by kernel_rfl)
theorem fd246:Extern.find Tryz.f246=Extern.RuntimeError.rows.lookup Tryz.f246.name:=by kernel_rfl
theorem nx247:Extern.findNext Tryz.f247=none:=Option.isNone_iff_eq_none.1 (by kernel_rfl)
theorem fd247:Extern.find Tryz.f247=Extern.RuntimeError.rows.lookup Tryz.f247.name:=by kernel_rfl
theorem nx248:Extern.findNext Tryz.f248=none:=Option.isNone_iff_eq_none.1 (by kernel_rfl)
theorem fd248:Extern.find Tryz.f248=Extern.RuntimeError.rows.lookup Tryz.f248.name:=by kernel_rfl
theorem nx249:Extern.findNext Tryz.f249=none:=Option.isNone_iff_eq_none.1 (by kernel_rfl)
theorem fd249:Extern.find Tryz.f249=Extern.RuntimeError.rows.lookup Tryz.f249.name:=by kernel_rfl
theorem nx250:Extern.findNext Tryz.f250=none:=Option.isNone_iff_eq_none.1 (by kernel_rfl)
theorem fd250:Extern.find Tryz.f250=Extern.RuntimeError.rows.lookup Tryz.f250.name:=by kernel_rfl
theorem nx251:Extern.findNext Tryz.f251=none:=Option.isNone_iff_eq_none.1 (by kernel_rfl)
theorem fd251:Extern.find Tryz.f251=Extern.RuntimeError.rows.lookup Tryz.f251.name:=by kernel_rfl
theorem nx252:Extern.findNext Tryz.f252=none:=Option.isNone_iff_eq_none.1 (by kernel_rfl)
theorem fd252:Extern.find Tryz.f252=Extern.RuntimeError.rows.lookup Tryz.f252.name:=by kernel_rfl
theorem nx253:Extern.findNext Tryz.f253=none:=Option.isNone_iff_eq_none.1 (by kernel_rfl)
theorem fd253:Extern.find Tryz.f253=Extern.RuntimeError.rows.lookup Tryz.f253.name:=by kernel_rfl
theorem nx254:Extern.findNext Tryz.f254=none:=Option.isNone_iff_eq_none.1 (by kernel_rfl)
theorem fd254:Extern.find Tryz.f254=Extern.RuntimeError.rows.lookup Tryz.f254.name:=by kernel_rfl
theorem nx255:Extern.findNext Tryz.f255=none:=Option.isNone_iff_eq_none.1 (by kernel_rfl)
theorem fd255:Extern.find Tryz.f255=Extern.RuntimeError.rows.lookup Tryz.f255.name:=by kernel_rfl
theorem nx256:Extern.findNext Tryz.f256=none:=Option.isNone_iff_eq_none.1 (by kernel_rfl)
theorem fd256:Extern.find Tryz.f256=none:=Option.isNone_iff_eq_none.1 (by kernel_rfl)
theorem nx257:Extern.findNext Tryz.f257=none:=Option.isNone_iff_eq_none.1 (by kernel_rfl)
theorem fd257:Extern.find Tryz.f257=Extern.RuntimeError.rows.lookup Tryz.f257.name:=by kernel_rfl
theorem nx258:Extern.findNext Tryz.f258=none:=Option.isNone_iff_eq_none.1 (by kernel_rfl)
theorem fd258:Extern.find Tryz.f258=Extern.RuntimeError.rows.lookup Tryz.f258.name:=by kernel_rfl
theorem nx259:Extern.findNext Tryz.f259=none:=Option.isNone_iff_eq_none.1 (by kernel_rfl)
theorem fd259:Extern.find Tryz.f259=none:=Option.isNone_iff_eq_none.1 (by kernel_rfl)
theorem nx260:Extern.findNext Tryz.f260=none:=Option.isNone_iff_eq_none.1 (by kernel_rfl)
theorem fd260:Extern.find Tryz.f260=none:=Option.isNone_iff_eq_none.1 (by kernel_rfl)
theorem nx261:Extern.findNext Tryz.f261=none:=Option.isNone_iff_eq_none.1 (by kernel_rfl)
theorem fd261:Extern.find Tryz.f261=none:=Option.isNone_iff_eq_none.1 (by kernel_rfl)
theorem nx263:Extern.findNext Tryz.f263=none:=Option.isNone_iff_eq_none.1 (by kernel_rfl)
theorem fd263:Extern.find Tryz.f263=(Extern.ReflectliteType.rows.getLast?).map (·.2):=by kernel_rfl
theorem nx319:Extern.findNext Tryz.f319=none:=Option.isNone_iff_eq_none.1 (by kernel_rfl)
theorem fd319:Extern.find Tryz.f319=none:=Option.isNone_iff_eq_none.1 (by kernel_rfl)
theorem nx320:Extern.findNext Tryz.f320=none:=Option.isNone_iff_eq_none.1 (by kernel_rfl)
theorem fd320:Extern.find Tryz.f320=none:=Option.isNone_iff_eq_none.1 (by kernel_rfl)
theorem nx321:Extern.findNext Tryz.f321=none:=Option.isNone_iff_eq_none.1 (by kernel_rfl)
theorem fd321:Extern.find Tryz.f321=none:=Option.isNone_iff_eq_none.1 (by kernel_rfl)
theorem nx322:Extern.findNext Tryz.f322=none:=Option.isNone_iff_eq_none.1 (by kernel_rfl)
theorem fd322:Extern.find Tryz.f322=none:=Option.isNone_iff_eq_none.1 (by kernel_rfl)
theorem nx323:Extern.findNext Tryz.f323=none:=Option.isNone_iff_eq_none.1 (by kernel_rfl)
theorem fd323:Extern.find Tryz.f323=none:=Option.isNone_iff_eq_none.1 (by kernel_rfl)
theorem nx324:Extern.findNext Tryz.f324=none:=Option.isNone_iff_eq_none.1 (by kernel_rfl)
theorem fd324:Extern.find Tryz.f324=none:=Option.isNone_iff_eq_none.1 (by kernel_rfl)
theorem nx325:Extern.findNext Tryz.f325=none:=Option.isNone_iff_eq_none.1 (by kernel_rfl)
theorem fd325:Extern.find Tryz.f325=none:=Option.isNone_iff_eq_none.1 (by kernel_rfl)
theorem nx326:Extern.findNext Tryz.f326=none:=Option.isNone_iff_eq_none.1 (by kernel_rfl)
theorem fd326:Extern.find Tryz.f326=none:=Option.isNone_iff_eq_none.1 (by kernel_rfl)
theorem nx327:Extern.findNext Tryz.f327=none:=Option.isNone_iff_eq_none.1 (by kernel_rfl)
theorem fd327:Extern.find Tryz.f327=none:=Option.isNone_iff_eq_none.1 (by kernel_rfl)
theorem nx328:Extern.findNext Tryz.f328=none:=Option.isNone_iff_eq_none.1 (by kernel_rfl)
theorem fd328:Extern.find Tryz.f328=none:=Option.isNone_iff_eq_none.1 (by kernel_rfl)
theorem tameN:(tp.funcs.all fun fn => !(fn.name == "runtime.NumGoroutine"))=true:=by kernel_rfl
theorem tameB:((List.range tp.funcs.size).all fun i=>[0,1,244,245,246,247,248,249,250,251,252,253,254,255,256,257,258,259,260,261,263,319,320,321,322,323,324,325,326,327,328].elem i||((tp.funcs[i]?).map (·.body.isSome)).getD false)=true:=by kernel_rfl
theorem tame:Tame tp:=fun f fn hf=>by
 refine ⟨by simpa using Array.all_eq_true_iff_forall_mem.1 tameN fn (Array.mem_of_getElem? hf),fun hb=>?_⟩;have hlt:=(Array.getElem?_eq_some_iff.1 hf).1;have h:=List.all_eq_true.1 tameB f (List.mem_range.2 hlt);rw [hf,Option.map_some,Option.getD_some] at h;rw [Option.isNone_iff_eq_none] at hb;rw [hb] at h;simp only [Option.isSome_none,Bool.or_false,List.elem_eq_mem,decide_eq_true_eq,lI,List.not_mem_nil,or_false] at h;rcases h with rfl | rfl | rfl | rfl | rfl | rfl | rfl | rfl | rfl | rfl | rfl | rfl | rfl | rfl | rfl | rfl | rfl | rfl | rfl | rfl | rfl | rfl | rfl | rfl | rfl | rfl | rfl | rfl | rfl | rfl | rfl
 ·obtain rfl:fn=Tryz.f0:=(Option.some.inj (Tryz.func0.symm.trans hf)).symm;exact ⟨nx0,fun e he=>by rw [fd0] at he; cases he⟩
 ·obtain rfl:fn=Tryz.f1:=(Option.some.inj (Tryz.func1.symm.trans hf)).symm;exact ⟨nx1,fun e he=>by rw [fd1] at he; cases he⟩
 ·obtain rfl:fn=Tryz.f244:=(Option.some.inj (Tryz.func244.symm.trans hf)).symm;exact ⟨nx244,fun e he args=>by rw [fd244] at he; exact yP yO he args⟩
 ·obtain rfl:fn=Tryz.f245:=(Option.some.inj (Tryz.func245.symm.trans hf)).symm;exact ⟨nx245,fun e he args=>by rw [fd245] at he; exact yP yO he args⟩
 ·obtain rfl:fn=Tryz.f246:=(Option.some.inj (Tryz.func246.symm.trans hf)).symm;exact ⟨nx246,fun e he args=>by rw [fd246] at he; exact yP yO he args⟩
 ·obtain rfl:fn=Tryz.f247:=(Option.some.inj (Tryz.func247.symm.trans hf)).symm;exact ⟨nx247,fun e he args=>by rw [fd247] at he; exact yP yO he args⟩
 ·obtain rfl:fn=Tryz.f248:=(Option.some.inj (Tryz.func248.symm.trans hf)).symm;exact ⟨nx248,fun e he args=>by rw [fd248] at he; exact yP yO he args⟩
 ·obtain rfl:fn=Tryz.f249:=(Option.some.inj (Tryz.func249.symm.trans hf)).symm;exact ⟨nx249,fun e he args=>by rw [fd249] at he; exact yP yO he args⟩
 ·obtain rfl:fn=Tryz.f250:=(Option.some.inj (Tryz.func250.symm.trans hf)).symm;exact ⟨nx250,fun e he args=>by rw [fd250] at he; exact yP yO he args⟩
 ·obtain rfl:fn=Tryz.f251:=(Option.some.inj (Tryz.func251.symm.trans hf)).symm;exact ⟨nx251,fun e he args=>by rw [fd251] at he; exact yP yO he args⟩
 ·obtain rfl:fn=Tryz.f252:=(Option.some.inj (Tryz.func252.symm.trans hf)).symm;exact ⟨nx252,fun e he args=>by rw [fd252] at he; exact yP yO he args⟩
 ·obtain rfl:fn=Tryz.f253:=(Option.some.inj (Tryz.func253.symm.trans hf)).symm;exact ⟨nx253,fun e he args=>by rw [fd253] at he; exact yP yO he args⟩
 ·obtain rfl:fn=Tryz.f254:=(Option.some.inj (Tryz.func254.symm.trans hf)).symm;exact ⟨nx254,fun e he args=>by rw [fd254] at he; exact yP yO he args⟩
 ·obtain rfl:fn=Tryz.f255:=(Option.some.inj (Tryz.func255.symm.trans hf)).symm;exact ⟨nx255,fun e he args=>by rw [fd255] at he; exact yP yO he args⟩
 ·obtain rfl:fn=Tryz.f256:=(Option.some.inj (Tryz.func256.symm.trans hf)).symm;exact ⟨nx256,fun e he=>by rw [fd256] at he; cases he⟩
 ·obtain rfl:fn=Tryz.f257:=(Option.some.inj (Tryz.func257.symm.trans hf)).symm;exact ⟨nx257,fun e he args=>by rw [fd257] at he; exact yP yO he args⟩
 ·obtain rfl:fn=Tryz.f258:=(Option.some.inj (Tryz.func258.symm.trans hf)).symm;exact ⟨nx258,fun e he args=>by rw [fd258] at he; exact yP yO he args⟩
 ·obtain rfl:fn=Tryz.f259:=(Option.some.inj (Tryz.func259.symm.trans hf)).symm;exact ⟨nx259,fun e he=>by rw [fd259] at he; cases he⟩
 ·obtain rfl:fn=Tryz.f260:=(Option.some.inj (Tryz.func260.symm.trans hf)).symm;exact ⟨nx260,fun e he=>by rw [fd260] at he; cases he⟩
 ·obtain rfl:fn=Tryz.f261:=(Option.some.inj (Tryz.func261.symm.trans hf)).symm;exact ⟨nx261,fun e he=>by rw [fd261] at he; cases he⟩
 ·obtain rfl:fn=Tryz.f263:=(Option.some.inj (Tryz.func263.symm.trans hf)).symm;exact ⟨nx263,fun e he args=>by rw [fd263] at he; exact zlN he args⟩
 ·obtain rfl:fn=Tryz.f319:=(Option.some.inj (Tryz.func319.symm.trans hf)).symm;exact ⟨nx319,fun e he=>by rw [fd319] at he; cases he⟩
 ·obtain rfl:fn=Tryz.f320:=(Option.some.inj (Tryz.func320.symm.trans hf)).symm;exact ⟨nx320,fun e he=>by rw [fd320] at he; cases he⟩
 ·obtain rfl:fn=Tryz.f321:=(Option.some.inj (Tryz.func321.symm.trans hf)).symm;exact ⟨nx321,fun e he=>by rw [fd321] at he; cases he⟩
 ·obtain rfl:fn=Tryz.f322:=(Option.some.inj (Tryz.func322.symm.trans hf)).symm;exact ⟨nx322,fun e he=>by rw [fd322] at he; cases he⟩
 ·obtain rfl:fn=Tryz.f323:=(Option.some.inj (Tryz.func323.symm.trans hf)).symm;exact ⟨nx323,fun e he=>by rw [fd323] at he; cases he⟩
 ·obtain rfl:fn=Tryz.f324:=(Option.some.inj (Tryz.func324.symm.trans hf)).symm;exact ⟨nx324,fun e he=>by rw [fd324] at he; cases he⟩
 ·obtain rfl:fn=Tryz.f325:=(Option.some.inj (Tryz.func325.symm.trans hf)).symm;exact ⟨nx325,fun e he=>by rw [fd325] at he; cases he⟩
 ·obtain rfl:fn=Tryz.f326:=(Option.some.inj (Tryz.func326.symm.trans hf)).symm;exact ⟨nx326,fun e he=>by rw [fd326] at he; cases he⟩
 ·obtain rfl:fn=Tryz.f327:=(Option.some.inj (Tryz.func327.symm.trans hf)).symm;exact ⟨nx327,fun e he=>by rw [fd327] at he; cases he⟩
 ·obtain rfl:fn=Tryz.f328:=(Option.some.inj (Tryz.func328.symm.trans hf)).symm;exact ⟨nx328,fun e he=>by rw [fd328] at he; cases he⟩
end Go.Vel
namespace Go.Vel
open Go Go.Conc Go.Proofs Go.ChangeShapes Go.WideShapes Go.ChangeAt Go.RowKit
theorem vu {φ:Nat->Loc3} {n f:Nat}:RelV φ n (.fn f [] []) (.func (.func f) #[] #[]):=.fn rfl (fun j a y h=>by simp at h) rfl (fun j a y h=>by simp at h)
theorem zg2 {W:World} {φ:Nat->Loc3} {n g f1 f2 f3:Nat} {e:TypeId} (h:∃ cur e fz,W.heap[g]? =some (.cells cur e fz)/\cur[0]? =some (.func (.func f1) #[] #[])/\cur[1]? =some (.func (.func f2) #[] #[])/\cur[2]? =some (.func (.func f3) #[] #[])):RelO φ n ⟨g,0,0⟩ (holdAll W) (.cells [.fn f1 [] [],.fn f2 [] [],.fn f3 [] []] e false):=by
 intro _;obtain ⟨cur,e',fz,hh,h0,h1,h2⟩:=h;refine ⟨false,cur,(e',fz),vi hh,(fun h=>by cases h),fun j a ha=>?_⟩
 match j,ha with
 | 0,ha=>cases ha; exact ⟨_,h0,vu⟩
 | 1,ha=>cases ha; exact ⟨_,h1,vu⟩
 | 2,ha=>cases ha; exact ⟨_,h2,vu⟩
 | j+3,ha=>simp at ha
def KeptAll (W w:World):Prop:=∀ i,i<W.heap.size->w.heap[i]? =W.heap[i]?
theorem own:ownKnob tp.godebug=none:=by kernel_rfl
theorem zkC {W w:World} (ho:w.os=W.os) (hu:w.output=W.output) (hk:KeptAll W w) (may:MemPlace->Prop):W.keptBut w may:=by
 refine ⟨ho,hu,fun i hi=>?_⟩;rw [hk i hi];cases W.heap[i]? with
 | none=>rfl
 | some o=>cases o <;> simp
theorem zl9 {W w:World} (hk:KeptAll W w) {p:MemPlace} (hp:p.block<W.heap.size):W.sameAt w p:=by
 have:=hk p.block hp;cases p with
 | cell b o=>exact World.cell?_of_block (w:=W) this
 | map b=>exact this
theorem okAgg {P:Program} {W:World} {base:Nat} {t:TypeId} {fs:Array Field} {v:Value} (ht:P.underlying t=some (.struct fs)) (h:Value.okWide P W .any base t v):∃ cs,v=.agg cs:=by
 unfold Value.okWide at h;rw [ht] at h;obtain ⟨cs,h1,_⟩:=h;exact ⟨cs,h1⟩
theorem kZ:laidOutB tp=true:=by kernel_rfl
theorem we {H:Type} {enc:TypeId×Value->H} {W w:World} {t:TypeId} {v:Value} {d:DataW H} {p:List MemPlace} (hl:laidOutB Tryz.prog=true) (h:DataW.Trod enc Tryz.prog W 0 (fun _=>true) true t v d p) (hk:KeptAll W w) (hr:Tryz.prog.readableRec t=true:=by kernel_rfl) (hrow:decide (t<Tryz.prog.types.size)=true:=by kernel_rfl):DataW.Trod enc Tryz.prog w 0 (fun b=>decide (b<W.heap.size)) true t v d p:=by
 have hlt:∀ x∈p,x.block<W.heap.size:=by obtain ⟨n,hn⟩:=h; exact DataW.trod_lt n t _ _ hn
 exact WideElems.Trod_stays hl hr (of_decide_eq_true hrow) h (fun x hx=>zl9 hk (hlt x hx)) (fun x hx=>by simpa using hlt x hx)
theorem u8_wf {k:Int} (h:(Lit.int IntKind.u8 k).wf=true):0<=k/\k<256:=by
 simp only [Lit.wf,mX,decide_eq_true_eq] at h;have h1:IntKind.u8.min=0:=by decide
 have h2:IntKind.u8.max=255:=by decide
 omega
theorem zlo (Lk:Looks) {p:Pinned} {s:OpenSpec} {c:OpenClaim} (kinds:List LaidKind) (tests:Bool) (har:Bool×String) (lk:Bool)
  (hc:c.holds p s) (hw:c.wfByText s=true)
  (htie:c.laidByTextAt Lk p kinds tests)
  (hst:c.start=.entering) (hnb:c.noBlocks=false/\c.again=false) (hm:p.checked.prog.mainIs=some (har.1,har.2.toList)) (hn:(!har.1&&har.2.isEmpty && !lk)=false)
  (hl:∀ f fn,p.checked.prog.funcNamed c.func=some f->p.checked.prog.funcs[f]? =some fn->lk=p.checked.prog.looks []/\∀ (j:Nat) t,fn.params[j]? =some t->p.checked.prog.wantsStandIn t=false)
  (hg:true=c.goesBy p.checked.prog) :
  Claim7.holds p (.plain s) { stood:={ row:=c,standIns:=[],harness:=har,looks:=lk },kinds:=[],alts:=[],goes:=true,laidByText:=true,laidKinds:=kinds,laidTests:=tests,laidLooks:=Lk }:=by
 have h6:∀ r:OpenClaim,Claim7.isSixth { stood:={ row:=r,standIns:=[],harness:=har,looks:=lk },kinds:=[] }=false:=fun r=>by simpa [Claim7.isSixth] using hn
 exact ⟨Claim7.tied_new_at Lk kinds tests (Claim7.new_of_sixth hc har lk hst hnb hm (h6 c) hl) hw,(fun D hD=>by cases hD),htie,(fun h=>by cases h),hg⟩
end Go.Vel
namespace Go.Vel
open Go Go.Conc Go.Proofs
theorem not_f {a:Bool} (h:(!a)=true):a=false:=by cases a <;> simp_all
theorem not_t {a:Bool} (h:(!a)=false):a=true:=by cases a <;> simp_all
theorem zg7 (c:UInt8):IntKind.i64.wrap (c.toNat:Int)=(c.toNat:Int):=kr (by have:=c.toNat_lt; omega)
theorem kA {ob:AObj} {p n c:Nat} {l:List AV} {v:AV} (h:z6 ob p n=some l) (hc:c<n) (hl:l[c]? =some v):z6 ob (p+c) 1=some [v]:=by
 unfold z6 at h ⊢;cases hk:ob.look with
 | none=>rw [hk] at h; cases h
 | some q =>
  rw [hk] at h;dsimp only at h ⊢;split at h
  ·rename_i hb;cases h;rw [if_pos ⟨by omega,oQ⟩];rw [List.getElem?_take,if_pos hc,List.getElem?_drop] at hl;obtain ⟨h1,h2⟩:=lD.1 hl;rw [List.take_one,List.head?_drop,hl];rfl
  ·cases h
def insideM (a z lo hi:Int):Bool:=(decide (lo<=a)&&decide (a<=z))&&decide (z<=hi)
theorem vL (b:Bk):numbersM b=bif !(decide (4<=b.steps)&&decide (b.steps<=16))||(!(decide (0<=b.wrong)&&decide (b.wrong<=3)) || !insideM b.low b.high 0 3) then 1 else 0:=by
 unfold numbersM insideM;congr 3;have e1:decide (b.low<0) = !decide (0<=b.low):=by by_cases h:0<=b.low <;> simp [h] <;> omega
 have e2:decide (b.low>b.high) = !decide (b.low<=b.high):=by by_cases h:b.low<=b.high <;> simp [h] <;> omega
 have e3:decide (b.high>3) = !decide (b.high<=3):=by by_cases h:b.high<=3 <;> simp [h] <;> omega
 rw [e1,e2,e3];cases decide (0<=b.low) <;> cases decide (b.low<=b.high) <;> cases decide (b.high<=3) <;> rfl
theorem zaB {b:Bk} (h:numbersM b=1):checkM b=1:=by unfold checkM; rw [h]; rfl
theorem kT {b:Bk} {c:Int} (h:numbersM b=0) (h2:heardM b=c) (hc:c≠0):checkM b=c:=by
 unfold checkM; rw [h,if_neg dQ,h2,if_pos (by simpa using hc)]
theorem vX {b:Bk} (h:numbersM b=0) (h2:heardM b=0):checkM b=lookedM b:=by
 unfold checkM; rw [h,if_neg dQ,h2,if_neg dQ]
theorem zfN {n:Int}:(decide (n<0)||decide (n>2)) = !(decide (0<=n)&&decide (n<=2)):=by
 by_cases h1:n<0 <;> by_cases h2:n>2 <;> simp [h1,h2] <;> omega
theorem vD {α:Type} {xs:List α} {p:α->Bool} {i:Nat} {x:α} (h:xs[i]? =some x) (hn:(xs.take i).any p=false) (he:p x=false):(xs.take (i+1)).any p=false:=by
 rw [List.take_add_one,h,List.any_append,hn]; simp [he]
theorem zmv {α:Type} {xs:List α} {p:α->Bool} {i n:Nat} {x:α} (h:xs[i]? =some x) (hi:i<n) (he:p x=true):(xs.take n).any p=true:=by
 rw [List.any_eq_true];refine ⟨x,lN (i:=i) ?_,he⟩;rw [List.getElem?_take,if_pos hi,h]
theorem zin {i:Nat} {c:Int} (h:(!(decide (97<=c)&&decide (c<=122)))=false):byteOk i c=true:=by
 unfold byteOk;rw [show (decide (97<=c)&&decide (c<=122))=true by simpa using h]; rfl
theorem zeQ {i:Nat} {c:Int} (h:(!(decide (97<=c)&&decide (c<=122)))=true) (h2:((i:Int)==0)=true):byteOk i c=false:=by
 unfold byteOk;rw [show (decide (97<=c)&&decide (c<=122))=false from not_f h,show (i:Int)=0 by simpa using h2]; rfl
theorem zbm {i:Nat} {c:Int} (h:(!(decide (97<=c)&&decide (c<=122)))=true) (h2:((i:Int)==0)=false):byteOk i c=(decide (48<=c)&&decide (c<=57)):=by
 unfold byteOk;rw [show (decide (97<=c)&&decide (c<=122))=false from not_f h,show decide ((i:Int)>0)=true by have:(i:Int)≠0:=(by simpa using h2); simp; omega]; rfl
theorem zmn (s:ByteArray) (i:Nat):s[i]? =s.data[i]? :=by
 first | rfl | (simp [ByteArray.getElem?_eq,Array.getElem?_eq] <;> rfl) | (by_cases h:i<s.size <;> simp [getElem?_pos,getElem?_neg,h] <;> rfl)
theorem yi {main T} (hT:zk tp main T) {gm} {n lo hi:Int} :
  zh tp T gm 12 [intA n,intA lo,intA hi] [] (fun r K'=>r=zl (decide (lo<=n)&&decide (n<=hi))/\K'=[]):=by
 refine ze 15 hT Tryz.func12 fun Y hret=>?_;refine au 1711423542 ?_;refine bF 10 (fun g1_4=>?_) (fun g1_4=>?_)
 ·refine au 35260711 ?_;refine TK.rta hret ?_;exact ⟨by simp [zl,g1_4],rfl⟩
 refine au 35250888 ?_;refine TK.rta hret ?_;exact ⟨by simp [zl,g1_4],rfl⟩
theorem zd3 {main T} (hT:zk tp main T) {gm} {a z lo hi:Int} :
  zh tp T gm 92 [.agg [intA a,intA z],intA lo,intA hi] [] (fun r K'=>r=zl (insideM a z lo hi)/\K'=[]):=by
 refine ze 24 hT Tryz.func92 fun Y hret=>?_;refine au 21042 ?_;intro j1 hj1;refine au 1769067014235 ?_;refine bF 11 (fun g1_5=>?_) (fun g1_5=>?_)
 ·refine au 12607690670690670 ?_;refine bF 18 (fun g1_12=>?_) (fun g1_12=>?_)
  ·refine au 3526071690670 ?_;refine bB hret [] ?_;exact ⟨by simp [insideM,zl,g1_5,g1_12],rfl⟩
  refine au 352508888 ?_;refine bB hret [] ?_;exact ⟨by simp [insideM,zl,g1_5,g1_12],rfl⟩
 refine au 352508888125088888 ?_;refine bB hret [] ?_;exact ⟨by simp [insideM,zl,g1_5],rfl⟩
theorem zhE {main T} (hT:zk tp main T) {gm} {s:ByteArray} (hl:s.size<=1000) :
  zh tp T gm 93 [.v (.string s)] [] (fun r K'=>r=zl (isNameM s)/\K'=[]):=by
 refine ze 31 hT Tryz.func93 fun Y hret=>?_;refine au 130354223542 ?_;refine bA [0,3] ?_;refine bE (fun n env K=>∃ (i:Nat),n=s.size - i/\i<=s.size/\bytesOk s i=true/\env=zK 31 [(0,.v (.string s)),(3,intA i)]/\K=[]) s.size ⟨0,rfl,mN _,rfl,rfl,rfl⟩ fun n env K hI hnext=>?_;obtain ⟨i,rfl,hi,hok,rfl,rfl⟩:=hI;refine au 93729011422 ?_;refine ⟨fun hc=>?_,fun hc=>?_⟩
 ·simp only [decide_eq_true_eq] at hc;have hil:i<s.data.size:=by have:s.data.size=s.size:=rfl; omega
  obtain ⟨cb,hcb⟩:∃ cb,s.data[i]? =some cb:=⟨_,Array.getElem?_eq_getElem hil⟩;have hcs:s[((i:Int)).toNat]? =some cb:=by rw [mZ]; exact (zmn s i).trans hcb
  refine au 11421302120 ?_;refine bH Z (zcO Z Z Z Und.h oQ (by exact hcs)) ?_;refine bH Z (wa Z Z Und.h Und.h (zg7 _)) ?_;refine bD Z Z Z Z (yi hT) ?_;rintro r1 K2 ⟨rfl,rfl⟩;refine au 1300 ?_;refine bF 16 (fun g4_7=>?_) (fun g4_7=>?_)
  ·refine au 171 ?_;refine bF 19 (fun g4_10=>?_) (fun g4_10=>?_)
   ·refine au 35421803260260888888 ?_;refine bB hret [] ?_;exact ⟨by unfold isNameM; rw [km (n:=s.size) hcb hil (zeQ g4_7 g4_10)]; rfl,rfl⟩
   refine au 11 ?_;refine bH Z (zcO Z Z Z Und.h oQ (by exact hcs)) ?_;refine bH Z (wa Z Z Und.h Und.h (zg7 _)) ?_;refine bD Z Z Z Z (yi hT) ?_;rintro r4 K5 ⟨rfl,rfl⟩;refine au 93260250300 ?_;constructor<;>intro hc1
   ·refine au 3542 ?_;refine bB hret [] ?_;exact ⟨by unfold isNameM; rw [km (n:=s.size) hcb hil (by exact (zbm g4_7 g4_10).trans (not_f hc1))]; rfl,rfl⟩
   refine au 3523014140120 ?_;refine bA [0,3] ?_;exact hnext _ _ _ oQ ⟨i+1,rfl,oQ,by rw [kX hcb,hok,zbm g4_7 g4_10,not_t hc1]; rfl,rfl,rfl⟩
  refine au 352301414012019032508888888888 ?_;refine bA [0,3] ?_;exact hnext _ _ _ oQ ⟨i+1,rfl,oQ,by rw [kX hcb,hok,zin g4_7]; rfl,rfl,rfl⟩
 simp only [decide_eq_false_iff_not] at hc;obtain rfl:i=s.size:=by omega
 refine au 290142160 ?_;refine bD Z Z Z Z (yi hT) ?_;rintro r7 K8 ⟨rfl,rfl⟩;refine au 35 ?_;refine bB hret [] ?_;exact ⟨by unfold isNameM; rw [hok]; rfl,rfl⟩
theorem u9 {main T} (hT:zk tp main T) {gm} {b:Bk} {s e:Nat} {n:Int} (hs:0<=b.steps/\b.steps<=16) :
  zh tp T gm 94 [.agg (zx b s e),intA n] [] (fun r K'=>r=zl (zF b n)/\K'=[]):=by
 refine ze 10 hT Tryz.func94 fun Y hret=>?_;refine au 21042 ?_;intro j1 hj1;refine au 24069067014235 ?_;refine bD Z Z Z Z (yi hT) ?_;rintro r2 K3 ⟨rfl,rfl⟩;refine au 35 ?_;refine bB hret [] ?_;exact ⟨rfl,rfl⟩
theorem zaz {main T} (hT:zk tp main T) {gm} {b:Bk} {s e:Nat} (hse:s≠e) (hn:∀ x∈b.seekers,x.name.size<=1000) (hl:b.seen.length<=1000) (hl2:b.seekers.length<=1000) :
  zh tp T gm 29 [.agg (zx b s e)] [(s,zo b),(e,zp b)] (fun r K'=>r=intA (checkM b)/\K'=[(s,zo b),(e,zp b)]):=by
 refine ze 93 hT Tryz.func29 fun Y hret=>?_;refine au 21042 ?_;intro jb hjb;refine au 69067042235 ?_;refine bD Z Z Z Z (yi hT) ?_;rintro r1 K2 ⟨rfl,rfl⟩;refine au 1300 ?_;refine bF 11 (fun g1_5=>?_) (fun g1_5=>?_)
 ·refine au 35421803260888812608888 ?_;refine bB hret [(s,_),(e,_)] ?_;exact ⟨by rw [zaB (b:=b) (by rw [vL]; simp only [*,Bool.true_or,Bool.or_true,cond_true])]; rfl,rfl⟩
 refine au 690670 ?_;refine bD Z Z Z Z (yi hT) ?_;rintro r4 K5 ⟨rfl,rfl⟩;refine au 1250300 ?_;refine bF 17 (fun g1_11=>?_) (fun g1_11=>?_)
 ·refine au 354218032608888 ?_;refine bB hret [(s,_),(e,_)] ?_;exact ⟨by rw [zaB (b:=b) (by rw [vL]; simp only [*,Bool.true_or,Bool.or_true,cond_true])]; rfl,rfl⟩
 refine au 680670 ?_;refine bD Z Z Z Z (zd3 hT) ?_;rintro r7 K8 ⟨rfl,rfl⟩;refine au 93250300 ?_;constructor<;>intro hc0
 ·refine au 3542 ?_;refine bB hret [(s,_),(e,_)] ?_;exact ⟨by rw [zaB (b:=b) (by rw [vL]; simp only [*,Bool.true_or,Bool.or_true,cond_true])]; rfl,rfl⟩
 have hnum:numbersM b=0:=by rw [vL]; simp only [*]; rfl
 have hs:=kv (b:=b) (by rw [hnum]; rfl);refine au 280690670422120 ?_;refine bH Z (q_cmp Z Z Z Z) ?_;refine au 93 ?_;constructor<;>intro hc1
 ·have hc1:b.seekers.length>5:=by have:=of_decide_eq_true hc1; omega
  refine au 3542 ?_;refine bB hret [(s,_),(e,_)] ?_;exact ⟨by rw [kT hnum (c:=2) (if_pos hc1) dQ]; rfl,rfl⟩
 have hc1:¬ b.seekers.length>5:=by have:=of_decide_eq_false hc1; omega
 refine au 13035422120 ?_;refine bA [1,3] ?_;refine bE (fun n env K=>∃ (i:Nat),n=b.seekers.length - i/\i<=b.seekers.length/\heardL b i=0/\env=zK 93 [(1,.ptr jb 0),(3,intA i)]/\K=[(jb,.cells (zx b s e) 27 true),(s,zo b),(e,zp b)]) b.seekers.length ⟨0,rfl,mN _,rfl,rfl,rfl⟩ fun n env K hI hnext=>?_;obtain ⟨i,rfl,hi,h0,rfl,rfl⟩:=hI;refine au 9372806906701422 ?_;refine ⟨fun hc=>?_,fun hc=>?_⟩
 ·simp only [decide_eq_true_eq] at hc;have hil:i<b.seekers.length:=by omega
  obtain ⟨x,hx⟩:∃ x,b.seekers[i]? =some x:=⟨_,lA hil⟩;have hxm:=lN hx;refine au 3601690670421302120 ?_;refine bH Z (zN Z Z zd.h mQ (says_at' b hx)) ?_;refine au 220 ?_;intro jx hjx;refine au 6906704223170 ?_;refine bD Z Z Z Z (zhE hT (hn x hxm)) ?_;rintro r10 K11 ⟨rfl,rfl⟩;refine au 93300 ?_;refine ⟨fun hnm=>?_,fun hnm=>?_⟩
  ·refine au 3542 ?_;refine bB hret [(s,_),(e,_)] ?_;exact ⟨by rw [kT hnum (c:=4) (by unfold heardM; rw [if_neg hc1]; exact yV h0 (c:=4) (by unfold heard1; rw [hx]; dsimp only; rw [if_pos hnm]) dQ hil) dQ]; rfl,rfl⟩
  refine au 13035422120 ?_;refine bA [1,3,4,5] ?_;refine bE (fun n env K=>∃ (k:Nat),n=i - k/\k<=i/\((b.seekers.take k).any fun o=>o.name.toList==x.name.toList)=false/\env=zK 93 [(1,.ptr jb 0),(3,intA i),(4,.ptr jx 0),(5,intA k)]/\K=[(jx,.cells (saysC x) 114 true),(jb,.cells (zx b s e) 27 true),(s,zo b),(e,zp b)]) i ⟨0,rfl,mN _,rfl,rfl,rfl⟩ fun n env K hI hnext2=>?_;obtain ⟨k,rfl,hk,hany,rfl,rfl⟩:=hI;refine au 93711422 ?_;constructor<;>intro hc4
  ·simp only [decide_eq_true_eq] at hc4;have hki:k<i:=by omega
   obtain ⟨y,hy⟩:∃ y,b.seekers[k]? =some y:=⟨_,lA oQ⟩;refine au 21302120 ?_;refine bL [0,1,2,3,4,5,6,7,8] ?_;refine ad [[3,1],[10,48],[1,5],[2,49,50],[3,51]] ?_;refine bT [52] Z (hq:=zm Z Z zd.h (mC _) (kA (says_at' b hy) dQ Z)) (h:=?_);refine ad [[3,4],[10,54]] ?_;refine TD.z [53,55] Z (zjj Z Z Z Z) ?_;refine ad [[14]] ?_;refine au 9 ?_;constructor<;>intro hc5
   ·have hdup:((b.seekers.take i).any fun o=>o.name.toList==x.name.toList)=true:=zmv hy hki hc5;refine au 3542 ?_;refine bB hret [(s,_),(e,_)] ?_;exact ⟨by rw [kT hnum (c:=5) (by unfold heardM; rw [if_neg hc1]; exact yV h0 (c:=5) (by unfold heard1; rw [hx]; dsimp only; rw [if_neg (by rw [hnm]; decide),if_pos hdup]) dQ hil) dQ]; rfl,rfl⟩
   refine au 3523014140120 ?_;refine bA [1,3,4,5] ?_;refine bC [(jx,_),(jb,_),(s,_),(e,_)] ?_;exact hnext2 _ _ _ oQ ⟨k+1,rfl,oQ,vD hy hany hc5,rfl,rfl⟩
  simp only [decide_eq_false_iff_not] at hc4;obtain rfl:i=k:=by omega
  refine au 690670680422160 ?_;refine bD Z Z Z Z (u9 hT (b:=b) (s:=s) (e:=e) oQ) ?_;rintro r13 K14 ⟨rfl,rfl⟩;refine au 1300 ?_;refine bF 62 (fun g16_6=>?_) (fun g16_6=>?_)
  ·refine au 3542180326088888 ?_;refine bB hret [(s,_),(e,_)] ?_;exact ⟨by rw [kT hnum (c:=6) (by unfold heardM; rw [if_neg hc1]; exact yV h0 (c:=6) (by unfold heard1; rw [hx]; dsimp only; rw [if_neg (by rw [hnm]; decide),if_neg (by rw [hany]; decide),if_pos (by rw [show (!zF b x.frm)=true from g16_6]; rfl)]) dQ hil) dQ]; rfl,rfl⟩
  refine au 690670680 ?_;refine bD Z Z Z Z (u9 hT (b:=b) (s:=s) (e:=e) oQ) ?_;rintro r16 K17 ⟨rfl,rfl⟩;refine au 93250300 ?_;constructor<;>intro hc6
  ·refine au 3542 ?_;refine bB hret [(s,_),(e,_)] ?_;exact ⟨by rw [kT hnum (c:=6) (by unfold heardM; rw [if_neg hc1]; exact yV h0 (c:=6) (by unfold heard1; rw [hx]; dsimp only; rw [if_neg (by rw [hnm]; decide),if_neg (by rw [hany]; decide),if_pos (by rw [show (!zF b x.til)=true from hc6,Bool.or_true])]) dQ hil) dQ]; rfl,rfl⟩
  have hst2:(!zF b x.frm || !zF b x.til)=false:=by rw [hc6,g16_6]; rfl
  refine au 69067042120 ?_;refine bD Z Z Z Z (yi hT) ?_;rintro r19 K20 ⟨rfl,rfl⟩;refine au 93300 ?_;constructor<;>intro hc7
  ·refine au 3542 ?_;refine bB hret [(s,_),(e,_)] ?_;exact ⟨by rw [kT hnum (c:=1) (by unfold heardM; rw [if_neg hc1]; exact yV h0 (c:=1) (by unfold heard1; rw [hx]; dsimp only; rw [if_neg (by rw [hnm]; decide),if_neg (by rw [hany]; decide),if_neg (by rw [hst2]; decide),zfN,if_pos hc7]) dQ hil) dQ]; rfl,rfl⟩
  refine au 3523014140120 ?_;refine bA [1,3] ?_;refine bC [(jb,_),(s,_),(e,_)] ?_;exact hnext _ _ _ oQ ⟨i+1,rfl,oQ,by unfold heardL; rw [if_pos h0]; unfold heard1; rw [hx]; dsimp only; rw [if_neg (by rw [hnm]; decide),if_neg (by rw [hany]; decide),if_neg (by rw [hst2]; decide),zfN,if_neg (by rw [hc7]; decide)],rfl,rfl⟩
 simp only [decide_eq_false_iff_not] at hc;obtain rfl:i=b.seekers.length:=by omega
 have hheard:heardM b=0:=by unfold heardM; rw [if_neg hc1,h0]
 refine au 937280690670422160 ?_;constructor<;>intro hc8
 ·have hc8:b.seen.length>4:=by have:=of_decide_eq_true hc8; omega
  refine au 3542 ?_;refine bB hret [(s,_),(e,_)] ?_;exact ⟨by rw [vX hnum hheard]; unfold lookedM; rw [if_pos hc8]; rfl,rfl⟩
 have hc8:¬ b.seen.length>4:=by have:=of_decide_eq_false hc8; omega
 refine au 13035422120 ?_;refine bA [1,6] ?_;refine bE (fun n env K=>∃ (k:Nat),n=b.seen.length - k/\k<=b.seen.length/\((b.seen.take k).any fun x => !zF b x.step)=false/\env=zK 93 [(1,.ptr jb 0),(6,intA k)]/\K=[(jb,.cells (zx b s e) 27 true),(s,zo b),(e,zp b)]) b.seen.length ⟨0,rfl,mN _,rfl,rfl,rfl⟩ fun n env K hI hnext3=>?_;obtain ⟨k,rfl,hk,hany2,rfl,rfl⟩:=hI;refine au 9372806906701422 ?_;constructor<;>intro hc9
 ·simp only [decide_eq_true_eq] at hc9;obtain ⟨z,hz⟩:∃ z,b.seen[k]? =some z:=⟨_,lA oQ⟩;have hzt:=zdv b k oQ;rw [(lD.1 hz).2] at hzt;refine au 21302120 ?_;refine bL [0,1,2,3,4,5,6,7,8] ?_;refine ad [[12,1],[3,1],[10,85],[1,6],[2,86,87],[3,88]] ?_;refine bT [89] Z (hq:=zm Z Z zd.h (mC _) (kA hzt dQ Z)) (h:=?_);refine bQ (pend':=[⟨5,[88],[]⟩,⟨4,[86,87],[]⟩,⟨3,[6],[]⟩,⟨2,[85],[(_,_)]⟩,⟨1,[1],[]⟩]) [84,90] Z Z Z Z Z (u9 hT (b:=b) (s:=s) (e:=e) oQ) (fun r22 K23 h24=>⟨?_,?_⟩)
  ·rcases h24 with ⟨rfl,rfl⟩
   all_goals simp
  obtain ⟨rfl,rfl⟩:=h24;try simp only [cA]
  refine bS tQ ?_;refine TD.z [91] Z (q_not Z Z) ?_;refine ad [[14]] ?_;refine au 9 ?_;constructor<;>intro hc10
  ·refine au 3542 ?_;refine bB hret [(s,_),(e,_)] ?_;exact ⟨by rw [vX hnum hheard]; unfold lookedM; rw [if_neg hc8,if_pos (List.any_eq_true.2 ⟨z,lN hz,hc10⟩)]; rfl,rfl⟩
  refine au 3523014140120 ?_;refine bA [1,6] ?_;refine bC [(jb,_),(s,_),(e,_)] ?_;exact hnext3 _ _ _ oQ ⟨k+1,rfl,oQ,vD hz hany2 hc10,rfl,rfl⟩
 simp only [decide_eq_false_iff_not] at hc9;obtain rfl:k=b.seen.length:=by omega
 refine au 3542160 ?_;refine bB hret [(s,_),(e,_)] ?_;exact ⟨by rw [vX hnum hheard]; unfold lookedM; rw [if_neg hc8,if_neg (by rw [lW] at hany2; rw [hany2]; decide)]; rfl,rfl⟩
theorem zgW {ob:AObj} {off:Nat} {xs:List Int} (hI:IntsAt ob off xs) {i:Nat} (hi:i<xs.length) (h0:0<i):z6 ob (off+((i:Int) - 1).toNat*1) 1=some [intA xs[i - 1]]:=by
 have h:=hI (i - 1) oQ;rw [show ((i - 1:Nat):Int).toNat=((i:Int) - 1).toNat by omega] at h;exact h
theorem zlu {b:Bk} {xs:List Int} {i:Nat} {x:Int} (hx:xs[i]? =some x) (h:(!zF b x)=true):barH b xs i=6:=by unfold barH; rw [hx]; dsimp only; rw [if_pos h]
theorem zil {b:Bk} {xs:List Int} {i:Nat} {x:Int} (hx:xs[i]? =some x) (h:(!zF b x)=false) (h1:decide ((i:Int)>0)=true) (h2:decide (x<=(xs[i - 1]?).getD 0)=true):barH b xs i=7:=by
 unfold barH; rw [hx]; dsimp only; rw [if_neg (by rw [h]; decide),if_pos (by rw [h1,h2]; rfl)]
theorem zj4 {b:Bk} {xs:List Int} {i:Nat} {x:Int} (hx:xs[i]? =some x) (h:(!zF b x)=false) (h1:decide ((i:Int)>0)=true) (h2:decide (x<=(xs[i - 1]?).getD 0)=false):barH b xs i=0:=by
 unfold barH; rw [hx]; dsimp only; rw [if_neg (by rw [h]; decide),if_neg (by rw [h1,h2]; decide)]
theorem zik {b:Bk} {xs:List Int} {i:Nat} {x:Int} (hx:xs[i]? =some x) (h:(!zF b x)=false) (h1:decide ((i:Int)>0)=false):barH b xs i=0:=by
 unfold barH; rw [hx]; dsimp only; rw [if_neg (by rw [h]; decide),if_neg (by rw [h1]; simp)]
theorem zdK {b:Bk} {xs:List Int} {i:Nat} (h0:firstNZ (barH b xs) i=0) (h:barH b xs i=0):firstNZ (barH b xs) (i+1)=0:=by unfold firstNZ; rw [if_pos h0,h]
theorem zjS {xs ys:List Int} {i:Nat} (h:i<xs.length) (h2:i<ys.length) (ht:xs.take i=ys.take i) (he:xs[i]=ys[i]):xs.take (i+1)=ys.take (i+1):=by
 rw [List.take_add_one,List.take_add_one,lA h,lA h2,ht,he]
def stateSim (b:Bk) (xs:List Int):Bool×Int:=if checkM b≠0 then (false,checkM b) else if handedM b xs≠0 then (false,handedM b xs) else (canM b xs,0)
theorem zir {main T} (hT:zk tp main T) {gm} {b:Bk} {s e j off:Nat} {ob:AObj} {xs:List Int} (hs:0<=b.steps/\b.steps<=16) (hI:IntsAt ob off xs) (hlx:xs.length<=1000)  :
  zh tp T gm 198 [.sl j off xs.length,intA b.steps] [(j,ob)] (fun r K'=>r=intA (firstNZ (barH b xs) xs.length)/\K'=[(j,ob)]):=by
 refine ze 34 hT Tryz.func198 fun Y hret=>?_;refine au 130354223542 ?_;refine bA [0,1,5] ?_;refine bE (fun n env K=>∃ (i:Nat),n=xs.length - i/\i<=xs.length/\firstNZ (barH b xs) i=0/\env=zK 34 [(0,.sl j off xs.length),(1,intA b.steps),(5,intA i)]/\K=[(j,ob)]) xs.length ⟨0,rfl,mN _,rfl,rfl,rfl⟩ fun n env K hI' hnext=>?_;obtain ⟨i,rfl,hi,h0,rfl,rfl⟩:=hI';refine au 93728011422 ?_;refine ⟨fun hc=>?_,fun hc=>?_⟩
 ·simp only [decide_eq_true_eq] at hc;have hil:i<xs.length:=by omega
  have hx:=lA hil;refine au 360114221302120 ?_;refine bH Z (zm Z Z zd.h mQ (hI i hil)) ?_;refine au 2401 ?_;refine bD Z Z Z Z (yi hT) ?_;rintro r1 K2 ⟨rfl,rfl⟩;refine au 93300 ?_;constructor<;>intro hc1
  ·refine au 3542 ?_;refine bB hret [(j,_)] ?_;exact ⟨by rw [wR h0 (zlu hx hc1) dQ hil]; rfl,rfl⟩
  refine au 2120 ?_;refine bL [0,1,2,3,4,5,6,7,8,9,10,11,12,13] ?_;refine ad [[1,5],[4,20],[1,21]] ?_;refine TD.sp 22 (fun g6_3=>?_) (fun g6_3=>?_)
  ·have hgi:0<i:=by have:=of_decide_eq_true g6_3; omega
   refine ad [[1,0,22],[1,5,22],[2,22,23,24]] ?_;refine bT [22,25] Z (hq:=zm Z Z zd.h (mC _) (hI i hil)) (h:=?_);refine ad [[1,0,22],[1,5,22],[9,22,28],[2,22,27,29]] ?_;refine bT [22,30] Z (hq:=zm Z Z zd.h (mC _) (zgW hI hil hgi)) (h:=?_);refine ad [[4,22,26,31],[7,22,32],[14]] ?_;refine au 9 ?_;constructor<;>intro hc2
   ·refine au 3542 ?_;refine bB hret [(j,_)] ?_;exact ⟨by rw [wR h0 (zil hx hc1 g6_3 (by rw [stepPrev (show i - 1<xs.length by omega)]; exact hc2)) dQ hil]; rfl,rfl⟩
   refine au 3523014140120 ?_;refine bA [0,1,5] ?_;exact hnext _ _ _ oQ ⟨i+1,rfl,oQ,zdK h0 (zj4 hx hc1 g6_3 (by rw [stepPrev (show i - 1<xs.length by omega)]; exact hc2)),rfl,rfl⟩
  refine ad [[11,0,22],[11,5,22],[11,22,23,24],[11,22,25],[11,0,22],[11,5,22],[11,22,28],[11,22,27,29],[11,22,30],[11,22,26,31],[6,22,32],[14]] ?_;refine au 3523014140120190 ?_;refine bA [0,1,5] ?_;exact hnext _ _ _ oQ ⟨i+1,rfl,oQ,zdK h0 (zik hx hc1 g6_3),rfl,rfl⟩
 simp only [decide_eq_false_iff_not] at hc;obtain rfl:i=xs.length:=by omega
 refine au 3542160 ?_;refine bB hret [(j,_)] ?_;exact ⟨by rw [h0]; rfl,rfl⟩
theorem uZ {main T} (hT:zk tp main T) {gm} {j off:Nat} {ob:AObj} {xs:List Int} {v:Int} (hI:IntsAt ob off xs) (hlx:xs.length<=1000)  :
  zh tp T gm 80 [.sl j off xs.length,intA v] [(j,ob)] (fun r K'=>r=zl (decide (v∈xs))/\K'=[(j,ob)]):=by
 refine ze 18 hT Tryz.func80 fun Y hret=>?_;refine au 130354223542 ?_;refine bA [0,1,5] ?_;refine bE (fun n env K=>∃ (i:Nat),n=xs.length - i/\i<=xs.length/\v∉xs.take i/\env=zK 18 [(0,.sl j off xs.length),(1,intA v),(5,intA i)]/\K=[(j,ob)]) xs.length ⟨0,rfl,mN _,by simp,rfl,rfl⟩ fun n env K hI' hnext=>?_;obtain ⟨i,rfl,hi,hn,rfl,rfl⟩:=hI';refine au 93728011422 ?_;refine ⟨fun hc=>?_,fun hc=>?_⟩
 ·simp only [decide_eq_true_eq] at hc;have hil:i<xs.length:=by omega
  refine au 36011421302120 ?_;refine bH Z (zm Z Z zd.h mQ (hI i hil)) ?_;refine au 9371 ?_;constructor<;>intro hc1
  ·refine au 3542 ?_;refine bB hret [(j,_)] ?_;exact ⟨by rw [decide_eq_true (show v∈xs by have h:xs[i]=v:=(by simpa using hc1); rw [<- h]; exact List.getElem_mem hil)]; rfl,rfl⟩
  refine au 3523014140120 ?_;refine bA [0,1,5] ?_;exact hnext _ _ _ oQ ⟨i+1,rfl,oQ,zav hil hn (fun h=>by rw [h] at hc1; simp at hc1),rfl,rfl⟩
 simp only [decide_eq_false_iff_not] at hc;obtain rfl:i=xs.length:=by omega
 refine au 3542160 ?_;refine bB hret [(j,_)] ?_;exact ⟨by rw [decide_eq_false (by rwa [lW] at hn)]; rfl,rfl⟩
theorem zgs {main T} (hT:zk tp main T) {gm} {j off j2 off2:Nat} {ob ob2:AObj} {xs ys:List Int} (hjj:j≠j2) (hI:IntsAt ob off xs) (hI2:IntsAt ob2 off2 ys) (hlx:xs.length<=100000) :
  zh tp T gm 109 [.sl j off xs.length,.sl j2 off2 ys.length] [(j,ob),(j2,ob2)] (fun r K'=>r=zl (decide (xs=ys))/\K'=[(j,ob),(j2,ob2)]):=by
 refine ze 26 hT Tryz.func109 fun Y hret=>?_;refine au 937280128014223542 ?_;constructor<;>intro hc0
 ·refine au 3542 ?_;refine bB hret [(j,_),(j2,_)] ?_;exact ⟨by rw [decide_eq_false (fun h=>by rw [h] at hc0; simp at hc0)]; rfl,rfl⟩
 have hlen:xs.length=ys.length:=by have h:(xs.length:Int)=ys.length:=(by simpa using hc0); omega
 refine au 13035422120 ?_;refine bA [0,1,5] ?_;refine bE (fun n env K=>∃ (i:Nat),n=xs.length - i/\i<=xs.length/\xs.take i=ys.take i/\env=zK 26 [(0,.sl j off xs.length),(1,.sl j2 off2 ys.length),(5,intA i)]/\K=[(j,ob),(j2,ob2)]) xs.length ⟨0,rfl,mN _,rfl,rfl,rfl⟩ fun n env K hI' hnext=>?_;obtain ⟨i,rfl,hi,hn,rfl,rfl⟩:=hI';refine au 93728011422 ?_;refine ⟨fun hc=>?_,fun hc=>?_⟩
 ·simp only [decide_eq_true_eq] at hc;have hil:i<xs.length:=by omega
  refine au 21302120 ?_;refine bL [0,1,2,3,4,5,6,7,8] ?_;refine ad [[1,0],[1,5],[2,17,18]] ?_;refine bT [19] Z (hq:=zm Z Z zd.h (mC _) (hI i hil)) (h:=?_);refine ad [[1,1],[1,5],[2,21,22]] ?_;refine bT [23] Z (hq:=zm Z Z zd.h (mC _) (hI2 i oQ)) (h:=?_);refine ad [[4,20,24],[14]] ?_;refine au 9 ?_;constructor<;>intro hc2
  ·refine au 3542 ?_;refine bB hret [(j,_),(j2,_)] ?_;exact ⟨by rw [decide_eq_false (fun h=>by subst h; simp at hc2)]; rfl,rfl⟩
  refine au 3523014140120 ?_;refine bA [0,1,5] ?_;exact hnext _ _ _ oQ ⟨i+1,rfl,oQ,zjS hil oQ hn (by simpa using hc2),rfl,rfl⟩
 simp only [decide_eq_false_iff_not] at hc;obtain rfl:i=xs.length:=by omega
 refine au 3542160 ?_;refine bB hret [(j,_),(j2,_)] ?_;exact ⟨by rw [decide_eq_true (by rwa [lW,hlen,lW] at hn)]; rfl,rfl⟩
theorem zaN {b:Bk}:∀ (rest S T:List Int),T.Sublist rest->T≠[]->((S++T).length:Int)<=b.high->seenM b (S++T)=true->S++T∈loopM b S rest
 | [],S,T,hs,hne,_,_=>absurd (List.sublist_nil.1 hs) hne
 | n::rest,S,T,hs,hne,hl,hsn=>by
  have hlt:(S.length:Int)<b.high:=by
   have:0<T.length:=List.length_pos_iff.2 hne;rw [lF] at hl;omega
  unfold loopM;rw [if_pos hlt];cases hs with
  | cons _ h=>exact lT.2 (.inr (zaN rest S T h hne hl hsn))
  | cons_cons _ h =>
   rename_i T';refine lT.2 (.inl ?_);rw [show S++n::T'=(S++[n])++T' by simp] at hl hsn ⊢;by_cases h0:T'=[]
   ·subst h0;rw [lR] at hl hsn ⊢;refine lT.2 (.inl ?_);unfold ownM;rw [if_pos hsn];exact lS.2 rfl
   ·exact lT.2 (.inr (zaN rest (S++[n]) T' h h0 hl hsn))
theorem zce {b:Bk}:∀ (m i:Nat) (xs:List Int),b.steps.toNat - i=m->xs.Pairwise (· < ·)->(∀ x∈xs,(i:Int)<=x/\x<b.steps)->xs.Sublist (restM b i)
 | _,_,[],_,_,_=>List.nil_sublist _
 | 0,i,x::xs,hm,_,hb=>by have:=hb x sQ; omega
 | m+1,i,x::xs,hm,hp,hb=>by
  rw [zcQ oQ];have h2:=List.pairwise_cons.1 hp;by_cases hx:x=i
  ·subst hx;refine .cons_cons _ (zce m (i+1) xs oQ h2.2 fun y hy=>?_);have:=h2.1 y hy;have:=hb y (by simp [hy]);omega
  ·refine .cons _ (zce m (i+1) (x::xs) oQ hp fun y hy=>?_);have h3:=hb x sQ;have h4:=hb y hy;rcases lI.1 hy with rfl | hy
   ·omega
   ·have:=h2.1 y hy; omega
def objsL (P:List (Nat×List Int)):KV:=P.map fun x=>(x.1,.cells (x.2.map intA) 3 false)
def refsL (P:List (Nat×List Int)):List AV:=P.map fun x=>.sl x.1 0 x.2.length
theorem zi4 (P:List (Nat×List Int)) (x:Nat×List Int):objsL (P++[x])=objsL P++[(x.1,.cells (x.2.map intA) 3 false)]:=by simp [objsL]
theorem zjs (P:List (Nat×List Int)) (x:Nat×List Int):refsL (P++[x])=refsL P++[.sl x.1 0 x.2.length]:=by simp [refsL]
theorem wE {P:List (Nat×List Int)} {x:Nat×List Int} (h:x∈P):(x.1,AObj.cells (x.2.map intA) 3 false)∈objsL P:=lY.2 ⟨x,h,rfl⟩
theorem zaT {P:List (Nat×List Int)} {k:Nat} (h:k<P.length) {e:TypeId} {sz:Nat}:z6 (.row (refsL P) e sz) k 1=some [.sl P[k].1 0 P[k].2.length]:=by
 simp only [z6,AObj.look];rw [if_pos (by simp [refsL]; omega)];simp [List.take_one,refsL,h]
abbrev Gs:=Nat×List Int×Int
def objsG (P:List Gs):KV:=P.map fun x=>(x.1,.cells (x.2.1.map intA) 3 false)
def refsG (P:List Gs):List AV:=P.flatMap fun x=>[.sl x.1 0 x.2.1.length,intA x.2.2]
theorem zi3 (P:List Gs) (x:Gs):objsG (P++[x])=objsG P++[(x.1,.cells (x.2.1.map intA) 3 false)]:=by simp [objsG]
theorem zjr (P:List Gs) (x:Gs):refsG (P++[x])=refsG P++[.sl x.1 0 x.2.1.length,intA x.2.2]:=by simp [refsG]
theorem wD {P:List Gs} {x:Gs} (h:x∈P):(x.1,AObj.cells (x.2.1.map intA) 3 false)∈objsG P:=lY.2 ⟨x,h,rfl⟩
theorem zek (P:List Gs):(refsG P).length=P.length*2:=yx _ 2 (fun _=>rfl) P
theorem zah {P:List Gs} {k:Nat} (h:k<P.length) {e:TypeId} {sz:Nat}:z6 (.row (refsG P) e sz) (k*2) 2=some [.sl P[k].1 0 P[k].2.1.length,intA P[k].2.2]:=by
 have hle:(k+1)*2<=P.length*2:=Nat.mul_le_mul_right _ h;have hl:=zek P;simp only [z6,AObj.look];rw [if_pos ⟨by omega,oQ⟩];unfold refsG;rw [kE _ 2 (fun _=>rfl) _ _ h]
theorem uW {α β:Type} (f:α->β) (lt:β->β->Bool) (o:α) (xs:List α):f (zQ (fun a c=>lt (f a) (f c)) o xs)=zQ lt (f o) (xs.map f):=by
 induction xs generalizing o with
 | nil=>rfl
 | cons x xs ih =>
  show f (zQ _ (if lt (f x) (f o)=true then x else o) xs)=zQ lt (if lt (f x) (f o)=true then f x else f o) (xs.map f);rw [ih];split <;> rfl
def bitsM (n bits:Nat):List Int:=((List.range n).filter (bitB bits)).map fun k:Nat=>(k:Int)
theorem zgH {n bits:Nat} (h:bitB bits n=true):bitsM (n+1) bits=bitsM n bits++[(n:Int)]:=by
 unfold bitsM; rw [List.range_succ,List.filter_append]; simp [h]
theorem zgG {n bits:Nat} (h:bitB bits n=false):bitsM (n+1) bits=bitsM n bits:=by
 unfold bitsM; rw [List.range_succ,List.filter_append]; simp [h]
theorem zdL (n bits:Nat):(bitsM n bits).length<=n:=by
 unfold bitsM; rw [lJ]; exact mT (List.length_filter_le _ _) sQ
def oddM (b:Bk) (k:Nat):List (List Int):=((List.range k).filter fun bits => !togM b bits).map (bitsM b.seekers.length)
theorem zmS {b:Bk} {k:Nat} (h:togM b k=true):oddM b (k+1)=oddM b k:=by
 unfold oddM; rw [List.range_succ,List.filter_append]; simp [h]
theorem zi5 {b:Bk} {k:Nat} (h:togM b k=false):oddM b (k+1)=oddM b k++[bitsM b.seekers.length k]:=by
 unfold oddM; rw [List.range_succ,List.filter_append]; simp [h]
theorem zkP (b:Bk) (k:Nat):(oddM b k).length<=k:=by
 unfold oddM; rw [lJ]; exact mT (List.length_filter_le _ _) sQ
theorem zkO {b:Bk} {k:Nat}:∀ L∈oddM b k,L.length<=b.seekers.length:=fun L hL=>by
 obtain ⟨q,_,rfl⟩:=lY.1 hL;exact zdL _ _
def everyM (b:Bk):Nat:=2 ^ b.seekers.length - 1
def clashM (b:Bk):List Int:=zQ ltLists ((oddM b (everyM b+1)).headD []) ((oddM b (everyM b+1)).drop 1)
def guessM (b:Bk) (pre:List (List Int)):List (List Int×Int):=(pre.filter fun S => !badM b S b.seekers.length).map fun S=>(S,wrongM b S)
theorem zku {b:Bk} {pre:List (List Int)} {S:List Int} (h:badM b S b.seekers.length=false):guessM b (pre++[S])=guessM b pre++[(S,wrongM b S)]:=by
 unfold guessM; rw [List.filter_append]; simp [h]
theorem zkt {b:Bk} {pre:List (List Int)} {S:List Int} (h:badM b S b.seekers.length=true):guessM b (pre++[S])=guessM b pre:=by
 unfold guessM; rw [List.filter_append]; simp [h]
def likelyM (b:Bk):List Int×Int:=zQ ltGuess ((guessM b (allM b)).headD ([],0)) ((guessM b (allM b)).drop 1)
theorem zeW {main:Bool} {T:Goroutine->Hp->Prop} (hT:zk tp main T)  {b:Bk} {s e:Nat} (hse:s≠e) (hn:∀ x∈b.seekers,x.name.size<=1000) (hl:b.seen.length<=1000) :
  zh tp T gmS 44 [.agg (zx b s e)] [(0,zr),(1,zz),(s,zo b),(e,zp b)] (fun r K'=>(checkM b≠0/\r=.tup [.v (.slice none 0 0),intA (checkM b)]/\K'=[(0,zr),(1,zz),(s,zo b),(e,zp b)])\/(checkM b=0/\togM b (everyM b)=true/\r=.tup [.v (.slice none 0 0),intA 0]/\K'=[(0,zr),(1,zz),(s,zo b),(e,zp b)])\/(checkM b=0/\togM b (everyM b)=false/\∃ j,r=.tup [.sl j 0 (clashM b).length,intA 0]/\K'=[(0,zr),(1,zz),(s,zo b),(e,zp b),(j,.cells ((clashM b).map intA) 3 false)])):=by
 refine ze 60 hT Tryz.func44 fun Y hret=>?_;refine au 21042 ?_;intro jb hjb;refine au 680422355 ?_;refine bD Z Z Z Z (kN hT (b:=b) (s:=s) (e:=e) hn hl) ?_;rintro r1 K2 ⟨rfl,rfl⟩;refine au 93714235 ?_;constructor<;>intro hc0
 ·refine au 355142 ?_;refine bB hret [(0,_),(1,_),(s,_),(e,_)] ?_;exact .inl ⟨by simpa using hc0,rfl,rfl⟩
 have hck:checkM b=0:=by simpa using hc0
 have hb:=yy hck;have hn5:=hb.ns;have hp32:2 ^ b.seekers.length<=32:=mT (Nat.pow_le_pow_right oQ hn5) dQ;have hp1:1<=2 ^ b.seekers.length:=Nat.one_le_two_pow;have hev:(((2 ^ b.seekers.length:Nat):Int) - 1)=((everyM b:Nat):Int):=by unfold everyM; omega
 have hel:everyM b<=31:=by unfold everyM; omega
 refine au 28069067042120 ?_;refine bH Z (zm1 Z Z Z oQ) ?_;refine bH Z (q_sub Z Z Z (by rw [hev]; omega)) ?_;rw [hev];refine au 143068042235 ?_;refine bD Z Z Z Z (zbJ hT (bits:=everyM b) hse hb oQ) ?_;rintro r4 K5 ⟨rfl,rfl⟩;refine au 93 ?_;constructor<;>intro hc1
 ·refine au 35542 ?_;refine bB hret [(0,_),(1,_),(s,_),(e,_)] ?_;exact .inr (.inl ⟨hck,hc1,rfl,rfl⟩)
 refine au 542120 ?_;refine TK.virt 6 61 1 Z fun jo0 hjo0=>?_;refine au 1303123014223 ?_;refine bA [1,6,25,26] ?_;refine bC [(jo0,_),(jb,_),(0,_),(1,_),(s,_),(e,_)] ?_;refine bE (fun n env K=>∃ (i jo:Nat) (P:List (Nat×List Int)),n=everyM b+1 - i/\i<=everyM b+1/\P.map (·.2)=oddM b i/\env=zK 60 [(1,.ptr jb 0),(6,.row jo P.length),(25,intA (everyM b+1)),(26,intA i)]/\K=(jo,.row (refsL P) 61 1)::(jb,.cells (zx b s e) 27 true)::(0,zr)::(1,zz)::(s,zo b)::(e,zp b)::objsL P) (everyM b+1) ⟨0,jo0,[],rfl,mN _,rfl,rfl,rfl⟩ fun n env K hI' hnext=>?_;obtain ⟨i,jo,P,rfl,hi,hP,rfl,rfl⟩:=hI';have hPl:P.length<=i:=by have:=zkP b i; rw [<- hP,lJ] at this; exact this
 refine au 923742 ?_;constructor<;>intro hc2
 ·simp only [decide_eq_true_eq] at hc2;have hil:i<everyM b+1:=by omega
  refine au 1430680422351421302120 ?_;refine bD Z Z Z Z (zbJ hT (bits:=i) hse hb oQ) ?_;rintro r7 K8 ⟨rfl,rfl⟩;refine au 93 ?_;constructor<;>intro hc3
  ·refine au 160 ?_;refine au 312304 ?_;refine bA [1,6,25,26] ?_;refine bC (((jo,_)::(jb,_)::(0,_)::(1,_)::(s,_)::(e,_)::objsL P)) ?_;exact hnext _ _ _ oQ ⟨i+1,jo,P,rfl,oQ,by rw [zmS hc3]; exact hP,rfl,rfl⟩
  refine au 542120 ?_;refine TK.virt 8 3 1 Z fun j80 hj80=>?_;refine au 130312806906704223 ?_;refine bA [1,6,7,8,25,26,35,36] ?_;refine bC ((j80,_)::(jo,_)::(jb,_)::(0,_)::(1,_)::(s,_)::(e,_)::objsL P) ?_;refine bE (fun n env K=>∃ (q j8:Nat),n=b.seekers.length - q/\q<=b.seekers.length/\env=zK 60 [(1,.ptr jb 0),(6,.row jo P.length),(7,intA i),(8,.row j8 (bitsM q i).length),(25,intA (everyM b+1)),(26,intA i),(35,intA b.seekers.length),(36,intA q)]/\K=(j8,.row ((bitsM q i).map intA) 3 1)::(jo,.row (refsL P) 61 1)::(jb,.cells (zx b s e) 27 true)::(0,zr)::(1,zz)::(s,zo b)::(e,zp b)::objsL P) b.seekers.length ⟨0,j80,rfl,mN _,rfl,rfl⟩ fun n env K hI' hnext2=>?_;obtain ⟨q,j8,rfl,hq,rfl,rfl⟩:=hI';have hql2:=zdL q i;refine au 923742 ?_;constructor<;>intro hc4
  ·simp only [decide_eq_true_eq] at hc4;have hql:q<b.seekers.length:=by omega
   refine au 1142351421302120 ?_;refine bH Z (zjn Z Z Z oQ) ?_;refine bH Z (zji Z Z Z (by have:=Nat.div_le_self i (2 ^ q); omega)) ?_;refine au 937 ?_;constructor<;>intro hc5
   ·have hc5:bitB i q=true:=hc5;refine au 114 ?_;refine bI Z Z Z (zD (l:=[_]) Z zT.h TyZ.h dQ dQ Z) (fun _=>zt rfl tQ) fun j10 hj10=>?_;refine bO Z Z Z (a_app Z ApOf.h Z mQ (by simp <;> omega) Z (yG (ln:=[_]) mQ dQ sQ Z) oQ Z (by unfold maxLen; omega) oQ) (fun _=>uQ) (fun _=>zt rfl tQ) fun j82=>?_;refine au 31230414035 ?_;refine bA [1,6,7,8,25,26,35,36] ?_;refine bC (((j82,_)::(jo,_)::(jb,_)::(0,_)::(1,_)::(s,_)::(e,_)::objsL P)) ?_;exact hnext2 _ _ _ oQ ⟨q+1,j82,rfl,oQ,by rw [zgH hc5,lF]; rfl,by rw [zgH hc5,lM]; rfl⟩
   have hc5:bitB i q=false:=hc5;refine au 312304140120 ?_;refine bA [1,6,7,8,25,26,35,36] ?_;refine bC (((j8,_)::(jo,_)::(jb,_)::(0,_)::(1,_)::(s,_)::(e,_)::objsL P)) ?_;exact hnext2 _ _ _ oQ ⟨q+1,j8,rfl,oQ,by rw [zgG hc5] <;> rfl,by rw [zgG hc5] <;> rfl⟩
  simp only [decide_eq_false_iff_not] at hc4;obtain rfl:q=b.seekers.length:=by omega
  refine au 160 ?_;refine TK.freezeR 8 Z uQ Z ?_;refine au 114 ?_;refine bI Z Z Z (zD (l:=[_]) Z zT.h TyZ.h dQ dQ Z) (fun _=>zt rfl tQ) fun j19 hj19=>?_;refine bO Z Z Z (a_app Z ApOf.h Z mQ (by simp [refsL]) Z (yG (ln:=[_]) mQ dQ sQ Z) oQ Z (by unfold maxLen; omega) oQ) (fun _=>uQ) (fun _=>zt rfl tQ) fun jo2=>?_;refine au 14035 ?_;refine au 312304 ?_;refine bA [1,6,25,26] ?_;refine bC (((j8,_)::(jo2,_)::(jb,_)::(0,_)::(1,_)::(s,_)::(e,_)::objsL P)) ?_;refine bN (K':=(jo2,.row (refsL (P++[(j8,bitsM b.seekers.length i)])) 61 1)::(jb,.cells (zx b s e) 27 true)::(0,zr)::(1,zz)::(s,zo b)::(e,zp b)::objsL (P++[(j8,bitsM b.seekers.length i)])) (by rw [zi4,zjs]; exact (List.perm_append_singleton _ ((jo2,_)::(jb,_)::(0,_)::(1,_)::(s,_)::(e,_)::objsL P)).symm) ?_;exact hnext _ _ _ oQ ⟨i+1,jo2,P++[(j8,bitsM b.seekers.length i)],rfl,oQ,by rw [zi5 hc3,lM,hP]; rfl,by rw [lF]; rfl,rfl⟩
 simp only [decide_eq_false_iff_not] at hc2;obtain rfl:i=everyM b+1:=by omega
 obtain ⟨p,ps,rfl⟩:∃ p ps,P=p::ps:=by
  cases P with
  | nil =>
   rw [zi5 hc1] at hP;have:=congrArg List.length hP;simp at this
  | cons p ps=>exact ⟨p,ps,rfl⟩
 have hlen:∀ x∈p::ps,x.2.length<=1000:=fun x hx=>by
  have:=zkO (b:=b) (k:=everyM b+1) x.2 (by rw [<- hP]; exact List.mem_map_of_mem (f:=fun x:Nat×List Int=>x.2) hx);omega
 refine au 2160 ?_;refine bL [0,1,2,3,4,5,6,7] ?_;refine ad [[1,6]] ?_;refine bT [54] Z (hq:=vM Z Z Z zT.h (mC _) (by first | omega | (simp only [lZ]; omega)) (by first | omega | (simp only [lZ]; omega))) (h:=?_);refine bT [55] Z (hq:=zm Z Z zd.h (mC _) (zaT (k:=0) sQ)) (h:=?_);refine ad [[1,6]] ?_;refine bT [57] Z (hq:=zag Z Z zT.h (mC _) Z Z (by first | omega | (simp only [lZ]; omega)) (by first | omega | (simp only [lZ]; omega)) Z) (h:=?_);refine bQ (pend':=[⟨3,[6],[]⟩,⟨1,[54],[(_,_)]⟩,⟨0,[6],[]⟩]) [56,58] Z Z Z Z Z (ze7 hT (o:=p) (xs:=ps) (lt:=fun a c=>ltLists a.2 c.2) (fv:=.fn 125 [] []) (jo:=jo) (off:=1) (obo:=.row (refsL (p::ps)) 61 1) (K:=(jo,.row (refsL (p::ps)) 61 1)::objsL (p::ps)) (by simp at hPl; omega) sQ (fun k hk=>by rw [show 1+((k:Int)).toNat*1=k+1 by rw [mZ]; omega]; exact zaT (P:=p::ps) (k:=k+1) (by simpa using hk)) (fun x hx y hy=>yC Cal.h (ziq hT (lL _ (wE hx)) (lL _ (wE hy)) (ym _ _ _) (ym _ _ _) (hlen x hx) (hlen y hy)))) (fun r11 K12 h13=>⟨?_,?_⟩)
 ·rcases h13 with ⟨rfl,rfl⟩
  all_goals simp
 obtain ⟨rfl,rfl⟩:=h13;try simp only [cA]
 refine bS tQ ?_;refine TD.perm (List.Perm.cons _ lH) ?_;simp only [cA];generalize hres0:zQ (fun (a c:Nat×List Int)=>ltLists a.2 c.2) p ps=res;have hmem:res∈p::ps:=hres0 ▸ kl;obtain ⟨R1,hR1⟩:=vO (wE hmem);have hcl:res.2=clashM b:=by
  rw [<- hres0,uW (fun x:Nat×List Int=>x.2)];unfold clashM;rw [<- hP]; rfl
 refine ad [[13,59],[13],[14]] ?_;refine au 0 ?_;refine bB hret [(0,_),(1,_),(s,_),(e,_),(res.1,.cells (res.2.map intA) 3 false)] ?_ (hs:=(by repeat (first | exact Split.none _ | exact Split.all _ | (apply Split.rem; repeat (first | exact Rem.head | exact hR1 | apply Rem.tail)) | apply Split.right)));refine .inr (.inr ⟨hck,hc1,res.1,?_,?_⟩)
 ·rw [<- hcl]; rfl
 ·rw [<- hcl]
end Go.Vel
end
