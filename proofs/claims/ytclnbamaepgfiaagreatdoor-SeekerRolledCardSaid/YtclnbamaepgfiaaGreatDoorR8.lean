/- Texts for the law SeekerRolled (chapters 8 and 9), part 9. It holds of every program, tape and world that the statements name, as each theorem says. -/
import Derived.Test.YtclnbamaepgfiaaGreatDoorR2
import Derived.Test.YtclnbamaepgfiaaGreatDoorR3
import Derived.Test.YtclnbamaepgfiaaGreatDoorR7
open Go renaming Goroutine -> gG, TypeId -> gT, Program -> gP
open Bool renaming true -> tt, false -> ff
section
set_option linter.all false
set_option maxRecDepth 20000
set_option maxHeartbeats 60000000
open Go.Proofs.Tryz renaming prog -> tp
open List renaming getElem?_eq_getElem -> lA, nil_append -> lC, getElem?_eq_some_iff -> lD, length_append -> lF, perm_append_comm -> lH, mem_cons -> lI, length_map -> lJ, eq_nil_of_length_eq_zero -> lK, mem_cons_of_mem -> lL, map_append -> lM, mem_of_getElem? -> lN, append_nil -> lR, mem_singleton -> lS, mem_append -> lT, take_length -> lW, mem_map -> lY, length_cons -> lZ
open List.Mem renaming head -> mC
open Nat renaming lt_of_lt_of_le -> mM, zero_le -> mN, zero_add -> mO, eq_zero_or_pos -> mP, le_trans -> mT
open Bool renaming and_eq_true -> mX
open Option renaming map_eq_some_iff -> mY
open Int renaming toNat_natCast -> mZ
open Go.Vel.TK renaming maskL -> bA, rt -> bB, kp -> bC, cl -> bD, loopN -> bE, sp -> bF, a -> bH, newR -> bI, dq -> bL, perm -> bN, appR -> bO
open Go.Vel.TD renaming norm -> bS, y -> bT, z -> bU
namespace Go.Vel
open Go Go.Conc Go.Proofs
section
variable {P:gP}{gm:Nat->Option Nat}{T:gG->Hp->Prop}{Y:KX P gm T}{ds:List Nat}{k:List Item}{Wq Wk:List AV}{K K':KV}
theorem TK.freezeR(d:Nat){j n:Nat}{l:List AV}{e:gT}{s:Nat}(hd:Wq[d]? =some (.row j n))(hu:Upd K j (.row l e s) j (.cells l e ff) K')(he:Wq.set d (.sl j 0 n)=Wk)(h:TK Y ds k Wk K'):TK Y ds k Wq K :=
 TK.freeze d hd hu (by rw[<- he];simp[unrow1,unrow]) h
end
def yq(b:Bk)(s e:Nat)(l:AV)(m:Nat):List AV:=[za b.sP,za b.wrong,za b.low,za b.high,.sl s 0 b.kE.length,.sl e 0 b.seen.length,l,.map m]
def listO(Ls:List (List Int)):AObj:=.cells (Ls.flatMap yb) 114 ff
theorem zbC(Ls:List (List Int))(i:Nat)(h:i<Ls.length):z6 (listO Ls) (0+(i:Int).toNat*4) 4=some (yb Ls[i]):=by
 have hle:(i+1)*4<=Ls.length*4:=Nat.mul_le_mul_right _ h;simp only[z6,AObj.look,listO,mZ,mO];rw[if_pos ⟨by omega,by rw[yW yb 4 (fun _=>rfl)];omega⟩,kS yb 4 (fun _=>rfl) _ _ h]
def oftM(Ls:List (List Int))(n:Int):Int:=(Ls.flatten.count n:Nat)
def wordM(all some:Int):Int:=if (some==all)=tt then 1 else if (some==0)=tt then 2 else 0
def bandM(b:Bk)(lo w:Int)(x:Int×Int)(S:List Int):Int×Int:=(if inM b S lo w<x.1 then inM b S lo w else x.1,if x.2<inM b S lo w then inM b S lo w else x.2)
def withinM(b:Bk)(Ls:List (List Int))(lo w:Int):Int×Int:=Ls.foldl (bandM b lo w) (3,0)
theorem zgt{b:Bk}{Ls:List (List Int)}{lo w:Int}{i:Nat}(h:i<Ls.length):withinM b (Ls.take (i+1)) lo w=bandM b lo w (withinM b (Ls.take i) lo w) Ls[i]:=by
 unfold withinM;rw[List.take_add_one,lA h,List.foldl_append] <;> rfl
def rightsM(b:Bk)(Ls:List (List Int))(k:Nat):Int:=((Ls.filter (yh b · k)).length:Nat)
theorem zaN(b:Bk)(Ls:List (List Int))(k:Nat):0<=rightsM b Ls k/\rightsM b Ls k<=Ls.length:=⟨Int.natCast_nonneg _,Int.ofNat_le.2 (List.length_filter_le _ _)⟩
theorem zkn{b:Bk}{Ls:List (List Int)}{k i:Nat}(h:i<Ls.length)(hr:yh b Ls[i] k=tt):rightsM b (Ls.take (i+1)) k=rightsM b (Ls.take i) k+1:=by
 unfold rightsM;rw[List.take_add_one,lA h,List.filter_append,lF];simp[hr]
theorem zkm{b:Bk}{Ls:List (List Int)}{k i:Nat}(h:i<Ls.length)(hr:yh b Ls[i] k=ff):rightsM b (Ls.take (i+1)) k=rightsM b (Ls.take i) k:=by
 unfold rightsM;rw[List.take_add_one,lA h,List.filter_append,lF];simp[hr]
def askM(b:Bk)(t:Bool):Int:=if zF b≠0 then zF b else if t=ff then 6 else if zd b=[]then 9 else 0
def zeroKn:List AV:=zeroBk++[.v (.slice none 0 0),.v (.map none)]
theorem yU{b:Bk}(hb:BkOk b):∀ S∈zd b,SmOkz b S:=fun S h=>zaa hb S (List.mem_filter.1 h).1
theorem yP{b:Bk}(hb:BkOk b):(zd b).length<=65536:=mT (List.length_filter_le _ _) (zb1 hb)
theorem uS{Ls:List (List Int)}(h:∀ S∈Ls,S.length<=3):Ls.flatten.length<=Ls.length*3:=by
 induction Ls with
 | nil=>simp
 | cons S Ls ih =>
  have:=ih fun R hR=>h R (by simp[hR]);have:=h S sQ;rw[List.flatten_cons,lF,lZ];omega
theorem zfP{Ls:List (List Int)}{i k:Nat}(h:i<Ls.length)(hk:k<Ls[i].length)(n:Int):((((Ls.take i).flatten++Ls[i].take (k+1)).count n:Nat):Int)=if n=Ls[i][k]then((((Ls.take i).flatten++Ls[i].take k).count Ls[i][k]:Nat):Int)+1 else((((Ls.take i).flatten++Ls[i].take k).count n:Nat):Int):=by
 rw[List.take_add_one,lA hk,<- List.append_assoc,List.count_append];by_cases e:n=Ls[i][k]
 ·subst e;simp
 ·rw[if_neg e];simp[List.count_cons,Ne.symm e]
theorem zfO{Ls:List (List Int)}{i:Nat}(h:i<Ls.length):(Ls.take i).flatten++Ls[i].take Ls[i].length=(Ls.take (i+1)).flatten:=by
 rw[List.take_add_one,lA h,lW,List.flatten_append];simp
theorem vE{ob:Obj}{f g:Int->Int}(h:MapOk ob f)(e:∀ n,f n=g n):MapOk ob g:=by
 obtain⟨es,c,rfl,hI,hf⟩:=h;exact⟨es,c,rfl,hI,fun n=>(hf n).trans (e n)⟩
theorem vb{main T}(hT:zo tp main T){gm}{b:Bk}{s e:Nat} :
  zl tp T gm 61 [.agg (zA b s e)] [] (fun r K'=>r=zr tt/\K'=[]):=by
 refine zh 3 hT Tryz.func61 fun Y Wz=>?_;refine au 21042 ?_;intro j1 hj1;refine au 354235 ?_;refine bB Wz [] ?_;exact⟨rfl,rfl⟩
theorem zdG{main T}(hT:zo tp main T){gm}{b:Bk}{s e jl m:Nat}{Ls:List (List Int)}{x:Int} :
  zl tp T gm 66 [.agg (yq b s e (.sl jl 0 Ls.length) m),za x] [] (fun r K'=>r=za (wordM Ls.length x)/\K'=[]):=by
 refine zh 13 hT Tryz.func66 fun Y Wz=>?_;refine au 21042 ?_;intro j1 hj1;refine au 9357280690670421303142235 ?_;apply aI<;>intro Jz
 ·refine au 3542 ?_;refine bB Wz [] ?_;exact⟨by unfold wordM;rw[if_pos Jz] <;> rfl,rfl⟩
 refine au 935742 ?_;apply aI<;>intro Jx
 ·refine au 3542 ?_;refine bB Wz [] ?_;exact⟨by unfold wordM;rw[if_neg (by rw[Jz];decide),if_pos Jx] <;> rfl,rfl⟩
 refine au 3542140120 ?_;refine bB Wz [] ?_;exact⟨by unfold wordM;rw[if_neg (by rw[Jz];decide),if_neg (by rw[Jx];decide)] <;> rfl,rfl⟩
theorem zeF{main T}(hT:zo tp main T){gm}{b:Bk}{s e jl m:Nat}{Ls:List (List Int)}{lo w:Int}(hs:4<=b.sP/\b.sP<=16)(hLo:∀ S∈Ls,SmOkz b S)(hLn:Ls.length<=65536)(h0:0<=lo/\lo<b.sP) :
  zl tp T gm 69 [.agg (yq b s e (.sl jl 0 Ls.length) m),za lo,za w] [(jl,listO Ls)] (fun r K'=>r=.agg [za (withinM b Ls lo w).1,za (withinM b Ls lo w).2]/\K'=[(jl,listO Ls)]):=by
 refine zh 36 hT Tryz.func69 fun Y Wz=>?_;refine au 21042 ?_;intro jx hjx;refine au 220 ?_;intro jr hjr;refine au 220390423 ?_;intro jo hjo;refine au 130312806906704223170 ?_;refine bA [1,2,3,6,7,13,14,15] ?_;refine bE (fun n Wq K=>∃(i:Nat),n=Ls.length - i/\i<=Ls.length/\Wq=ym 36 [(1,za lo),(2,za w),(3,.ptr jx 0),(6,.ptr jr 0),(7,.ptr jo 0),(13,.sl jl 0 Ls.length),(14,za Ls.length),(15,za i)]/\K=[(jo,.cells [za (withinM b (Ls.take i) lo w).1,za (withinM b (Ls.take i) lo w).2] 23 tt),(jr,.cells [za 0,za 0] 23 tt),(jx,.cells (yq b s e (.sl jl 0 Ls.length) m) 125 tt),(jl,listO Ls)]) Ls.length ⟨0,rfl,mN _,rfl,rfl⟩ fun n Wq K hI' Wj=>?_;obtain⟨i,rfl,hi,rfl,rfl⟩:=hI';refine au 923742 ?_;refine⟨fun hc=>?_,fun hc=>?_⟩
 ·simp only[dT_]at hc;have Qb:i<Ls.length:=by omega
  have hSm:=hLo _ (List.getElem_mem Qb);refine au 360421302120 ?_;refine bH Z (zK Z Z ze.h mQ (zbC Ls i Qb)) ?_;refine au 220 ?_;intro j9 hj9;refine au 11680680670423170 ?_;refine TK.clE Z Z Z Z (in_ok hT (s:=s) (e:=e) hs hSm.len hSm.mem h0) ?_;refine au 1690670435 ?_;refine bH Z (q_min Z Z Z) ?_;refine au 1690670 ?_;refine bH Z (q_max Z Z Z) ?_;refine au 3123041403170390 ?_;refine bA [1,2,3,6,7,13,14,15] ?_;refine bC [(jo,_),(jr,_),(jx,_),(jl,_)] ?_;exact Wj _ _ _ oQ ⟨i+1,rfl,oQ,rfl,by rw[zgt Qb] <;> rfl⟩
 simp only[dF_]at hc;obtain rfl:i=Ls.length:=by omega
 refine au 317068042160 ?_;refine bB Wz [(jl,_)] ?_;exact⟨by rw[lW] <;> rfl,rfl⟩
theorem zes{main:Bool}{T:gG->Hp->Prop}(hT:zo tp main T){b:Bk}{s e jl m:Nat}{Ls:List (List Int)}{k:Nat}(hb:BkOk b)(hLo:∀ S∈Ls,SmOkz b S)(hLn:Ls.length<=65536)(hk:k<b.kE.length) :
  zl tp T gmR 75 [.agg (yq b s e (.sl jl 0 Ls.length) m),za k] [(1,zC),(s,zu b),(jl,listO Ls)] (fun r K'=>r=za (rightsM b Ls k)/\K'=[(1,zC),(s,zu b),(jl,listO Ls)]):=by
 refine zh 24 hT Tryz.func75 fun Y Wz=>?_;refine au 21042 ?_;intro jx hjx;refine au 13031280690670422354235 ?_;refine bA [1,2,5,9,10,11] ?_;refine bE (fun n Wq K=>∃(i:Nat),n=Ls.length - i/\i<=Ls.length/\Wq=ym 24 [(1,za k),(2,.ptr jx 0),(5,za (rightsM b (Ls.take i) k)),(9,.sl jl 0 Ls.length),(10,za Ls.length),(11,za i)]/\K=[(jx,.cells (yq b s e (.sl jl 0 Ls.length) m) 125 tt),(1,zC),(s,zu b),(jl,listO Ls)]) Ls.length ⟨0,rfl,mN _,rfl,rfl⟩ fun n Wq K hI' Wj=>?_;obtain⟨i,rfl,hi,rfl,rfl⟩:=hI';refine au 923742 ?_;refine⟨fun hc=>?_,fun hc=>?_⟩
 ·simp only[dT_]at hc;have Qb:i<Ls.length:=by omega
  have hSm:=hLo _ (List.getElem_mem Qb);have hrl:=zaN b (Ls.take i) k;have htl:(Ls.take i).length<=65536:=by rw[List.length_take];omega
  refine au 360421302120 ?_;refine bH Z (zK Z Z ze.h mQ (zbC Ls i Qb)) ?_;refine au 220 ?_;intro j9 hj9;refine au 1680680670423170 ?_;refine TK.clE Z Z Z Z (uN hT (s:=s) (e:=e) hb hSm hk) ?_;refine au 93 ?_;apply aI<;>intro Jx
  ·refine au 3123041403523014 ?_;refine bA [1,2,5,9,10,11] ?_;refine bC [(jx,_),(1,_),(s,_),(jl,_)] ?_;exact Wj _ _ _ oQ ⟨i+1,rfl,oQ,by rw[zkn Qb Jx] <;> rfl,rfl⟩
  refine au 312304140120 ?_;refine bA [1,2,5,9,10,11] ?_;refine bC [(jx,_),(1,_),(s,_),(jl,_)] ?_;exact Wj _ _ _ oQ ⟨i+1,rfl,oQ,by rw[zkm Qb Jx] <;> rfl,rfl⟩
 simp only[dF_]at hc;obtain rfl:i=Ls.length:=by omega
 refine au 35142160 ?_;refine bB Wz [(1,_),(s,_),(jl,_)] ?_;exact⟨by rw[lW],rfl⟩
theorem vJ{main:Bool}{T:gG->Hp->Prop}(hT:zo tp main T){b:Bk}{s e:Nat}{yv:AV}{t:Bool}{Kt:KV}(hse:s≠e)(hn:∀ x∈b.kE,x.name.size<=1000)(hl:b.seen.length<=1000)(hy1:oneA yv=tt)(hth:BkOk b->CallFK tp T gmR yv [.agg (zA b s e)] Kt (fun r K'=>r=zr t/\K'=Kt)) :
  zl tp T gmR 60 [.agg (zA b s e),yv] ((0,zx)::(1,zC)::(s,zu b)::(e,zw b)::Kt) (fun r K'=>(askM b t≠0/\r=.tup [.agg zeroKn,za (askM b t)]/\K'=(0,zx)::(1,zC)::(s,zu b)::(e,zw b)::Kt)\/(∃ jl m om,askM b t=0/\MapOk om (oftM (zd b))/\r=.tup [.agg (yq b s e (.sl jl 0 (zd b).length) m),za 0]/\K'=(jl,listO (zd b))::(m,.raw om)::(0,zx)::(1,zC)::(s,zu b)::(e,zw b)::Kt)):=by
 refine zh 59 hT Tryz.func60 fun Y Wz=>?_;refine au 21042 ?_;intro jb hjb;refine au 220 ?_;intro jk hjk;refine au 68042235 ?_;refine TK.clE Z Z Z Z (kR hT (b:=b) (s:=s) (e:=e) hn hl) ?_;refine au 93714235 ?_;apply aI<;>intro Jz
 ·refine au 35170145042 ?_;refine bB Wz (((0,zx)::(1,zC)::(s,zu b)::(e,zw b)::Kt)) ?_;have ha:askM b t=zF b:=if_pos (by simpa using Jz);exact .inl ⟨by rw[ha];simpa using Jz,by rw[ha] <;> rfl,rfl⟩
 have Jx:zF b=0:=by simpa using Jz
 have hb:=yH Jx;refine au 43068042120 ?_;refine TK.newM Z Z Z (zed Z) (fun _=>zD rfl tQ) fun jm hjm=>?_;refine au 220450 ?_;intro jx hjx;refine au 68067014223170 ?_;refine TK.callF' Z Z Z Z Z (hth hb) (.right (.right (.right (.right (.right (.right (.right (.right (.all _))))))))) fun r4 K5 h6=>?_;obtain⟨rfl,hK⟩:=h6;refine au 0 ?_;rw[hK];refine bN (K':=(jx,_)::(jm,_)::(0,_)::(s,_)::(e,_)::(jk,_)::(jb,_)::(1,_)::Kt) (lH (l₁:=Kt)) ?_;refine au 93300 ?_;apply aI<;>intro hc2
 ·have ht:t=ff:=by simpa using hc2
  refine au 3517045042 ?_;refine bB Wz (((0,zx)::(1,zC)::(s,zu b)::(e,zw b)::Kt)) ?_;have ha:askM b t=6:=by unfold askM;rw[if_neg (by simpa using Jx),ht,if_pos rfl]
  exact .inl ⟨by rw[ha];decide,by rw[ha] <;> rfl,rfl⟩
 have ht:t=tt:=by simpa using hc2
 refine au 680670422120 ?_;refine bD Z Z Z Z (zaR hT hse hb) ?_;rintro r7 K8 ⟨jl,rfl,rfl⟩;refine au 0 ?_;refine TK.freezeR 30 Z uQ Z ?_;refine au 937280690670423170670 ?_;apply aI<;>intro hc3
 ·have hst:zd b=[]:=lK (by have h:((zd b).length:Int)=0:=(by simpa using hc3);omega);refine au 3517045042 ?_;refine bB Wz (((0,zx)::(1,zC)::(s,zu b)::(e,zw b)::Kt)) ?_;have ha:askM b t=9:=by unfold askM;rw[if_neg (by simpa using Jx),ht,if_neg dQ,if_pos hst]
  exact .inl ⟨by rw[ha];decide,by rw[ha] <;> rfl,rfl⟩
 have hst:zd b≠[]:=fun h=>by rw[h]at hc3;exact absurd hc3 dQ
 have hLo:=yU hb;have hLn:=yP hb;refine au 13031280690670422120 ?_;refine bA [4,7,38,39,40] ?_;refine bC (((jx,_)::(jm,_)::(jl,_)::(jk,_)::(0,_)::(1,_)::(s,_)::(e,_)::Kt)) ?_;refine bE (fun n Wq K=>∃(i:Nat)(om:Obj),n=(zd b).length - i/\i<=(zd b).length/\MapOk om (fun q=>(((zd b).take i).flatten.count q:Nat))/\Wq=ym 59 [(4,.ptr jk 0),(7,.ptr jx 0),(38,.sl jl 0 (zd b).length),(39,za (zd b).length),(40,za i)]/\K=(jx,.cells (yq b s e (.sl jl 0 (zd b).length) jm) 125 tt)::(jm,.raw om)::(jl,listO (zd b))::(jk,.cells zeroKn 125 tt)::(0,zx)::(1,zC)::(s,zu b)::(e,zw b)::Kt) (zd b).length ⟨0,_,rfl,mN _,zec,rfl,rfl⟩ fun n Wq K hI' Wj=>?_;obtain⟨i,om,rfl,hi,hom,rfl,rfl⟩:=hI';refine au 923742 ?_;refine⟨fun hc=>?_,fun hc=>?_⟩
 ·simp only[dT_]at hc;have Qb:i<(zd b).length:=by omega
  have hSm:=hLo _ (List.getElem_mem Qb);refine au 360421302120 ?_;refine bH Z (zK Z Z ze.h mQ (zbC (zd b) i Qb)) ?_;refine au 220 ?_;intro j9 hj9;refine au 680423170 ?_;refine bD Z Z Z Z (zbD hT hSm.len fun x hx=>⟨(hSm.mem x hx).1,by have:=(hSm.mem x hx).2;have:=hb.sP;omega⟩) ?_;rintro r10 K11 ⟨jr,rfl,rfl⟩;refine au 13031280 ?_;refine bA [4,7,38,39,40,45,46,47] ?_;refine bC (((jr,_)::(jx,_)::(jm,_)::(jl,_)::(jk,_)::(0,_)::(1,_)::(s,_)::(e,_)::Kt)) ?_;refine bE (fun n Wq K=>∃(q:Nat)(om2:Obj),n=(zd b)[i].length - q/\q<=(zd b)[i].length/\MapOk om2 (fun z=>(((((zd b).take i).flatten++(zd b)[i].take q).count z:Nat):Int))/\Wq=ym 59 [(4,.ptr jk 0),(7,.ptr jx 0),(38,.sl jl 0 (zd b).length),(39,za (zd b).length),(40,za i),(45,.row jr (zd b)[i].length),(46,za (zd b)[i].length),(47,za q)]/\K=(jr,.row ((zd b)[i].map za) 3 1)::(jx,.cells (yq b s e (.sl jl 0 (zd b).length) jm) 125 tt)::(jm,.raw om2)::(jl,listO (zd b))::(jk,.cells zeroKn 125 tt)::(0,zx)::(1,zC)::(s,zu b)::(e,zw b)::Kt) (zd b)[i].length ⟨0,om,rfl,mN _,by simpa using hom,rfl,rfl⟩ fun n Wq K hI' hnext2=>?_;obtain⟨q,om2,rfl,hq,hom2,rfl,rfl⟩:=hI';refine au 923742 ?_;refine⟨fun hcq=>?_,fun hcq=>?_⟩
  ·simp only[dT_]at hcq;have hlen3:=hSm.len;have hql:q<(zd b)[i].length:=by omega
   have hcnt:(((zd b).take i).flatten++(zd b)[i].take q).count (zd b)[i][q]<=200000:=mT List.count_le_length (by
    have h1:=uS (Ls:=(zd b).take i) (fun R hR=>(hLo R (List.mem_of_mem_take hR)).len);have h2:((zd b).take i).length<=65536:=by rw[List.length_take];omega
    have h3:=hSm.len;rw[lF,List.length_take];omega)
   refine au 370421302120 ?_;refine bH Z (zg Z Z ze.h mQ (zco (i:=q) hql Z)) ?_;refine au 1690670435 ?_;refine bH Z (uy Z Z Z Und.h Und.h InfO.h Z mQ hom2) ?_;refine au 230 ?_;refine TK.st Z Z Z (zbT Z Z Z Z Und.h Und.h mQ hom2) uQ (putN Z) ?_;refine au 3123041403 ?_;refine bA [4,7,38,39,40,45,46,47] ?_;refine bC (((jr,_)::(jx,_)::(jm,_)::(jl,_)::(jk,_)::(0,_)::(1,_)::(s,_)::(e,_)::Kt)) ?_;exact hnext2 _ _ _ oQ ⟨q+1,_,rfl,oQ,vE (zkH hom2) (fun z=>(zfP Qb hql z).symm),rfl,rfl⟩
  simp only[dF_]at hcq;obtain rfl:q=(zd b)[i].length:=by omega
  refine au 312304140160 ?_;refine bA [4,7,38,39,40] ?_;refine bC (((jx,_)::(jm,_)::(jl,_)::(jk,_)::(0,_)::(1,_)::(s,_)::(e,_)::Kt)) ?_;exact Wj _ _ _ oQ ⟨i+1,om2,rfl,oQ,vE hom2 (fun q=>by rw[zfO Qb]),rfl,rfl⟩
 simp only[dF_]at hc;obtain rfl:i=(zd b).length:=by omega
 refine au 3517068042160 ?_;refine bB Wz (((jl,_)::(jm,_)::(0,zx)::(1,zC)::(s,zu b)::(e,zw b)::Kt)) ?_;have ha:askM b t=0:=by unfold askM;rw[if_neg (by simpa using Jx),ht,if_neg dQ,if_neg hst]
 rw[lW]at hom;exact .inr ⟨jl,jm,_,ha,hom,rfl,rfl⟩
theorem wm{b:Bk}{t:Bool}(h:askM b t=0):zF b=0/\t=tt/\zd b≠[]:=by
 unfold askM at h;split at h
 ·rename_i h1;exact absurd h h1
 ·rename_i h1;split at h
  ·cases h
  ·rename_i h2;split at h
   ·cases h
   ·rename_i h3;exact⟨by simpa using h1,by simpa using h2,h3⟩
def statesApi(b:Bk):Int×Int:=if zF b≠0 then(0,zF b)else((zd b).length,0)
def atApi(b:Bk)(n:Int):Int×Int:=if askM b (zS b n)≠0 then(0,askM b (zS b n))else(wordM (zd b).length (oftM (zd b) n),0)
def withinApi(b:Bk)(lo hi:Int):(Int×Int)×Int:=if askM b (zS b lo&&zS b hi)≠0 then((0,0),askM b (zS b lo&&zS b hi))else(withinM b (zd b) lo ((hi - lo+b.sP) % b.sP+1),0)
def wrongApi(b:Bk)(k:Int):Int×Int:=if askM b (isSeekerM b k)≠0 then(0,askM b (isSeekerM b k))else(wordM (zd b).length ((zd b).length - rightsM b (zd b) k.toNat),0)
def pickL(b:Bk)(w:Int)(n:Nat):List Int:=((List.range n).filter fun k:Nat=>wordM (zd b).length (oftM (zd b) (k:Int))==w).map fun k:Nat=>(k:Int)
theorem zbF{b:Bk}{w:Int}{n:Nat}(h:(wordM (zd b).length (oftM (zd b) (n:Int))==w)=tt):pickL b w (n+1)=pickL b w n++[(n:Int)]:=by
 unfold pickL;rw[List.range_succ,List.filter_append];simp[h]
theorem vi{b:Bk}{w:Int}{n:Nat}(h:(wordM (zd b).length (oftM (zd b) (n:Int))==w)=ff):pickL b w (n+1)=pickL b w n:=by
 unfold pickL;rw[List.range_succ,List.filter_append];simp[h]
theorem zen(b:Bk)(w:Int)(n:Nat):(pickL b w n).length<=n:=by
 unfold pickL;rw[lJ];exact mT (List.length_filter_le _ _) sQ
theorem zo7{b:Bk}(hb:BkOk b)(n:Int):0<=oftM (zd b) n/\oftM (zd b) n<=200000:=by
 have h0:(zd b).flatten.count n<=(zd b).flatten.length:=List.count_le_length;have h1:=uS (Ls:=zd b) (fun R hR=>(yU hb R hR).len);have h2:=yP hb;unfold oftM;omega
theorem kx{main:Bool}{T:gG->Hp->Prop}(hT:zo tp main T){b:Bk}{s e:Nat}(hse:s≠e)(hn:∀ x∈b.kE,x.name.size<=1000)(hl:b.seen.length<=1000) :
  zl tp T gmR 20 [.agg (zA b s e)] [(0,zx),(1,zC),(s,zu b),(e,zw b)] (fun r K'=>r=.tup [za (statesApi b).1,za (statesApi b).2]/\K'=[(0,zx),(1,zC),(s,zu b),(e,zw b)]):=by
 refine zh 14 hT Tryz.func20 fun Y Wz=>?_;refine au 21042 ?_;intro j1 hj1;refine au 680422355 ?_;refine TK.clE Z Z Z Z (kR hT (b:=b) (s:=s) (e:=e) hn hl) ?_;refine au 93714235 ?_;apply aI<;>intro Jz
 ·refine au 355142 ?_;refine bB Wz [(0,_),(1,_),(s,_),(e,_)] ?_;exact⟨by unfold statesApi;rw[if_pos (by simpa using Jz)] <;> rfl,rfl⟩
 have hb:=yH (b:=b) (by simpa using Jz);refine au 43068042120 ?_;refine bD Z Z Z Z (zaR hT hse hb) ?_;rintro r5 K6 ⟨jl,rfl,rfl⟩;refine au 355280 ?_;refine bB Wz [(0,_),(1,_),(s,_),(e,_)] ?_;exact⟨by unfold statesApi;rw[if_neg (by simpa using Jz)] <;> rfl,rfl⟩
theorem zoi{main T}(hT:zo tp main T){gm}{b:Bk}{s e j:Nat}{n:Int}(hs:0<=b.sP/\b.sP<=16) :
  zl tp T gm 64 [.agg (zA b s e),.ptr j 0] [(j,.cells [za n] 3 tt)] (fun r K'=>r=zr (zS b n)/\K'=[(j,.cells [za n] 3 tt)]):=by
 refine zh 7 hT Tryz.func64 fun Y Wz=>?_;refine au 21042 ?_;intro jb hjb;refine au 6906804235 ?_;refine TK.clE Z Z Z Z (wc hT (s:=s) (e:=e) hs) ?_;refine au 35 ?_;refine bB Wz [(j,_)] ?_;exact⟨rfl,rfl⟩
theorem zas{main:Bool}{T:gG->Hp->Prop}(hT:zo tp main T){b:Bk}{s e:Nat}{n:Int}(hse:s≠e)(hn:∀ x∈b.kE,x.name.size<=1000)(hl:b.seen.length<=1000) :
  zl tp T gmR 22 [.agg (zA b s e),za n] [(0,zx),(1,zC),(s,zu b),(e,zw b)] (fun r K'=>r=.tup [za (atApi b n).1,za (atApi b n).2]/\K'=[(0,zx),(1,zC),(s,zu b),(e,zw b)]):=by
 refine zh 23 hT Tryz.func22 fun Y Wz=>?_;refine au 21042 ?_;intro j1 hj1;refine au 210 ?_;intro j2 hj2;refine au 32068042355 ?_;refine bD Z Z Z Z (vJ hT (b:=b) (s:=s) (e:=e) (t:=zS b n) hse hn hl Z (fun hb=>yC Cal.h (zoi hT (by have:=hb.sP;omega)))) ?_;rintro r3 K4 h5;rcases h5 with⟨hb0,rfl,rfl⟩|⟨jl,jm,om,hb0,hom,rfl,rfl⟩
 ·refine au 220661 ?_;intro j6 hj6;refine au 937142235170 ?_;apply aI<;>intro Jz
  ·
   refine au 355142 ?_;refine bB Wz [(0,_),(1,_),(s,_),(e,_)] ?_;exact⟨by unfold atApi;rw[if_pos hb0] <;> rfl,rfl⟩
  exact absurd (by simpa using Jz) hb0
 ·refine au 220661 ?_;intro j7 hj7;refine au 937142235170 ?_;apply aI<;>intro Jz
  ·exact absurd Jz dQ
  obtain⟨hck,hth,hne⟩:=wm hb0;have hb:=yH hck;have hLo:=yU hb;have hLn:=yP hb;refine au 69069067068042120 ?_;refine bH Z (uy Z Z Z Und.h Und.h InfO.h Z mQ hom) ?_;refine TK.clE Z Z Z Z (zdG hT) ?_;refine au 355 ?_;refine bB Wz [(0,_),(1,_),(s,_),(e,_)] ?_;exact⟨by unfold atApi;rw[if_neg (by rw[hb0];decide)] <;> rfl,rfl⟩
theorem ziL{main T}(hT:zo tp main T){gm}{b:Bk}{s e j j2:Nat}{lo hi:Int}(hs:0<=b.sP/\b.sP<=16) :
  zl tp T gm 68 [.agg (zA b s e),.ptr j 0,.ptr j2 0] [(j,.cells [za lo] 3 tt),(j2,.cells [za hi] 3 tt)] (fun r K'=>r=zr (zS b lo&&zS b hi)/\K'=[(j,.cells [za lo] 3 tt),(j2,.cells [za hi] 3 tt)]):=by
 refine zh 13 hT Tryz.func68 fun Y Wz=>?_;refine au 21042 ?_;intro jb hjb;refine au 6906804235 ?_;refine TK.clE Z Z Z Z (wc hT (s:=s) (e:=e) hs) ?_;refine au 1 ?_;refine bF 8 (fun g1_4=>?_) (fun g1_4=>?_)
 ·refine au 690680 ?_;refine TK.clE Z Z Z Z (wc hT (s:=s) (e:=e) hs) ?_;refine au 35260 ?_;refine bB Wz [(j,_),(j2,_)] ?_;exact⟨by unfold zS;rw[g1_4] <;> rfl,rfl⟩
 refine au 35250888 ?_;refine bB Wz [(j,_),(j2,_)] ?_;exact⟨by unfold zS;rw[g1_4] <;> rfl,rfl⟩
theorem vr{main:Bool}{T:gG->Hp->Prop}(hT:zo tp main T){b:Bk}{s e:Nat}{lo hi:Int}(hse:s≠e)(hn:∀ x∈b.kE,x.name.size<=1000)(hl:b.seen.length<=1000) :
  zl tp T gmR 25 [.agg (zA b s e),za lo,za hi] [(0,zx),(1,zC),(s,zu b),(e,zw b)] (fun r K'=>r=.tup [.agg [za (withinApi b lo hi).1.1,za (withinApi b lo hi).1.2],za (withinApi b lo hi).2]/\K'=[(0,zx),(1,zC),(s,zu b),(e,zw b)]):=by
 refine zh 28 hT Tryz.func25 fun Y Wz=>?_;refine au 21042 ?_;intro j1 hj1;refine au 210 ?_;intro j2 hj2;refine au 210 ?_;intro j3 hj3;refine au 220 ?_;intro j4 hj4;refine au 3206804235 ?_;refine bD Z Z Z Z (vJ hT (b:=b) (s:=s) (e:=e) (t:=zS b lo&&zS b hi) hse hn hl Z (fun hb=>yC Cal.h (ziL hT (by have:=hb.sP;omega)))) ?_;rintro r5 K6 h7;rcases h7 with⟨hb0,rfl,rfl⟩|⟨jl,jm,om,hb0,hom,rfl,rfl⟩
 ·refine au 220661 ?_;intro j8 hj8;refine au 937142235170 ?_;apply aI<;>intro Jz
  ·
   refine au 35170139042 ?_;refine bB Wz [(0,_),(1,_),(s,_),(e,_)] ?_;exact⟨by unfold withinApi;rw[if_pos hb0] <;> rfl,rfl⟩
  exact absurd (by simpa using Jz) hb0
 ·refine au 220661 ?_;intro j9 hj9;refine au 937142235170 ?_;apply aI<;>intro Jz
  ·exact absurd Jz dQ
  obtain⟨hck,hth,hne⟩:=wm hb0;have hb:=yH hck;have hLo:=yU hb;have hLn:=yP hb;have hlo:(0<=lo/\lo<b.sP)/\(0<=hi/\hi<b.sP):=by simp only[zS,mX,dT_]at hth;omega
  refine au 2120 ?_;refine bL [0,1,2,3,4,5,6,7,8,9] ?_;refine ad [[12,8],[10,4],[3,8],[12,22],[10,4],[10,5]] ?_;refine TD.clE (Wx:=[_,_,_]) [23,24,25] Z Z Z Z Z (zaU hT (s:=s) (e:=e) hb.sP hlo.1 hlo.2) ?_;refine TD.clE (Wx:=[_]) [20,21,26] Z Z Z Z Z (zeF hT hb.sP hLo hLn hlo.1) ?_;refine TD.s (Wx:=[]) [6,27] Z Z (zz Z Z ze.h Z Z mQ Z) ?_;refine ad [[13],[14]] ?_;refine au 0 ?_;refine bB Wz [(0,_),(1,_),(s,_),(e,_)] ?_;exact⟨by unfold withinApi;rw[if_neg (by rw[hb0];decide)] <;> rfl,rfl⟩
theorem zkM{main T}(hT:zo tp main T){gm}{b:Bk}{s e j:Nat}{n:Int}(hs:b.kE.length<=1000) :
  zl tp T gm 74 [.agg (zA b s e),.ptr j 0] [(j,.cells [za n] 3 tt)] (fun r K'=>r=zr (isSeekerM b n)/\K'=[(j,.cells [za n] 3 tt)]):=by
 refine zh 7 hT Tryz.func74 fun Y Wz=>?_;refine au 21042 ?_;intro jb hjb;refine au 6906804235 ?_;refine TK.clE Z Z Z Z (uT hT (s:=s) (e:=e) hs) ?_;refine au 35 ?_;refine bB Wz [(j,_)] ?_;exact⟨rfl,rfl⟩
theorem wy{main:Bool}{T:gG->Hp->Prop}(hT:zo tp main T){b:Bk}{s e:Nat}{n:Int}(hse:s≠e)(hn:∀ x∈b.kE,x.name.size<=1000)(hl:b.seen.length<=1000) :
  zl tp T gmR 27 [.agg (zA b s e),za n] [(0,zx),(1,zC),(s,zu b),(e,zw b)] (fun r K'=>r=.tup [za (wrongApi b n).1,za (wrongApi b n).2]/\K'=[(0,zx),(1,zC),(s,zu b),(e,zw b)]):=by
 refine zh 26 hT Tryz.func27 fun Y Wz=>?_;refine au 21042 ?_;intro j1 hj1;refine au 210 ?_;intro j2 hj2;refine au 32068042355 ?_;refine bD Z Z Z Z (vJ hT (b:=b) (s:=s) (e:=e) (t:=isSeekerM b n) hse hn hl Z (fun hb=>yC Cal.h (zkM hT (by have:=hb.ns;omega)))) ?_;rintro r3 K4 h5;rcases h5 with⟨hb0,rfl,rfl⟩|⟨jl,jm,om,hb0,hom,rfl,rfl⟩
 ·refine au 220661 ?_;intro j6 hj6;refine au 937142235170 ?_;apply aI<;>intro Jz
  ·
   refine au 355142 ?_;refine bB Wz [(0,_),(1,_),(s,_),(e,_)] ?_;exact⟨by unfold wrongApi;rw[if_pos hb0] <;> rfl,rfl⟩
  exact absurd (by simpa using Jz) hb0
 ·refine au 220661 ?_;intro j7 hj7;refine au 937142235170 ?_;apply aI<;>intro Jz
  ·exact absurd Jz dQ
  obtain⟨hck,hth,hne⟩:=wm hb0;have hb:=yH hck;have hLo:=yU hb;have hLn:=yP hb;obtain⟨k,rfl⟩:∃ k:Nat,n=k:=⟨n.toNat,by simp only[isSeekerM,mX,dT_]at hth;omega⟩;have hk:k<b.kE.length:=by simp only[isSeekerM,mX,dT_]at hth;omega
  have hrl:=zaN b (zd b) k;refine au 2120 ?_;refine bL [0,1,2,3,4,5,6,7,8,9,10] ?_;refine ad [[12,6],[3,6],[10,18]] ?_;refine bU [19] Z (q_len Z Z Z Und.h) ?_;refine ad [[12,6],[10,3]] ?_;refine TD.clE (Wx:=[_,_,_,_]) [21,22] Z Z Z Z Z (zes hT hb hLo hLn hk) ?_;refine ad [[9,20,23]] ?_;refine TD.clE (Wx:=[_,_,_]) [17,24] Z Z Z Z Z (zdG hT) ?_;refine ad [[13,25],[13],[14]] ?_;refine au 0 ?_;refine bB Wz [(0,_),(1,_),(s,_),(e,_)] ?_;exact⟨by unfold wrongApi;rw[if_neg (show ¬ (askM b (isSeekerM b (k:Int))≠0) by rw[hb0];decide)] <;> rfl,rfl⟩
theorem zg0{main:Bool}{T:gG->Hp->Prop}(hT:zo tp main T){b:Bk}{s e:Nat}(hse:s≠e)(hn:∀ x∈b.kE,x.name.size<=1000)(hl:b.seen.length<=1000) :
  zl tp T gmR 24 [.agg (zA b s e)] [(0,zx),(1,zC),(s,zu b),(e,zw b)] (fun r K'=>(askM b tt≠0/\r=.tup [.v (.slice none 0 0),.v (.slice none 0 0),za (askM b tt)]/\K'=[(0,zx),(1,zC),(s,zu b),(e,zw b)])\/(askM b tt=0/\∃ j1 j2,r=.tup [.row j1 (pickL b 1 b.sP.toNat).length,.row j2 (pickL b 0 b.sP.toNat).length,za 0]/\K'=[(0,zx),(1,zC),(s,zu b),(e,zw b),(j1,.row ((pickL b 1 b.sP.toNat).map za) 3 1),(j2,.row ((pickL b 0 b.sP.toNat).map za) 3 1)])):=by
 refine zh 41 hT Tryz.func24 fun Y Wz=>?_;refine au 21042 ?_;intro jb hjb;refine au 555 ?_;refine TK.virt 2 3 1 Z fun j01 hj01=>?_;refine TK.virt 3 3 1 Z fun j02 hj02=>?_;refine au 680423 ?_;refine bD Z Z Z Z (vJ hT (b:=b) (s:=s) (e:=e) (t:=tt) hse hn hl Z (fun hb=>yC Cal.h (vb hT))) ?_;rintro r1 K2 h3;rcases h3 with⟨hb0,rfl,rfl⟩|⟨jl,jm,om,hb0,hom,rfl,rfl⟩
 ·refine au 220661 ?_;intro jx hjx;refine au 937142235170 ?_;apply aI<;>intro Jz
  ·
   refine au 3555142 ?_;refine bB Wz [(0,_),(1,_),(s,_),(e,_)] ?_;exact .inl ⟨hb0,rfl,rfl⟩
  exact absurd (by simpa using Jz) hb0
 ·refine au 220661 ?_;intro jx hjx;refine au 937142235170 ?_;apply aI<;>intro Jz
  ·exact absurd Jz dQ
  obtain⟨hck,hth,hne⟩:=wm hb0;have hb:=yH hck;have hLo:=yU hb;have hLn:=yP hb;refine au 13031690670422120 ?_;refine bA [1,2,3,5,16,17] ?_;refine bC [(jx,_),(jm,_),(jl,_),(jb,_),(0,_),(1,_),(s,_),(e,_),(j01,_),(j02,_)] ?_;refine bE (fun n Wq K=>∃(i j1 j2:Nat),n=b.sP.toNat - i/\i<=b.sP.toNat/\Wq=ym 41 [(1,.ptr jb 0),(2,.row j1 (pickL b 1 i).length),(3,.row j2 (pickL b 0 i).length),(5,.ptr jx 0),(16,za b.sP),(17,za i)]/\K=[(jx,.cells (yq b s e (.sl jl 0 (zd b).length) jm) 125 tt),(jm,.raw om),(jl,listO (zd b)),(jb,.cells (zA b s e) 27 tt),(0,zx),(1,zC),(s,zu b),(e,zw b),(j1,.row ((pickL b 1 i).map za) 3 1),(j2,.row ((pickL b 0 i).map za) 3 1)]) b.sP.toNat ⟨0,j01,j02,rfl,mN _,rfl,rfl⟩ fun n Wq K hI' Wj=>?_;obtain⟨i,j1,j2,rfl,hi,rfl,rfl⟩:=hI';refine au 923742 ?_;apply aI<;>intro Jx
  ·simp only[dT_]at Jx;have hst16:=hb.sP;have hp1:=zen b 1 i;have hp2:=zen b 0 i;refine au 169067068042351421302120 ?_;refine bH Z (uy Z Z Z Und.h Und.h InfO.h Z mQ hom) ?_;refine TK.clE Z Z Z Z (zdG hT) ?_;refine au 9357421303 ?_;apply aI<;>intro hc2
   ·refine au 114 ?_;refine bI Z Z Z (zH (l:=[_]) Z zp.h TyZ.h dQ dQ Z) (fun _=>zD rfl tQ) fun j7 hj7=>?_;refine bO Z Z Z (a_app Z ApOf.h Z mQ (by simp <;> omega) Z (yO (ln:=[_]) mQ dQ sQ Z) oQ Z (by unfold maxLen;omega) oQ) (fun _=>uQ) (fun _=>zD rfl tQ) fun j3=>?_;refine au 31230414014035 ?_;refine bA [1,2,3,5,16,17] ?_;refine bC [(jx,_),(jm,_),(jl,_),(jb,_),(0,_),(1,_),(s,_),(e,_),(j3,_),(j2,_)] ?_;exact Wj _ _ _ oQ ⟨i+1,j3,j2,rfl,oQ,by rw[zbF hc2,vi (w:=0) (by rw[beq_iff_eq.1 hc2];rfl),lF] <;> rfl,by rw[zbF hc2,vi (w:=0) (by rw[beq_iff_eq.1 hc2];rfl),lM] <;> rfl⟩
   refine au 935742 ?_;apply aI<;>intro hc3
   ·refine au 114 ?_;refine bI Z Z Z (zH (l:=[_]) Z zp.h TyZ.h dQ dQ Z) (fun _=>zD rfl tQ) fun j8 hj8=>?_;refine bO Z Z Z (a_app Z ApOf.h Z mQ (by simp <;> omega) Z (yO (ln:=[_]) mQ dQ sQ Z) oQ Z (by unfold maxLen;omega) oQ) (fun _=>uQ) (fun _=>zD rfl tQ) fun j3=>?_;refine au 31230414014035 ?_;refine bA [1,2,3,5,16,17] ?_;refine bC [(jx,_),(jm,_),(jl,_),(jb,_),(0,_),(1,_),(s,_),(e,_),(j1,_),(j3,_)] ?_;exact Wj _ _ _ oQ ⟨i+1,j1,j3,rfl,oQ,by rw[vi hc2,zbF (w:=0) hc3,lF] <;> rfl,by rw[vi hc2,zbF (w:=0) hc3,lM] <;> rfl⟩
   refine au 312304140140120 ?_;refine bA [1,2,3,5,16,17] ?_;refine bC [(jx,_),(jm,_),(jl,_),(jb,_),(0,_),(1,_),(s,_),(e,_),(j1,_),(j2,_)] ?_;exact Wj _ _ _ oQ ⟨i+1,j1,j2,rfl,oQ,by rw[vi hc2,vi (w:=0) hc3] <;> rfl,by rw[vi hc2,vi (w:=0) hc3] <;> rfl⟩
  simp only[dF_]at Jx;obtain rfl:i=b.sP.toNat:=by omega
  refine au 35551142160 ?_;refine bB Wz [(0,_),(1,_),(s,_),(e,_),(j1,_),(j2,_)] ?_;exact .inr ⟨hb0,j1,j2,rfl,rfl⟩
theorem _root_.Go.Vel.CallFK.frame{P:gP}{T:gG->Hp->Prop}{gm:Nat->Option Nat}{yv:AV}{args:List AV}{K Kf R:KV}{x:AV}(hs:Split K Kf R)(h:CallFK P T gm yv args Kf fun r K'=>r=x/\K'=Kf):CallFK P T gm yv args K fun r K'=>r=x/\K'=K:=by
 intro A hv hn;obtain⟨hv',hn'⟩:=hs.view hv hn;refine(h A hv' hn').mono fun r A' ⟨K',hk,hr,he⟩=>⟨K,?_,hr,rfl⟩;subst he;exact(hk.frame hs hv hn).perm hs.perm.symm
def maxM(a b:Int):Int:=if a<b then b else a
def halvesM(len:Int)(p:Nat->Bool)(f:Nat->Int):Nat->Int×Int
 | 0=>(-1,len)
 | k+1=>if (p k&&decide (maxM (f k) (len - f k)<(halvesM len p f k).2))=tt then(k,maxM (f k) (len - f k))else halvesM len p f k
def glassB(b:Bk)(k:Nat):Bool:=match b.kE[k]? with|some x=>x.glass|none=>ff
theorem zjl{α:Type}(f:α->List AV)(c:Nat)(hc:∀ x,(f x).length=c)(xs:List α)(i:Nat)(h:i<xs.length)(d n:Nat)(hd:d+n<=c):((xs.flatMap f).drop (i*c+d)).take n=((f xs[i]).drop d).take n:=by
 have hY:=kS f c hc xs i h;rw[<- List.drop_drop,List.take_drop,show((xs.flatMap f).drop (i*c)).take (d+n)=(((xs.flatMap f).drop (i*c)).take c).take (d+n) by rw[List.take_take,Nat.min_eq_left hd],hY,<- List.take_drop]
theorem zc9{b:Bk}{k:Nat}(h:k<b.kE.length):z6 (zu b) (0+(k:Int).toNat*5+4) 1=some [zr (glassB b k)]:=by
 have hle:(k+1)*5<=b.kE.length*5:=Nat.mul_le_mul_right _ h;have hl:=yW saysC 5 (fun _=>rfl) b.kE;simp only[z6,AObj.look,zu,mZ,mO];rw[if_pos ⟨by omega,oQ⟩,zjl saysC 5 (fun _=>rfl) _ k h 4 1 oQ];unfold glassB;rw[lA h];rfl
def askApi(b:Bk):Int×Int×Int:=if askM b tt≠0 then(0,0,askM b tt)else((halvesM (zd b).length (fun k=>zS b k) (fun k=>oftM (zd b) k) b.sP.toNat).1,(halvesM (zd b).length (fun k=>zS b k) (fun k=>oftM (zd b) k) b.sP.toNat).2,0)
def lendApi(b:Bk):Int×Int×Int:=if askM b tt≠0 then(0,0,askM b tt)else((halvesM (zd b).length (fun k => !glassB b k) (fun k=>rightsM b (zd b) k) b.kE.length).1,(halvesM (zd b).length (fun k => !glassB b k) (fun k=>rightsM b (zd b) k) b.kE.length).2,0)
theorem zd5{main T}(hT:zo tp main T){gm}{b:Bk}{s e jl m:Nat}{Ls:List (List Int)}{N:Nat}{av sv:AV}{p:Nat->Bool}{f:Nat->Int}{Kt:KV}(hLn:Ls.length<=65536)(hN:N<=1000)(hp:∀ k,k<N->CallFK tp T gm av [za k] Kt (fun r K'=>r=zr (p k)/\K'=Kt))(hf:∀ k,k<N->CallFK tp T gm sv [za k] Kt (fun r K'=>r=za (f k)/\K'=Kt))(hfb:∀ k,k<N->0<=f k/\f k<=1000000) :
  zl tp T gm 84 [.agg (yq b s e (.sl jl 0 Ls.length) m),za N,av,sv] Kt (fun r K'=>r=.tup [za (halvesM Ls.length p f N).1,za (halvesM Ls.length p f N).2]/\K'=Kt):=by
 refine zh 47 hT Tryz.func84 fun Y Wz=>?_;refine au 21042 ?_;intro jx hjx;refine au 2355 ?_;refine bL [0,1,2,3,4] ?_;refine ad [[3,4],[10,12]] ?_;refine bU [13] Z (q_len Z Z Z Und.h) ?_;refine TD.as (Wx:=[_,_,_]) [] Z Z (zI Z Z) ?_;refine ad [[13,14],[14]] ?_;refine au 130311422 ?_;refine bA [2,3,4,8,9,15,16] ?_;refine bE (fun n Wq K=>∃(i:Nat),n=N - i/\i<=N/\Wq=ym 47 [(2,av),(3,sv),(4,.ptr jx 0),(8,za (halvesM Ls.length p f i).1),(9,za (halvesM Ls.length p f i).2),(15,za N),(16,za i)]/\K=(jx,.cells (yq b s e (.sl jl 0 Ls.length) m) 125 tt)::Kt) N ⟨0,rfl,mN _,rfl,rfl⟩ fun n Wq K hI' Wj=>?_;obtain⟨i,rfl,hi,rfl,rfl⟩:=hI';refine au 923742 ?_;refine⟨fun hc=>?_,fun hc=>?_⟩
 ·simp only[dT_]at hc;have Qb:i<N:=by omega
  have hfi:=hfb i Qb;refine au 1142351421302120 ?_;refine TK.callF' Z Z Z Z Z (hf i Qb) (.right (.all _)) fun r1 K2 h3=>?_;obtain⟨rfl,hK⟩:=h3;refine au 0 ?_;rw[hK];refine bN (K':=(jx,.cells (yq b s e (.sl jl 0 Ls.length) m) 125 tt)::Kt) (List.perm_append_singleton _ Kt) ?_;refine au 114235 ?_;refine TK.callF' Z Z Z Z Z (hp i Qb) (.right (.all _)) fun r4 K5 h6=>?_;obtain⟨rfl,hK2⟩:=h6;refine au 0 ?_;rw[hK2];refine bN (K':=(jx,.cells (yq b s e (.sl jl 0 Ls.length) m) 125 tt)::Kt) (List.perm_append_singleton _ Kt) ?_;refine au 1 ?_;refine bF 25 (fun g6_4=>?_) (fun g6_4=>?_)
  ·refine au 24012806906701 ?_;refine bH Z (q_max Z Z Z) ?_;refine au 9326071 ?_;apply aI<;>intro Jx
   ·refine bL [0,1,2,3,4,5,6,7,8,9] ?_;refine ad [[1,10],[1,11],[3,4],[10,38]] ?_;refine bU [39] Z (q_len Z Z Z Und.h) ?_;refine ad [[1,11],[9,40,41]] ?_;refine bU [37,42] Z (q_max Z Z Z) ?_;refine TD.as (Wx:=[_,_,_,_,_,_,_]) [36] Z Z (zI Z Z) ?_;refine ad [[13,43],[14]] ?_;refine au 312304140 ?_;refine bA [2,3,4,8,9,15,16] ?_;have hst:halvesM Ls.length p f (i+1)=((i:Int),maxM (f i) (Ls.length - f i)):=if_pos (by rw[g6_4];exact Jx);exact Wj _ _ _ oQ ⟨i+1,rfl,oQ,by rw[hst] <;> rfl,rfl⟩
   refine au 312304140120 ?_;refine bA [2,3,4,8,9,15,16] ?_;have hst:halvesM Ls.length p f (i+1)=halvesM Ls.length p f i:=if_neg (by rw[g6_4];exact fun h=>absurd (Jx.symm.trans h) dQ);exact Wj _ _ _ oQ ⟨i+1,rfl,oQ,by rw[hst] <;> rfl,rfl⟩
  refine au 3123041401201903250888888888 ?_;refine bA [2,3,4,8,9,15,16] ?_;have hst:halvesM Ls.length p f (i+1)=halvesM Ls.length p f i:=if_neg (by rw[g6_4];simp);exact Wj _ _ _ oQ ⟨i+1,rfl,oQ,by rw[hst] <;> rfl,rfl⟩
 simp only[dF_]at hc;obtain rfl:i=N:=by omega
 refine au 3551142160 ?_;refine bB Wz (Kt) ?_ (hs:=(.right (.all _)));exact⟨rfl,rfl⟩
theorem zmK{main T}(hT:zo tp main T){gm}{b:Bk}{s e jl m:Nat}{Ls:List (List Int)}{jx:Nat}{om:Obj}{f:Int->Int}{n:Int}(hom:MapOk om f) :
  zl tp T gm 85 [za n,.ptr jx 0] [(jx,.cells (yq b s e (.sl jl 0 Ls.length) m) 125 tt),(m,.raw om)] (fun r K'=>r=za (f n)/\K'=[(jx,.cells (yq b s e (.sl jl 0 Ls.length) m) 125 tt),(m,.raw om)]):=by
 refine zh 8 hT Tryz.func85 fun Y Wz=>?_;refine au 1690670423542 ?_;refine bH Z (uy Z Z Z Und.h Und.h InfO.h Z mQ hom) ?_;refine au 35 ?_;refine bB Wz [(jx,_),(m,_)] ?_;exact⟨rfl,rfl⟩
theorem zlA{main T}(hT:zo tp main T){gm}{b:Bk}{s e jb:Nat}{k:Nat}(hk:k<b.kE.length) :
  zl tp T gm 86 [za k,.ptr jb 0] [(jb,.cells (zA b s e) 27 tt),(s,zu b)] (fun r K'=>r=zr (!glassB b k)/\K'=[(jb,.cells (zA b s e) 27 tt),(s,zu b)]):=by
 refine zh 11 hT Tryz.func86 fun Y Wz=>?_;refine au 6703601690670423542 ?_;refine bH Z (zg Z Z ze.h mQ (zc9 hk)) ?_;refine au 35300 ?_;refine bB Wz [(jb,_),(s,_)] ?_;exact⟨rfl,rfl⟩
theorem ziQ{main:Bool}{T:gG->Hp->Prop}(hT:zo tp main T){b:Bk}{s e:Nat}(hse:s≠e)(hn:∀ x∈b.kE,x.name.size<=1000)(hl:b.seen.length<=1000) :
  zl tp T gmR 30 [.agg (zA b s e)] [(0,zx),(1,zC),(s,zu b),(e,zw b)] (fun r K'=>r=.tup [za (askApi b).1,za (askApi b).2.1,za (askApi b).2.2]/\K'=[(0,zx),(1,zC),(s,zu b),(e,zw b)]):=by
 refine zh 27 hT Tryz.func30 fun Y Wz=>?_;refine au 21042 ?_;intro j1 hj1;refine au 680423555 ?_;refine bD Z Z Z Z (vJ hT (b:=b) (s:=s) (e:=e) (t:=tt) hse hn hl Z (fun hb=>yC Cal.h (vb hT))) ?_;rintro r2 K3 h4;rcases h4 with⟨hb0,rfl,rfl⟩|⟨jl,jm,om,hb0,hom,rfl,rfl⟩
 ·refine au 220661 ?_;intro jx hjx;refine au 937142235170 ?_;apply aI<;>intro Jz
  ·
   refine au 3555142 ?_;refine bB Wz [(0,_),(1,_),(s,_),(e,_)] ?_;exact⟨by unfold askApi;rw[if_pos hb0] <;> rfl,rfl⟩
  exact absurd (by simpa using Jz) hb0
 ·refine au 220661 ?_;intro jx hjx;refine au 937142235170 ?_;apply aI<;>intro Jz
  ·exact absurd Jz dQ
  obtain⟨hck,hth,hne⟩:=wm hb0;have hb:=yH hck;have hLo:=yU hb;have hLn:=yP hb;refine au 32032068067069067068042120 ?_;rw[show b.sP=((b.sP.toNat:Nat):Int) by have:=hb.sP;omega];refine bD Z Z Z Z (zd5 hT (b:=b) (s:=s) (e:=e) (N:=b.sP.toNat) (p:=fun k=>zS b k) (f:=fun k=>oftM (zd b) k) (Kt:=[(jx,.cells (yq b s e (.sl jl 0 (zd b).length) jm) 125 tt),(jm,.raw om)]) hLn (by have:=hb.sP;omega) (fun k _=>CallFK.frame (.none _) (yC Cal.h (wc hT (by have:=hb.sP;omega)))) (fun k _=>yC Cal.h (zmK hT hom)) (fun k _=>by have:=zo7 hb k;omega)) ?_;rintro r5 K6 ⟨rfl,rfl⟩;refine au 35551142355661 ?_;refine bB Wz [(0,_),(1,_),(s,_),(e,_)] ?_;exact⟨by unfold askApi;rw[if_neg (show ¬ (askM b tt≠0) by rw[hb0];decide)] <;> rfl,rfl⟩
theorem zie{main:Bool}{T:gG->Hp->Prop}(hT:zo tp main T){b:Bk}{s e:Nat}(hse:s≠e)(hn:∀ x∈b.kE,x.name.size<=1000)(hl:b.seen.length<=1000) :
  zl tp T gmR 31 [.agg (zA b s e)] [(0,zx),(1,zC),(s,zu b),(e,zw b)] (fun r K'=>r=.tup [za (lendApi b).1,za (lendApi b).2.1,za (lendApi b).2.2]/\K'=[(0,zx),(1,zC),(s,zu b),(e,zw b)]):=by
 refine zh 27 hT Tryz.func31 fun Y Wz=>?_;refine au 21042 ?_;intro jb hjb;refine au 680423555 ?_;refine bD Z Z Z Z (vJ hT (b:=b) (s:=s) (e:=e) (t:=tt) hse hn hl Z (fun hb=>yC Cal.h (vb hT))) ?_;rintro r1 K2 h3;rcases h3 with⟨hb0,rfl,rfl⟩|⟨jl,jm,om,hb0,hom,rfl,rfl⟩
 ·refine au 220661 ?_;intro jx hjx;refine au 937142235170 ?_;apply aI<;>intro Jz
  ·
   refine au 3555142 ?_;refine bB Wz [(0,_),(1,_),(s,_),(e,_)] ?_;exact⟨by unfold lendApi;rw[if_pos hb0] <;> rfl,rfl⟩
  exact absurd (by simpa using Jz) hb0
 ·refine au 220661 ?_;intro jx hjx;refine au 937142235170 ?_;apply aI<;>intro Jz
  ·exact absurd Jz dQ
  obtain⟨hck,hth,hne⟩:=wm hb0;have hb:=yH hck;have hLo:=yU hb;have hLn:=yP hb;refine au 32068032028069067068042120 ?_;refine bD Z Z Z Z (zd5 hT (b:=b) (s:=s) (e:=e) (N:=b.kE.length) (p:=fun k => !glassB b k) (f:=fun k=>rightsM b (zd b) k) (Kt:=[(jb,.cells (zA b s e) 27 tt),(1,zC),(s,zu b),(jl,listO (zd b))]) hLn (by have:=hb.ns;omega) (fun k hk=>CallFK.frame vQ (yC Cal.h (zlA hT hk))) (fun k hk=>CallFK.frame vQ (yC Cal.h (zes hT hb hLo hLn hk))) (fun k _=>by have:=zaN b (zd b) k;omega)) ?_;rintro r4 K5 ⟨rfl,rfl⟩;refine au 35551142355661 ?_;refine bB Wz [(0,_),(1,_),(s,_),(e,_)] ?_;exact⟨by unfold lendApi;rw[if_neg (show ¬ (askM b tt≠0) by rw[hb0];decide)] <;> rfl,rfl⟩
section
variable {P:gP}{gm:Nat->Option Nat}{T:gG->Hp->Prop}{Y:KX P gm T}{ds:List Nat}{k:List Item}{Wq Wk:List AV}{K K' K1:KV}{Qy:Array Oper}{i:Nat}{Wp:List Nat}{o:Oper}{envf:Nat->List AV}
theorem _root_.Go.Vel.Upd.same'{K K':KV}{i j:Nat}{o o':AObj}(h:Upd K i o j o' K'):i=j->o'=o->K'=K:=by
 induction h with
 | head=>intro hj e;rw[e,hj]
 | tail _ ih=>intro hj e;rw[ih hj e]
theorem _root_.Go.Vel.Upd.same{K K':KV}{i:Nat}{o o':AObj}(h:Upd K i o i o' K')(e:o'=o):K'=K:=h.same' rfl e
theorem TK.appGz{s x:Operand}{t e:gT}{size bytes j n m:Nat}{lo ln:List AV}{u:AV}{K'':Nat->KV}(ho:Qy[i]? =some o)(hw:zM Qy Wq o=some tt)(Qw:o.op=.call { callee:=.builtin .append,args:=#[s,x],argTypes:=#[t,t] })(ht:apOf P t=some (e,size,bytes))(hs:zn gm Wq s=some (.row j n))(hm:(j,.row lo e size)∈K)(hlo:lo.length=n*size)(hx:zn gm Wq x=some u)(hl:lenA u=some m)(hsrc:0<m->srcO K size u m ln)(hln:m=0->ln=[])
  (hone:ln.all oneA=tt) (hmax:n+m<=maxLen) (hbytes:(n+m)*bytes<=140737488355328) (hu:∀ j',Upd K j (.row lo e size) j' (.row (lo++ln) e size) (K'' j')) (he:∀ j',zV Wq o.dst (.row j' (n+m))=envf j') (h:∀ j',TK Y ds (.inRegion Qy Wp::k) (envf j') (K'' j')):TK Y ds (.inRegion Qy (i::Wp)::k) Wq K:=by
 rcases mP m with e0|Qx
 ·subst e0;have hk:K'' j=K:=(hu j).same (by rw[hln rfl,lR]);have ht':=ht;unfold apOf at ht';split at ht'
  ·rename_i e' h1;split at ht'
   ·rename_i ti h2;refine TK.q (r:=.row j n) ho (by rw[Qw] <;> rfl) hw (zj0 Qw h1 h2 hs hx hl) (he j) ?_;rw[<- hk];exact h j
   ·cases ht'
  ·cases ht'
 ·exact bO ho (by rw[Qw] <;> rfl) hw (a_app Qw ht hs hm hlo hx (hsrc Qx) Qx hone hmax hbytes) hu he h
theorem TK.normK(he:K=K')(h:TK Y ds k Wq K'):TK Y ds k Wq K:=he ▸ h
theorem TK.ndz(h:(keys K).Nodup->TK Y ds k Wq K):TK Y ds k Wq K:=fun A hA=>h hA.nd A hA
theorem TK.freezeBk(d:Nat){a b c f:Value}{j1 n1 j2 n2:Nat}{l1 l2:List AV}{e1 s1 e2 s2:Nat}(hd:Wq[d]? =some (.agg [.v a,.v b,.v c,.v f,.row j1 n1,.row j2 n2]))(hu1:Upd K j1 (.row l1 e1 s1) j1 (.cells l1 e1 ff) K1)(hu2:Upd K1 j2 (.row l2 e2 s2) j2 (.cells l2 e2 ff) K')(he:Wq.set d (.agg [.v a,.v b,.v c,.v f,.sl j1 0 n1,.sl j2 0 n2])=Wk)(h:TK Y ds k Wk K'):TK Y ds k Wq K:=by
 have Qp:d<Wq.length:=(lD.1 hd).1;refine TK.freeze d hd hu1 Z ?_;refine TK.freeze d (List.getElem?_set_self Qp) hu2 (Wk:=Wk) ?_ h;rw[<- he,List.set_set];congr 1;by_cases h:j2=j1
 ·subst h;simp[unrow1,unrow]
 ·simp[unrow1,unrow,h]
end
theorem zdf{l:List AV}{e:gT}{rw':Bool}{n size:Nat}(hl:l.length=n*size)(h:0<n*size):z6 (.cells l e rw') 0 (n*size)=some l:=by
 simp only[z6,AObj.look,mO,List.drop_zero];rw[if_pos ⟨h,oQ⟩,<- hl,lW]
theorem zdZ{α:Type}(f:α->List AV)(h:∀ x,(f x).all oneA=tt)(xs:List α):(xs.flatMap f).all oneA=tt:=by
 induction xs with
 | nil=>rfl
 | cons x xs ih=>rw[List.flatMap_cons,List.all_append,h,ih] <;> rfl
def ownC(b:Bk)(j1 j2:Nat):List AV:=[za b.sP,za b.wrong,za b.low,za b.high,.row j1 b.kE.length,.row j2 b.seen.length]
def hearB(b:Bk)(x:Says):Bk:={ b with kE:=b.kE++[x] }
def lookB(b:Bk)(x:Seen):Bk:={ b with seen:=b.seen++[x] }
def giveB(b:Bk)(k:Nat):Bk:={ b with kE:=b.kE.modify k fun x=>{ x with glass:=tt } }
theorem zet:∀(xs:List Says)(k:Nat),k<xs.length->(xs.flatMap saysC).set (k*5+4) (zr tt)=(xs.modify k fun x=>{ x with glass:=tt }).flatMap saysC
 | x::xs,0,_=>rfl
 | x::xs,k+1,h=>by
  rw[List.modify_succ_cons,List.flatMap_cons,List.flatMap_cons,<- zet xs k (by simpa using h),show(k+1)*5+4=(k*5+4)+5 by omega];rfl
theorem zjX{b:Bk}{k:Nat}(hk:k<b.kE.length):putO (.row (b.kE.flatMap saysC) 78 5) ((k:Int).toNat*5+4) [zr tt]=some (.row ((giveB b k).kE.flatMap saysC) 78 5):=by
 have hl:=yW saysC 5 (fun _=>rfl) b.kE;have hle:(k+1)*5<=b.kE.length*5:=Nat.mul_le_mul_right _ hk;unfold putO;dsimp only;rw[if_pos ⟨by rw[hl];simp;omega,by simp,rfl⟩];show some (AObj.row ((b.kE.flatMap saysC).set ((k:Int).toNat*5+4) (zr tt)) _ _)=_;rw[mZ,zet _ _ hk] <;> rfl
def newsM(b o:Bk):Int:=if zF b≠0 then zF b else askM o tt
def giveM(b:Bk)(k:Int):Int:=if zF b≠0 then zF b else if isSeekerM b k=ff then 6 else if glassB b k.toNat=tt then 5 else askM (giveB b k.toNat) tt
theorem zfv(b:Bk)(x:Says):(hearB b x).kE.flatMap saysC=b.kE.flatMap saysC++saysC x:=by simp[hearB]
theorem zjE(b:Bk)(x:Seen):(lookB b x).seen.flatMap seenC=b.seen.flatMap seenC++seenC x:=by simp[lookB]
theorem zlq(b:Bk)(x:Says):b.kE.length+1=(hearB b x).kE.length:=by simp[hearB]
theorem zlF(b:Bk)(x:Seen):b.seen.length+1=(lookB b x).seen.length:=by simp[lookB]
theorem zlj(b:Bk)(k:Nat):b.kE.length=(giveB b k).kE.length:=by simp[giveB]
theorem zh5{b:Bk}{k:Nat}(hn:∀ x∈b.kE,x.name.size<=1000):∀ x∈(giveB b k).kE,x.name.size<=1000:=fun x hx=>by
 obtain⟨i,hi⟩:=List.mem_iff_getElem?.1 hx;unfold giveB at hi;simp only[List.getElem?_modify]at hi;cases e:b.kE[i]? with
 | none=>rw[e]at hi;cases hi
 | some y =>
  rw[e]at hi;have hy:=hn y (lN e);simp only[Option.map_eq_map,Option.map_some,Option.some.injEq]at hi;subst hi;split <;> exact hy
theorem zh9{b:Bk}{x:Says}(hn:∀ x∈b.kE,x.name.size<=1000)(hx:x.name.size<=1000):∀ y∈(hearB b x).kE,y.name.size<=1000:=fun y hy=>by
 rcases lT.1 hy with h|h
 ·exact hn y h
 ·rw[lS.1 h];exact hx
theorem zaq{main:Bool}{T:gG->Hp->Prop}(hT:zo tp main T){b:Bk}{s e:Nat}(hse:s≠e)(hn:∀ x∈b.kE,x.name.size<=1000)(hl:b.seen.length<=1000) :
  zl tp T gmR 88 [.agg (zA b s e)] [(0,zx),(1,zC),(s,zu b),(e,zw b)] (fun r K'=>((askM b tt≠0/\r=.tup [.agg zeroBk,za (askM b tt)])\/(askM b tt=0/\r=.tup [.agg (zA b s e),za 0]))/\K'=[(0,zx),(1,zC),(s,zu b),(e,zw b)]):=by
 refine zh 16 hT Tryz.func88 fun Y Wz=>?_;refine au 21042 ?_;intro j1 hj1;refine au 220 ?_;intro j2 hj2;refine au 68042235 ?_;refine bD Z Z Z Z (vJ hT (b:=b) (s:=s) (e:=e) (t:=tt) hse hn hl Z (fun hb=>yC Cal.h (vb hT))) ?_;rintro r3 K4 h5;rcases h5 with⟨hb0,rfl,rfl⟩|⟨jl,jm,om,hb0,hom,rfl,rfl⟩
 ·refine au 220661 ?_;intro j6 hj6;refine au 93714235170 ?_;apply aI<;>intro Jz
  ·
   refine au 35170143042 ?_;refine bB Wz [(0,_),(1,_),(s,_),(e,_)] ?_;exact⟨.inl ⟨hb0,rfl⟩,rfl⟩
  exact absurd (by simpa using Jz) hb0
 ·refine au 220661 ?_;intro j7 hj7;refine au 93714235170 ?_;apply aI<;>intro Jz
  ·exact absurd Jz dQ
  obtain⟨hck,hth,hne⟩:=wm hb0;have hb:=yH hck;have hLo:=yU hb;have hLn:=yP hb;refine au 3517068042120 ?_;refine bB Wz [(0,_),(1,_),(s,_),(e,_)] ?_;exact⟨.inr ⟨hb0,rfl⟩,rfl⟩
theorem zfb{main T}(hT:zo tp main T){gm}{j n:Nat}{l:List AV}{rw':Bool}(hl:l.length=n*5)(hone:l.all oneA=tt)(hn:n<=100000) :
  zl tp T gm 115 [.sl j 0 n] [(j,.cells l 78 rw')] (fun r K'=>∃ j2,r=.row j2 n/\K'=[(j,.cells l 78 rw'),(j2,.row l 78 5)]):=by
 refine zh 8 hT Tryz.func115 fun Y Wz=>?_;refine au 14223542 ?_;refine TK.nilT Z Z Z Z Und.h fun tz hz=>?_;refine au 93 ?_;apply aI<;>intro Jz
 ·refine au 542 ?_;refine TK.virt 2 78 5 Z fun j0 hj0=>?_;refine au 3 ?_;refine bB Wz [(j,_),(j0,_)] ?_;obtain rfl:=hz Jz;obtain rfl:=lK (by simpa using hl);exact⟨_,rfl,rfl⟩
 refine au 42120 ?_;refine bI Z Z Z (zH (l:=[]) Z zp.h TyZ.h dQ dQ Z) (fun _=>zD rfl tQ) fun j1 hj1=>?_;refine au 1 ?_;refine TK.appGz (envf:=fun _=>[_,_,_,_,_,_,_,_]) (ln:=l) rfl rfl rfl ApOf.h rfl mQ rfl rfl rfl (fun hp=>zan mQ oQ (zdf hl oQ)) (fun h=>by subst h;exact lK (by simpa using hl)) hone (by unfold maxLen;omega) oQ (fun _=>uQ) (fun _=>rfl) fun j2=>?_;simp only[lC,mO];refine au 35 ?_;refine bB Wz [(j,_),(j2,_)] ?_;exact⟨_,rfl,rfl⟩
theorem zfc{main T}(hT:zo tp main T){gm}{j n:Nat}{l:List AV}{rw':Bool}(hl:l.length=n*2)(hone:l.all oneA=tt)(hn:n<=100000) :
  zl tp T gm 116 [.sl j 0 n] [(j,.cells l 105 rw')] (fun r K'=>∃ j2,r=.row j2 n/\K'=[(j,.cells l 105 rw'),(j2,.row l 105 2)]):=by
 refine zh 8 hT Tryz.func116 fun Y Wz=>?_;refine au 14223542 ?_;refine TK.nilT Z Z Z Z Und.h fun tz hz=>?_;refine au 93 ?_;apply aI<;>intro Jz
 ·refine au 542 ?_;refine TK.virt 2 105 2 Z fun j0 hj0=>?_;refine au 3 ?_;refine bB Wz [(j,_),(j0,_)] ?_;obtain rfl:=hz Jz;obtain rfl:=lK (by simpa using hl);exact⟨_,rfl,rfl⟩
 refine au 42120 ?_;refine bI Z Z Z (zH (l:=[]) Z zp.h TyZ.h dQ dQ Z) (fun _=>zD rfl tQ) fun j1 hj1=>?_;refine au 1 ?_;refine TK.appGz (envf:=fun _=>[_,_,_,_,_,_,_,_]) (ln:=l) rfl rfl rfl ApOf.h rfl mQ rfl rfl rfl (fun hp=>zan mQ oQ (zdf hl oQ)) (fun h=>by subst h;exact lK (by simpa using hl)) hone (by unfold maxLen;omega) oQ (fun _=>uQ) (fun _=>rfl) fun j2=>?_;simp only[lC,mO];refine au 35 ?_;refine bB Wz [(j,_),(j2,_)] ?_;exact⟨_,rfl,rfl⟩
theorem zf0{main T}(hT:zo tp main T){gm}{b:Bk}{s e:Nat}(hs5:b.kE.length<=1000)(he5:b.seen.length<=1000) :
  zl tp T gm 87 [.agg (zA b s e)] [(s,zu b),(e,zw b)] (fun r K'=>∃ j1 j2,r=.agg (ownC b j1 j2)/\K'=[(s,zu b),(e,zw b),(j1,.row (b.kE.flatMap saysC) 78 5),(j2,.row (b.seen.flatMap seenC) 105 2)]):=by
 refine zh 12 hT Tryz.func87 fun Y Wz=>?_;refine au 21042 ?_;intro jb hjb;refine au 220 ?_;intro jr hjr;refine au 23 ?_;refine TK.dr [0,1,3,4,2,6,5,7,8,9] [0,1,2,3,4,5,6,7,8,9] ?_;refine ad [[3,1],[10,3],[3,1],[10,6]] ?_;refine TD.cl (Wx:=[_,_,_]) [4] Z Z Z Z Z (zfb hT (yW saysC 5 (fun _=>rfl) b.kE) (zdZ saysC (fun _=>rfl) _) oQ) (fun r1 K2 h3=>⟨?_,?_⟩)
 ·rcases h3 with⟨j1,rfl,rfl⟩
  all_goals simp
 obtain⟨j1,rfl,rfl⟩:=h3;try simp only[cA]
 refine bS tQ ?_;refine ad [[3,1]] ?_;refine TD.cl (Wx:=[_,_,_]) [7] Z Z Z Z Z (zfc hT (yW seenC 2 (fun _=>rfl) b.seen) (zdZ seenC (fun _=>rfl) _) oQ) (fun r4 K5 h6=>⟨?_,?_⟩)
 ·rcases h6 with⟨j2,rfl,rfl⟩
  all_goals simp
 obtain⟨j2,rfl,rfl⟩:=h6;try simp only[cA]
 refine bS tQ ?_;refine TD.s (Wx:=[]) [5,9] Z Z (zz Z Z ze.h Z Z mQ Z) ?_;refine ad [[3,1]] ?_;refine TD.s (Wx:=[]) [8,10] Z Z (zz Z Z ze.h Z Z mQ Z) ?_;refine ad [[14]] ?_;refine au 317068042 ?_;refine bB Wz [(s,_),(e,_),(j1,_),(j2,_)] ?_;exact⟨j1,j2,rfl,rfl⟩
theorem znc{main:Bool}{T:gG->Hp->Prop}(hT:zo tp main T){b:Bk}{s e:Nat}{x:Says}(hse:s≠e)(hn:∀ x∈b.kE,x.name.size<=1000)(hl:b.seen.length<=1000)(hx:x.name.size<=1000) :
  zl tp T gmR 34 [.agg (zA b s e),.agg (saysC x)] [(0,zx),(1,zC),(s,zu b),(e,zw b)] (fun r K'=>(newsM b (hearB b x)≠0/\r=.tup [.agg zeroBk,za (newsM b (hearB b x))]/\K'=[(0,zx),(1,zC),(s,zu b),(e,zw b)])\/(newsM b (hearB b x)=0/\∃ j3 j2,r=.tup [.agg (zA (hearB b x) j3 j2),za 0]/\K'=[(0,zx),(1,zC),(s,zu b),(e,zw b),(j3,zu (hearB b x)),(j2,zw (hearB b x))])):=by
 refine zh 26 hT Tryz.func34 fun Y Wz=>?_;refine au 21042 ?_;intro j1 hj1;refine au 210 ?_;intro j2 hj2;refine au 220 ?_;intro jr hjr;refine au 68042235 ?_;refine TK.clE Z Z Z Z (kR hT (b:=b) (s:=s) (e:=e) hn hl) ?_;refine au 93714235 ?_;apply aI<;>intro Jz
 ·refine au 35170143042 ?_;refine bB Wz [(0,_),(1,_),(s,_),(e,_)] ?_;have ha:newsM b (hearB b x)=zF b:=if_pos (by simpa using Jz);exact .inl ⟨by rw[ha];simpa using Jz,by rw[ha] <;> rfl,rfl⟩
 have hb:=yH (b:=b) (by simpa using Jz);refine au 68042120 ?_;refine bD Z Z Z Z (zf0 hT (by have:=hb.ns;omega) (by have:=hb.ne;omega)) ?_;rintro r6 K7 ⟨j1,j2,rfl,rfl⟩;refine au 220 ?_;intro jo hjo;refine au 680690670423170 ?_;refine bI Z Z Z (zH (l:=[_,_,_,_,_]) Z zp.h TyZ.h dQ dQ Z) (fun _=>zD rfl tQ) fun j9 hj9=>?_;refine bO Z Z Z (a_app Z ApOf.h Z mQ (yW saysC 5 (fun _=>rfl) _) rfl (yO (ln:=[_,_,_,_,_]) mQ dQ sQ rfl) oQ rfl (by have:=hb.ns;unfold maxLen;omega) (by have:=hb.ns;omega)) (fun _=>uQ) (fun _=>zD rfl tQ) fun j3=>?_;refine au 680423170670 ?_;refine TK.freezeBk 22 Z uQ uQ Z ?_;refine bC [(j3,_),(j2,_),(0,_),(1,_),(s,_),(e,_),(jr,_)] ?_;refine TK.normK (K':=[(j3,zu (hearB b x)),(j2,zw (hearB b x)),(0,_),(1,_),(s,_),(e,_),(jr,_)]) (by unfold zu;rw[zfv] <;> rfl) ?_;rw[zlq b x];refine au 0 ?_;refine TK.ndz fun hnd=>?_;have hjj:j3≠j2:=fun h=>by subst h;simp[keys]at hnd
 refine bD Z Z Z Z (zaq hT (b:=hearB b x) (s:=j3) (e:=j2) hjj (zh9 hn hx) (hl)) ?_;rintro r10 K11 h12;rcases h12 with⟨⟨hb0,rfl⟩|⟨hb0,rfl⟩,rfl⟩
 ·refine au 3517066 ?_;refine bB Wz [(0,_),(1,_),(s,_),(e,_)] ?_;have ha:newsM b (hearB b x)=askM (hearB b x) tt:=if_neg (by simpa using Jz);exact .inl ⟨by rw[ha];exact hb0,by rw[ha] <;> rfl,rfl⟩
 ·refine au 3517066 ?_;refine bB Wz [(0,_),(1,_),(s,_),(e,_),(j3,_),(j2,_)] ?_;have ha:newsM b (hearB b x)=askM (hearB b x) tt:=if_neg (by simpa using Jz);exact .inr ⟨by rw[ha];exact hb0,j3,j2,rfl,rfl⟩
theorem znk{main:Bool}{T:gG->Hp->Prop}(hT:zo tp main T){b:Bk}{s e:Nat}{n:Int}{sm:Bool}(hse:s≠e)(hn:∀ x∈b.kE,x.name.size<=1000)(hl:b.seen.length<=1000) :
  zl tp T gmR 33 [.agg (zA b s e),za n,zr sm] [(0,zx),(1,zC),(s,zu b),(e,zw b)] (fun r K'=>(newsM b (lookB b ⟨n,sm⟩)≠0/\r=.tup [.agg zeroBk,za (newsM b (lookB b ⟨n,sm⟩))]/\K'=[(0,zx),(1,zC),(s,zu b),(e,zw b)])\/(newsM b (lookB b ⟨n,sm⟩)=0/\∃ j3 j2,r=.tup [.agg (zA (lookB b ⟨n,sm⟩) j3 j2),za 0]/\K'=[(0,zx),(1,zC),(s,zu b),(e,zw b),(j3,zu (lookB b ⟨n,sm⟩)),(j2,zw (lookB b ⟨n,sm⟩))])):=by
 refine zh 30 hT Tryz.func33 fun Y Wz=>?_;refine au 21042 ?_;intro j1 hj1;refine au 220 ?_;intro jr hjr;refine au 68042235 ?_;refine TK.clE Z Z Z Z (kR hT (b:=b) (s:=s) (e:=e) hn hl) ?_;refine au 93714235 ?_;apply aI<;>intro Jz
 ·refine au 35170143042 ?_;refine bB Wz [(0,_),(1,_),(s,_),(e,_)] ?_;have ha:newsM b (lookB b ⟨n,sm⟩)=zF b:=if_pos (by simpa using Jz);exact .inl ⟨by rw[ha];simpa using Jz,by rw[ha] <;> rfl,rfl⟩
 have hb:=yH (b:=b) (by simpa using Jz);refine au 68042120 ?_;refine bD Z Z Z Z (zf0 hT (by have:=hb.ns;omega) (by have:=hb.ne;omega)) ?_;rintro r5 K6 ⟨j1,j2,rfl,rfl⟩;refine au 220 ?_;intro jo hjo;refine au 39011690670423170 ?_;refine bI Z Z Z (zH (l:=[_,_]) Z zp.h TyZ.h dQ dQ Z) (fun _=>zD rfl tQ) fun j8 hj8=>?_;refine bO Z Z Z (a_app Z ApOf.h Z mQ (yW seenC 2 (fun _=>rfl) _) rfl (yO (ln:=[_,_]) mQ dQ sQ rfl) oQ rfl (by have:=hb.ne;unfold maxLen;omega) (by have:=hb.ne;omega)) (fun _=>uQ) (fun _=>zD rfl tQ) fun j3=>?_;refine au 680423170670 ?_;refine TK.freezeBk 26 Z uQ uQ Z ?_;refine bC [(j1,_),(j3,_),(0,_),(1,_),(s,_),(e,_),(jr,_)] ?_;refine TK.normK (K':=[(j1,zu (lookB b ⟨n,sm⟩)),(j3,zw (lookB b ⟨n,sm⟩)),(0,_),(1,_),(s,_),(e,_),(jr,_)]) (by unfold zw;rw[zjE] <;> rfl) ?_;rw[zlF b ⟨n,sm⟩];refine au 0 ?_;refine TK.ndz fun hnd=>?_;have hjj:j1≠j3:=fun h=>by subst h;simp[keys]at hnd
 refine bD Z Z Z Z (zaq hT (b:=lookB b ⟨n,sm⟩) (s:=j1) (e:=j3) hjj (hn) (by have:=hb.ne;simp[lookB];omega)) ?_;rintro r9 K10 h11;rcases h11 with⟨⟨hb0,rfl⟩|⟨hb0,rfl⟩,rfl⟩
 ·refine au 3517066 ?_;refine bB Wz [(0,_),(1,_),(s,_),(e,_)] ?_;have ha:newsM b (lookB b ⟨n,sm⟩)=askM (lookB b ⟨n,sm⟩) tt:=if_neg (by simpa using Jz);exact .inl ⟨by rw[ha];exact hb0,by rw[ha] <;> rfl,rfl⟩
 ·refine au 3517066 ?_;refine bB Wz [(0,_),(1,_),(s,_),(e,_),(j1,_),(j3,_)] ?_;have ha:newsM b (lookB b ⟨n,sm⟩)=askM (lookB b ⟨n,sm⟩) tt:=if_neg (by simpa using Jz);exact .inr ⟨by rw[ha];exact hb0,j1,j3,rfl,rfl⟩
theorem zna{main:Bool}{T:gG->Hp->Prop}(hT:zo tp main T){b:Bk}{s e:Nat}{n:Int}(hse:s≠e)(hn:∀ x∈b.kE,x.name.size<=1000)(hl:b.seen.length<=1000) :
  zl tp T gmR 32 [.agg (zA b s e),za n] [(0,zx),(1,zC),(s,zu b),(e,zw b)] (fun r K'=>(giveM b n≠0/\r=.tup [.agg zeroBk,za (giveM b n)]/\K'=[(0,zx),(1,zC),(s,zu b),(e,zw b)])\/(giveM b n=0/\∃ j3 j2,r=.tup [.agg (zA (giveB b n.toNat) j3 j2),za 0]/\K'=[(0,zx),(1,zC),(s,zu b),(e,zw b),(j3,zu (giveB b n.toNat)),(j2,zw (giveB b n.toNat))])):=by
 refine zh 40 hT Tryz.func32 fun Y Wz=>?_;refine au 21042 ?_;intro jb hjb;refine au 220 ?_;intro jr hjr;refine au 68042235 ?_;refine TK.clE Z Z Z Z (kR hT (b:=b) (s:=s) (e:=e) hn hl) ?_;refine au 93714235 ?_;apply aI<;>intro Jz
 ·refine au 35170143042 ?_;refine bB Wz [(0,_),(1,_),(s,_),(e,_)] ?_;have ha:giveM b n=zF b:=if_pos (by simpa using Jz);exact .inl ⟨by rw[ha];simpa using Jz,by rw[ha] <;> rfl,rfl⟩
 have hb:=yH (b:=b) (by simpa using Jz);refine au 1430680421302120 ?_;refine TK.clE Z Z Z Z (uT hT (b:=b) (s:=s) (e:=e) (by have:=hb.ns;omega)) ?_;refine au 935300 ?_;apply aI<;>intro Jx
 ·refine au 3517043042 ?_;refine bB Wz [(0,_),(1,_),(s,_),(e,_)] ?_;have ha:giveM b n=6:=by unfold giveM;rw[if_neg (by simpa using Jz),if_pos (by simpa using Jx)]
  exact .inl ⟨by rw[ha];decide,by rw[ha] <;> rfl,rfl⟩
 have hk0:isSeekerM b n=tt:=by simpa using Jx
 obtain⟨k,rfl⟩:∃ k:Nat,n=k:=⟨n.toNat,by simp only[isSeekerM,mX,dT_]at hk0;omega⟩;have hk:k<b.kE.length:=by simp only[isSeekerM,mX,dT_]at hk0;omega
 refine au 670360169067042 ?_;refine bH Z (zg Z Z ze.h mQ (zc9 hk)) ?_;refine au 935 ?_;apply aI<;>intro hc2
 ·refine au 3517043042 ?_;refine bB Wz [(0,_),(1,_),(s,_),(e,_)] ?_;have ha:giveM b (k:Int)=5:=by unfold giveM;rw[if_neg (by simpa using Jz),hk0,if_neg dQ,mZ,hc2,if_pos rfl]
  exact .inl ⟨by rw[ha];decide,by rw[ha] <;> rfl,rfl⟩
 refine au 68042140120 ?_;refine bD Z Z Z Z (zf0 hT (by have:=hb.ns;omega) (by have:=hb.ne;omega)) ?_;rintro r7 K8 ⟨j1,j2,rfl,rfl⟩;refine au 220 ?_;intro jo hjo;refine au 6703701690670423170 ?_;refine TK.st Z Z Z (zz Z Z ze.h Z Z mQ (zjX hk)) uQ (putN Z) ?_;refine au 680423 ?_;refine TK.freezeBk 36 Z uQ uQ Z ?_;refine bC [(j1,_),(j2,_),(0,_),(1,_),(s,_),(e,_),(jr,_)] ?_;refine TK.normK (K':=[(j1,zu (giveB b k)),(j2,zw (giveB b k)),(0,_),(1,_),(s,_),(e,_),(jr,_)]) (by rfl) ?_;rw[zlj b k];refine au 0 ?_;refine TK.ndz fun hnd=>?_;have hjj:j1≠j2:=fun h=>by subst h;simp[keys]at hnd
 refine bD Z Z Z Z (zaq hT (b:=giveB b k) (s:=j1) (e:=j2) hjj (zh5 hn) (hl)) ?_;rintro r10 K11 h12;rcases h12 with⟨⟨hb0,rfl⟩|⟨hb0,rfl⟩,rfl⟩
 ·refine au 3517066 ?_;refine bB Wz [(0,_),(1,_),(s,_),(e,_)] ?_;have ha:giveM b (k:Int)=askM (giveB b k) tt:=by unfold giveM;rw[if_neg (by simpa using Jz),hk0,if_neg dQ,mZ,hc2,if_neg dQ]
  exact .inl ⟨by rw[ha];exact hb0,by rw[ha] <;> rfl,rfl⟩
 ·refine au 3517066 ?_;refine bB Wz [(0,_),(1,_),(s,_),(e,_),(j1,_),(j2,_)] ?_;have ha:giveM b (k:Int)=askM (giveB b k) tt:=by unfold giveM;rw[if_neg (by simpa using Jz),hk0,if_neg dQ,mZ,hc2,if_neg dQ]
  exact .inr ⟨by rw[ha];exact hb0,j1,j2,rfl,rfl⟩
def cmpI2(x y:Int):Int:=if x<y then -1 else if x>y then 1 else 0
def cmpL:List Int->List Int->Int
 | [],[]=>0
 | [],_::_ => -1
 | _::_,[]=>1
 | x::xs,y::ys=>if cmpI2 x y≠0 then cmpI2 x y else cmpL xs ys
theorem zdT{xs ys:List Int}{i:Nat}(h1:i<xs.length)(h2:i<ys.length):cmpL (xs.drop i) (ys.drop i)=if cmpI2 xs[i] ys[i]≠0 then cmpI2 xs[i] ys[i]else cmpL (xs.drop (i+1)) (ys.drop (i+1)):=by
 rw[List.drop_eq_getElem_cons h1,List.drop_eq_getElem_cons h2] <;> rfl
theorem zkV{xs ys:List Int}{i:Nat}(h1:i<xs.length)(h2:ys.length<=i):cmpL (xs.drop i) (ys.drop i)=1:=by
 rw[List.drop_eq_getElem_cons h1,List.drop_eq_nil_of_le h2] <;> rfl
theorem zfd{xs ys:List Int}(h:xs.length<=ys.length):cmpL (xs.drop xs.length) (ys.drop xs.length)=if xs.length<ys.length then -1 else 0:=by
 rw[List.drop_eq_nil_of_le (Nat.le_refl _)];split
 ·rename_i h2;rw[List.drop_eq_getElem_cons h2] <;> rfl
 ·rw[List.drop_eq_nil_of_le oQ] <;> rfl
def ltLists(a b:List Int):Bool:=decide (a.length<b.length)||(a.length==b.length&&decide (cmpL a b<0))
def ltGuess(a b:List Int×Int):Bool:=decide (a.2<b.2)||(a.2==b.2&&decide (cmpL a.1 b.1<0))
def ltArc(a b:Int×Int):Bool:=decide (a.2<b.2)||(a.2==b.2&&decide (a.1<b.1))
def ye{α:Type}(lt:α->α->Bool)(o:α)(xs:List α):α:=xs.foldl (fun o x=>if lt x o=tt then x else o) o
theorem zca{α:Type}{lt:α->α->Bool}{o:α}{xs:List α}{i:Nat}(h:i<xs.length)(hl:lt xs[i] (ye lt o (xs.take i))=tt):ye lt o (xs.take (i+1))=xs[i]:=by
 unfold ye at hl ⊢;rw[List.take_add_one,lA h,List.foldl_append];simp[hl]
theorem zb9{α:Type}{lt:α->α->Bool}{o:α}{xs:List α}{i:Nat}(h:i<xs.length)(hl:lt xs[i] (ye lt o (xs.take i))=ff):ye lt o (xs.take (i+1))=ye lt o (xs.take i):=by
 unfold ye at hl ⊢;rw[List.take_add_one,lA h,List.foldl_append];simp[hl]
theorem wo{α:Type}{lt:α->α->Bool}{o:α}:∀{xs:List α},ye lt o xs∈o::xs:=by
 intro xs
 induction xs generalizing o with
 | nil=>simp[ye]
 | cons x xs ih =>
  have:=ih (o:=if lt x o=tt then x else o);show ye lt (if lt x o=tt then x else o) xs∈_;rcases lI.1 this with h|h
  ·rw[h];split <;> simp
  ·simp[h]
theorem firstL_mem'{α:Type}{lt:α->α->Bool}{o:α}{xs:List α}{i:Nat}:ye lt o (xs.take i)∈o::xs:=by
 rcases lI.1 (wo (lt:=lt) (o:=o) (xs:=xs.take i))with h|h
 ·rw[h];simp
 ·exact lL _ (List.mem_of_mem_take h)
theorem zjJ{main T}(hT:zo tp main T){gm}{n:Int} :
  zl tp T gm 159 [za n] [] (fun r K'=>r=zr ff/\K'=[]):=by
 refine zh 6 hT Tryz.func159 fun Y Wz=>?_;refine au 35711423542 ?_;refine TK.rta Wz ?_;exact⟨by simp[zr],rfl⟩
theorem zmT{main T}(hT:zo tp main T){gm}{x y:Int} :
  zl tp T gm 114 [za x,za y] [] (fun r K'=>r=za (cmpI2 x y)/\K'=[]):=by
 refine zh 20 hT Tryz.func114 fun Y Wz=>?_;refine au 1423542 ?_;refine TK.clE Z Z Z Z (zjJ hT) ?_;refine au 14235 ?_;refine TK.clE Z Z Z Z (zjJ hT) ?_;refine au 93711422120190314221201903142235 ?_;apply aI<;>intro Jz
 ·refine au 3542 ?_;refine TK.rta Wz ?_;exact⟨by unfold cmpI2;rw[if_pos (by simpa using Jz)] <;> rfl,rfl⟩
 refine au 93711422120 ?_;apply aI<;>intro Jx
 ·refine au 3542 ?_;refine TK.rta Wz ?_;exact⟨by unfold cmpI2;rw[if_neg (by simpa using Jz),if_pos (by simpa using Jx)] <;> rfl,rfl⟩
 refine au 3542120 ?_;refine TK.rta Wz ?_;exact⟨by unfold cmpI2;rw[if_neg (by simpa using Jz),if_neg (by simpa using Jx)] <;> rfl,rfl⟩
theorem zbM{main T}(hT:zo tp main T){gm}{j1 j2:Nat}{ob1 ob2:AObj}{xs ys:List Int}{K:KV}(h1:(j1,ob1)∈K)(h2:(j2,ob2)∈K)(hI1:IntsAt ob1 0 xs)(hI2:IntsAt ob2 0 ys)(hl1:xs.length<=1000)(hl2:ys.length<=1000) :
  zl tp T gm 80 [.sl j1 0 xs.length,.sl j2 0 ys.length] K (fun r K'=>r=za (cmpL xs ys)/\K'=K):=by
 refine zh 36 hT Tryz.func80 fun Y Wz=>?_;refine au 1303128014223542 ?_;refine bA [0,1,9,10,11] ?_;refine bE (fun n Wq K'=>∃(i:Nat),n=xs.length - i/\i<=xs.length/\i<=ys.length/\cmpL (xs.drop i) (ys.drop i)=cmpL xs ys/\Wq=ym 36 [(0,.sl j1 0 xs.length),(1,.sl j2 0 ys.length),(9,.sl j1 0 xs.length),(10,za xs.length),(11,za i)]/\K'=K) xs.length ⟨0,rfl,mN _,mN _,rfl,rfl,rfl⟩ fun n Wq K' hI' Wj=>?_;obtain⟨i,rfl,hi,hiy,hcm,rfl,rfl⟩:=hI';refine au 923742 ?_;refine⟨fun hc=>?_,fun hc=>?_⟩
 ·simp only[dT_]at hc;have Qb:i<xs.length:=by omega
  refine au 3601421302120 ?_;refine bH Z (zg Z Z ze.h mQ (hI1 i Qb)) ?_;refine au 93728011422355 ?_;apply aI<;>intro Jx
  ·refine au 3542 ?_;refine TK.rta Wz ?_;exact⟨by rw[<- hcm,zkV Qb (by have:=oT_ Jx;omega)] <;> rfl,rfl⟩
  have hyl:i<ys.length:=by have:=oF_ Jx;omega
  refine au 3601142120 ?_;refine bH Z (zg Z Z ze.h mQ (hI2 i hyl)) ?_;refine au 114235 ?_;refine bD Z Z Z Z (zmT hT) ?_ (hs:=(.none _));rintro r1 K2 ⟨rfl,rfl⟩;refine au 0 ?_;refine au 93714235 ?_;apply aI<;>intro hc2
  ·have hc2:cmpI2 xs[i] ys[i]≠0:=by simpa using hc2
   refine au 35142 ?_;refine TK.rta Wz ?_;exact⟨by rw[<- hcm,zdT Qb hyl,if_pos hc2],rfl⟩
  have hc2:cmpI2 xs[i] ys[i]=0:=by simpa using hc2
  refine au 312304140120 ?_;refine bA [0,1,9,10,11] ?_;exact Wj _ _ _ oQ ⟨i+1,rfl,oQ,oQ,by rw[<- hcm,zdT Qb hyl,if_neg (fun h=>h hc2)],rfl,rfl⟩
 simp only[dF_]at hc;obtain rfl:i=xs.length:=by omega
 refine au 93728012801422160 ?_;apply aI<;>intro hc3
 ·refine au 3542 ?_;refine TK.rta Wz ?_;exact⟨by rw[<- hcm,zfd hiy,if_pos (by have:=oT_ hc3;omega)] <;> rfl,rfl⟩
 refine au 3542120 ?_;refine TK.rta Wz ?_;exact⟨by rw[<- hcm,zfd hiy,if_neg (by have:=oF_ hc3;omega)] <;> rfl,rfl⟩
theorem zi3{main T}(hT:zo tp main T){gm}{j1 j2:Nat}{ob1 ob2:AObj}{xs ys:List Int}{K:KV}(h1:(j1,ob1)∈K)(h2:(j2,ob2)∈K)(hI1:IntsAt ob1 0 xs)(hI2:IntsAt ob2 0 ys)(hl1:xs.length<=1000)(hl2:ys.length<=1000) :
  zl tp T gm 83 [.sl j1 0 xs.length,.sl j2 0 ys.length] K (fun r K'=>r=zr (ltLists xs ys)/\K'=K):=by
 refine zh 23 hT Tryz.func83 fun Y Wz=>?_;refine au 1728012801423542 ?_;refine bF 10 (fun g1_6=>?_) (fun g1_6=>?_)
 ·refine au 3526088888888888 ?_;refine TK.rta Wz ?_;exact⟨by unfold ltLists;rw[show decide (xs.length<ys.length)=tt by have:=oT_ g1_6;exact decide_eq_true oQ] <;> rfl,rfl⟩
 refine au 1728012801 ?_;refine bF 16 (fun g1_12=>?_) (fun g1_12=>?_)
 ·refine au 11 ?_;refine bD Z Z Z Z (zbM hT h1 h2 hI1 hI2 hl1 hl2) ?_ (hs:=(.all _));rintro r1 K2 ⟨rfl,rfl⟩;refine au 0 ?_;rw[lR];refine au 352502607 ?_;refine TK.rta Wz ?_;exact⟨by unfold ltLists;rw[show decide (xs.length<ys.length)=ff by have:=oF_ g1_6;exact decide_eq_false oQ,show(xs.length==ys.length)=tt from beq_iff_eq.2 (by have:=eq_of_beq g1_12;omega)] <;> rfl,rfl⟩
 refine au 352502508888 ?_;refine TK.rta Wz ?_;exact⟨by unfold ltLists;rw[show decide (xs.length<ys.length)=ff by have:=oF_ g1_6;exact decide_eq_false oQ,show(xs.length==ys.length)=ff from beq_eq_false_iff_ne.2 (fun h=>by rw[h]at g1_12;simp at g1_12)] <;> rfl,rfl⟩
theorem zcR{main T}(hT:zo tp main T){gm}{j1 j2:Nat}{ob1 ob2:AObj}{xs ys:List Int}{K:KV}{u v:Int}(h1:(j1,ob1)∈K)(h2:(j2,ob2)∈K)(hI1:IntsAt ob1 0 xs)(hI2:IntsAt ob2 0 ys)(hl1:xs.length<=1000)(hl2:ys.length<=1000) :
  zl tp T gm 79 [.agg [.sl j1 0 xs.length,za u],.agg [.sl j2 0 ys.length,za v]] K (fun r K'=>r=zr (ltGuess (xs,u) (ys,v))/\K'=K):=by
 refine zh 25 hT Tryz.func79 fun Y Wz=>?_;refine au 21042 ?_;intro ja hja;refine au 210 ?_;intro jb hjb;refine au 176906706906704235 ?_;refine bF 10 (fun g1_6=>?_) (fun g1_6=>?_)
 ·refine au 352608888888888888 ?_;refine bB Wz (K) ?_ (hs:=(.right (.right (.all _))));exact⟨by unfold ltGuess;dsimp only;rw[g1_6] <;> rfl,rfl⟩
 refine au 17690670690670 ?_;refine bF 16 (fun g1_12=>?_) (fun g1_12=>?_)
 ·refine au 690670690670 ?_;refine bD Z Z Z Z (zbM hT h1 h2 hI1 hI2 hl1 hl2) ?_ (hs:=(.right (.right (.all _))));rintro r1 K2 ⟨rfl,hK⟩;refine au 0 ?_;rw[hK];refine bN (K':=(jb,_)::(ja,_)::K) (lH (l₁:=K)) ?_;refine au 352502607 ?_;refine bB Wz (K) ?_ (hs:=(.right (.right (.all _))));exact⟨by unfold ltGuess;dsimp only;rw[g1_6,g1_12] <;> rfl,rfl⟩
 refine au 35250250888888 ?_;refine bB Wz (K) ?_ (hs:=(.right (.right (.all _))));exact⟨by unfold ltGuess;dsimp only;rw[g1_6,g1_12] <;> rfl,rfl⟩
theorem zcV{main T}(hT:zo tp main T){gm}{a b:Int×Int} :
  zl tp T gm 73 [.agg [za a.1,za a.2],.agg [za b.1,za b.2]] [] (fun r K'=>r=zr (ltArc a b)/\K'=[]):=by
 refine zh 24 hT Tryz.func73 fun Y Wz=>?_;refine au 21042 ?_;intro j1 hj1;refine au 210 ?_;intro j2 hj2;refine au 176906706906704235 ?_;refine bF 10 (fun g1_6=>?_) (fun g1_6=>?_)
 ·refine au 35260888888888888 ?_;refine bB Wz [] ?_;exact⟨by unfold ltArc;rw[g1_6] <;> rfl,rfl⟩
 refine au 17690670690670 ?_;refine bF 16 (fun g1_12=>?_) (fun g1_12=>?_)
 ·refine au 352502607690670690670 ?_;refine bB Wz [] ?_;exact⟨by unfold ltArc;rw[g1_6,g1_12] <;> rfl,rfl⟩
 refine au 3525025088888 ?_;refine bB Wz [] ?_;exact⟨by unfold ltArc;rw[g1_6,g1_12] <;> rfl,rfl⟩
theorem zfj{main T}(hT:zo tp main T){gm}{o:Nat×List Int}{xs:List (Nat×List Int)}{lt:Nat×List Int->Nat×List Int->Bool}{fv:AV}{jo off:Nat}{obo:AObj}{K:KV}(hl:xs.length<=100000)(hm:(jo,obo)∈K)(hI:∀ i (h:i<xs.length),z6 obo (off+(i:Int).toNat*1) 1=some [.sl xs[i].1 0 xs[i].2.length])(hf:∀ a∈o::xs,∀ c∈o::xs,CallFK tp T gm fv [.sl a.1 0 a.2.length,.sl c.1 0 c.2.length] K (fun r K'=>r=zr (lt a c)/\K'=K)) :
  zl tp T gm 82 [fv,.sl o.1 0 o.2.length,.sl jo off xs.length] K (fun r K'=>r=.sl (ye lt o xs).1 0 (ye lt o xs).2.length/\K'=K):=by
 refine zh 22 hT Tryz.func82 fun Y Wz=>?_;refine au 1303128014223542 ?_;refine bA [0,1,9,10,11] ?_;refine bE (fun n Wq K'=>∃(i:Nat),n=xs.length - i/\i<=xs.length/\Wq=ym 22 [(0,fv),(1,.sl (ye lt o (xs.take i)).1 0 (ye lt o (xs.take i)).2.length),(9,.sl jo off xs.length),(10,za xs.length),(11,za i)]/\K'=K) xs.length ⟨0,rfl,mN _,rfl,rfl⟩ fun n Wq K' hI' Wj=>?_;obtain⟨i,rfl,hi,rfl,rfl⟩:=hI';refine au 923742 ?_;refine⟨fun hc=>?_,fun hc=>?_⟩
 ·simp only[dT_]at hc;have Qb:i<xs.length:=by omega
  refine au 360421302120 ?_;refine bH Z (zg Z Z ze.h mQ (hI i Qb)) ?_;refine au 1114235 ?_;refine TK.callF' Z Z Z Z Z (hf xs[i] (lL _ (List.getElem_mem Qb)) (ye lt o (xs.take i)) firstL_mem') (.all _) fun r1 K2 h3=>?_;obtain⟨rfl,hK⟩:=h3;refine au 0 ?_;rw[hK,lR];refine au 93 ?_;apply aI<;>intro Jx
  ·refine au 3123041403514 ?_;refine bA [0,1,9,10,11] ?_;exact Wj _ _ _ oQ ⟨i+1,rfl,oQ,by rw[zca Qb Jx] <;> rfl,rfl⟩
  refine au 312304140120 ?_;refine bA [0,1,9,10,11] ?_;exact Wj _ _ _ oQ ⟨i+1,rfl,oQ,by rw[zb9 Qb Jx] <;> rfl,rfl⟩
 simp only[dF_]at hc;obtain rfl:i=xs.length:=by omega
 refine au 35142160 ?_;refine TK.rta Wz ?_;exact⟨by rw[lW] <;> rfl,rfl⟩
theorem zbO{main T}(hT:zo tp main T){gm}{o:Int×Int}{xs:List (Int×Int)}{lt:Int×Int->Int×Int->Bool}{fv:AV}{jo off:Nat}{obo:AObj}{K:KV}(hl:xs.length<=100000)(hm:(jo,obo)∈K)(hI:∀ i (h:i<xs.length),z6 obo (off+(i:Int).toNat*2) 2=some [za xs[i].1,za xs[i].2])(hf:∀ a∈o::xs,∀ c∈o::xs,CallFK tp T gm fv [.agg [za a.1,za a.2],.agg [za c.1,za c.2]] K (fun r K'=>r=zr (lt a c)/\K'=K)) :
  zl tp T gm 72 [fv,.agg [za o.1,za o.2],.sl jo off xs.length] K (fun r K'=>r=.agg [za (ye lt o xs).1,za (ye lt o xs).2]/\K'=K):=by
 refine zh 22 hT Tryz.func72 fun Y Wz=>?_;refine au 21042 ?_;intro jc hjc;refine au 220 ?_;intro jr hjr;refine au 1303128014223 ?_;refine bA [0,4,6,9,10,11] ?_;refine bN (List.Perm.swap _ _ _) ?_;refine bE (fun n Wq K'=>∃(i:Nat),n=xs.length - i/\i<=xs.length/\Wq=ym 22 [(0,fv),(4,.ptr jc 0),(6,.ptr jr 0),(9,.sl jo off xs.length),(10,za xs.length),(11,za i)]/\K'=(jc,.cells [za (ye lt o (xs.take i)).1,za (ye lt o (xs.take i)).2] 137 tt)::(jr,.cells [za 0,za 0] 137 tt)::K) xs.length ⟨0,rfl,mN _,rfl,rfl⟩ fun n Wq K' hI' Wj=>?_;obtain⟨i,rfl,hi,rfl,rfl⟩:=hI';refine au 923742 ?_;refine⟨fun hc=>?_,fun hc=>?_⟩
 ·simp only[dT_]at hc;have Qb:i<xs.length:=by omega
  refine au 360421302120 ?_;refine bH Z (zK Z Z ze.h mQ (hI i Qb)) ?_;refine au 220 ?_;intro j9 hj9;refine au 6806801423170 ?_;refine TK.callF' Z Z Z Z Z (hf xs[i] (lL _ (List.getElem_mem Qb)) (ye lt o (xs.take i)) firstL_mem') (.right (.right (.right (.all _)))) fun r1 K2 h3=>?_;obtain⟨rfl,hK⟩:=h3;refine au 0 ?_;rw[hK];refine bN (K':=(j9,_)::(jc,_)::(jr,_)::K) (lH (l₁:=K)) ?_;refine au 93 ?_;apply aI<;>intro Jx
  ·refine au 31230414031706804 ?_;refine bA [0,4,6,9,10,11] ?_;refine TK.keep (R:=((jc,_)::(jr,_)::K)) (.rem (by repeat (first|exact Rem.head|apply Rem.tail)) (.rem (by repeat (first|exact Rem.head|apply Rem.tail)) (.right (.all _)))) ?_;exact Wj _ _ _ oQ ⟨i+1,rfl,oQ,rfl,by rw[zca Qb Jx] <;> rfl⟩
  refine au 312304140120 ?_;refine bA [0,4,6,9,10,11] ?_;refine TK.keep (R:=((jc,_)::(jr,_)::K)) (.rem (by repeat (first|exact Rem.head|apply Rem.tail)) (.rem (by repeat (first|exact Rem.head|apply Rem.tail)) (.right (.all _)))) ?_;exact Wj _ _ _ oQ ⟨i+1,rfl,oQ,rfl,by rw[zb9 Qb Jx] <;> rfl⟩
 simp only[dF_]at hc;obtain rfl:i=xs.length:=by omega
 refine au 317068042160 ?_;refine bB Wz (K) ?_;exact⟨by rw[lW] <;> rfl,rfl⟩
theorem zaX{main T}(hT:zo tp main T){gm}{o:Nat×List Int×Int}{xs:List (Nat×List Int×Int)}{lt:Nat×List Int×Int->Nat×List Int×Int->Bool}{fv:AV}{jo off:Nat}{obo:AObj}{K:KV}(hl:xs.length<=100000)(hm:(jo,obo)∈K)(hI:∀ i (h:i<xs.length),z6 obo (off+(i:Int).toNat*2) 2=some [.sl xs[i].1 0 xs[i].2.1.length,za xs[i].2.2])(hf:∀ a∈o::xs,∀ c∈o::xs,CallFK tp T gm fv [.agg [.sl a.1 0 a.2.1.length,za a.2.2],.agg [.sl c.1 0 c.2.1.length,za c.2.2]] K (fun r K'=>r=zr (lt a c)/\K'=K)) :
  zl tp T gm 78 [fv,.agg [.sl o.1 0 o.2.1.length,za o.2.2],.sl jo off xs.length] K (fun r K'=>r=.agg [.sl (ye lt o xs).1 0 (ye lt o xs).2.1.length,za (ye lt o xs).2.2]/\K'=K):=by
 refine zh 22 hT Tryz.func78 fun Y Wz=>?_;refine au 21042 ?_;intro jc hjc;refine au 220 ?_;intro jr hjr;refine au 1303128014223 ?_;refine bA [0,4,6,9,10,11] ?_;refine bN (List.Perm.swap _ _ _) ?_;refine bE (fun n Wq K'=>∃(i:Nat),n=xs.length - i/\i<=xs.length/\Wq=ym 22 [(0,fv),(4,.ptr jc 0),(6,.ptr jr 0),(9,.sl jo off xs.length),(10,za xs.length),(11,za i)]/\K'=(jc,.cells [.sl (ye lt o (xs.take i)).1 0 (ye lt o (xs.take i)).2.1.length,za (ye lt o (xs.take i)).2.2] 147 tt)::(jr,.cells [.v (.slice none 0 0),za 0] 147 tt)::K) xs.length ⟨0,rfl,mN _,rfl,rfl⟩ fun n Wq K' hI' Wj=>?_;obtain⟨i,rfl,hi,rfl,rfl⟩:=hI';refine au 923742 ?_;refine⟨fun hc=>?_,fun hc=>?_⟩
 ·simp only[dT_]at hc;have Qb:i<xs.length:=by omega
  refine au 360421302120 ?_;refine bH Z (zK Z Z ze.h mQ (hI i Qb)) ?_;refine au 220 ?_;intro j9 hj9;refine au 6806801423170 ?_;refine TK.callF' Z Z Z Z Z (hf xs[i] (lL _ (List.getElem_mem Qb)) (ye lt o (xs.take i)) firstL_mem') (.right (.right (.right (.all _)))) fun r1 K2 h3=>?_;obtain⟨rfl,hK⟩:=h3;refine au 0 ?_;rw[hK];refine bN (K':=(j9,_)::(jc,_)::(jr,_)::K) (lH (l₁:=K)) ?_;refine au 93 ?_;apply aI<;>intro Jx
  ·refine au 31230414031706804 ?_;refine bA [0,4,6,9,10,11] ?_;refine TK.keep (R:=((jc,_)::(jr,_)::K)) (.rem (by repeat (first|exact Rem.head|apply Rem.tail)) (.rem (by repeat (first|exact Rem.head|apply Rem.tail)) (.right (.all _)))) ?_;exact Wj _ _ _ oQ ⟨i+1,rfl,oQ,rfl,by rw[zca Qb Jx] <;> rfl⟩
  refine au 312304140120 ?_;refine bA [0,4,6,9,10,11] ?_;refine TK.keep (R:=((jc,_)::(jr,_)::K)) (.rem (by repeat (first|exact Rem.head|apply Rem.tail)) (.rem (by repeat (first|exact Rem.head|apply Rem.tail)) (.right (.all _)))) ?_;exact Wj _ _ _ oQ ⟨i+1,rfl,oQ,rfl,by rw[zb9 Qb Jx] <;> rfl⟩
 simp only[dF_]at hc;obtain rfl:i=xs.length:=by omega
 refine au 317068042160 ?_;refine bB Wz (K) ?_;exact⟨by rw[lW] <;> rfl,rfl⟩
section
variable {P:gP}{main:Bool}{gm:Nat->Option Nat}{T:gG->Hp->Prop}{Y:KX P gm T}{ds:List Nat}{k:List Item}{Wq:List AV}{K:KV}{V:KV}{o:Oper}
theorem zks{kd:CallKind}{f:FuncId}{ro:Option Nat}{ts:Array Value}{ds:List Deferred}{cs:List Frame}{w:World}{c:Code}:stepG P main (G (fr kd f ro ts ds (.code (.scope c)::k)) cs) w=.go (G (fr kd f ro ts ds (.code c::.inScope c::k)) cs) w #[]:=by simp[G,stepG,stepG.exec,fr]
theorem TK.scopez{c:Code}(h:TK Y ds (.code c::.inScope c::k) Wq K):TK Y ds (.code (.scope c)::k) Wq K:=fun A hA φ H ts h1 h2 h3 h4 h5 h6=>Y.X.hT.ctlF rfl (fun _=>zks) rfl (h A hA φ H ts h1 h2 h3 h4 h5 h6)
theorem zj7{t yt:gT}{x y:Operand}{k':IntKind}{a b:Nat}(ho:o.op=.binOp .shr t x y yt)(hx:zn gm Wq x=some (.v (.int .i64 a)))(hy:zn gm Wq y=some (.v (.int k' b)))(h0:b<=60):Qk P gm Wq V o (.v (.int .i64 ((a / 2 ^ b:Nat):Int))):=by
 have:=q_shr (P:=P) (V:=V) ho hx hy oQ;rwa[mZ,show((a:Int).fdiv (2 ^ b))=((a / 2 ^ b:Nat):Int) by rw[Int.fdiv_eq_ediv_of_nonneg _ (by exact_mod_cast mN (2 ^ b))];norm_cast]at this
theorem zpn{t yt:gT}{x y:Operand}{k':IntKind}{b:Nat}(ho:o.op=.binOp .shl t x y yt)(hx:zn gm Wq x=some (.v (.int .i64 1)))(hy:zn gm Wq y=some (.v (.int k' b)))(h0:b<=20):Qk P gm Wq V o (.v (.int .i64 ((2 ^ b:Nat):Int))):=by
 have hp:2 ^ b<=2 ^ 20:=Nat.pow_le_pow_right oQ h0;have e:(1*2 ^ b:Int)=((2 ^ b:Nat):Int):=by rw[Int.one_mul];norm_cast
 have:=q_shl (P:=P) (V:=V) ho hx hy oQ (by rw[mZ,e];have hp':2 ^ b<=1048576:=hp;generalize 2 ^ b=m at hp' ⊢;omega);rwa[mZ,e]at this
theorem _root_.Go.Vel.Kstep.trans{K1 K2:KV}{A A1 A2:List AObj}(h1:Kstep K A K1 A1)(h2:Kstep K1 A1 K2 A2):Kstep K A K2 A2:=by
 refine⟨h2.view,h2.nd,fun i hi=>?_,fun j hj hn=>?_,mT h1.len h2.len⟩
 ·rcases h2.own i hi with h|h
  ·exact h1.own i h
  ·exact .inr (mT h1.len h)
 ·rw[h2.kept j (mM hj h1.len) (fun hm=>?_)]
  ·exact h1.kept j hj hn
  ·rcases h1.own j hm with h|h
   ·exact hn h
   ·omega
theorem ze4{g:FuncId}{args:List AV}{n:Nat}{l:List AV}{e:gT}{s:Nat}{R:KV}(h:zl P T gm g args K fun r K'=>∃ j,r=.row j n/\K'=(j,.row l e s)::R):zl P T gm g args K fun r K'=>∃ j,r=.sl j 0 n/\K'=(j,.cells l e ff)::R:=by
 intro A hv hn φ F H vs c cs h0 h1 h2 h3 q;refine h A hv hn φ F H vs c cs h0 h1 h2 h3 fun r A' φ' H' v ⟨K',hk,j,hr,he⟩ hA Wb hH' hv'=>?_;subst hr he;have hj:A'[j]? =some (.row l e s):=hk.view.get sQ;have hb:(φ' j).base=0:=(hH'.obj j _ hj).2.1;refine q (.sl j 0 n) (A'.set j (.cells l e ff)) φ' H' v ⟨_,hk.trans (.set hk.view hk.nd .head),j,rfl,rfl⟩ hA (by simpa using Wb) (hH'.turn hj (fun ho hl=>?_) (fun h=>by cases h) (fun _=>rfl) (fun hs=>?_)) ?_
 ·have hc:0<(φ' j).cap:=by
   rcases mP (φ' j).cap with e|e
   ·exact absurd (ho.1 e) hl
   ·exact e
  obtain⟨cur,q1,q2,q3,q4,q5⟩:=ho.2.2 hc;exact⟨tt,cur,(_,0,0),q1,(fun h=>by cases h),fun t u hu=>by rw[hb,mO];exact q5 t u hu⟩
 ·show 0<(φ' j).cap;rcases mP (φ' j).cap with e|e
  ·exact absurd ((hH'.obj j _ hj).1 e) hs
  ·exact e
 ·have:=wJ (j:=j) hb hv';simpa[unrow]using this
end
theorem yK(xs:List Int)(e:gT)(rw':Bool):IntsAt (.cells (xs.map za) e rw') 0 xs:=fun i h=>by
 simp only[z6,AObj.look,mZ,mO,Nat.mul_one];rw[if_pos (by simp;omega)];simp[List.take_one,h]
theorem uW{K:KV}{x:Nat×AObj}:x∈K->∃ R,Rem K x R:=by
 induction K with
 | nil=>intro h;cases h
 | cons y K ih =>
  intro h;rcases lI.1 h with rfl|h
  ·exact⟨_,.head⟩
  ·obtain⟨R,hR⟩:=ih h;exact⟨_,.tail hR⟩
theorem zlB{main T}(hT:zo tp main T){gm}{S:List Int}(hS:S.length<=3)(hB:∀ x∈S,0<=x/\x<1000):zl tp T gm 77 [.agg (yb S)] [] (fun r K'=>∃ j,r=.sl j 0 S.length/\K'=[(j,.cells (S.map za) 3 ff)]):=ze4 (zbD hT hS hB)
def bitB(bits i:Nat):Bool:=((bits / 2 ^ i % 2:Nat):Int)==1
def allR(b:Bk)(S:List Int)(bits n:Nat):Bool:=(List.range n).all fun i => !(bitB bits i)||yh b S i
def togMz(b:Bk)(bits:Nat):Bool:=(allM b).any fun S=>allR b S bits b.kE.length
theorem zdK(b:Bk)(S:List Int)(bits i:Nat):allR b S bits (i+1)=(allR b S bits i&&(!(bitB bits i)||yh b S i)):=by
 unfold allR;rw[List.range_succ,List.all_append];simp
theorem zkQ{b:Bk}{S:List Int}{bits i n:Nat}(hi:i<n)(h:(!(bitB bits i)||yh b S i)=ff):allR b S bits n=ff:=by
 unfold allR;rw[List.all_eq_false];exact⟨i,List.mem_range.2 hi,by rw[h];decide⟩
theorem zbX{main:Bool}{T:gG->Hp->Prop}(hT:zo tp main T){b:Bk}{s e:Nat}{bits:Nat}(hse:s≠e)(hb:BkOk b)(hbt:bits<100000) :
  zl tp T gmR 81 [.agg (zA b s e),za bits] [(1,zC),(s,zu b),(e,zw b)] (fun r K'=>r=zr (togMz b bits)/\K'=[(1,zC),(s,zu b),(e,zw b)]):=by
 refine vc 30 hT Tryz.func81 fun Y hro Wz=>?_;refine au 21042 ?_;intro jb hjb;refine au 210 ?_;intro jt hjt;refine au 220 ?_;intro jr hjr;refine au 3 ?_;refine TK.scopez ?_;refine au 13033206804221502 ?_;refine TK.rangeAll hT hb (s:=s) (e:=e) (J:=fun pre K1=>K1=[(jr,.cells [zr ff] 4 tt),(jb,.cells (zA b s e) 110 tt),(jt,.cells [za bits] 3 tt),(1,zC),(s,zu b)]/\∀ S∈pre,allR b S bits b.kE.length=ff) (D:=fun c K1=>c=.ret/\K1=[(jr,.cells [zr tt] 4 tt),(jb,.cells (zA b s e) 110 tt),(jt,.cells [za bits] 3 tt),(1,zC),(s,zu b)]/\togMz b bits=tt) rfl hro rfl vQ ⟨rfl,by simp⟩ (fun Y' l lo lb pre S K1 hbegin Qj hout hpre hJ=>?_) (fun d K2 hJ=>?_) (fun d c K2 hD=>?_)
 ·obtain⟨rfl,hni⟩:=hJ;have hSm:=zar hb hpre;have hn5:=hb.ns;refine au 2204 ?_;intro j9 hj9;refine au 3170 ?_;refine hbegin _ _ _ _ _ uQ ?_;refine au 13031280690670670422130 ?_;refine bA [2,3,4,5,13,14] ?_;refine bC [(j9,_),(l,_),(e,_),(jr,_),(jb,_),(jt,_),(1,_),(s,_)] ?_;refine bE (fun n Wq K=>∃(i:Nat),n=b.kE.length - i/\i<=b.kE.length/\allR b S bits i=tt/\Wq=ym 30 [(2,.ptr jb 0),(3,.ptr jt 0),(4,.ptr jr 0),(5,.ptr j9 0),(13,za b.kE.length),(14,za i)]/\K=[(j9,.cells (yb S) 114 tt),(l,lb),(e,zw b),(jr,.cells [zr ff] 4 tt),(jb,.cells (zA b s e) 110 tt),(jt,.cells [za bits] 3 tt),(1,zC),(s,zu b)]) b.kE.length ⟨0,rfl,mN _,rfl,rfl,rfl⟩ fun n Wq K hI' Wj=>?_;obtain⟨i,rfl,hi,hall,rfl,rfl⟩:=hI';refine au 923742 ?_;refine⟨fun hc=>?_,fun hc=>?_⟩
  ·simp only[dT_]at hc;have Qb:i<b.kE.length:=by omega
   refine au 169042351421302120 ?_;refine bH Z (zj7 Z Z Z oQ) ?_;refine bH Z (zf8 Z Z Z (by have:=Nat.div_le_self bits (2 ^ i);omega)) ?_;refine au 17 ?_;refine bF 22 (fun g6_6=>?_) (fun g6_6=>?_)
   ·refine au 1680680 ?_;refine TK.clE Z Z Z Z (uN hT (s:=s) (e:=e) hb hSm Qb) ?_;refine au 93260300 ?_;apply aI<;>intro Jx
    ·refine au 160 ?_;exact Qj _ _ [(jr,_),(jb,_),(jt,_),(1,_),(s,_)] _ vQ ⟨rfl,fun R hR=>by
      rcases lT.1 hR with hR|hR
      ·exact hni R hR
      ·rw[lS.1 hR];exact zkQ Qb (by rw[show bitB bits i=tt from g6_6,show yh b S i=ff by simpa using Jx] <;> rfl)⟩
    refine au 312304140120 ?_;refine bA [2,3,4,5,13,14] ?_;refine bC [(j9,_),(l,_),(e,_),(jr,_),(jb,_),(jt,_),(1,_),(s,_)] ?_;exact Wj _ _ _ oQ ⟨i+1,rfl,oQ,by rw[zdK,hall,show yh b S i=tt by simpa using Jx];simp,rfl,rfl⟩
   refine au 312304140120190325088888 ?_;refine bA [2,3,4,5,13,14] ?_;refine bC [(j9,_),(l,_),(e,_),(jr,_),(jb,_),(jt,_),(1,_),(s,_)] ?_;exact Wj _ _ _ oQ ⟨i+1,rfl,oQ,by rw[zdK,hall,show bitB bits i=ff from g6_6] <;> rfl,rfl,rfl⟩
  simp only[dF_]at hc;obtain rfl:i=b.kE.length:=by omega
  refine au 317042160 ?_;exact hout _ _ _ _ [(jr,_),(jb,_),(jt,_),(1,_),(s,_)] _ (.ret _) vQ ⟨rfl,rfl,List.any_eq_true.2 ⟨S,hpre.subset sQ,hall⟩⟩
 ·obtain⟨rfl,hni⟩:=hJ;simp only[cA];refine au 317042140 ?_;refine TK.leave (.ret _) fun A hA=>Wz _ _ _ _ ([(1,_),(s,_),(e,_),(jr,_)]) ([(1,_),(s,_),(e,_)]) _ _ _ (.inr rfl) vQ sQ sQ vQ (yR (yG Z ze.h mQ rfl)) ?_ A hA;exact⟨by rw[show togMz b bits=ff from List.any_eq_false.2 fun S hS=>by rw[hni S hS];decide] <;> rfl,rfl⟩
 ·obtain⟨rfl,rfl,htg⟩:=hD;simp only[cA];refine au 0 ?_;refine TK.leave (.ret _) fun A hA=>Wz _ _ _ _ ([(1,_),(s,_),(e,_),(jr,_)]) ([(1,_),(s,_),(e,_)]) _ _ _ (.inr rfl) vQ sQ sQ vQ (yR (yG Z ze.h mQ rfl)) ?_ A hA;exact⟨by rw[htg] <;> rfl,rfl⟩
theorem not_f{a:Bool}(h:(!a)=tt):a=ff:=by cases a <;> simp_all
theorem not_t{a:Bool}(h:(!a)=ff):a=tt:=by cases a <;> simp_all
theorem zhM(c:UInt8):IntKind.i64.wrap (c.toNat:Int)=(c.toNat:Int):=kg (by have:=c.toNat_lt;omega)
theorem zbs{ob:AObj}{p n c:Nat}{l:List AV}{v:AV}(h:z6 ob p n=some l)(hc:c<n)(hl:l[c]? =some v):z6 ob (p+c) 1=some [v]:=by
 unfold z6 at h ⊢;cases hk:ob.look with
 | none=>rw[hk]at h;cases h
 | some q =>
  rw[hk]at h;dsimp only at h ⊢;split at h
  ·rename_i hb;cases h;rw[if_pos ⟨by omega,oQ⟩];rw[List.getElem?_take,if_pos hc,List.getElem?_drop]at hl;obtain⟨h1,h2⟩:=lD.1 hl;rw[List.take_one,List.head?_drop,hl];rfl
  ·cases h
def insideM(a z lo hi:Int):Bool:=(decide (lo<=a)&&decide (a<=z))&&decide (z<=hi)
theorem v9(b:Bk):numbersM b=bif !(decide (4<=b.sP)&&decide (b.sP<=16))||(!(decide (0<=b.wrong)&&decide (b.wrong<=3)) || !insideM b.low b.high 0 3)then 1 else 0:=by
 unfold numbersM insideM;congr 3;have e1:decide (b.low<0) = !decide (0<=b.low):=by by_cases h:0<=b.low <;> simp[h] <;> omega
 have e2:decide (b.low>b.high) = !decide (b.low<=b.high):=by by_cases h:b.low<=b.high <;> simp[h] <;> omega
 have e3:decide (b.high>3) = !decide (b.high<=3):=by by_cases h:b.high<=3 <;> simp[h] <;> omega
 rw[e1,e2,e3];cases decide (0<=b.low) <;> cases decide (b.low<=b.high) <;> cases decide (b.high<=3) <;> rfl
theorem za2{b:Bk}(h:numbersM b=1):zF b=1:=by unfold zF;rw[h] <;> rfl
theorem ww{b:Bk}{c:Int}(h:numbersM b=0)(h2:heardM b=c)(hc:c≠0):zF b=c:=by
 unfold zF;rw[h,if_neg dQ,h2,if_pos (by simpa using hc)]
theorem ul{b:Bk}(h:numbersM b=0)(h2:heardM b=0):zF b=lookedM b:=by
 unfold zF;rw[h,if_neg dQ,h2,if_neg dQ]
theorem zgc{n:Int}:(decide (n<0)||decide (n>2)) = !(decide (0<=n)&&decide (n<=2)):=by
 by_cases h1:n<0 <;> by_cases h2:n>2 <;> simp[h1,h2] <;> omega
theorem vX{α:Type}{xs:List α}{p:α->Bool}{i:Nat}{x:α}(h:xs[i]? =some x)(hn:(xs.take i).any p=ff)(he:p x=ff):(xs.take (i+1)).any p=ff:=by
 rw[List.take_add_one,h,List.any_append,hn];simp[he]
theorem zoh{α:Type}{xs:List α}{p:α->Bool}{i n:Nat}{x:α}(h:xs[i]? =some x)(hi:i<n)(he:p x=tt):(xs.take n).any p=tt:=by
 rw[List.any_eq_true];refine⟨x,lN (i:=i) ?_,he⟩;rw[List.getElem?_take,if_pos hi,h]
theorem ziY{i:Nat}{c:Int}(h:(!(decide (97<=c)&&decide (c<=122)))=ff):byteOk i c=tt:=by
 unfold byteOk;rw[show(decide (97<=c)&&decide (c<=122))=tt by simpa using h] <;> rfl
theorem zeZ{i:Nat}{c:Int}(h:(!(decide (97<=c)&&decide (c<=122)))=tt)(h2:((i:Int)==0)=tt):byteOk i c=ff:=by
 unfold byteOk;rw[show(decide (97<=c)&&decide (c<=122))=ff from not_f h,show(i:Int)=0 by simpa using h2] <;> rfl
theorem zbK{i:Nat}{c:Int}(h:(!(decide (97<=c)&&decide (c<=122)))=tt)(h2:((i:Int)==0)=ff):byteOk i c=(decide (48<=c)&&decide (c<=57)):=by
 unfold byteOk;rw[show(decide (97<=c)&&decide (c<=122))=ff from not_f h,show decide ((i:Int)>0)=tt by have:(i:Int)≠0:=(by simpa using h2);simp;omega] <;> rfl
theorem zn4(s:ByteArray)(i:Nat):s[i]? =s.data[i]? :=by
 first|rfl|(simp[ByteArray.getElem?_eq,Array.getElem?_eq] <;> rfl)|(by_cases h:i<s.size <;> simp[getElem?_pos,getElem?_neg,h] <;> rfl)
theorem kE{main T}(hT:zo tp main T){gm}{n lo hi:Int} :
  zl tp T gm 46 [za n,za lo,za hi] [] (fun r K'=>r=zr (decide (lo<=n)&&decide (n<=hi))/\K'=[]):=by
 refine zh 15 hT Tryz.func46 fun Y Wz=>?_;refine au 1711423542 ?_;refine bF 10 (fun g1_4=>?_) (fun g1_4=>?_)
 ·refine au 35260711 ?_;refine TK.rta Wz ?_;exact⟨by simp[zr,g1_4],rfl⟩
 refine au 35250888 ?_;refine TK.rta Wz ?_;exact⟨by simp[zr,g1_4],rfl⟩
theorem zjz{main T}(hT:zo tp main T){gm}{a z lo hi:Int} :
  zl tp T gm 47 [.agg [za a,za z],za lo,za hi] [] (fun r K'=>r=zr (insideM a z lo hi)/\K'=[]):=by
 refine zh 24 hT Tryz.func47 fun Y Wz=>?_;refine au 21042 ?_;intro j1 hj1;refine au 1769067014235 ?_;refine bF 11 (fun g1_5=>?_) (fun g1_5=>?_)
 ·refine au 12607690670690670 ?_;refine bF 18 (fun g1_12=>?_) (fun g1_12=>?_)
  ·refine au 3526071690670 ?_;refine bB Wz [] ?_;exact⟨by simp[insideM,zr,g1_5,g1_12],rfl⟩
  refine au 352508888 ?_;refine bB Wz [] ?_;exact⟨by simp[insideM,zr,g1_5,g1_12],rfl⟩
 refine au 352508888125088888 ?_;refine bB Wz [] ?_;exact⟨by simp[insideM,zr,g1_5],rfl⟩
theorem zid{main T}(hT:zo tp main T){gm}{s:ByteArray}(hl:s.size<=1000) :
  zl tp T gm 48 [.v (.string s)] [] (fun r K'=>r=zr (isNameM s)/\K'=[]):=by
 refine zh 31 hT Tryz.func48 fun Y Wz=>?_;refine au 130354223542 ?_;refine bA [0,3] ?_;refine bE (fun n Wq K=>∃(i:Nat),n=s.size - i/\i<=s.size/\bytesOk s i=tt/\Wq=ym 31 [(0,.v (.string s)),(3,za i)]/\K=[]) s.size ⟨0,rfl,mN _,rfl,rfl,rfl⟩ fun n Wq K hI Wj=>?_;obtain⟨i,rfl,hi,hok,rfl,rfl⟩:=hI;refine au 93729011422 ?_;refine⟨fun hc=>?_,fun hc=>?_⟩
 ·simp only[dT_]at hc;have Qb:i<s.data.size:=by have:s.data.size=s.size:=rfl;omega
  obtain⟨cb,hcb⟩:∃ cb,s.data[i]? =some cb:=⟨_,Array.getElem?_eq_getElem Qb⟩;have hcs:s[((i:Int)).toNat]? =some cb:=by rw[mZ];exact(zn4 s i).trans hcb
  refine au 11421302120 ?_;refine bH Z (vp Z Z Z Und.h oQ (by exact hcs)) ?_;refine bH Z (yr Z Z Und.h Und.h (zhM _)) ?_;refine TK.clE Z Z Z Z (kE hT) ?_;refine au 1300 ?_;refine bF 16 (fun g4_7=>?_) (fun g4_7=>?_)
  ·refine au 171 ?_;refine bF 19 (fun g4_10=>?_) (fun g4_10=>?_)
   ·refine au 35421803260260888888 ?_;refine bB Wz [] ?_;exact⟨by unfold isNameM;rw[kF (n:=s.size) hcb Qb (zeZ g4_7 g4_10)] <;> rfl,rfl⟩
   refine au 11 ?_;refine bH Z (vp Z Z Z Und.h oQ (by exact hcs)) ?_;refine bH Z (yr Z Z Und.h Und.h (zhM _)) ?_;refine TK.clE Z Z Z Z (kE hT) ?_;refine au 93260250300 ?_;apply aI<;>intro Jx
   ·refine au 3542 ?_;refine bB Wz [] ?_;exact⟨by unfold isNameM;rw[kF (n:=s.size) hcb Qb (by exact(zbK g4_7 g4_10).trans (not_f Jx))] <;> rfl,rfl⟩
   refine au 3523014140120 ?_;refine bA [0,3] ?_;exact Wj _ _ _ oQ ⟨i+1,rfl,oQ,by rw[wB hcb,hok,zbK g4_7 g4_10,not_t Jx] <;> rfl,rfl,rfl⟩
  refine au 352301414012019032508888888888 ?_;refine bA [0,3] ?_;exact Wj _ _ _ oQ ⟨i+1,rfl,oQ,by rw[wB hcb,hok,ziY g4_7] <;> rfl,rfl,rfl⟩
 simp only[dF_]at hc;obtain rfl:i=s.size:=by omega
 refine au 290142160 ?_;refine TK.clE Z Z Z Z (kE hT) ?_;refine au 35 ?_;refine bB Wz [] ?_;exact⟨by unfold isNameM;rw[hok] <;> rfl,rfl⟩
theorem zaD{main T}(hT:zo tp main T){gm}{b:Bk}{s e:Nat}{n:Int}(hs:0<=b.sP/\b.sP<=16) :
  zl tp T gm 49 [.agg (zA b s e),za n] [] (fun r K'=>r=zr (zS b n)/\K'=[]):=by
 refine zh 10 hT Tryz.func49 fun Y Wz=>?_;refine au 21042 ?_;intro j1 hj1;refine au 24069067014235 ?_;refine TK.clE Z Z Z Z (kE hT) ?_;refine au 35 ?_;refine bB Wz [] ?_;exact⟨rfl,rfl⟩
theorem zau{main T}(hT:zo tp main T){gm}{b:Bk}{s e:Nat}(hse:s≠e)(hn:∀ x∈b.kE,x.name.size<=1000)(hl:b.seen.length<=1000)(hl2:b.kE.length<=1000) :
  zl tp T gm 13 [.agg (zA b s e)] [(s,zu b),(e,zw b)] (fun r K'=>r=za (zF b)/\K'=[(s,zu b),(e,zw b)]):=by
 refine zh 93 hT Tryz.func13 fun Y Wz=>?_;refine au 21042 ?_;intro jb hjb;refine au 69067042235 ?_;refine TK.clE Z Z Z Z (kE hT) ?_;refine au 1300 ?_;refine bF 11 (fun g1_5=>?_) (fun g1_5=>?_)
 ·refine au 35421803260888812608888 ?_;refine bB Wz [(s,_),(e,_)] ?_;exact⟨by rw[za2 (b:=b) (by rw[v9];simp only[*,Bool.true_or,Bool.or_true,cond_true])] <;> rfl,rfl⟩
 refine au 690670 ?_;refine TK.clE Z Z Z Z (kE hT) ?_;refine au 1250300 ?_;refine bF 17 (fun g1_11=>?_) (fun g1_11=>?_)
 ·refine au 354218032608888 ?_;refine bB Wz [(s,_),(e,_)] ?_;exact⟨by rw[za2 (b:=b) (by rw[v9];simp only[*,Bool.true_or,Bool.or_true,cond_true])] <;> rfl,rfl⟩
 refine au 680670 ?_;refine TK.clE Z Z Z Z (zjz hT) ?_;refine au 93250300 ?_;apply aI<;>intro Jz
 ·refine au 3542 ?_;refine bB Wz [(s,_),(e,_)] ?_;exact⟨by rw[za2 (b:=b) (by rw[v9];simp only[*,Bool.true_or,Bool.or_true,cond_true])] <;> rfl,rfl⟩
 have hnum:numbersM b=0:=by rw[v9];simp only[*];rfl
 have hs:=kA (b:=b) (by rw[hnum] <;> rfl);refine au 280690670422120 ?_;refine bH Z (q_cmp Z Z Z Z) ?_;refine au 93 ?_;apply aI<;>intro Jx
 ·have Jx:b.kE.length>5:=by have:=oT_ Jx;omega
  refine au 3542 ?_;refine bB Wz [(s,_),(e,_)] ?_;exact⟨by rw[ww hnum (c:=2) (if_pos Jx) dQ] <;> rfl,rfl⟩
 have Jx:¬ b.kE.length>5:=by have:=oF_ Jx;omega
 refine au 13035422120 ?_;refine bA [1,3] ?_;refine bE (fun n Wq K=>∃(i:Nat),n=b.kE.length - i/\i<=b.kE.length/\heardL b i=0/\Wq=ym 93 [(1,.ptr jb 0),(3,za i)]/\K=[(jb,.cells (zA b s e) 27 tt),(s,zu b),(e,zw b)]) b.kE.length ⟨0,rfl,mN _,rfl,rfl,rfl⟩ fun n Wq K hI Wj=>?_;obtain⟨i,rfl,hi,h0,rfl,rfl⟩:=hI;refine au 9372806906701422 ?_;refine⟨fun hc=>?_,fun hc=>?_⟩
 ·simp only[dT_]at hc;have Qb:i<b.kE.length:=by omega
  obtain⟨x,hx⟩:∃ x,b.kE[i]? =some x:=⟨_,lA Qb⟩;have hxm:=lN hx;refine au 3601690670421302120 ?_;refine bH Z (zK Z Z ze.h mQ (says_at' b hx)) ?_;refine au 220 ?_;intro jx hjx;refine au 6906704223170 ?_;refine TK.clE Z Z Z Z (zid hT (hn x hxm)) ?_;refine au 93300 ?_;refine⟨fun hnm=>?_,fun hnm=>?_⟩
  ·refine au 3542 ?_;refine bB Wz [(s,_),(e,_)] ?_;exact⟨by rw[ww hnum (c:=4) (by unfold heardM;rw[if_neg Jx];exact kj h0 (c:=4) (by unfold heard1;rw[hx];dsimp only;rw[if_pos hnm]) dQ Qb) dQ] <;> rfl,rfl⟩
  refine au 13035422120 ?_;refine bA [1,3,4,5] ?_;refine bE (fun n Wq K=>∃(k:Nat),n=i - k/\k<=i/\((b.kE.take k).any fun o=>o.name.toList==x.name.toList)=ff/\Wq=ym 93 [(1,.ptr jb 0),(3,za i),(4,.ptr jx 0),(5,za k)]/\K=[(jx,.cells (saysC x) 78 tt),(jb,.cells (zA b s e) 27 tt),(s,zu b),(e,zw b)]) i ⟨0,rfl,mN _,rfl,rfl,rfl⟩ fun n Wq K hI hnext2=>?_;obtain⟨k,rfl,hk,hany,rfl,rfl⟩:=hI;refine au 93711422 ?_;apply aI<;>intro hc4
  ·simp only[dT_]at hc4;have hki:k<i:=by omega
   obtain⟨y,hy⟩:∃ y,b.kE[k]? =some y:=⟨_,lA oQ⟩;refine au 21302120 ?_;refine bL [0,1,2,3,4,5,6,7,8] ?_;refine ad [[3,1],[10,48],[1,5],[2,49,50],[3,51]] ?_;refine bT [52] Z (hq:=zg Z Z ze.h (mC _) (zbs (says_at' b hy) dQ Z)) (h:=?_);refine ad [[3,4],[10,54]] ?_;refine bU [53,55] Z (zj2 Z Z Z Z) ?_;refine ad [[14]] ?_;refine au 9 ?_;apply aI<;>intro hc5
   ·have hdup:((b.kE.take i).any fun o=>o.name.toList==x.name.toList)=tt:=zoh hy hki hc5;refine au 3542 ?_;refine bB Wz [(s,_),(e,_)] ?_;exact⟨by rw[ww hnum (c:=5) (by unfold heardM;rw[if_neg Jx];exact kj h0 (c:=5) (by unfold heard1;rw[hx];dsimp only;rw[if_neg (by rw[hnm];decide),if_pos hdup]) dQ Qb) dQ] <;> rfl,rfl⟩
   refine au 3523014140120 ?_;refine bA [1,3,4,5] ?_;refine bC [(jx,_),(jb,_),(s,_),(e,_)] ?_;exact hnext2 _ _ _ oQ ⟨k+1,rfl,oQ,vX hy hany hc5,rfl,rfl⟩
  simp only[dF_]at hc4;obtain rfl:i=k:=by omega
  refine au 690670680422160 ?_;refine TK.clE Z Z Z Z (zaD hT (b:=b) (s:=s) (e:=e) oQ) ?_;refine au 1300 ?_;refine bF 62 (fun g16_6=>?_) (fun g16_6=>?_)
  ·refine au 3542180326088888 ?_;refine bB Wz [(s,_),(e,_)] ?_;exact⟨by rw[ww hnum (c:=6) (by unfold heardM;rw[if_neg Jx];exact kj h0 (c:=6) (by unfold heard1;rw[hx];dsimp only;rw[if_neg (by rw[hnm];decide),if_neg (by rw[hany];decide),if_pos (by rw[show(!zS b x.frm)=tt from g16_6];rfl)]) dQ Qb) dQ] <;> rfl,rfl⟩
  refine au 690670680 ?_;refine TK.clE Z Z Z Z (zaD hT (b:=b) (s:=s) (e:=e) oQ) ?_;refine au 93250300 ?_;apply aI<;>intro hc6
  ·refine au 3542 ?_;refine bB Wz [(s,_),(e,_)] ?_;exact⟨by rw[ww hnum (c:=6) (by unfold heardM;rw[if_neg Jx];exact kj h0 (c:=6) (by unfold heard1;rw[hx];dsimp only;rw[if_neg (by rw[hnm];decide),if_neg (by rw[hany];decide),if_pos (by rw[show(!zS b x.til)=tt from hc6,Bool.or_true])]) dQ Qb) dQ] <;> rfl,rfl⟩
  have hst2:(!zS b x.frm || !zS b x.til)=ff:=by rw[hc6,g16_6] <;> rfl
  refine au 69067042120 ?_;refine TK.clE Z Z Z Z (kE hT) ?_;refine au 93300 ?_;apply aI<;>intro hc7
  ·refine au 3542 ?_;refine bB Wz [(s,_),(e,_)] ?_;exact⟨by rw[ww hnum (c:=1) (by unfold heardM;rw[if_neg Jx];exact kj h0 (c:=1) (by unfold heard1;rw[hx];dsimp only;rw[if_neg (by rw[hnm];decide),if_neg (by rw[hany];decide),if_neg (by rw[hst2];decide),zgc,if_pos hc7]) dQ Qb) dQ] <;> rfl,rfl⟩
  refine au 3523014140120 ?_;refine bA [1,3] ?_;refine bC [(jb,_),(s,_),(e,_)] ?_;exact Wj _ _ _ oQ ⟨i+1,rfl,oQ,by unfold heardL;rw[if_pos h0];unfold heard1;rw[hx];dsimp only;rw[if_neg (by rw[hnm];decide),if_neg (by rw[hany];decide),if_neg (by rw[hst2];decide),zgc,if_neg (by rw[hc7];decide)],rfl,rfl⟩
 simp only[dF_]at hc;obtain rfl:i=b.kE.length:=by omega
 have hheard:heardM b=0:=by unfold heardM;rw[if_neg Jx,h0]
 refine au 937280690670422160 ?_;apply aI<;>intro hc8
 ·have hc8:b.seen.length>4:=by have:=oT_ hc8;omega
  refine au 3542 ?_;refine bB Wz [(s,_),(e,_)] ?_;exact⟨by rw[ul hnum hheard];unfold lookedM;rw[if_pos hc8] <;> rfl,rfl⟩
 have hc8:¬ b.seen.length>4:=by have:=oF_ hc8;omega
 refine au 13035422120 ?_;refine bA [1,6] ?_;refine bE (fun n Wq K=>∃(k:Nat),n=b.seen.length - k/\k<=b.seen.length/\((b.seen.take k).any fun x => !zS b x.step)=ff/\Wq=ym 93 [(1,.ptr jb 0),(6,za k)]/\K=[(jb,.cells (zA b s e) 27 tt),(s,zu b),(e,zw b)]) b.seen.length ⟨0,rfl,mN _,rfl,rfl,rfl⟩ fun n Wq K hI hnext3=>?_;obtain⟨k,rfl,hk,hany2,rfl,rfl⟩:=hI;refine au 9372806906701422 ?_;apply aI<;>intro hc9
 ·simp only[dT_]at hc9;obtain⟨z,hz⟩:∃ z,b.seen[k]? =some z:=⟨_,lA oQ⟩;have hzt:=zdC b k oQ;rw[(lD.1 hz).2]at hzt;refine au 21302120 ?_;refine bL [0,1,2,3,4,5,6,7,8] ?_;refine ad [[12,1],[3,1],[10,85],[1,6],[2,86,87],[3,88]] ?_;refine bT [89] Z (hq:=zg Z Z ze.h (mC _) (zbs hzt dQ Z)) (h:=?_);refine TD.clE (Wx:=[_,_,_,_,_]) [84,90] Z Z Z Z Z (zaD hT (b:=b) (s:=s) (e:=e) oQ) ?_;refine bU [91] Z (q_not Z Z) ?_;refine ad [[14]] ?_;refine au 9 ?_;apply aI<;>intro hc10
  ·refine au 3542 ?_;refine bB Wz [(s,_),(e,_)] ?_;exact⟨by rw[ul hnum hheard];unfold lookedM;rw[if_neg hc8,if_pos (List.any_eq_true.2 ⟨z,lN hz,hc10⟩)] <;> rfl,rfl⟩
  refine au 3523014140120 ?_;refine bA [1,6] ?_;refine bC [(jb,_),(s,_),(e,_)] ?_;exact hnext3 _ _ _ oQ ⟨k+1,rfl,oQ,vX hz hany2 hc10,rfl,rfl⟩
 simp only[dF_]at hc9;obtain rfl:k=b.seen.length:=by omega
 refine au 3542160 ?_;refine bB Wz [(s,_),(e,_)] ?_;exact⟨by rw[ul hnum hheard];unfold lookedM;rw[if_neg hc8,if_neg (by rw[lW]at hany2;rw[hany2];decide)] <;> rfl,rfl⟩
theorem zkE{xs ys:List Int}{i:Nat}(h:i<xs.length)(h2:i<ys.length)(ht:xs.take i=ys.take i)(he:xs[i]=ys[i]):xs.take (i+1)=ys.take (i+1):=by
 rw[List.take_add_one,List.take_add_one,lA h,lA h2,ht,he]
theorem zls{main T}(hT:zo tp main T){gm}{j off:Nat}{ob:AObj}{xs:List Int}{v:Int}(hI:IntsAt ob off xs)(hlx:xs.length<=1000)  :
  zl tp T gm 144 [.sl j off xs.length,za v] [(j,ob)] (fun r K'=>r=zr (decide (v∈xs))/\K'=[(j,ob)]):=by
 refine zh 18 hT Tryz.func144 fun Y Wz=>?_;refine au 130354223542 ?_;refine bA [0,1,5] ?_;refine bE (fun n Wq K=>∃(i:Nat),n=xs.length - i/\i<=xs.length/\v∉xs.take i/\Wq=ym 18 [(0,.sl j off xs.length),(1,za v),(5,za i)]/\K=[(j,ob)]) xs.length ⟨0,rfl,mN _,by simp,rfl,rfl⟩ fun n Wq K hI' Wj=>?_;obtain⟨i,rfl,hi,hn,rfl,rfl⟩:=hI';refine au 93728011422 ?_;refine⟨fun hc=>?_,fun hc=>?_⟩
 ·simp only[dT_]at hc;have Qb:i<xs.length:=by omega
  refine au 36011421302120 ?_;refine bH Z (zg Z Z ze.h mQ (hI i Qb)) ?_;refine au 9371 ?_;apply aI<;>intro Jx
  ·refine au 3542 ?_;refine bB Wz [(j,_)] ?_;exact⟨by rw[decide_eq_true (show v∈xs by have h:xs[i]=v:=(by simpa using Jx);rw[<- h];exact List.getElem_mem Qb)] <;> rfl,rfl⟩
  refine au 3523014140120 ?_;refine bA [0,1,5] ?_;exact Wj _ _ _ oQ ⟨i+1,rfl,oQ,zaY Qb hn (fun h=>by rw[h]at Jx;simp at Jx),rfl,rfl⟩
 simp only[dF_]at hc;obtain rfl:i=xs.length:=by omega
 refine au 3542160 ?_;refine bB Wz [(j,_)] ?_;exact⟨by rw[decide_eq_false (by rwa[lW]at hn)] <;> rfl,rfl⟩
theorem zgR{main T}(hT:zo tp main T){gm}{j off j2 off2:Nat}{ob ob2:AObj}{xs ys:List Int}(hjj:j≠j2)(hI:IntsAt ob off xs)(hI2:IntsAt ob2 off2 ys)(hlx:xs.length<=100000) :
  zl tp T gm 67 [.sl j off xs.length,.sl j2 off2 ys.length] [(j,ob),(j2,ob2)] (fun r K'=>r=zr (decide (xs=ys))/\K'=[(j,ob),(j2,ob2)]):=by
 refine zh 26 hT Tryz.func67 fun Y Wz=>?_;refine au 937280128014223542 ?_;apply aI<;>intro Jz
 ·refine au 3542 ?_;refine bB Wz [(j,_),(j2,_)] ?_;exact⟨by rw[decide_eq_false (fun h=>by rw[h]at Jz;simp at Jz)] <;> rfl,rfl⟩
 have Wb:xs.length=ys.length:=by have h:(xs.length:Int)=ys.length:=(by simpa using Jz);omega
 refine au 13035422120 ?_;refine bA [0,1,5] ?_;refine bE (fun n Wq K=>∃(i:Nat),n=xs.length - i/\i<=xs.length/\xs.take i=ys.take i/\Wq=ym 26 [(0,.sl j off xs.length),(1,.sl j2 off2 ys.length),(5,za i)]/\K=[(j,ob),(j2,ob2)]) xs.length ⟨0,rfl,mN _,rfl,rfl,rfl⟩ fun n Wq K hI' Wj=>?_;obtain⟨i,rfl,hi,hn,rfl,rfl⟩:=hI';refine au 93728011422 ?_;refine⟨fun hc=>?_,fun hc=>?_⟩
 ·simp only[dT_]at hc;have Qb:i<xs.length:=by omega
  refine au 21302120 ?_;refine bL [0,1,2,3,4,5,6,7,8] ?_;refine ad [[1,0],[1,5],[2,17,18]] ?_;refine bT [19] Z (hq:=zg Z Z ze.h (mC _) (hI i Qb)) (h:=?_);refine ad [[1,1],[1,5],[2,21,22]] ?_;refine bT [23] Z (hq:=zg Z Z ze.h (mC _) (hI2 i oQ)) (h:=?_);refine ad [[4,20,24],[14]] ?_;refine au 9 ?_;apply aI<;>intro hc2
  ·refine au 3542 ?_;refine bB Wz [(j,_),(j2,_)] ?_;exact⟨by rw[decide_eq_false (fun h=>by subst h;simp at hc2)] <;> rfl,rfl⟩
  refine au 3523014140120 ?_;refine bA [0,1,5] ?_;exact Wj _ _ _ oQ ⟨i+1,rfl,oQ,zkE Qb oQ hn (by simpa using hc2),rfl,rfl⟩
 simp only[dF_]at hc;obtain rfl:i=xs.length:=by omega
 refine au 3542160 ?_;refine bB Wz [(j,_),(j2,_)] ?_;exact⟨by rw[decide_eq_true (by rwa[lW,Wb,lW]at hn)] <;> rfl,rfl⟩
theorem zbf{b:Bk}:∀(Wp S T:List Int),T.Sublist Wp->T≠[]->((S++T).length:Int)<=b.high->seenM b (S++T)=tt->S++T∈loopM b S Wp
 | [],S,T,hs,hne,_,_=>absurd (List.sublist_nil.1 hs) hne
 | n::Wp,S,T,hs,hne,hl,hsn=>by
  have Qp:(S.length:Int)<b.high:=by
   have:0<T.length:=List.length_pos_iff.2 hne;rw[lF]at hl;omega
  unfold loopM;rw[if_pos Qp];cases hs with
  | cons _ h=>exact lT.2 (.inr (zbf Wp S T h hne hl hsn))
  | cons_cons _ h =>
   rename_i T';refine lT.2 (.inl ?_);rw[show S++n::T'=(S++[n])++T' by simp]at hl hsn ⊢;by_cases h0:T'=[]
   ·subst h0;rw[lR]at hl hsn ⊢;refine lT.2 (.inl ?_);unfold ownM;rw[if_pos hsn];exact lS.2 rfl
   ·exact lT.2 (.inr (zbf Wp (S++[n]) T' h h0 hl hsn))
theorem zcw{b:Bk}:∀(m i:Nat)(xs:List Int),b.sP.toNat - i=m->xs.Pairwise (· < ·)->(∀ x∈xs,(i:Int)<=x/\x<b.sP)->xs.Sublist (restM b i)
 | _,_,[],_,_,_=>List.nil_sublist _
 | 0,i,x::xs,hm,_,hb=>by have:=hb x sQ;omega
 | m+1,i,x::xs,hm,hp,hb=>by
  rw[zc6 oQ];have h2:=List.pairwise_cons.1 hp;by_cases hx:x=i
  ·subst hx;refine .cons_cons _ (zcw m (i+1) xs oQ h2.2 fun y hy=>?_);have:=h2.1 y hy;have:=hb y (by simp[hy]);omega
  ·refine .cons _ (zcw m (i+1) (x::xs) oQ hp fun y hy=>?_);have h3:=hb x sQ;have h4:=hb y hy;rcases lI.1 hy with rfl|hy
   ·omega
   ·have:=h2.1 y hy;omega
def objsLz(P:List (Nat×List Int)):KV:=P.map fun x=>(x.1,.cells (x.2.map za) 3 ff)
def refsLz(P:List (Nat×List Int)):List AV:=P.map fun x=>.sl x.1 0 x.2.length
theorem zjL(P:List (Nat×List Int))(x:Nat×List Int):objsLz (P++[x])=objsLz P++[(x.1,.cells (x.2.map za) 3 ff)]:=by simp[objsLz]
theorem zkc(P:List (Nat×List Int))(x:Nat×List Int):refsLz (P++[x])=refsLz P++[.sl x.1 0 x.2.length]:=by simp[refsLz]
theorem zaH{P:List (Nat×List Int)}{x:Nat×List Int}(h:x∈P):(x.1,AObj.cells (x.2.map za) 3 ff)∈objsLz P:=lY.2 ⟨x,h,rfl⟩
theorem zep{P:List (Nat×List Int)}{k:Nat}(h:k<P.length){e:gT}{sz:Nat}:z6 (.row (refsLz P) e sz) k 1=some [.sl P[k].1 0 P[k].2.length]:=by
 simp only[z6,AObj.look];rw[if_pos (by simp[refsLz];omega)];simp[List.take_one,refsLz,h]
abbrev Gs:=Nat×List Int×Int
def objsG(P:List Gs):KV:=P.map fun x=>(x.1,.cells (x.2.1.map za) 3 ff)
def refsG(P:List Gs):List AV:=P.flatMap fun x=>[.sl x.1 0 x.2.1.length,za x.2.2]
theorem zjK(P:List Gs)(x:Gs):objsG (P++[x])=objsG P++[(x.1,.cells (x.2.1.map za) 3 ff)]:=by simp[objsG]
theorem zkb(P:List Gs)(x:Gs):refsG (P++[x])=refsG P++[.sl x.1 0 x.2.1.length,za x.2.2]:=by simp[refsG]
theorem vh{P:List Gs}{x:Gs}(h:x∈P):(x.1,AObj.cells (x.2.1.map za) 3 ff)∈objsG P:=lY.2 ⟨x,h,rfl⟩
theorem zeo(P:List Gs):(refsG P).length=P.length*2:=yW _ 2 (fun _=>rfl) P
theorem zaM{P:List Gs}{k:Nat}(h:k<P.length){e:gT}{sz:Nat}:z6 (.row (refsG P) e sz) (k*2) 2=some [.sl P[k].1 0 P[k].2.1.length,za P[k].2.2]:=by
 have hle:(k+1)*2<=P.length*2:=Nat.mul_le_mul_right _ h;have hl:=zeo P;simp only[z6,AObj.look];rw[if_pos ⟨by omega,oQ⟩];unfold refsG;rw[kS _ 2 (fun _=>rfl) _ _ h]
theorem zax{α β:Type}(f:α->β)(lt:β->β->Bool)(o:α)(xs:List α):f (ye (fun a c=>lt (f a) (f c)) o xs)=ye lt (f o) (xs.map f):=by
 induction xs generalizing o with
 | nil=>rfl
 | cons x xs ih =>
  show f (ye _ (if lt (f x) (f o)=tt then x else o) xs)=ye lt (if lt (f x) (f o)=tt then f x else f o) (xs.map f);rw[ih];split <;> rfl
def bitsMz(n bits:Nat):List Int:=((List.range n).filter (bitB bits)).map fun k:Nat=>(k:Int)
theorem zg5{n bits:Nat}(h:bitB bits n=tt):bitsMz (n+1) bits=bitsMz n bits++[(n:Int)]:=by
 unfold bitsMz;rw[List.range_succ,List.filter_append];simp[h]
theorem zg4{n bits:Nat}(h:bitB bits n=ff):bitsMz (n+1) bits=bitsMz n bits:=by
 unfold bitsMz;rw[List.range_succ,List.filter_append];simp[h]
theorem zdO(n bits:Nat):(bitsMz n bits).length<=n:=by
 unfold bitsMz;rw[lJ];exact mT (List.length_filter_le _ _) sQ
def oddM(b:Bk)(k:Nat):List (List Int):=((List.range k).filter fun bits => !togMz b bits).map (bitsMz b.kE.length)
theorem zo6{b:Bk}{k:Nat}(h:togMz b k=tt):oddM b (k+1)=oddM b k:=by
 unfold oddM;rw[List.range_succ,List.filter_append];simp[h]
theorem zjM{b:Bk}{k:Nat}(h:togMz b k=ff):oddM b (k+1)=oddM b k++[bitsMz b.kE.length k]:=by
 unfold oddM;rw[List.range_succ,List.filter_append];simp[h]
theorem zlT(b:Bk)(k:Nat):(oddM b k).length<=k:=by
 unfold oddM;rw[lJ];exact mT (List.length_filter_le _ _) sQ
theorem zlS{b:Bk}{k:Nat}:∀ L∈oddM b k,L.length<=b.kE.length:=fun L hL=>by
 obtain⟨q,_,rfl⟩:=lY.1 hL;exact zdO _ _
def everyM(b:Bk):Nat:=2 ^ b.kE.length - 1
def clashM(b:Bk):List Int:=ye ltLists ((oddM b (everyM b+1)).headD []) ((oddM b (everyM b+1)).drop 1)
def guessM(b:Bk)(pre:List (List Int)):List (List Int×Int):=(pre.filter fun S => !badM b S b.kE.length).map fun S=>(S,wrongM b S)
theorem zlo{b:Bk}{pre:List (List Int)}{S:List Int}(h:badM b S b.kE.length=ff):guessM b (pre++[S])=guessM b pre++[(S,wrongM b S)]:=by
 unfold guessM;rw[List.filter_append];simp[h]
theorem zln{b:Bk}{pre:List (List Int)}{S:List Int}(h:badM b S b.kE.length=tt):guessM b (pre++[S])=guessM b pre:=by
 unfold guessM;rw[List.filter_append];simp[h]
def likelyM(b:Bk):List Int×Int:=ye ltGuess ((guessM b (allM b)).headD ([],0)) ((guessM b (allM b)).drop 1)
theorem zfa{main:Bool}{T:gG->Hp->Prop}(hT:zo tp main T){b:Bk}{s e:Nat}(hse:s≠e)(hn:∀ x∈b.kE,x.name.size<=1000)(hl:b.seen.length<=1000) :
  zl tp T gmR 29 [.agg (zA b s e)] [(0,zx),(1,zC),(s,zu b),(e,zw b)] (fun r K'=>(zF b≠0/\r=.tup [.v (.slice none 0 0),za (zF b)]/\K'=[(0,zx),(1,zC),(s,zu b),(e,zw b)])\/(zF b=0/\togMz b (everyM b)=tt/\r=.tup [.v (.slice none 0 0),za 0]/\K'=[(0,zx),(1,zC),(s,zu b),(e,zw b)])\/(zF b=0/\togMz b (everyM b)=ff/\∃ j,r=.tup [.sl j 0 (clashM b).length,za 0]/\K'=[(0,zx),(1,zC),(s,zu b),(e,zw b),(j,.cells ((clashM b).map za) 3 ff)])):=by
 refine zh 60 hT Tryz.func29 fun Y Wz=>?_;refine au 21042 ?_;intro jb hjb;refine au 680422355 ?_;refine TK.clE Z Z Z Z (kR hT (b:=b) (s:=s) (e:=e) hn hl) ?_;refine au 93714235 ?_;apply aI<;>intro Jz
 ·refine au 355142 ?_;refine bB Wz [(0,_),(1,_),(s,_),(e,_)] ?_;exact .inl ⟨by simpa using Jz,rfl,rfl⟩
 have hck:zF b=0:=by simpa using Jz
 have hb:=yH hck;have hn5:=hb.ns;have hp32:2 ^ b.kE.length<=32:=mT (Nat.pow_le_pow_right oQ hn5) dQ;have hp1:1<=2 ^ b.kE.length:=Nat.one_le_two_pow;have hev:(((2 ^ b.kE.length:Nat):Int) - 1)=((everyM b:Nat):Int):=by unfold everyM;omega
 have hel:everyM b<=31:=by unfold everyM;omega
 refine au 28069067042120 ?_;refine bH Z (zpn Z Z Z oQ) ?_;refine bH Z (q_sub Z Z Z (by rw[hev];omega)) ?_;rw[hev];refine au 143068042235 ?_;refine TK.clE Z Z Z Z (zbX hT (bits:=everyM b) hse hb oQ) ?_;refine au 93 ?_;apply aI<;>intro Jx
 ·refine au 35542 ?_;refine bB Wz [(0,_),(1,_),(s,_),(e,_)] ?_;exact .inr (.inl ⟨hck,Jx,rfl,rfl⟩)
 refine au 542120 ?_;refine TK.virt 6 41 1 Z fun jo0 hjo0=>?_;refine au 1303123014223 ?_;refine bA [1,6,25,26] ?_;refine bC [(jo0,_),(jb,_),(0,_),(1,_),(s,_),(e,_)] ?_;refine bE (fun n Wq K=>∃(i jo:Nat)(P:List (Nat×List Int)),n=everyM b+1 - i/\i<=everyM b+1/\P.map (·.2)=oddM b i/\Wq=ym 60 [(1,.ptr jb 0),(6,.row jo P.length),(25,za (everyM b+1)),(26,za i)]/\K=(jo,.row (refsLz P) 41 1)::(jb,.cells (zA b s e) 27 tt)::(0,zx)::(1,zC)::(s,zu b)::(e,zw b)::objsLz P) (everyM b+1) ⟨0,jo0,[],rfl,mN _,rfl,rfl,rfl⟩ fun n Wq K hI' Wj=>?_;obtain⟨i,jo,P,rfl,hi,hP,rfl,rfl⟩:=hI';have hPl:P.length<=i:=by have:=zlT b i;rw[<- hP,lJ]at this;exact this
 refine au 923742 ?_;apply aI<;>intro hc2
 ·simp only[dT_]at hc2;have Qb:i<everyM b+1:=by omega
  refine au 1430680422351421302120 ?_;refine TK.clE Z Z Z Z (zbX hT (bits:=i) hse hb oQ) ?_;refine au 93 ?_;apply aI<;>intro hc3
  ·refine au 160 ?_;refine au 312304 ?_;refine bA [1,6,25,26] ?_;refine bC (((jo,_)::(jb,_)::(0,_)::(1,_)::(s,_)::(e,_)::objsLz P)) ?_;exact Wj _ _ _ oQ ⟨i+1,jo,P,rfl,oQ,by rw[zo6 hc3];exact hP,rfl,rfl⟩
  refine au 542120 ?_;refine TK.virt 8 3 1 Z fun j80 hj80=>?_;refine au 130312806906704223 ?_;refine bA [1,6,7,8,25,26,35,36] ?_;refine bC ((j80,_)::(jo,_)::(jb,_)::(0,_)::(1,_)::(s,_)::(e,_)::objsLz P) ?_;refine bE (fun n Wq K=>∃(q j8:Nat),n=b.kE.length - q/\q<=b.kE.length/\Wq=ym 60 [(1,.ptr jb 0),(6,.row jo P.length),(7,za i),(8,.row j8 (bitsMz q i).length),(25,za (everyM b+1)),(26,za i),(35,za b.kE.length),(36,za q)]/\K=(j8,.row ((bitsMz q i).map za) 3 1)::(jo,.row (refsLz P) 41 1)::(jb,.cells (zA b s e) 27 tt)::(0,zx)::(1,zC)::(s,zu b)::(e,zw b)::objsLz P) b.kE.length ⟨0,j80,rfl,mN _,rfl,rfl⟩ fun n Wq K hI' hnext2=>?_;obtain⟨q,j8,rfl,hq,rfl,rfl⟩:=hI';have hql2:=zdO q i;refine au 923742 ?_;apply aI<;>intro hc4
  ·simp only[dT_]at hc4;have hql:q<b.kE.length:=by omega
   refine au 1142351421302120 ?_;refine bH Z (zj7 Z Z Z oQ) ?_;refine bH Z (zf8 Z Z Z (by have:=Nat.div_le_self i (2 ^ q);omega)) ?_;refine au 937 ?_;apply aI<;>intro hc5
   ·have hc5:bitB i q=tt:=hc5;refine au 114 ?_;refine bI Z Z Z (zH (l:=[_]) Z zp.h TyZ.h dQ dQ Z) (fun _=>zD rfl tQ) fun j10 hj10=>?_;refine bO Z Z Z (a_app Z ApOf.h Z mQ (by simp <;> omega) Z (yO (ln:=[_]) mQ dQ sQ Z) oQ Z (by unfold maxLen;omega) oQ) (fun _=>uQ) (fun _=>zD rfl tQ) fun j82=>?_;refine au 31230414035 ?_;refine bA [1,6,7,8,25,26,35,36] ?_;refine bC (((j82,_)::(jo,_)::(jb,_)::(0,_)::(1,_)::(s,_)::(e,_)::objsLz P)) ?_;exact hnext2 _ _ _ oQ ⟨q+1,j82,rfl,oQ,by rw[zg5 hc5,lF] <;> rfl,by rw[zg5 hc5,lM] <;> rfl⟩
   have hc5:bitB i q=ff:=hc5;refine au 312304140120 ?_;refine bA [1,6,7,8,25,26,35,36] ?_;refine bC (((j8,_)::(jo,_)::(jb,_)::(0,_)::(1,_)::(s,_)::(e,_)::objsLz P)) ?_;exact hnext2 _ _ _ oQ ⟨q+1,j8,rfl,oQ,by rw[zg4 hc5] <;> rfl,by rw[zg4 hc5] <;> rfl⟩
  simp only[dF_]at hc4;obtain rfl:q=b.kE.length:=by omega
  refine au 160 ?_;refine TK.freezeR 8 Z uQ Z ?_;refine au 114 ?_;refine bI Z Z Z (zH (l:=[_]) Z zp.h TyZ.h dQ dQ Z) (fun _=>zD rfl tQ) fun j19 hj19=>?_;refine bO Z Z Z (a_app Z ApOf.h Z mQ (by simp[refsLz]) Z (yO (ln:=[_]) mQ dQ sQ Z) oQ Z (by unfold maxLen;omega) oQ) (fun _=>uQ) (fun _=>zD rfl tQ) fun jo2=>?_;refine au 14035 ?_;refine au 312304 ?_;refine bA [1,6,25,26] ?_;refine bC (((j8,_)::(jo2,_)::(jb,_)::(0,_)::(1,_)::(s,_)::(e,_)::objsLz P)) ?_;refine bN (K':=(jo2,.row (refsLz (P++[(j8,bitsMz b.kE.length i)])) 41 1)::(jb,.cells (zA b s e) 27 tt)::(0,zx)::(1,zC)::(s,zu b)::(e,zw b)::objsLz (P++[(j8,bitsMz b.kE.length i)])) (by rw[zjL,zkc];exact(List.perm_append_singleton _ ((jo2,_)::(jb,_)::(0,_)::(1,_)::(s,_)::(e,_)::objsLz P)).symm) ?_;exact Wj _ _ _ oQ ⟨i+1,jo2,P++[(j8,bitsMz b.kE.length i)],rfl,oQ,by rw[zjM hc3,lM,hP] <;> rfl,by rw[lF] <;> rfl,rfl⟩
 simp only[dF_]at hc2;obtain rfl:i=everyM b+1:=by omega
 obtain⟨p,ps,rfl⟩:∃ p ps,P=p::ps:=by
  cases P with
  | nil =>
   rw[zjM Jx]at hP;have:=congrArg List.length hP;simp at this
  | cons p ps=>exact⟨p,ps,rfl⟩
 have Wb:∀ x∈p::ps,x.2.length<=1000:=fun x hx=>by
  have:=zlS (b:=b) (k:=everyM b+1) x.2 (by rw[<- hP];exact List.mem_map_of_mem (f:=fun x:Nat×List Int=>x.2) hx);omega
 refine au 2160 ?_;refine bL [0,1,2,3,4,5,6,7] ?_;refine ad [[1,6]] ?_;refine bT [54] Z (hq:=kT Z Z Z zp.h (mC _) (by first|omega|(simp only[lZ];omega)) (by first|omega|(simp only[lZ];omega))) (h:=?_);refine bT [55] Z (hq:=zg Z Z ze.h (mC _) (zep (k:=0) sQ)) (h:=?_);refine ad [[1,6]] ?_;refine bT [57] Z (hq:=wp Z Z zp.h (mC _) Z Z (by first|omega|(simp only[lZ];omega)) (by first|omega|(simp only[lZ];omega)) Z) (h:=?_);refine TD.clE (Wx:=[_,_,_]) [56,58] Z Z Z Z Z (zfj hT (o:=p) (xs:=ps) (lt:=fun a c=>ltLists a.2 c.2) (fv:=.fn 83 [] []) (jo:=jo) (off:=1) (obo:=.row (refsLz (p::ps)) 41 1) (K:=(jo,.row (refsLz (p::ps)) 41 1)::objsLz (p::ps)) (by simp at hPl;omega) sQ (fun k hk=>by rw[show 1+((k:Int)).toNat*1=k+1 by rw[mZ];omega];exact zep (P:=p::ps) (k:=k+1) (by simpa using hk)) (fun x hx y hy=>yC Cal.h (zi3 hT (lL _ (zaH hx)) (lL _ (zaH hy)) (yK _ _ _) (yK _ _ _) (Wb x hx) (Wb y hy)))) ?_;refine TD.permz (List.Perm.cons _ lH) ?_;simp only[cA];generalize hres0:ye (fun(a c:Nat×List Int)=>ltLists a.2 c.2) p ps=res;have hmem:res∈p::ps:=hres0 ▸ wo;obtain⟨R1,hR1⟩:=uW (zaH hmem);have hcl:res.2=clashM b:=by
  rw[<- hres0,zax (fun x:Nat×List Int=>x.2)];unfold clashM;rw[<- hP] <;> rfl
 refine ad [[13,59],[13],[14]] ?_;refine au 0 ?_;refine bB Wz [(0,_),(1,_),(s,_),(e,_),(res.1,.cells (res.2.map za) 3 ff)] ?_ (hs:=(by repeat (first|exact Split.none _|exact Split.all _|(apply Split.rem;repeat (first|exact Rem.head|exact hR1|apply Rem.tail))|apply Split.right)));refine .inr (.inr ⟨hck,Jx,res.1,?_,?_⟩)
 ·rw[<- hcl] <;> rfl
 ·rw[<- hcl]
theorem zeb{main:Bool}{T:gG->Hp->Prop}(hT:zo tp main T){b:Bk}{s e:Nat}(hse:s≠e)(hn:∀ x∈b.kE,x.name.size<=1000)(hl:b.seen.length<=1000) :
  zl tp T gmR 28 [.agg (zA b s e)] [(0,zx),(1,zC),(s,zu b),(e,zw b)] (fun r K'=>(zF b≠0/\r=.tup [.v (.slice none 0 0),za 0,zr ff,za (zF b)]/\K'=[(0,zx),(1,zC),(s,zu b),(e,zw b)])\/(zF b=0/\guessM b (allM b)=[]/\r=.tup [.v (.slice none 0 0),za 0,zr ff,za 0]/\K'=[(0,zx),(1,zC),(s,zu b),(e,zw b)])\/(zF b=0/\guessM b (allM b)≠[]/\∃ j,r=.tup [.sl j 0 (likelyM b).1.length,za (likelyM b).2,zr tt,za 0]/\K'=[(0,zx),(1,zC),(s,zu b),(e,zw b),(j,.cells ((likelyM b).1.map za) 3 ff)])):=by
 refine vc 50 hT Tryz.func28 fun Y hro Wz=>?_;refine au 21042 ?_;intro jb hjb;refine au 68042235555 ?_;refine TK.clE Z Z Z Z (kR hT (b:=b) (s:=s) (e:=e) hn hl) ?_;refine au 93714235 ?_;apply aI<;>intro Jz
 ·refine au 35555142 ?_;refine TK.leave (.ret _) fun A hA=>Wz _ _ _ _ ([(0,_),(1,_),(s,_),(e,_)]) ([(0,_),(1,_),(s,_),(e,_)]) _ _ _ (.inr rfl) vQ sQ sQ vQ (kC (.cons (zQ Z) (.cons (zQ Z) (.cons (zQ Z) (.cons (zQ Z) ResKs.nil)))) rfl) ?_ A hA;exact .inl ⟨by simpa using Jz,rfl,rfl⟩
 have hck:zF b=0:=by simpa using Jz
 have hb:=yH hck;refine au 22043068042120 ?_;intro jx hjx;refine au 220423170 ?_;intro jl hjl;refine TK.virtC (t:=142) (e:=147) (size:=2) (fun _=>uQ) fun jo0 hjo0=>?_;refine au 13033206804223 ?_;refine TK.rangeAll hT hb (s:=s) (e:=e) (K0:=(jl,.cells [.row jo0 0] 142 tt)::(jo0,.row [] 147 2)::(jx,.cells (zA b s e) 110 tt)::(1,zC)::(s,zu b)::[]) (J:=fun pre K1=>∃(jo:Nat)(P:List Gs),P.map (·.2)=guessM b pre/\K1=(jl,.cells [.row jo P.length] 142 tt)::(jo,.row (refsG P) 147 2)::(jx,.cells (zA b s e) 110 tt)::(1,zC)::(s,zu b)::objsG P) (D:=fun _ _=>False) rfl hro rfl vQ ⟨jo0,[],rfl,rfl⟩ (fun Y' l lo lb pre S K1 hbegin Qj hout hpre hJ=>?_) (fun d K2 hJ=>?_) (fun d c K2 hD=>?_)
 ·obtain⟨jo,P,hP,rfl⟩:=hJ;have hSm:=zar hb hpre;have hpl:=zf5 hb hpre (fun S => !badM b S b.kE.length);have hPl:P.length<=65536:=by have:=congrArg List.length hP;unfold guessM at this;simp only[lJ]at this;omega
  refine au 2204 ?_;intro j4 hj4;refine au 3170 ?_;refine hbegin _ _ _ _ _ uQ ?_;refine au 68068042130 ?_;refine TK.clE Z Z Z Z (zgw hT (s:=s) (e:=e) hb hSm) ?_;refine au 93142355661 ?_;apply aI<;>intro Jx
  ·have hwr:0<=wrongM b S/\wrongM b S<=100:=by unfold wrongM;have:=zeI b S b.kE.length;have:=hb.ns;split <;> omega
   refine TK.dr [0,1,3,2,4,5,6,7] [0,1,2,3,4,5,6,7] ?_;refine ad [[10,8],[12,9],[1,10]] ?_;refine TD.cl (Wx:=[_,_]) [31] Z Z Z Z Z (zlB hT hSm.len fun x hx=>⟨(hSm.mem x hx).1,by have:=(hSm.mem x hx).2;have:=hb.sP;omega⟩) (fun r8 K9 h10=>⟨?_,?_⟩)
   ·rcases h10 with⟨jr,rfl,rfl⟩
    all_goals simp
   obtain⟨jr,rfl,rfl⟩:=h10;try simp only[cA]
   refine bS tQ ?_;refine bU [32,33] Z (kh (l:=[_,_]) Z TyZ.h BlOf.h Z) ?_;refine TD.cnewR (Wx:=[_,_]) [34] Z Z Z Z Z (zH (l:=[_,_]) Z zp.h TyZ.h dQ dQ Z) (fun _=>zD rfl tQ) sQ fun j11 hj11=>?_;refine TD.capp (Wx:=[_]) [30,35] Z Z Z Z Z (a_app Z ApOf.h Z mQ (zeo P) Z (yO (ln:=[_,_]) mQ dQ sQ Z) oQ Z (by unfold maxLen;omega) oQ) (fun _=>uQ) (fun _=>zD rfl tQ) (fun _=>sQ) fun jo2=>?_;refine TD.s (Wx:=[]) [8,36] Z Z (zz Z Z ze.h Z Z mQ Z) ?_;refine ad [[14]] ?_;refine au 140 ?_;refine bC ((l,lb)::(e,zw b)::(jr,_)::(jl,_)::(jo2,_)::(jx,_)::(1,_)::(s,_)::objsG P) ?_;refine bN (K':=(l,lb)::(e,zw b)::(jl,_)::(jo2,_)::(jx,_)::(1,_)::(s,_)::objsG (P++[(jr,S,wrongM b S)])) (by rw[zjK];exact(List.Perm.cons _ (List.Perm.cons _ (List.perm_append_singleton _ ((jl,_)::(jo2,_)::(jx,_)::(1,_)::(s,_)::objsG P)).symm))) ?_;exact Qj _ _ ((jl,_)::(jo2,_)::(jx,_)::(1,_)::(s,_)::objsG (P++[(jr,S,wrongM b S)])) _ (.all _) ⟨jo2,P++[(jr,S,wrongM b S)],by rw[zlo (by simpa using Jx),lM,hP] <;> rfl,by rw[zkb,lF] <;> rfl⟩
  refine au 140120 ?_;exact Qj _ _ ((jl,_)::(jo,_)::(jx,_)::(1,_)::(s,_)::objsG P) _ vQ ⟨jo,P,by rw[zln (by simpa using Jx)];exact hP,rfl⟩
 ·obtain⟨jo,P,hP,rfl⟩:=hJ;have hPl:P.length<=65536:=by
   have h1:=congrArg List.length hP;have h2:=zb1 hb;have h3:=List.length_filter_le (fun S => !badM b S b.kE.length) (allM b);unfold guessM at h1;simp only[lJ]at h1;omega
  simp only[cA];refine bN (List.Perm.cons _ (List.Perm.cons _ (List.Perm.cons _ (List.Perm.cons _ (List.Perm.cons _ (List.Perm.cons _ (List.Perm.cons _ lH))))))) ?_;simp only[cA];refine au 937280690422140 ?_;apply aI<;>intro hc2
  ·have hPn:P=[]:=lK (by have h:(P.length:Int)=0:=(by simpa using hc2);omega);refine au 3555542 ?_;refine TK.leave (.ret _) fun A hA=>Wz _ _ _ _ ([(0,_),(1,_),(s,_),(e,_)]) ([(0,_),(1,_),(s,_),(e,_)]) _ _ _ (.inr rfl) vQ sQ sQ vQ (kC (.cons (zQ Z) (.cons (zQ Z) (.cons (zQ Z) (.cons (zQ Z) ResKs.nil)))) rfl) ?_ A hA;exact .inr (.inl ⟨hck,by rw[<- hP,hPn] <;> rfl,rfl,rfl⟩)
  obtain⟨p,ps,rfl⟩:∃ p ps,P=p::ps:=by
   cases P with
   | nil=>exact absurd hc2 dQ
   | cons p ps=>exact⟨p,ps,rfl⟩
  have Wb:∀ x∈p::ps,x.2.1.length<=1000:=fun x hx=>by
   have h1:x.2∈guessM b (allM b):=by rw[<- hP];exact List.mem_map_of_mem (f:=fun x:Gs=>x.2) hx
   obtain⟨S,hS,h2⟩:=lY.1 h1;have:=(zaa hb S (List.mem_filter.1 hS).1).len;rw[<- h2];dsimp only;omega
  refine au 2120 ?_;refine bL [0,1,2,3,4,5,6,7] ?_;refine ad [[10,8]] ?_;refine bT [40] Z (hq:=kT Z Z Z zp.h (mC _) (by first|omega|(simp only[lZ];omega)) (by first|omega|(simp only[lZ];omega))) (h:=?_);refine bT [41] Z (hq:=zK Z Z ze.h (mC _) (zaM (k:=0) sQ)) (h:=?_);refine ad [[10,8]] ?_;refine bT [43] Z (hq:=wp Z Z zp.h (mC _) Z Z (by first|omega|(simp only[lZ];omega)) (by first|omega|(simp only[lZ];omega)) Z) (h:=?_);refine TD.c2 (i1:=5) (i2:=6) (pend1:=[_,_,_]) (pend2:=[_,_,_,_,_]) (L1:=[6,7]) (L2:=[5,7]) [42,44] [] Z Z Z Z Z Z Z ?_ ?_
  ·refine vM Z Z Cal.h Z (zaX hT (o:=p) (xs:=ps) (lt:=fun a c=>ltGuess a.2 c.2) (fv:=.fn 79 [] []) (jo:=jo) (off:=2) (obo:=.row (refsG (p::ps)) 147 2) (K:=(jo,.row (refsG (p::ps)) 147 2)::objsG (p::ps)) (by simp at hPl;omega) sQ (fun k hk=>by rw[show 2+((k:Int)).toNat*2=(k+1)*2 by rw[mZ];omega];exact zaM (P:=p::ps) (k:=k+1) (by simpa using hk)) (fun x hx y hy=>yC Cal.h (zcR hT (lL _ (vh hx)) (lL _ (vh hy)) (yK _ _ _) (yK _ _ _) (Wb x hx) (Wb y hy)))) vQ fun r12 K13 h14=>⟨?_,?_⟩
   ·rcases h14 with⟨rfl,rfl⟩
    all_goals simp
   obtain⟨rfl,rfl⟩:=h14;try simp only[cA]
   refine bS (Wk:=[_,_,_,_,_,_,_,_,_,_,_,_,_,_,_,_,_,_,_,_,_,_,_,_,_,_,_,_,_,_,_,_,_,_,_,_,_,_,_,_,_,_,_,_,_,_,_,_,_,_]) Z ?_;refine TD.permz (List.Perm.cons _ lH) ?_;simp only[cA];generalize hres0:ye (fun(a c:Gs)=>ltGuess a.2 c.2) p ps=res;have hmem:res∈p::ps:=hres0 ▸ wo;obtain⟨R1,hR1⟩:=uW (vh hmem);have hcl:res.2=likelyM b:=by
    rw[<- hres0,zax (fun x:Gs=>x.2)];unfold likelyM;rw[<- hP] <;> rfl
   refine TD.cnewP (Wx:=[_,_,_]) [] Z Z Z Z Z (yA Z TyZA.h) (fun _=>zD rfl tQ) sQ fun jg hjg=>?_;refine TD.s (Wx:=[]) [12,45] Z Z (zz Z Z ze.h Z Z mQ Z) ?_;refine ad [[14]] ?_;refine au 2 ?_;refine bL [0,1,4,2,3,5,6,7] ?_;refine ad [[3,12],[10,46],[3,12],[10,48]] ?_;refine TD.as (Wx:=[_,_]) [47] Z Z (zI Z Z) ?_;refine ad [[13,49],[13],[13],[14]] ?_;refine TK.leave (.ret _) fun A hA=>Wz _ _ _ _ ([(0,_),(1,_),(s,_),(e,_),(res.1,.cells (res.2.1.map za) 3 ff)]) ([(0,_),(1,_),(s,_),(e,_),(res.1,.cells (res.2.1.map za) 3 ff)]) _ _ _ (.inr rfl) (by repeat (first|exact Split.none _|exact Split.all _|(apply Split.rem;repeat (first|exact Rem.head|exact hR1|apply Rem.tail))|apply Split.right)) sQ sQ (by repeat (first|exact Split.none _|exact Split.all _|(apply Split.rem;repeat (first|exact Rem.head|exact hR1|apply Rem.tail))|apply Split.right)) (kC (.cons (zQ Z) (.cons (zQ Z) (.cons (zQ Z) (.cons (zQ Z) ResKs.nil)))) rfl) ?_ A hA;refine .inr (.inr ⟨hck,by rw[<- hP];simp,res.1,?_,?_⟩)
   ·rw[<- hcl] <;> rfl
   ·rw[<- hcl]
  ·refine kK Z (yA Z TyZA.h) (fun _=>zD rfl tQ) sQ fun jg hjg=>?_;refine TD.clE (Wx:=[_,_,_]) [42,44] Z Z Z Z Z (zaX hT (o:=p) (xs:=ps) (lt:=fun a c=>ltGuess a.2 c.2) (fv:=.fn 79 [] []) (jo:=jo) (off:=2) (obo:=.row (refsG (p::ps)) 147 2) (K:=(jo,.row (refsG (p::ps)) 147 2)::objsG (p::ps)) (by simp at hPl;omega) sQ (fun k hk=>by rw[show 2+((k:Int)).toNat*2=(k+1)*2 by rw[mZ];omega];exact zaM (P:=p::ps) (k:=k+1) (by simpa using hk)) (fun x hx y hy=>yC Cal.h (zcR hT (lL _ (vh hx)) (lL _ (vh hy)) (yK _ _ _) (yK _ _ _) (Wb x hx) (Wb y hy)))) ?_;refine TD.permz (List.Perm.cons _ lH) ?_;simp only[cA];generalize hres0:ye (fun(a c:Gs)=>ltGuess a.2 c.2) p ps=res;have hmem:res∈p::ps:=hres0 ▸ wo;obtain⟨R1,hR1⟩:=uW (vh hmem);have hcl:res.2=likelyM b:=by
    rw[<- hres0,zax (fun x:Gs=>x.2)];unfold likelyM;rw[<- hP] <;> rfl
   refine TD.s (Wx:=[]) [12,45] Z Z (zz Z Z ze.h Z Z mQ Z) ?_;refine ad [[14]] ?_;refine au 2 ?_;refine bL [0,1,4,2,3,5,6,7] ?_;refine ad [[3,12],[10,46],[3,12],[10,48]] ?_;refine TD.as (Wx:=[_,_]) [47] Z Z (zI Z Z) ?_;refine ad [[13,49],[13],[13],[14]] ?_;refine TK.leave (.ret _) fun A hA=>Wz _ _ _ _ ([(0,_),(1,_),(s,_),(e,_),(res.1,.cells (res.2.1.map za) 3 ff)]) ([(0,_),(1,_),(s,_),(e,_),(res.1,.cells (res.2.1.map za) 3 ff)]) _ _ _ (.inr rfl) (by repeat (first|exact Split.none _|exact Split.all _|(apply Split.rem;repeat (first|exact Rem.head|exact hR1|apply Rem.tail))|apply Split.right)) sQ sQ (by repeat (first|exact Split.none _|exact Split.all _|(apply Split.rem;repeat (first|exact Rem.head|exact hR1|apply Rem.tail))|apply Split.right)) (kC (.cons (zQ Z) (.cons (zQ Z) (.cons (zQ Z) (.cons (zQ Z) ResKs.nil)))) rfl) ?_ A hA;refine .inr (.inr ⟨hck,by rw[<- hP];simp,res.1,?_,?_⟩)
   ·rw[<- hcl] <;> rfl
   ·rw[<- hcl]
 ·exact hD.elim
end Go.Vel
namespace Go.Vel
open Go Go.Conc
open Go.ConcN (sumTo upd upd_ne upd_same)
structure TInv(Sb:Nat->Prop)(t:Trace)(n:Nat)(hp:Nat->Hp)(act:Nat->Prop):Prop where
 clean:∀ said,¬ Race said t
 hears:Deaf t 0=0
 low:∀ op∈t,op.act.low n
 known:∀ idx a,touchAt t idx=some a->a.loc.isMemory=tt->Knows t 0 idx\/(∃ i,act i/\t.g? idx=some i/\(hp i).lets (blk a.loc) a.write)\/(a.kind=.atomic/\¬ t.heard idx/\Sb (blk a.loc))
 wk:∀ i,act i->∀ idx a,touchAt t idx=some a->a.loc.isMemory=tt->∀ rw o,hp i (blk a.loc)=some (rw,o)->(rw=tt\/a.write=tt)->Knows t i idx
 deaf:∀ i,act i->Deaf t i=0
 pos:∀ i,act i->0<i
 disj:∀ i k b o,(i=0\/act i)->(k=0\/act k)->i≠k->hp i b=some (tt,o)->hp k b=none
 norel:NoRel t
 sb:∀ i,(i=0\/act i)->∀ b x,hp i b=some x->¬ Sb b
 sbn:∀ b,Sb b->b<n
theorem zgp{Sb:Nat->Prop}{t:Trace}{n:Nat}(h:Past (fun l=>Sb (blk l)) n t)(hr:NoRel t)(H:Hp)(hH:∀ b x,H b=some x->¬ Sb b)(hn:∀ b,Sb b->b<n):TInv Sb t n (fun _=>H) (fun _=>False):=by
 refine⟨h.clean,h.hears,h.seen,fun idx a ha hm=>?_,fun _ hi=>hi.elim,fun _ hi=>hi.elim,fun _ hi=>hi.elim,fun i k b o hi hk hne=>?_,hr,fun _ _=>hH,hn⟩
 ·rcases h.known idx a ha hm with hk|⟨h1,h2⟩
  ·exact .inl hk
  ·by_cases hh:t.heard idx
   ·left;obtain⟨x,hx,hxa⟩:=touch_of ha;by_cases e:x.g=0
    ·have:=knows_own hx;rwa[e]at this
    ·obtain⟨j,hj,hb⟩:=h.over idx x.g (by simp[Trace.g?,hx]) e ⟨a,ha,hm,.inr hh⟩;obtain⟨z,hz,hz0⟩:=mY.1 hj;exact⟨j,z,hz,hz0,.inr hb⟩
   ·exact .inr (.inr ⟨h2,hh,h1⟩)
 ·rcases hi with rfl|hi
  ·rcases hk with rfl|hk
   ·exact absurd rfl hne
   ·exact hk.elim
  ·exact hi.elim
theorem zf1{Sb:Nat->Prop}{t:Trace}{n:Nat}{hp:Nat->Hp}{act:Nat->Prop}(h:TInv Sb t n hp act)(ha:∀ i,¬ act i):Past (fun l=>Sb (blk l)) n t:=by
 have hk:∀ idx a,touchAt t idx=some a->a.loc.isMemory=tt->Knows t 0 idx\/(a.kind=.atomic/\¬ t.heard idx/\Sb (blk a.loc)):=fun idx a hx hm=>(h.known idx a hx hm).imp id fun h'=>h'.elim (fun⟨i,hi,_⟩=>absurd hi (ha i)) id;refine⟨h.clean,fun idx a hx hm=>(hk idx a hx hm).imp id fun h'=>⟨h'.2.2,h'.1⟩,fun idx g hg hne hc=>?_,h.hears,h.low⟩;obtain⟨x,hx,hm,hkind⟩:=hc;rcases hk idx x hx hm with⟨q,z,hq,hz,hb⟩|⟨h1,h2,_⟩
 ·refine⟨q,by simp[Trace.g?,hq,hz],?_⟩;rcases hb with rfl|hb
  ·have:t.g? idx=some 0:=by simp[Trace.g?,hq,hz]
   rw[this]at hg;cases hg;exact absurd rfl hne
  ·exact hb
 ·exact absurd hkind (fun hh=>hh.elim (fun h'=>h' h1) h2)
theorem TInv.appOwn{Sb:Nat->Prop}{t u:Trace}{n n':Nat}{hp hp':Nat->Hp}{act:Nat->Prop}(h:TInv Sb t n hp act){i:Nat}(hi:i=0\/act i)(hn:n<=n')
  (hoth:∀ k,k≠i->hp' k=hp k)
  (hback:∀ b rw o,hp' i b=some (rw,o)->(∃ o',hp i b=some (rw,o'))\/n<=b)
  (hfwd:∀ b wr,(hp i).lets b wr->(hp' i).lets b wr)
  (hdom:∀ k,(k=0\/act k)->∀ b x,hp k b=some x->b<n)
  (hu:∀ op∈u,op.g=i) (hd:Deaf (t++u) i=Deaf t i) (hl:∀ op∈u,op.act.low n')
  (ht:∀ op∈u,∀ b,op.act.touch? =some b->b.loc.isMemory=tt->(hp' i).lets (blk b.loc) b.write) (hr:∀ op∈u,∀ a,op.act≠.mark (.release a)):TInv Sb (t++u) n' hp' act:=by
 have hdeaf:∀ k,Deaf (t++u) k=Deaf t k:=fun k=>by
  by_cases hk:k=i
  ·subst hk;exact hd
  ·exact Deaf_other t (Ne.symm hk) u hu
 have hconf:∀ idx a,touchAt t idx=some a->a.loc.isMemory=tt->∀ op∈u,∀ b,op.act.touch? =some b->a.loc=b.loc->(a.write=tt\/b.write=tt)->Knows t i idx:=by
  intro idx a ha hm op Qw b hb hloc hw;obtain⟨rw,o,hrw,himp⟩:=ht op Qw b hb (by rw[<- hloc];exact hm);rw[<- hloc]at hrw;have Qp:=vD h.low ha hm;rcases hback _ _ _ hrw with⟨o',hold⟩|hge
  ·rcases hi with rfl|hi
   ·rcases h.known idx a ha hm with hk|⟨k,hk,_,rw',o'',hkb,himp'⟩|⟨_,_,hS⟩
    ·exact hk
    ·exfalso;have hk0:=h.pos k hk;rcases hw with hw|hw
     ·have:=himp' hw;subst this;have:=h.disj k 0 _ _ (.inr hk) (.inl rfl) oQ hkb;rw[this]at hold;cases hold
     ·have:=himp hw;subst this;have:=h.disj 0 k _ _ (.inl rfl) (.inr hk) oQ hold;rw[this]at hkb;cases hkb
    ·exact absurd hS (h.sb 0 (.inl rfl) _ _ hold)
   ·refine h.wk i hi idx a ha hm rw o' hold ?_;exact hw.elim .inr fun hb=>.inl (himp hb)
  ·omega
 refine⟨fun said=>noRace_append (h.clean said) hu fun idx a ha op Qw b hb hc=>hconf idx a ha hc.2.1 op Qw b hb hc.1 (by simpa using hc.2.2.1),(hdeaf 0).trans h.hears,seen_app (fun op Qw=>MemAct.low_mono hn (h.low op Qw)) hl,fun idx a ha hm=>?_,fun k hk idx a ha hm rw o hb hor=>?_,fun k hk=>(hdeaf k).trans (h.deaf k hk),h.pos,fun k l b o hk hl' hne hb=>?_,vg h.norel hr,fun k hk b x hb=>?_,fun b hb=>mM (h.sbn b hb) hn⟩
 ·obtain⟨x,hx,hxa⟩:=touch_of ha;rcases getElem?_append_cases hx with⟨Qp,hx'⟩|⟨_,hxu⟩
  ·rcases h.known idx a (by rw[touchAt_of hx'];exact hxa) hm with hk|⟨k,hk,hg,hlets⟩|⟨h1,h2,h3⟩
   ·exact .inl (hk.app u)
   ·refine .inr (.inl ⟨k,hk,by rw[g?_old Qp];exact hg,?_⟩);by_cases hki:k=i
    ·subst hki;exact hfwd _ _ hlets
    ·rw[hoth k hki];exact hlets
   ·exact .inr (.inr ⟨h1,fun e=>h2 ((heard_old Qp).1 e),h3⟩)
  ·rcases hi with rfl|hi
   ·have:=knows_own hx;rw[hu x hxu]at this;exact .inl this
   ·exact .inr (.inl ⟨i,hi,by simp[Trace.g?,hx,hu x hxu],ht x hxu a hxa hm⟩)
 ·obtain⟨x,hx,hxa⟩:=touch_of ha;by_cases hki:k=i
  ·subst hki;rcases getElem?_append_cases hx with⟨Qp,hx'⟩|⟨_,hxu⟩
   ·have ha':touchAt t idx=some a:=by rw[touchAt_of hx'];exact hxa
    rcases hback _ _ _ hb with⟨o',hold⟩|hge
    ·exact(h.wk k hk idx a ha' hm rw o' hold hor).app u
    ·have:=vD h.low ha' hm;omega
   ·have:=knows_own hx;rw[hu x hxu]at this;exact this
  ·rw[hoth k hki]at hb;rcases getElem?_append_cases hx with⟨Qp,hx'⟩|⟨_,hxu⟩
   ·exact(h.wk k hk idx a (by rw[touchAt_of hx'];exact hxa) hm rw o hb hor).app u
   ·exfalso;obtain⟨rw',o',hrw,himp⟩:=ht x hxu a hxa hm;rcases hback _ _ _ hrw with⟨o'',hold⟩|hge
    ·rcases hor with rfl|hw
     ·have:=h.disj k i _ _ (.inr hk) hi hki hb;rw[this]at hold;cases hold
     ·have:=himp hw;subst this;have:=h.disj i k _ _ hi (.inr hk) (Ne.symm hki) hold;rw[this]at hb;cases hb
    ·have:=hdom k (.inr hk) _ _ hb;omega
 ·
  by_cases hki:k=i
  ·subst hki;have hli:l≠k:=Ne.symm hne;rw[hoth l hli];rcases hback _ _ _ hb with⟨o',hold⟩|hge
   ·exact h.disj k l b _ hk hl' hne hold
   ·cases e:hp l b with
    | none=>rfl
    | some x=>have:=hdom l hl' b x e;omega
  ·rw[hoth k hki]at hb;have hb':=hdom k hk b _ hb;by_cases hli:l=i
   ·subst hli;cases e:hp' l b with
    | none=>rfl
    | some x =>
     obtain⟨rw,o'⟩:=x;rcases hback _ _ _ e with⟨o'',hold⟩|hge
     ·have:=h.disj k l b _ hk hl' hne hb;rw[this]at hold;cases hold
     ·omega
   ·rw[hoth l hli];exact h.disj k l b _ hk hl' hne hb
 ·by_cases hki:k=i
  ·subst hki;obtain⟨rw,o⟩:=x;rcases hback _ _ _ hb with⟨o',hold⟩|hge
   ·exact h.sb k hk _ _ hold
   ·exact fun hS=>by have:=h.sbn b hS;omega
  ·rw[hoth k hki]at hb;exact h.sb k hk _ _ hb
theorem TInv.appStill{Sb:Nat->Prop}{t u:Trace}{n:Nat}{hp:Nat->Hp}{act:Nat->Prop}(h:TInv Sb t n hp act)(hu:∀ op∈u,op.act.touch? =none)(hd:∀ k,k=0\/act k->Deaf (t++u) k=Deaf t k)(hl:∀ op∈u,op.act.low n)(hr:∀ op∈u,∀ a,op.act≠.mark (.release a)):TInv Sb (t++u) n hp act:=by
 refine⟨fun said=>wb (h.clean said) hu,(hd 0 (.inl rfl)).trans h.hears,seen_app h.low hl,fun idx a ha hm=>?_,fun k hk idx a ha hm rw o hb hor=>?_,fun k hk=>(hd k (.inr hk)).trans (h.deaf k hk),h.pos,h.disj,vg h.norel hr,h.sb,h.sbn⟩
 ·obtain⟨ha',Qp⟩:=yI hu ha;rcases h.known idx a ha' hm with hk|⟨k,hk,hg,hlets⟩|⟨h1,h2,h3⟩
  ·exact .inl (hk.app u)
  ·exact .inr (.inl ⟨k,hk,by rw[g?_old Qp];exact hg,hlets⟩)
  ·exact .inr (.inr ⟨h1,fun e=>h2 ((heard_old Qp).1 e),h3⟩)
 ·obtain⟨ha',_⟩:=yI hu ha;exact(h.wk k hk idx a ha' hm rw o hb hor).app u
theorem TInv.spawn{Sb:Nat->Prop}{t:Trace}{n:Nat}{hp hp':Nat->Hp}{act:Nat->Prop}(h:TInv Sb t n hp act){c:Nat}(hc:0<c)(hca:¬ act c)(hdc:Deaf t c=0){x y:MemOp}(hx:x.g=0/\x.act=.go c)(hy:y.g=c/\y.act=.start)
  (hoth:∀ k,k≠0->k≠c->hp' k=hp k)
  (h2:∀ b rw o,hp' 0 b=some (rw,o)->∃ rw' o',hp 0 b=some (rw',o')/\(rw=tt->rw'=tt))
  (h3:∀ b rw o,hp' c b=some (rw,o)->rw=ff/\∃ rw' o',hp 0 b=some (rw',o'))
  (h4:∀ b o,hp' 0 b=some (tt,o)->hp' c b=none):TInv Sb (t++#[x]++#[y]) n hp' (fun k=>act k\/k=c):=by
 have hux:∀ op∈(#[x]:Array MemOp),op.act.touch? =none:=fun op Qw=>by
  simp only[List.mem_toArray,lS]at Qw;subst Qw;rw[hx.2];rfl
 have huy:∀ op∈(#[y]:Array MemOp),op.act.touch? =none:=fun op Qw=>by
  simp only[List.mem_toArray,lS]at Qw;subst Qw;rw[hy.2];rfl
 have hmx:∀ op∈(#[x]:Array MemOp),op.act≠.mark .disable/\op.act≠.mark .enable:=fun op Qw=>by
  simp only[List.mem_toArray,lS]at Qw;subst Qw;rw[hx.2];exact⟨by simp,by simp⟩
 have hmy:∀ op∈(#[y]:Array MemOp),op.act≠.mark .disable/\op.act≠.mark .enable:=fun op Qw=>by
  simp only[List.mem_toArray,lS]at Qw;subst Qw;rw[hy.2];exact⟨by simp,by simp⟩
 have hd:∀ k,Deaf (t++#[x]++#[y]) k=Deaf t k:=fun k=>by rw[yS hmy,yS hmx]
 have hlx:∀ op∈(#[x]:Array MemOp),op.act.low n:=fun op Qw=>by
  simp only[List.mem_toArray,lS]at Qw;subst Qw;rw[hx.2];trivial
 have hly:∀ op∈(#[y]:Array MemOp),op.act.low n:=fun op Qw=>by
  simp only[List.mem_toArray,lS]at Qw;subst Qw;rw[hy.2];trivial
 have hne:∀ k,act k->k≠c:=fun k hk e=>hca (e ▸ hk);refine⟨fun said=>wb (wb (h.clean said) hux) huy,(hd 0).trans h.hears,seen_app (seen_app h.low hlx) hly,fun idx a ha hm=>?_,fun k hk idx a ha hm rw o hb hor=>?_,fun k hk=>(hd k).trans (hk.elim (h.deaf k) fun e=>e ▸ hdc),fun k hk=>hk.elim (h.pos k) fun e=>e ▸ hc,fun k l b o hk hl hkl hb=>?_,vg (vg h.norel fun op Qw a=>by simp only[List.mem_toArray,lS]at Qw;subst Qw;rw[hx.2];simp) fun op Qw a=>by simp only[List.mem_toArray,lS]at Qw;subst Qw;rw[hy.2];simp,fun k hk b z hb=>?_,h.sbn⟩
 ·obtain⟨ha1,hlt1⟩:=yI huy ha;obtain⟨ha',Qp⟩:=yI hux ha1;rcases h.known idx a ha' hm with hk|⟨k,hk,hg,hlets⟩|⟨h1,h5,h6⟩
  ·exact .inl ((hk.app _).app _)
  ·refine .inr (.inl ⟨k,.inl hk,by rw[g?_old hlt1,g?_old Qp];exact hg,?_⟩);rw[hoth k (by have:=h.pos k hk;omega) (hne k hk)];exact hlets
  ·exact .inr (.inr ⟨h1,fun e=>h5 ((heard_old Qp).1 ((heard_old (u:=#[y]) (by simp;omega)).1 e)),h6⟩)
 ·obtain⟨ha1,hlt1⟩:=yI huy ha;obtain⟨ha',Qp⟩:=yI hux ha1;rcases hk with hk|rfl
  ·rw[hoth k (by have:=h.pos k hk;omega) (hne k hk)]at hb;exact((h.wk k hk idx a ha' hm rw o hb hor).app _).app _
  ·obtain⟨rfl,rw',o',h0⟩:=h3 _ _ _ hb;have hw:a.write=tt:=hor.elim (fun e=>by cases e) id;rcases h.known idx a ha' hm with hkn|⟨k',hk',_,rw'',o'',hkb,himp⟩|⟨_,_,hS⟩
   ·
    obtain⟨q,z,hq,hz,hbef⟩:=hkn;have hqlt:=lt_size_of_getElem? hq;have e1:(t++#[x]++#[y])[q]? =some z:=by rw[getElem?_append_old (by simp;omega),getElem?_append_old hqlt];exact hq
    have e2:(t++#[x]++#[y])[t.size]? =some x:=by rw[getElem?_append_old sQ];simp
    have e3:(t++#[x]++#[y])[t.size+1]? =some y:=by
     have e:(t++#[x]++#[y])[(t++#[x]).size]? =some y:=by simp only[<- Array.push_eq_append,Array.getElem?_push_size]
     rwa[show(t++#[x]).size=t.size+1 by simp]at e
    have hpo:HappensBefore (t++#[x]++#[y]) q t.size:=hb_po hqlt e1 e2 (hz.trans hx.1.symm);have hsp:HappensBefore (t++#[x]++#[y]) t.size (t.size+1):=by
     refine .single (.inr ⟨.spawn (child:=k) (by rw[act?_of e2,hx.2]) (by rw[act?_of e3,hy.2]) (by unfold Trace.g?;rw[e3,Option.map_some,hy.1]),vz hx.1 h.hears,?_⟩);have:=vz (t:=t++#[x]) (u:=#[]) hy.1 (by rw[yS hmx];exact hdc);simpa using this
    exact⟨t.size+1,y,e3,hy.1,.inr (((hbef.app #[x]).app #[y]).hb (hpo.trans hsp))⟩
   ·exfalso;have:=himp hw;subst this;have:=h.disj k' 0 _ _ (.inr hk') (.inl rfl) (by have:=h.pos k' hk';omega) hkb;rw[this]at h0;cases h0
   ·exact absurd hS (h.sb 0 (.inl rfl) _ _ h0)
 ·
  have hl3:∀ l b,hp 0 b=none->l=0\/l=c->hp' l b=none:=fun l b h0 hl=>by
   cases e:hp' l b with
   | none=>rfl
   | some z =>
    obtain⟨rw,o'⟩:=z;rcases hl with rfl|rfl
    ·obtain⟨_,_,h',_⟩:=h2 _ _ _ e;rw[h0]at h';cases h'
    ·obtain⟨_,_,_,h'⟩:=h3 _ _ _ e;rw[h0]at h';cases h'
  rcases hk with rfl|hk|rfl
  ·rcases hl with rfl|hl|rfl
   ·exact absurd rfl hkl
   ·obtain⟨rw',o',h0,himp⟩:=h2 _ _ _ hb;have:=himp rfl;subst this;rw[hoth l (by have:=h.pos l hl;omega) (hne l hl)];exact h.disj 0 l b o' (.inl rfl) (.inr hl) hkl h0
   ·exact h4 b o hb
  ·have hk0:k≠0:=by have:=h.pos k hk;omega
   rw[hoth k hk0 (hne k hk)]at hb;have h0:=h.disj k 0 b o (.inr hk) (.inl rfl) hk0 hb;rcases hl with rfl|hl|rfl
   ·exact hl3 _ b h0 (.inl rfl)
   ·rw[hoth l (by have:=h.pos l hl;omega) (hne l hl)];exact h.disj k l b o (.inr hk) (.inr hl) hkl hb
   ·exact hl3 _ b h0 (.inr rfl)
  ·have:=(h3 _ _ _ hb).1;cases this
 ·obtain⟨rw,o⟩:=z;rcases hk with rfl|hk|rfl
  ·obtain⟨_,_,h0,_⟩:=h2 _ _ _ hb;exact h.sb 0 (.inl rfl) _ _ h0
  ·rw[hoth k (by have:=h.pos k hk;omega) (hne k hk)]at hb;exact h.sb k (.inr hk) _ _ hb
  ·obtain⟨_,_,_,h0⟩:=h3 _ _ _ hb;exact h.sb 0 (.inl rfl) _ _ h0
theorem TInv.comm{Sb:Nat->Prop}{t:Trace}{n:Nat}{hp:Nat->Hp}{act:Nat->Prop}(h:TInv Sb t n hp act){i:Nat}(hi:act i){c k cap:Nat}(hcn:c<n){x1 x2 x3 x4:MemOp}
  (h1:x1.g=i/\x1.act=.send c k) (h2:x2.act=.recv c k cap) (h3:x3.act=.sendDone c k) (h4:x4.g=0/\x4.act=.recvDone c k):TInv Sb (t++#[x1,x2,x3,x4]) n hp (fun j=>act j/\j≠i):=by
 have hcase:∀ op∈(#[x1,x2,x3,x4]:Array MemOp),op.act.touch? =none/\(op.act≠.mark .disable/\op.act≠.mark .enable)/\op.act.low n/\∀ a,op.act≠.mark (.release a):=fun op Qw=>by
  simp only[List.mem_toArray,lI,List.not_mem_nil,or_false]at Qw;rcases Qw with rfl|rfl|rfl|rfl
  ·rw[h1.2];exact⟨rfl,⟨by simp,by simp⟩,hcn,by simp⟩
  ·rw[h2];exact⟨rfl,⟨by simp,by simp⟩,hcn,by simp⟩
  ·rw[h3];exact⟨rfl,⟨by simp,by simp⟩,hcn,by simp⟩
  ·rw[h4.2];exact⟨rfl,⟨by simp,by simp⟩,hcn,by simp⟩
 have hS:=h.appStill (u:=#[x1,x2,x3,x4]) (fun op Qw=>(hcase op Qw).1) (fun k _=>yS fun op Qw=>(hcase op Qw).2.1) (fun op Qw=>(hcase op Qw).2.2.1) (fun op Qw=>(hcase op Qw).2.2.2);refine⟨hS.clean,hS.hears,hS.low,fun idx a ha hm=>?_,fun k hk=>hS.wk k hk.1,fun k hk=>hS.deaf k hk.1,fun k hk=>h.pos k hk.1,fun k l b o hk hl=>h.disj k l b o (hk.imp id And.left) (hl.imp id And.left),hS.norel,fun k hk=>h.sb k (hk.imp id And.left),h.sbn⟩;rcases hS.known idx a ha hm with hk|⟨j,hj,hg,hlets⟩|h3
 ·exact .inl hk
 rotate_left
 ·exact .inr (.inr h3)
 by_cases hji:j=i
 ·subst hji;obtain⟨_,Qp⟩:=yI (fun op Qw=>(hcase op Qw).1) ha;left;have e:(t++#[x1,x2,x3,x4])[t.size]? =some x1:=by simp
  have e4:(t++#[x1,x2,x3,x4])[t.size+3]? =some x4:=by simp
  obtain⟨z,hz,hzg⟩:=mY.1 hg;have hpo:HappensBefore (t++#[x1,x2,x3,x4]) idx t.size:=hb_po Qp hz e (hzg.trans h1.1.symm);have hh:HappensBefore (t++#[x1,x2,x3,x4]) t.size (t.size+3):=by
   refine .single (.inr ⟨.handOver (c:=c) (k:=k) (by rw[act?_of e,h1.2]) (by rw[act?_of e4,h4.2]),?_,?_⟩)
   ·have:=vz (t:=t) (u:=#[x2,x3,x4]) h1.1 (h.deaf j hi);simpa using this
   ·have hm:∀ op∈(#[x1,x2,x3]:Array MemOp),op.act≠.mark .disable/\op.act≠.mark .enable:=fun op Qw=>(hcase op (by simp at Qw ⊢;rcases Qw with h|h|h <;> simp[h])).2.1;have:=vz (t:=t++#[x1,x2,x3]) (u:=#[]) h4.1 (by rw[yS hm];exact h.hears);simpa using this
  exact⟨t.size+3,x4,e4,h4.1,.inr (hpo.trans hh)⟩
 ·exact .inr (.inl ⟨j,⟨hj,hji⟩,hg,hlets⟩)
theorem TInv.re{Sb:Nat->Prop}{t:Trace}{n:Nat}{hp hp':Nat->Hp}{act act':Nat->Prop}(h:TInv Sb t n hp act)(ha:∀ k,act' k↔act k)(hh:∀ k,(k=0\/act k)->hp' k=hp k):TInv Sb t n hp' act':=by
 obtain rfl:act'=act:=funext fun k=>propext (ha k);refine⟨h.clean,h.hears,h.low,fun idx a hx hm=>(h.known idx a hx hm).imp id fun r=>r.imp (fun⟨k,hk,r1,r2⟩=>⟨k,hk,r1,by rw[hh k (.inr hk)];exact r2⟩) id,fun k hk=>by rw[hh k (.inr hk)];exact h.wk k hk,h.deaf,h.pos,fun a b c o h1 h2=>by rw[hh a h1,hh b h2];exact h.disj a b c o h1 h2,h.norel,fun k hk=>by rw[hh k hk];exact h.sb k hk,h.sbn⟩
end Go.Vel
end
