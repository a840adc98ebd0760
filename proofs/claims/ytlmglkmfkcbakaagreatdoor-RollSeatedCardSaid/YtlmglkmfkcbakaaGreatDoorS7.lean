/- Texts for the statements of chapter 8: what all of them need, part 8. It holds of every program, tape and world that the statements name, as each theorem says. -/
import Derived.Test.YtlmglkmfkcbakaaGreatDoorS3
import Derived.Test.YtlmglkmfkcbakaaGreatDoorS5
import Derived.Test.YtlmglkmfkcbakaaGreatDoorS6
open Go renaming Goroutine -> gG, TypeId -> gT, Operand -> gO, Program -> gP, Value -> gV, Oper -> gB
open Bool renaming true -> tt, false -> ff
section
set_option linter.all false
set_option maxRecDepth 20000
set_option maxHeartbeats 60000000
open Go.Proofs.Tryz renaming prog -> tp
open List renaming getElem?_eq_getElem -> lA, nil_append -> lC, getElem?_eq_some_iff -> lD, length_append -> lF, perm_append_comm -> lH, mem_cons -> lI, length_map -> lJ, eq_nil_of_length_eq_zero -> lK, map_append -> lM, mem_of_getElem? -> lN, getElem?_map -> lQ, append_nil -> lR, take_length -> lW, mem_map -> lY, length_cons -> lZ, replicate -> mB
open List.Mem renaming head -> mC
open Array renaming getElem?_toList -> mI
open Nat renaming le_refl -> mL, zero_le -> mN, zero_add -> mO, eq_zero_or_pos -> mP
open Bool renaming not_eq_true' -> mV, not_eq_false' -> mW
open Go.Vel.TK renaming maskL -> bA, rt -> bB, kp -> bC, cl -> bD, loopN -> bE, sp -> bF, na -> bG, a -> bH, newR -> bI, dq -> bL, perm -> bN, frzRow -> bY
open Go.Vel.TD renaming s -> bR, norm -> bS, y -> bT, cnewR -> bV
namespace Go.Vel
open Go Go.Conc Go.Proofs
def cntM (all:List (List Int)) (n:Nat) (v:Int):Nat:=(all.filter fun s=>decide (zK s n=v)).length
def mostL (all:List (List Int)) (n:Nat):Nat->Int
 | 0=>0
 | k+1=>max (mostL all n k) (cntM (all.take (k+1)) n (zK (all.getD k []) n))
def askL (b:RBk) (all:List (List Int)):Nat->Int×Int
 | 0=>(-1,all.length)
 | n+1=>if mostL all n all.length<(askL b all n).2 then (n,mostL all n all.length) else askL b all n
def askM (b:RBk) (all:List (List Int)):Int×Int:=askL b all b.sE.length
theorem zko {all:List (List Int)} {k:Nat} {st:List Int} (h:all[k]? =some st) (n:Nat) (v:Int):((cntM (all.take (k+1)) n v:Nat):Int)=if v=zK st n then ((cntM (all.take k) n (zK st n):Nat):Int)+1 else ((cntM (all.take k) n v:Nat):Int):=by
 unfold cntM;rw [yL h,List.filter_append,lF];by_cases e:v=zK st n
 ·subst e;rw [if_pos rfl]; simp
 ·rw [if_neg e];have:¬ zK st n=v:=fun h=>e h.symm;simp [this]
theorem znN (all:List (List Int)) (n:Nat) (v:Int):cntM all n v<=all.length:=List.length_filter_le _ _
theorem zbK {ob:Obj} {f g:Int->Int} (h:MapOk ob f) (e:∀ n,f n=g n):MapOk ob g:=by
 have:f=g:=funext e;rwa [this] at h
theorem zmC {all:List (List Int)} {n k:Nat} {st:List Int} (h:all[k]? =some st):mostL all n (k+1)=max (mostL all n k) (cntM (all.take (k+1)) n (zK st n)):=by
 have:all.getD k []=st:=by rw [List.getD_eq_getElem?_getD,h]; rfl
 conv=>lhs; unfold mostL
 rw [this]
instance:InfO tp 3 Tryz.t3:={}
instance:ze tp 150 ff 1:={}
instance:TyZA tp 150 [.v (.map none)]:={}
instance:Und tp 150 (.map 147 4):={}
instance:Und tp 172 (.map 3 3):={}
theorem vh {main:Bool} {T:gG->Hp->Prop} (hT:zt tp main T)  {b:RBk} {s h e:Nat} (hl:b.sE.length<=100) (hm:b.mE.length<=100) :
  zr tp T gmR 27 [.agg (zH b s h e)] [(0,zB),(s,zp b),(h,zF b),(e,zz b)] (fun r K'=>r=.tup [za (if zy b=0 then (zh b).length else 0),za (zy b)]/\K'=[(0,zB),(s,zp b),(h,zF b),(e,zz b)]):=by
 refine vx 24 hT Tryz.func27 fun Y hro Wz=>?_;refine au 21042 ?_;intro jb hjb;refine au 68042355 ?_;refine bD Z Z Z Z (zal hT (Kx:=[]) hl hm) ?_;rintro r1 K2 h3;rcases h3 with ⟨⟨Wv,rfl⟩ | ⟨Wv,rfl⟩,rfl⟩
 ·refine au 220661 ?_;intro j4 hj4;refine au 937142235170 ?_;constructor<;>intro Jz
  ·exact absurd Jz sQ
  have hbb:=zX Wv;refine au 42120 ?_;refine TK.newM Z Z Z (uu Z) (fun _=>zx rfl tQ) fun jm hjm=>?_;refine au 220 ?_;intro j6 hj6;refine au 13033206804223170 ?_;refine bC [(j6,_),(jm,_),(j4,_),(jb,_),(0,_),(s,_),(h,_),(e,_)] ?_;refine TK.rangeStates hT hbb (s:=s) (h:=h) (e:=e) (J:=fun pre K1=>∃ ob,MapS ob pre/\K1=[(j6,.cells [.map jm] 150 tt),(jm,.raw ob),(j4,.cells (zH b s h e) 134 tt),(jb,.cells (zH b s h e) 26 tt),(0,zB)]) (D:=fun _ _=>False) rfl hro rfl vQ ⟨_,zkS,rfl⟩ (fun Y' l lo lb pre S K1 hbegin Qj hout hpre hJ=>?_) (fun d K2 hJ=>?_) (fun d c K2 hD=>?_)
  ·obtain ⟨ob,hob,rfl⟩:=hJ;have hnew:=zi8 hbb hpre;refine au 2204 ?_;intro j7 hj7;refine au 3170 ?_;refine hbegin _ _ _ _ _ uQ ?_;refine au 6806904130 ?_;refine TK.st Z Z Z (zfx keyOk Z Z Z Und.h mQ hob hnew) uQ (putN Z) ?_;refine au 1403 ?_;exact Qj _ _ [(j6,_),(jm,_),(j4,_),(jb,_),(0,_)] _ vQ ⟨_,zmz hob,rfl⟩
  ·obtain ⟨ob,hob,rfl⟩:=hJ;simp only [cA];refine au 69042140 ?_;refine bH Z (zjx Z Z Und.h mQ hob) ?_;refine au 355 ?_;refine TK.leave (.ret _) fun A hA=>Wz _ _ _ _ ([(0,_),(s,_),(h,_),(e,_)]) ([(0,_),(s,_),(h,_),(e,_)]) _ _ _ (.inr rfl) vQ sQ sQ vQ (vo (.cons (z5 Z) (.cons (z5 Z) ResKs.nil)) rfl) ?_ A hA;exact ⟨by rw [Wv,if_pos rfl],rfl⟩
  ·exact hD.elim
 ·refine au 220661 ?_;intro j4 hj4;refine au 937142235170 ?_;constructor<;>intro Jz
  ·
   refine au 355142 ?_;refine TK.leave (.ret _) fun A hA=>Wz _ _ _ _ ([(0,_),(s,_),(h,_),(e,_)]) ([(0,_),(s,_),(h,_),(e,_)]) _ _ _ (.inr rfl) vQ sQ sQ vQ (vo (.cons (z5 Z) (.cons (z5 Z) ResKs.nil)) rfl) ?_ A hA;exact ⟨by rw [if_neg Wv],rfl⟩
  exact absurd Wv (by simpa using Jz)
theorem znJ {main:Bool} {T:gG->Hp->Prop} (hT:zt tp main T)  {b:RBk} {s h e:Nat} (hl:b.sE.length<=100) (hm:b.mE.length<=100) :
  zr tp T gmR 37 [.agg (zH b s h e)] [(0,zB),(s,zp b),(h,zF b),(e,zz b)] (fun r K'=>(zy b≠0/\r=.tup [za 0,za 0,za (zy b)]/\K'=[(0,zB),(s,zp b),(h,zF b),(e,zz b)])\/(zy b=0/\zh b=[]/\r=.tup [za 0,za 0,za 9]/\K'=[(0,zB),(s,zp b),(h,zF b),(e,zz b)])\/(zy b=0/\zh b≠[]/\r=.tup [za (askM b (zh b)).1,za (askM b (zh b)).2,za 0]/\K'=[(0,zB),(s,zp b),(h,zF b),(e,zz b)])):=by
 refine zn 58 hT Tryz.func37 fun Y Wz=>?_;refine au 21042 ?_;intro jb hjb;refine au 680423555 ?_;refine bD Z Z Z Z (wU hT (Kx:=[]) hl hm) ?_;rintro r1 K2 h3;rcases h3 with ⟨Wv,rfl,rfl⟩ | ⟨Wv,hnil,rfl,rfl⟩ | ⟨Wv,hne,a,rfl,rfl⟩
 ·refine au 220661 ?_;intro j5 hj5;refine au 937142235170 ?_;constructor<;>intro Jz
  ·
   refine au 3555142 ?_;refine bB Wz [(0,_),(s,_),(h,_),(e,_)] ?_;exact .inl ⟨Wv,rfl,rfl⟩
  exact absurd Wv (by simpa using Jz)
 ·refine au 220661 ?_;intro j5 hj5;refine au 937142235170 ?_;constructor<;>intro Jz
  ·
   refine au 3555142 ?_;refine bB Wz [(0,_),(s,_),(h,_),(e,_)] ?_;exact .inr (.inl ⟨Wv,hnil,rfl,rfl⟩)
  exact absurd Jz dQ
 ·refine au 220661 ?_;intro j5 hj5;refine au 937142235170 ?_;constructor<;>intro Jz
  ·exact absurd Jz sQ
  have hbb:=zX Wv;have Wb:=y7 hbb;have Qx:0<(zh b).length:=List.length_pos_iff.2 hne;have hall:okAll b (zh b):=fun st hst=>(ky hbb hst).1;have hs5:=hbb.sms.len;refine au 2120 ?_;refine bL [0,1,2,3,4] ?_;refine ad [[3,5],[10,19]] ?_;refine TD.z [20] Z (q_len Z Z Z Und.h) ?_;refine TD.as (Wx:=[_,_,_]) [] Z Z (zG Z Z) ?_;refine ad [[13,21],[14]] ?_;refine au 13031280690670422 ?_;refine bA [1,2,3,4,5,23,24,25] ?_;refine bC [(a,_),(0,_),(s,_),(h,_),(e,_),(j5,_),(jb,_)] ?_;refine bE (fun n Wq K=>∃ (i:Nat),n=b.sE.length - i/\i<=b.sE.length/\Wq=.any::.ptr jb 0::za (askL b (zh b) i).1::za (askL b (zh b) i).2::za 0::.ptr j5 0::naL 17 (.sl s 0 b.sE.length::za b.sE.length::za i::naL 32 [])/\K=[(a,allO (zh b)),(0,zB),(s,zp b),(h,zF b),(e,zz b),(j5,.cells (knownC b s h e a (zh b).length) 154 tt),(jb,.cells (zH b s h e) 26 tt)]) b.sE.length ⟨0,rfl,mN _,rfl,rfl⟩ fun n Wq K hI Wj=>?_;obtain ⟨i,rfl,hi,rfl,rfl⟩:=hI;refine bG nQ ?_;refine au 923742 ?_;constructor<;>intro Jx
  ·have Qb:i<b.sE.length:=by simp at Jx; omega
   refine au 42351421302120 ?_;refine TK.newM Z Z Z (uu Z) (fun _=>zx rfl tQ) fun jm hjm=>?_;refine au 13031280690670422354235 ?_;refine bA [1,2,3,4,5,6,7,8,23,24,25,30,31,32] ?_;refine bE (fun n Wq K=>∃ (q:Nat) (om:Obj),n=(zh b).length - q/\q<=(zh b).length/\MapOk om (fun v=>(cntM ((zh b).take q) i v:Int))/\Wq=.any::.ptr jb 0::za (askL b (zh b) i).1::za (askL b (zh b) i).2::za 0::.ptr j5 0::za i::.map jm::za (mostL (zh b) i q)::naL 14 (.sl s 0 b.sE.length::za b.sE.length::za i::naL 4 (.sl a 0 (zh b).length::za (zh b).length::za q::naL 25 []))/\K=[(jm,.raw om),(a,allO (zh b)),(0,zB),(s,zp b),(h,zF b),(e,zz b),(j5,.cells (knownC b s h e a (zh b).length) 154 tt),(jb,.cells (zH b s h e) 26 tt)]) (zh b).length ⟨0,_,rfl,mN _,zbK zi5 (fun v=>rfl),rfl,rfl⟩ fun n Wq K hI Ww=>?_;obtain ⟨q,om,rfl,hq,hom,rfl,rfl⟩:=hI;refine bG nQ ?_;refine au 923742 ?_;constructor<;>intro hc2
   ·have hql:q<(zh b).length:=by simp at hc2; omega
    obtain ⟨st,hst⟩:∃ st,(zh b)[q]? =some st:=⟨_,lA hql⟩;have hcl:cntM ((zh b).take q) i (zK st i)<=243:=by have:=znN ((zh b).take q) i (zK st i); rw [List.length_take] at this; omega
    have hom2:MapOk (upM om (zK st i) ((cntM ((zh b).take q) i (zK st i):Int)+1)) (fun v=>(cntM ((zh b).take (q+1)) i v:Int)):=zbK (zo9 hom) (fun v=>(zko hst i v).symm);refine au 360421302120 ?_;refine bH Z (zS Z Z ze.h mQ (zaJ (i:=q) hst Z)) ?_;refine au 220 ?_;intro j10 hj10;refine au 11423170 ?_;refine bH Z (yH Z Z Z ArEl.h oQ oQ) ?_;refine bH Z (zj Z Z ze.h mQ (st_at (i:=i) oQ Z)) ?_;refine bH Z (zfu Z Z Z Und.h Und.h InfO.h Z mQ hom) ?_;refine bH Z (q_add Z Z Z (by show -9223372036854775808<=((cntM ((zh b).take q) i (zK st i):Nat):Int)+1/\((cntM ((zh b).take q) i (zK st i):Nat):Int)+1<9223372036854775808; omega)) ?_;refine TK.st Z Z Z (zgf Z Z Z Z Und.h Und.h mQ hom) uQ (putN Z) ?_;refine au 11143 ?_;refine bH Z (yH Z Z Z ArEl.h oQ oQ) ?_;refine bH Z (zj Z Z ze.h mQ (st_at (i:=i) oQ Z)) ?_;refine bH Z (zfu Z Z Z Und.h Und.h InfO.h Z mQ hom2) ?_;refine bH Z (zcG Z Z Z) ?_;refine au 31230414035 ?_;refine bA [1,2,3,4,5,6,7,8,23,24,25,30,31,32] ?_;refine bC [(jm,_),(a,_),(0,_),(s,_),(h,_),(e,_),(j5,_),(jb,_)] ?_;exact Ww _ _ _ oQ ⟨q+1,_,rfl,oQ,hom2,by rw [zmC hst]; rfl,rfl⟩
   obtain rfl:q=(zh b).length:=by simp at hc2; omega
   refine au 9371142160 ?_;constructor<;>intro hc3
   ·refine au 312304140355114 ?_;refine bA [1,2,3,4,5,23,24,25] ?_;refine bC [(a,_),(0,_),(s,_),(h,_),(e,_),(j5,_),(jb,_)] ?_;exact Wj _ _ _ oQ ⟨i+1,rfl,oQ,by rw [show askL b (zh b) (i+1)=(((i:Nat):Int),mostL (zh b) i (zh b).length) from if_pos (of_decide_eq_true hc3)]; rfl,rfl⟩
   refine au 312304140120 ?_;refine bA [1,2,3,4,5,23,24,25] ?_;refine bC [(a,_),(0,_),(s,_),(h,_),(e,_),(j5,_),(jb,_)] ?_;exact Wj _ _ _ oQ ⟨i+1,rfl,oQ,by rw [show askL b (zh b) (i+1)=askL b (zh b) i from if_neg (of_decide_eq_false hc3)]; rfl,rfl⟩
  obtain rfl:i=b.sE.length:=by simp at Jx; omega
  refine au 35551142160 ?_;refine bB Wz [(0,_),(s,_),(h,_),(e,_)] ?_;exact .inr (.inr ⟨Wv,hne,rfl,rfl⟩)
theorem kf {main T} (hT:zt tp main T) {gm} {x y:Int} :
  zr tp T gm 135 [za x,za y] [] (fun r K'=>r=zC (decide (x<y))/\K'=[]):=by
 refine zn 17 hT Tryz.func135 fun Y Wz=>?_;refine au 1423542 ?_;refine TK.clE Z Z Z Z (zb1 hT) ?_;refine au 1 ?_;refine bF 7 (fun g1_3=>?_) (fun g1_3=>?_)
 ·cases g1_3
 refine au 352507111250888 ?_;refine TK.rta Wz ?_;exact ⟨rfl,rfl⟩
section
variable {P:gP} {gm:Nat->Option Nat} {T:gG->Hp->Prop} {Y:KX P gm T} {ds:List Nat} {k:List Item} {Wq Wk:List AV} {K:KV}
theorem TK.asSl (d:Nat) {j n:Nat} {l:List AV} {e:gT} {s:Nat} (hd:Wq[d]? =some (.row j n)) (hm:(j,.row l e s)∈K) (h:TK Y ds k (Wq.set d (.sl j 0 n)) K):TK Y ds k Wq K:=fun A hA φ H ts h1 h2 h3 h4 h5 h6=>by
 have hj:=hA.view.get hm;have hb:(φ j).base=0:=(h5.obj j _ hj).2.1;have hr:∀ y,RelV φ A.length (.row j n) y->RelV φ A.length (.sl j 0 n) y:=fun y hy=>by
  have:=zbf (j:=j) hb hy;simpa [unrow] using this
 exact h _ hA φ H ts h1 h2 h3 h4 h5 (by simpa using h6.set' hd hr)
end
theorem zan {xs:List Int} {k:Nat} {n v:Int} {e:gT} {s:Nat} (h:k<xs.length) (hn:n=(k:Int)):putO (.row (xs.map za) e s) (0+n.toNat*1) [za v]=some (.row ((xs.set k v).map za) e s):=by
 rw [mO];exact zg6 h hn
def ltI (x y:Int):Bool:=decide (x<y)
theorem zaQ {xs:List Int}:∀ p,p<=xs.length->(compN xs p).length=p->compN xs p=xs.take p
 | 0,_,_=>by simp [compN]
 | 1,_,_=>by simp [compN]
 | p+2,h,hl=>by
  have h1:=zaO xs (p+1) oQ;by_cases e:zK xs p=zK xs (p+1)
  ·rw [vU e] at hl; omega
  ·rw [vV e] at hl ⊢;rw [lF,List.length_singleton] at hl;rw [zaQ (p+1) oQ oQ];exact (yL (ya oQ)).symm
theorem zaP {xs:List Int} {w i:Nat} {C:List Int} (hC:C.length=w) (h:w<=i) (hi:i<xs.length):(C++xs.drop w)[i]? =some (zK xs i):=by
 rw [List.getElem?_append_right oQ,List.getElem?_drop,hC,show w+(i - w)=i by omega];exact ya hi
theorem zkp {xs C:List Int} {w:Nat} {v:Int} (hC:C.length=w) (h:w<xs.length):(C++xs.drop w).set w v=(C++[v])++xs.drop (w+1):=by
 rw [List.set_append_right _ _ oQ,hC,Nat.sub_self,zM (ya h),List.set_cons_zero,List.append_assoc];rfl
theorem zjr {xs C:List Int} {k m off:Nat} {e:gT} {s:Nat} (hC:C.length=k) (ho:off=k) (h:k+m=(C++xs.drop k).length) (hm:0<m):putO (.row ((C++xs.drop k).map za) e s) off (mB m (.v (.int .i64 0)))=some (.row ((C++mB m 0).map za) e s):=by
 subst ho;rw [zll h hm,List.take_left' hC]
theorem ziZ {main T} (hT:zt tp main T) {gm} {j n:Nat} {xs:List Int} (hn:xs.length=n) (h12:1<=n/\n<=12) :
  zr tp T gm 129 [.row j n,za 0,za n] [(j,.row (xs.map za) 3 1)] (fun r K'=>K'=[(j,.row ((sortR ltI xs).map za) 3 1)]):=by
 refine zn 49 hT Tryz.func129 fun Y Wz=>?_;refine au 0 ?_;refine TK.asSl 0 Z (mC _) ?_;refine au 13035230142 ?_;refine bA [0,1,2,6] ?_;refine bE (fun n1 Wq K=>∃ (i:Nat),n1=n - i/\1<=i/\i<=n/\Wq=.sl j 0 n::za 0::za n::naL 3 (za i::naL 42 [])/\K=[(j,.row ((sortN ltI xs i++xs.drop i).map za) 3 1)]) (n - 1) ⟨1,rfl,mL _,h12.1,rfl,by rw [zfL oQ]⟩ fun n1 Wq K hI Wj=>?_;obtain ⟨i,rfl,hi1,hi,rfl,rfl⟩:=hI;refine bG nQ ?_;refine au 93711422 ?_;constructor<;>intro Jz
 ·have Qb:i<n:=by simp at Jz; omega
  obtain ⟨x,hx⟩:∃ x,xs[i]? =some x:=⟨_,lA oQ⟩;have hSl:=vD (lt:=ltI) xs i oQ;have hTl:(xs.drop (i+1)).length=n - (i+1):=by simp; omega
  refine au 130351421302120 ?_;refine bA [0,1,2,6,7] ?_;refine bE (fun n1 Wq K=>∃ (p:Nat),n1=p/\p<=i/\insJ ltI x (sortN ltI xs i) p=insJ ltI x (sortN ltI xs i) (sortN ltI xs i).length/\Wq=.sl j 0 n::za 0::za n::naL 3 (za i::za p::naL 41 [])/\K=[(j,.row ((dataM (sortN ltI xs i) (xs.drop (i+1)) x p).map za) 3 1)]) i ⟨i,rfl,mL _,by rw [hSl],rfl,by have:=zeI (sortN ltI xs i) (xs.drop (i+1)) x; rw [hSl] at this; rw [this,<- zM hx]⟩ fun n1 Wq K hI Ww=>?_;obtain ⟨p,hnp,hp,hins,rfl,rfl⟩:=hI;subst n1;have hdl:=zeH (S:=sortN ltI xs i) (T:=xs.drop (i+1)) (x:=x) (j:=p);refine bG nQ ?_;refine au 22 ?_;refine bL [0,1,2,3,4,5,6,7,8,9,10,11,12,13,14] ?_;refine ad [[1,7],[1,1],[4,16,17],[1,18]] ?_;refine TD.sp 19 (fun g4_4=>?_) (fun g4_4=>?_)
  ·have hp0:0<p:=by simp at g4_4; omega
   obtain ⟨q,rfl⟩:∃ q,p=q+1:=⟨p - 1,oQ⟩;obtain ⟨y,hy⟩:∃ y,(sortN ltI xs i)[q]? =some y:=⟨_,lA oQ⟩;refine ad [[1,0,19],[1,7,19],[2,19,20,21]] ?_;refine bT [19,22] Z (hq:=zj Z Z ze.h (mC _) (kQ (i:=q+1) (zbn oQ) oQ)) (h:=?_);refine ad [[1,0,19],[1,7,19],[9,19,25],[2,19,24,26]] ?_;refine bT [19,27] Z (hq:=zj Z Z ze.h (mC _) (kQ (i:=q) ((um oQ).trans hy) oQ)) (h:=?_);refine TD.clE (Wx:=[_,_,_,_,_,_,_,_,_,_]) [19,23,28] Z Z Z Z Z (kf hT) ?_;refine ad [[7,19,29],[14]] ?_;refine au 9 ?_;constructor<;>intro Jx
   ·have hsw:=zdD (T:=xs.drop (i+1)) (x:=x) hy;refine au 1302120 ?_;refine bL [0,1,5,6,7,8,9,10,11,12,13,14,15,2,3,4,16,17] ?_;refine ad [[1,0],[1,7],[1,0],[1,7],[9,36],[1,0],[1,7],[9,39],[2,38,40]] ?_;refine bT [41] Z (hq:=zj Z Z ze.h (mC _) (kQ (i:=q) ((um oQ).trans hy) oQ)) (h:=?_);refine ad [[1,0],[1,7],[2,43,44]] ?_;refine bT [45] Z (hq:=zj Z Z ze.h (mC _) (kQ (i:=q+1) (zbn oQ) oQ)) (h:=?_);refine ad [[2,33,34]] ?_;refine bR (Wx:=[_,_,_,_,_,_]) [42,47] Z Z (zE Z Z ze.h Z Z mQ (zan (k:=q+1) oQ Z)) ?_;refine ad [[2,35,37]] ?_;refine bR (Wx:=[]) [46,48] Z Z (zE Z Z ze.h Z Z mQ (zan (k:=q) (by rw [List.length_set]; omega) oQ)) ?_;refine ad [[14]] ?_;refine au 3524014140 ?_;refine bA [0,1,2,6,7] ?_;refine bC [(j,_)] ?_;exact Ww _ _ _ oQ ⟨q,rfl,oQ,by rw [<- hins,zgP hy Jx],by rw [show ((q+1:Nat):Int) - 1=(q:Int) by omega]; rfl,by rw [hsw]⟩
   have hstop:=up (lt:=ltI) (x:=x) (S:=sortN ltI xs i) (T:=xs.drop (i+1)) (j:=q+1) oQ (fun i1 y1 h1 h2=>by obtain rfl:q=i1:=oQ; rw [hy] at h2; cases h2; exact Jx);rw [hins] at hstop;refine au 3523014140160 ?_;refine bA [0,1,2,6] ?_;refine bC [(j,_)] ?_;exact Wj _ _ _ oQ ⟨i+1,rfl,oQ,oQ,rfl,by rw [vg hx,<- hstop]⟩
  obtain rfl:p=0:=by simp at g4_4; omega
  have hstop:=up (lt:=ltI) (x:=x) (S:=sortN ltI xs i) (T:=xs.drop (i+1)) (j:=0) (mN _) (fun i y h=>by omega);rw [hins] at hstop;refine ad [[11,0,19],[11,7,19],[11,19,20,21],[11,19,22],[11,0,19],[11,7,19],[11,19,25],[11,19,24,26],[11,19,27],[11,19,23,28],[6,19,29],[14]] ?_;refine au 3523014140160190 ?_;refine bA [0,1,2,6] ?_;refine bC [(j,_)] ?_;exact Wj _ _ _ oQ ⟨i+1,rfl,oQ,oQ,rfl,by rw [vg hx,<- hstop]⟩
 obtain rfl:i=n:=by simp at Jz; omega
 have Qj:[(j,AObj.row ((sortN ltI xs i++xs.drop i).map za) 3 1)]=[(j,.row ((sortN ltI xs xs.length).map za) 3 1)]:=by rw [hn,List.drop_eq_nil_of_le oQ,lR]
 refine au 160 ?_;refine TK.rt0 Wz [(j,_)] ?_;rw [show sortR ltI xs=sortN ltI xs xs.length from rfl];exact Qj
theorem zjk {main T} (hT:zt tp main T) {gm} {lim:Int} {j n:Nat} {xs:List Int} (hn:xs.length=n) (h12:1<=n/\n<=12) :
  zr tp T gm 108 [.row j n,za 0,za n,za lim] [(j,.row (xs.map za) 3 1)] (fun r K'=>K'=[(j,.row ((sortR ltI xs).map za) 3 1)]):=by
 refine zn 134 hT Tryz.func108 fun Y Wz=>?_;refine au 13035423542 ?_;refine TK.loop ?_;refine au 9371422352401142130 ?_;constructor<;>intro Jz
 ·refine au 11142 ?_;refine bD Z Z Z Z (ziZ hT hn h12) ?_;rintro r1 K2 rfl;refine au 3 ?_;refine bB Wz [(j,_)] ?_;exact rfl
 simp at Jz; omega
theorem znm {main T} (hT:zt tp main T) {gm} {j n:Nat} {xs:List Int} (hn:xs.length=n) (h12:1<=n/\n<=12) :
  zr tp T gm 74 [.row j n] [(j,.row (xs.map za) 3 1)] (fun r K'=>K'=[(j,.row ((sortR ltI xs).map za) 3 1)]):=by
 refine zn 11 hT Tryz.func74 fun Y Wz=>?_;refine au 111435280142 ?_;refine bH Z (yu Z Z Und.h Und.h (zeg (n:=n) oQ)) ?_;refine bD Z Z Z Z (zch hT (n:=n) oQ) ?_ (hs:=(.none _));rintro r1 K2 ⟨m,rfl,rfl⟩;refine au 0 ?_;refine bD Z Z Z Z (zjk hT hn h12) ?_;rintro r4 K5 rfl;refine au 3 ?_;refine TK.rt0 Wz [(j,_)] ?_;exact rfl
end Go.Vel
namespace Go.Vel
open Go Go.Conc
section
variable {P:gP} {gm:Nat->Option Nat} {T:gG->Hp->Prop} {Y:KX P gm T} {ds:List Nat} {k:List Item} {Wq Wk:List AV} {K K' K1:KV} {Qy:Array gB} {i:Nat} {Wp:List Nat} {o:gB} {envf:Nat->List AV}
theorem Upd.same' {K K':KV} {i j:Nat} {o o':AObj} (h:Upd K i o j o' K'):i=j->o'=o->K'=K:=by
 induction h with
 | head=>intro hj e; rw [e,hj]
 | tail _ ih=>intro hj e; rw [ih hj e]
theorem Upd.same {K K':KV} {i:Nat} {o o':AObj} (h:Upd K i o i o' K') (e:o'=o):K'=K:=h.same' rfl e
theorem TK.appG {s x:gO} {t e:gT} {size bytes j n m:Nat} {lo ln:List AV} {u:AV} {K'':Nat->KV} (ho:Qy[i]? =some o) (hw:zL Qy Wq o=some tt) (Qw:o.op=.call { callee:=.builtin .append,args:=#[s,x],argTypes:=#[t,t] }) (ht:apOf P t=some (e,size,bytes)) (hs:zo gm Wq s=some (.row j n)) (hm:(j,.row lo e size)∈K) (hlo:lo.length=n*size) (hx:zo gm Wq x=some u) (hl:lenA u=some m) (hsrc:0<m->srcO K size u m ln) (hln:m=0->ln=[])
  (hone:ln.all oneA=tt) (hmax:n+m<=maxLen) (hbytes:(n+m)*bytes<=140737488355328) (hu:∀ j',Upd K j (.row lo e size) j' (.row (lo++ln) e size) (K'' j')) (he:∀ j',zU Wq o.dst (.row j' (n+m))=envf j') (h:∀ j',TK Y ds (.inRegion Qy Wp::k) (envf j') (K'' j')):TK Y ds (.inRegion Qy (i::Wp)::k) Wq K:=by
 rcases mP m with e0 | Qx
 ·subst e0;have hk:K'' j=K:=(hu j).same (by rw [hln rfl,lR]);have ht':=ht;unfold apOf at ht';split at ht'
  ·rename_i e' h1;split at ht'
   ·rename_i ti h2;refine TK.q (r:=.row j n) ho (by rw [Qw]; rfl) hw (zfr Qw h1 h2 hs hx hl) (he j) ?_;rw [<- hk]; exact h j
   ·cases ht'
  ·cases ht'
 ·exact TK.appR ho (by rw [Qw]; rfl) hw (a_app Qw ht hs hm hlo hx (hsrc Qx) Qx hone hmax hbytes) hu he h
theorem TK.normK (he:K=K') (h:TK Y ds k Wq K'):TK Y ds k Wq K:=he ▸ h
end
theorem kL {l:List AV} {e:gT} {rw':Bool} {n size:Nat} (hl:l.length=n*size) (h:0<n*size):yj (.cells l e rw') 0 (n*size)=some l:=by
 simp only [yj,AObj.look,mO,List.drop_zero];rw [if_pos ⟨h,oQ⟩,<- hl,lW]
theorem kN {α:Type} (f:α->List AV) (h:∀ x,(f x).all oneA=tt) (xs:List α):(xs.flatMap f).all oneA=tt:=by
 induction xs with
 | nil=>rfl
 | cons x xs ih=>rw [List.flatMap_cons,List.all_append,h,ih]; rfl
end Go.Vel
namespace Go.Vel
open Go Go.Conc Go.Proofs
def AgrR (b:RBk) (K:KV) (r:AV) (K':KV):Prop:=(zy b≠0/\r=.tup [.agg z7R,za (zy b)]/\K'=K)\/(zy b=0/\zh b=[]/\r=.tup [.agg z7R,za 9]/\K'=K)\/(zy b=0/\zh b≠[]/\∃ s h e,r=.tup [.agg (zH b s h e),za 0]/\K'=(s,zp b)::(h,zF b)::(e,zz b)::K)
def yr (b:RBk) (m:RMeas):RBk:={ b with mE:=b.mE++[m] }
def z8 (b:RBk) (i:Nat) (x:RBand):RBk:={ b with sH:=b.sH.set i x }
theorem zfq {xs:List RBand} {i:Nat} {n:Int} {x:RBand} {e:gT} (h:i<xs.length) (hn:n=(i:Int)):putO (.row (xs.flatMap bandC) e 2) (n.toNat*2) (bandC x)=some (.row ((xs.set i x).flatMap bandC) e 2):=by
 subst hn;unfold putO;dsimp only;have hl:=yw bandC 2 (fun _=>rfl) xs;rw [if_pos ⟨by rw [hl]; simp [bandC]; omega,by simp [bandC],rfl⟩];have key:∀ (xs:List RBand) (i:Nat),i<xs.length->setL (xs.flatMap bandC) (i*2) (bandC x)=(xs.set i x).flatMap bandC:=by
  intro xs
  induction xs with
  | nil=>intro i hi; simp at hi
  | cons y r ih =>
   intro i hi;cases i with
   | zero=>rfl
   | succ i =>
    have:=ih i (by simpa using hi);rw [show (i+1)*2=i*2+2 by omega,List.set_cons_succ,List.flatMap_cons,List.flatMap_cons,<- this];rfl
 rw [Int.toNat_natCast,key xs i h]
instance:ApOf tp 22 132 5 40:={}
instance:ApOf tp 23 45 2 16:={}
instance:ApOf tp 24 88 3 24:={}
instance:BlOf tp 26 [(0,1),(1,1),(2,1),(3,1),(4,1),(5,1),(6,1)]:={}
instance:TyZ tp 132 [.int .i64 0,.int .i64 0,.int .i64 0,.int .i64 0,.bool ff]:={}
instance:TyZ tp 26 [.int .i64 0,.int .i64 0,.int .i64 0,.int .i64 0,.slice none 0 0,.slice none 0 0,.slice none 0 0]:={}
instance:TyZ tp 88 [.int .i64 0,.int .i64 0,.int .i64 0]:={}
instance:TyZA tp 26 [.v (.int .i64 0),.v (.int .i64 0),.v (.int .i64 0),.v (.int .i64 0),.v (.slice none 0 0),.v (.slice none 0 0),.v (.slice none 0 0)]:={}
theorem zhJ {main T} (hT:zt tp main T) {gm} {j n:Nat} {l:List AV} {et:gT} {rw':Bool} (hl:l.length=n*5) (hone:l.all oneA=tt) (hn:n<=100000) :
  zr tp T gm 110 [.sl j 0 n] [(j,.cells l et rw')] (fun r K'=>∃ j2,r=.row j2 n/\K'=[(j,.cells l et rw'),(j2,.row l 132 5)]):=by
 refine zn 8 hT Tryz.func110 fun Y Wz=>?_;refine au 14223542 ?_;refine TK.nilT Z Z Z Z Und.h fun tz hz=>?_;refine au 93 ?_;constructor<;>intro Jz
 ·refine au 542 ?_;refine TK.virt 2 132 5 Z fun j0 hj0=>?_;refine au 3 ?_;refine bB Wz [(j,_),(j0,_)] ?_;obtain rfl:=hz Jz;obtain rfl:=lK (by simpa using hl);exact ⟨_,rfl,rfl⟩
 refine au 42120 ?_;refine bI Z Z Z (zu (l:=[]) Z zq.h TyZ.h dQ dQ Z) (fun _=>zx rfl tQ) fun j1 hj1=>?_;refine au 1 ?_;refine TK.appG (envf:=fun _=>[_,_,_,_,_,_,_,_]) (ln:=l) rfl rfl rfl ApOf.h rfl mQ rfl rfl rfl (fun hp=>wG mQ oQ (kL hl oQ)) (fun h=>by subst h; exact lK (by simpa using hl)) hone (by unfold maxLen; omega) oQ (fun _=>uQ) (fun _=>rfl) fun j2=>?_;simp only [lC,mO];refine au 35 ?_;refine bB Wz [(j,_),(j2,_)] ?_;exact ⟨_,rfl,rfl⟩
theorem zcj {main T} (hT:zt tp main T) {gm} {j n:Nat} {l:List AV} {et:gT} {rw':Bool} (hl:l.length=n*2) (hone:l.all oneA=tt) (hn:n<=100000) :
  zr tp T gm 89 [.sl j 0 n] [(j,.cells l et rw')] (fun r K'=>∃ j2,r=.row j2 n/\K'=[(j,.cells l et rw'),(j2,.row l 45 2)]):=by
 refine zn 8 hT Tryz.func89 fun Y Wz=>?_;refine au 14223542 ?_;refine TK.nilT Z Z Z Z Und.h fun tz hz=>?_;refine au 93 ?_;constructor<;>intro Jz
 ·refine au 542 ?_;refine TK.virt 2 45 2 Z fun j0 hj0=>?_;refine au 3 ?_;refine bB Wz [(j,_),(j0,_)] ?_;obtain rfl:=hz Jz;obtain rfl:=lK (by simpa using hl);exact ⟨_,rfl,rfl⟩
 refine au 42120 ?_;refine bI Z Z Z (zu (l:=[]) Z zq.h TyZ.h dQ dQ Z) (fun _=>zx rfl tQ) fun j1 hj1=>?_;refine au 1 ?_;refine TK.appG (envf:=fun _=>[_,_,_,_,_,_,_,_]) (ln:=l) rfl rfl rfl ApOf.h rfl mQ rfl rfl rfl (fun hp=>wG mQ oQ (kL hl oQ)) (fun h=>by subst h; exact lK (by simpa using hl)) hone (by unfold maxLen; omega) oQ (fun _=>uQ) (fun _=>rfl) fun j2=>?_;simp only [lC,mO];refine au 35 ?_;refine bB Wz [(j,_),(j2,_)] ?_;exact ⟨_,rfl,rfl⟩
theorem zab {main T} (hT:zt tp main T) {gm} {j n:Nat} {l:List AV} {et:gT} {rw':Bool} (hl:l.length=n*3) (hone:l.all oneA=tt) (hn:n<=100000) :
  zr tp T gm 86 [.sl j 0 n] [(j,.cells l et rw')] (fun r K'=>∃ j2,r=.row j2 n/\K'=[(j,.cells l et rw'),(j2,.row l 88 3)]):=by
 refine zn 8 hT Tryz.func86 fun Y Wz=>?_;refine au 14223542 ?_;refine TK.nilT Z Z Z Z Und.h fun tz hz=>?_;refine au 93 ?_;constructor<;>intro Jz
 ·refine au 542 ?_;refine TK.virt 2 88 3 Z fun j0 hj0=>?_;refine au 3 ?_;refine bB Wz [(j,_),(j0,_)] ?_;obtain rfl:=hz Jz;obtain rfl:=lK (by simpa using hl);exact ⟨_,rfl,rfl⟩
 refine au 42120 ?_;refine bI Z Z Z (zu (l:=[]) Z zq.h TyZ.h dQ dQ Z) (fun _=>zx rfl tQ) fun j1 hj1=>?_;refine au 1 ?_;refine TK.appG (envf:=fun _=>[_,_,_,_,_,_,_,_]) (ln:=l) rfl rfl rfl ApOf.h rfl mQ rfl rfl rfl (fun hp=>wG mQ oQ (kL hl oQ)) (fun h=>by subst h; exact lK (by simpa using hl)) hone (by unfold maxLen; omega) oQ (fun _=>uQ) (fun _=>rfl) fun j2=>?_;simp only [lC,mO];refine au 35 ?_;refine bB Wz [(j,_),(j2,_)] ?_;exact ⟨_,rfl,rfl⟩
theorem zdC {main T} (hT:zt tp main T) {gm} {b:RBk} {s h e:Nat} (hb:ROk b) :
  zr tp T gm 81 [.agg (zH b s h e)] [(s,zp b),(h,zF b),(e,zz b)] (fun r K'=>∃ s2 h2 e2,r=.agg (zH b s2 h2 e2)/\K'=[(s2,zp b),(h2,zF b),(e2,zz b),(s,zp b),(h,zF b),(e,zz b)]):=by
 refine zn 16 hT Tryz.func81 fun Y Wz=>?_;refine au 0 ?_;have hs5:=hb.sms.len;have hsl:=hb.cls.len;have hml:=hb.mes.len;refine au 21042 ?_;intro jb hjb;refine au 220 ?_;intro jr hjr;refine au 23 ?_;refine TK.dr [0,1,3,4,6,7,2,9,5,8,10,11,12,13,14] [0,1,2,3,4,5,6,7,8,9,10,11,12,13,14] ?_;refine ad [[3,1],[10,3],[3,1],[10,6],[3,1],[10,9]] ?_;refine TD.cl (Wx:=[_,_,_,_,_]) [4] Z Z Z Z Z (zhJ hT (yw seamC 5 (fun _=>rfl) b.sE) (kN seamC (fun _=>rfl) _) oQ) (fun r1 K2 h3=>⟨?_,?_⟩)
 ·rcases h3 with ⟨s2,rfl,rfl⟩
  all_goals simp
 obtain ⟨s2,rfl,rfl⟩:=h3;try simp only [cA]
 refine bS tQ ?_;refine ad [[3,1]] ?_;refine TD.cl (Wx:=[_,_,_,_,_]) [7] Z Z Z Z Z (zcj hT (yw bandC 2 (fun _=>rfl) b.sH) (kN bandC (fun _=>rfl) _) oQ) (fun r4 K5 h6=>⟨?_,?_⟩)
 ·rcases h6 with ⟨h2,rfl,rfl⟩
  all_goals simp
 obtain ⟨h2,rfl,rfl⟩:=h6;try simp only [cA]
 refine bS tQ ?_;refine TD.cl (Wx:=[_,_,_,_]) [10] Z Z Z Z Z (zab hT (yw measC 3 (fun _=>rfl) b.mE) (kN measC (fun _=>rfl) _) oQ) (fun r7 K8 h9=>⟨?_,?_⟩)
 ·rcases h9 with ⟨e2,rfl,rfl⟩
  all_goals simp
 obtain ⟨e2,rfl,rfl⟩:=h9;try simp only [cA]
 refine bS tQ ?_;refine bR (Wx:=[]) [5,12] Z Z (zE Z Z ze.h Z Z mQ Z) ?_;refine ad [[3,1]] ?_;refine bR (Wx:=[]) [8,13] Z Z (zE Z Z ze.h Z Z mQ Z) ?_;refine ad [[3,1]] ?_;refine bR (Wx:=[]) [11,14] Z Z (zE Z Z ze.h Z Z mQ Z) ?_;refine ad [[14]] ?_;refine au 2 ?_;refine TK.unrowAt (c:=jb) (i:=4) (j:=s2) Z mQ uQ ?_;refine bY (j:=s2) ?_;refine TK.unrowAt (c:=jb) (i:=5) (j:=h2) Z mQ uQ ?_;refine bY (j:=h2) ?_;refine TK.unrowAt (c:=jb) (i:=6) (j:=e2) Z mQ uQ ?_;refine bY (j:=e2) ?_;refine au 31706804 ?_;refine bB Wz [(s2,_),(h2,_),(e2,_),(s,_),(h,_),(e,_)] ?_;exact ⟨s2,h2,e2,rfl,rfl⟩
theorem zaI {main:Bool} {T:gG->Hp->Prop} (hT:zt tp main T)  {b:RBk} {s h e:Nat} (hl:b.sE.length<=100) (hm:b.mE.length<=100) :
  zr tp T gmR 87 [.agg (zH b s h e)] [(0,zB),(s,zp b),(h,zF b),(e,zz b)] (fun r K'=>AgrR b [(0,zB),(s,zp b),(h,zF b),(e,zz b)] r K'):=by
 refine zn 17 hT Tryz.func87 fun Y Wz=>?_;refine au 21042 ?_;intro jb hjb;refine au 220 ?_;intro jr hjr;refine au 68042235 ?_;refine bD Z Z Z Z (wU hT (Kx:=[]) hl hm) ?_;rintro r1 K2 h3;rcases h3 with ⟨Wv,rfl,rfl⟩ | ⟨Wv,hnil,rfl,rfl⟩ | ⟨Wv,hne,a,rfl,rfl⟩
 ·refine au 220661 ?_;intro j4 hj4;refine au 93714235170 ?_;constructor<;>intro Jz
  ·
   refine au 35170144042 ?_;refine bB Wz [(0,_),(s,_),(h,_),(e,_)] ?_;exact .inl ⟨Wv,rfl,rfl⟩
  exact absurd Wv (by simpa using Jz)
 ·refine au 220661 ?_;intro j4 hj4;refine au 93714235170 ?_;constructor<;>intro Jz
  ·
   refine au 35170144042 ?_;refine bB Wz [(0,_),(s,_),(h,_),(e,_)] ?_;exact .inr (.inl ⟨Wv,hnil,rfl,rfl⟩)
  exact absurd Jz dQ
 ·refine au 220661 ?_;intro j4 hj4;refine au 93714235170 ?_;constructor<;>intro Jz
  ·exact absurd Jz sQ
  have hbb:=zX Wv;refine au 68042120 ?_;refine bD Z Z Z Z (zdC hT hbb) ?_;rintro r4 K5 ⟨s2,h2,e2,rfl,rfl⟩;refine au 35170 ?_;refine bB Wz [(s2,_),(h2,_),(e2,_),(0,_),(s,_),(h,_),(e,_)] ?_;exact .inr (.inr ⟨Wv,hne,s2,h2,e2,rfl,rfl⟩)
theorem zhZ {main:Bool} {T:gG->Hp->Prop} (hT:zt tp main T)  {b:RBk} {s h e:Nat} (hl:b.sE.length<=100) (hm:b.mE.length<=100) {m:RMeas} :
  zr tp T gmR 38 [.agg (zH b s h e),.agg (measC m)] [(0,zB),(s,zp b),(h,zF b),(e,zz b)] (fun r K'=>(zy b≠0/\r=.tup [.agg z7R,za (zy b)]/\K'=[(0,zB),(s,zp b),(h,zF b),(e,zz b)])\/(zy b=0/\AgrR (yr b m) [(0,zB),(s,zp b),(h,zF b),(e,zz b)] r K')):=by
 refine zn 24 hT Tryz.func38 fun Y Wz=>?_;refine au 21042 ?_;intro jb hjb;refine au 210 ?_;intro jm hjm;refine au 220 ?_;intro jr hjr;refine au 68042235 ?_;refine TK.clE Z Z Z Z (vT hT hl hm) ?_;refine au 93714235 ?_;constructor<;>intro Jz
 ·refine au 35170144042 ?_;refine bB Wz [(0,_),(s,_),(h,_),(e,_)] ?_;exact .inl ⟨by simpa using Jz,rfl,rfl⟩
 have Wv:zy b=0:=by simpa using Jz
 have hml:=(zX Wv).mes.len;have hfl:=yw measC 3 (fun _=>rfl) b.mE;refine au 2120 ?_;refine TK.dr [0,1,3,2,4,5,6,7] [0,1,2,3,4,5,6,7] ?_;refine ad [[3,2],[10,13],[12,3]] ?_;refine TD.c2 (i1:=2) (i2:=4) (pend1:=[_,_]) (pend2:=[_,_]) (L1:=[4,5,6,7]) (L2:=[2,5,6,7]) [14] [16] Z Z Z Z Z Z Z ?_ ?_
 ·refine kJ Z Z Cal.h Z (zab hT (yw measC 3 (fun _=>rfl) b.mE) (kN measC (fun _=>rfl) _) oQ) vQ fun r4 K5 h6=>⟨?_,?_⟩
  ·rcases h6 with ⟨jc,rfl,rfl⟩
   all_goals simp
  obtain ⟨jc,rfl,rfl⟩:=h6;try simp only [cA]
  refine bS (Wk:=[_,_,_,_,_,_,_,_,_,_,_,_,_,_,_,_,_,_,_,_,_,_,_,_]) Z ?_;refine bV (Wx:=[_]) [16] Z Z Z Z Z (zu (l:=[_,_,_]) Z zq.h TyZ.h dQ dQ Z) (fun _=>zx rfl tQ) sQ fun j7 hj7=>?_;refine TD.capp (Wx:=[_]) [15,17] Z Z Z Z Z (a_app Z ApOf.h Z mQ oQ Z (yq (ln:=[_,_,_]) mQ dQ sQ Z) oQ Z (by unfold maxLen; omega) oQ) (fun _=>uQ) (fun _=>zx rfl tQ) (fun _=>sQ) fun je=>?_;refine ad [[3,2]] ?_;refine bR (Wx:=[]) [18,19] Z Z (zE Z Z ze.h Z Z mQ Z) ?_;refine ad [[14]] ?_;refine au 2 ?_;refine TK.unrowAt (c:=jb) (i:=6) (j:=je) Z mQ uQ ?_;refine bY (j:=je) ?_;rw [show b.mE.flatMap measC++[za m.cloth,za m.many,za m.wide]=(yr b m).mE.flatMap measC from (km measC b.mE m).symm,show b.mE.length+1=(yr b m).mE.length by simp [yr]];refine au 6804 ?_;refine bD Z Z Z Z ((zaI hT (b:=yr b m) (s:=s) (h:=h) (e:=je) hl (by simp [yr]; omega)).mono (fun _ _ h=>h)) ?_;rintro r8 K9 h10;rcases h10 with ⟨hb2,rfl,rfl⟩ | ⟨hb2,hn2,rfl,rfl⟩ | ⟨hb2,hn2,s2,h2,e2,rfl,rfl⟩
  ·refine au 3517066 ?_;refine bB Wz [(0,_),(s,_),(h,_),(e,_)] ?_;exact .inr ⟨Wv,.inl ⟨hb2,rfl,rfl⟩⟩
  ·refine au 3517066 ?_;refine bB Wz [(0,_),(s,_),(h,_),(e,_)] ?_;exact .inr ⟨Wv,.inr (.inl ⟨hb2,hn2,rfl,rfl⟩)⟩
  ·refine au 3517066 ?_;refine bB Wz [(s2,_),(h2,_),(e2,_),(0,_),(s,_),(h,_),(e,_)] ?_;exact .inr ⟨Wv,.inr (.inr ⟨hb2,hn2,s2,h2,e2,rfl,rfl⟩)⟩
 ·refine wL Z (zu (l:=[_,_,_]) Z zq.h TyZ.h dQ dQ Z) (fun _=>zx rfl tQ) sQ fun j11 hj11=>?_;refine TD.cl (Wx:=[_]) [14] Z Z Z Z Z (zab hT (yw measC 3 (fun _=>rfl) b.mE) (kN measC (fun _=>rfl) _) oQ) (fun r12 K13 h14=>⟨?_,?_⟩)
  ·rcases h14 with ⟨jc,rfl,rfl⟩
   all_goals simp
  obtain ⟨jc,rfl,rfl⟩:=h14;try simp only [cA]
  refine bS tQ ?_;refine TD.capp (Wx:=[_]) [15,17] Z Z Z Z Z (a_app Z ApOf.h Z mQ oQ Z (yq (ln:=[_,_,_]) mQ dQ sQ Z) oQ Z (by unfold maxLen; omega) oQ) (fun _=>uQ) (fun _=>zx rfl tQ) (fun _=>sQ) fun je=>?_;refine ad [[3,2]] ?_;refine bR (Wx:=[]) [18,19] Z Z (zE Z Z ze.h Z Z mQ Z) ?_;refine ad [[14]] ?_;refine au 2 ?_;refine TK.unrowAt (c:=jb) (i:=6) (j:=je) Z mQ uQ ?_;refine bY (j:=je) ?_;rw [show b.mE.flatMap measC++[za m.cloth,za m.many,za m.wide]=(yr b m).mE.flatMap measC from (km measC b.mE m).symm,show b.mE.length+1=(yr b m).mE.length by simp [yr]];refine au 6804 ?_;refine bD Z Z Z Z ((zaI hT (b:=yr b m) (s:=s) (h:=h) (e:=je) hl (by simp [yr]; omega)).mono (fun _ _ h=>h)) ?_;rintro r15 K16 h17;rcases h17 with ⟨hb2,rfl,rfl⟩ | ⟨hb2,hn2,rfl,rfl⟩ | ⟨hb2,hn2,s2,h2,e2,rfl,rfl⟩
  ·refine au 3517066 ?_;refine bB Wz [(0,_),(s,_),(h,_),(e,_)] ?_;exact .inr ⟨Wv,.inl ⟨hb2,rfl,rfl⟩⟩
  ·refine au 3517066 ?_;refine bB Wz [(0,_),(s,_),(h,_),(e,_)] ?_;exact .inr ⟨Wv,.inr (.inl ⟨hb2,hn2,rfl,rfl⟩)⟩
  ·refine au 3517066 ?_;refine bB Wz [(s2,_),(h2,_),(e2,_),(0,_),(s,_),(h,_),(e,_)] ?_;exact .inr ⟨Wv,.inr (.inr ⟨hb2,hn2,s2,h2,e2,rfl,rfl⟩)⟩
def dryX (b:RBk) (n:Int) (x:RBand):RBand:=⟨max (bd b n.toNat).low x.low,min (bd b n.toNat).high x.high⟩
def shrM (b:RBk) (n:Int):List Int:=compM (sortR ltI ((zh b).map fun s=>zK s n.toNat))
theorem zhM {xs:List Int} (h:xs.length<2):compM xs=xs:=by
 rcases xs with _ | ⟨x,_ | ⟨y,r⟩⟩
 ·rfl
 ·rfl
 ·simp only [lZ] at h; omega
def onlyL (xs:List RMeas) (mask:Nat):Nat->List RMeas
 | 0=>[]
 | i+1=>onlyL xs mask i++(if mask / 2 ^ i % 2=1 then (xs[i]?).toList else [])
def onlyB (b:RBk) (mask:Nat):RBk:={ b with mE:=onlyL b.mE mask b.mE.length }
theorem za3 (xs:List RMeas) (mask:Nat):∀ i,i<=xs.length->(onlyL xs mask i).length=(zw mask i).length
 | 0,_=>rfl
 | i+1,h=>by
  unfold onlyL zw;rw [lF,lF,za3 xs mask i oQ];split
  ·rw [lA oQ]; rfl
  ·rfl
theorem zdW {xs:List RMeas} {mask:Nat}:∀ i m,m∈onlyL xs mask i->m∈xs
 | 0,m,h=>by cases h
 | i+1,m,h=>by
  unfold onlyL at h;rcases List.mem_append.1 h with h | h
  ·exact zdW i m h
  ·split at h
   ·cases e:xs[i]? with
    | none=>rw [e] at h; cases h
    | some y=>rw [e] at h; rw [List.mem_singleton.1 h]; exact lN e
   ·cases h
theorem zle {b:RBk} (hb:ROk b) (mask:Nat):ROk (onlyB b mask):=⟨⟨hb.rnd.steps,hb.rnd.round,hb.rnd.roll,hb.rnd.rolls⟩,⟨hb.sms.len,hb.sms.fld,hb.sms.asc⟩,⟨hb.cls.len,hb.cls.bnd⟩,⟨by
 show (onlyL b.mE mask b.mE.length).length<=3;rw [za3 _ _ _ (mL _)];have:=wJ mask b.mE.length;have:=hb.mes.len;omega,fun m hm=>hb.mes.bnd m (zdW _ m hm)⟩⟩
theorem ziI {main:Bool} {T:gG->Hp->Prop} (hT:zt tp main T)  {b:RBk} {s h e:Nat} (hl:b.sE.length<=100) (hm:b.mE.length<=100) {n:Int} {x:RBand} :
  zr tp T gmR 39 [.agg (zH b s h e),za n,.agg (bandC x)] [(0,zB),(s,zp b),(h,zF b),(e,zz b)] (fun r K'=>(bar2 (zy b) (ym b n)≠0/\r=.tup [.agg z7R,za (bar2 (zy b) (ym b n))]/\K'=[(0,zB),(s,zp b),(h,zF b),(e,zz b)])\/(bar2 (zy b) (ym b n)=0/\isBd x 0 5=ff/\r=.tup [.agg z7R,za 1]/\K'=[(0,zB),(s,zp b),(h,zF b),(e,zz b)])\/(bar2 (zy b) (ym b n)=0/\isBd x 0 5=tt/\(dryX b n x).high<(dryX b n x).low/\r=.tup [.agg z7R,za 9]/\K'=[(0,zB),(s,zp b),(h,zF b),(e,zz b)])\/(bar2 (zy b) (ym b n)=0/\isBd x 0 5=tt/\(dryX b n x).low<=(dryX b n x).high/\AgrR (z8 b n.toNat (dryX b n x)) [(0,zB),(s,zp b),(h,zF b),(e,zz b)] r K')):=by
 refine zn 65 hT Tryz.func39 fun Y Wz=>?_;refine au 21042 ?_;intro jb hjb;refine au 210 ?_;intro jx hjx;refine au 220 ?_;intro jr hjr;refine au 320168042235 ?_;refine bI Z Z Z (zu (l:=[_]) Z zq.h TyZ.h dQ dQ Z) (fun _=>zx rfl tQ) fun ja hja=>?_;refine bD Z Z Z Z (vI hT (Kx:=[]) (p1:=ym b n) hl hm (fun h0=>yK Cal.h ((ui hT (b:=b) (s:=s) (h:=h) (e:=e) (n:=n) (zX h0).sms.len.2).frameP (R:=[(s,zp b)]) (List.Perm.refl _)))) ?_;rintro r1 K2 h3;rcases h3 with ⟨⟨Wv,rfl⟩ | ⟨Wv,rfl⟩,rfl⟩
 ·refine au 220661 ?_;intro j8 hj8;refine au 93714235170 ?_;constructor<;>intro Jz
  ·exact absurd Jz sQ
  have hbb:=zX (kS Wv);have hth:=uX (kD Wv);have hs5:=hbb.sms.len;have hsl:=hbb.cls.len;have hml:=hbb.mes.len;have hnb:n.toNat<b.sH.length:=by omega
  have hnn:n=(n.toNat:Int):=by omega
  refine au 680422120 ?_;refine TK.clE Z Z Z Z (zdL hT (x:=x)) ?_;refine au 93300 ?_;constructor<;>intro Jx
  ·refine au 3517044042 ?_;refine bB Wz [(0,_),(s,_),(h,_),(e,_)] ?_;exact .inr (.inl ⟨Wv,by simpa using Jx,rfl,rfl⟩)
  refine au 2120 ?_;refine bL [0,1,2,3,4,5,6,7,8,9,10,11,12,13,14,15,16,17,18,19,20] ?_;refine ad [[3,3],[10,27],[1,1],[2,28,29],[3,30]] ?_;refine bT [31] Z (hq:=zj Z Z ze.h (mC _) (yd (c:=0) (bd_at b (i:=n.toNat) hnb hnn) dQ Z)) (h:=?_);refine ad [[3,5],[10,33]] ?_;refine TD.z [32,34] Z (zcG Z Z Z) ?_;refine ad [[3,3],[10,36],[1,1],[2,37,38],[3,39]] ?_;refine bT [40] Z (hq:=zj Z Z ze.h (mC _) (yd (c:=1) (bd_at b (i:=n.toNat) hnb hnn) dQ Z)) (h:=?_);refine ad [[3,5],[10,42]] ?_;refine TD.z [41,43] Z (zcH Z Z Z) ?_;refine TD.z [35,44] Z (yP (l:=[_,_]) Z TyZ.h BlOf.h Z) ?_;refine TD.cnewP (Wx:=[_,_,_,_,_,_,_,_,_,_,_,_,_,_,_,_,_,_,_]) [] Z Z Z Z Z (yN Z TyZA.h) (fun _=>zx rfl tQ) sQ fun j10 hj10=>?_;refine bR (Wx:=[]) [10,45] Z Z (zE Z Z ze.h Z Z mQ Z) ?_;refine ad [[14]] ?_;refine au 937690670690670422 ?_;constructor<;>intro hc2
  ·refine au 3517044042 ?_;refine bB Wz [(0,_),(s,_),(h,_),(e,_)] ?_;exact .inr (.inr (.inl ⟨Wv,by simpa using Jx,of_decide_eq_true hc2,rfl,rfl⟩))
  refine au 69067042120 ?_;refine bD Z Z Z Z (zcj hT (yw bandC 2 (fun _=>rfl) b.sH) (kN bandC (fun _=>rfl) _) oQ) ?_;rintro r7 K8 ⟨jc,rfl,rfl⟩;refine au 3706801690670423170670 ?_;refine TK.st Z Z Z (zE Z Z ze.h Z Z mQ (zfq (x:=(dryX b n x)) hnb hnn)) uQ (putN Z) ?_;refine au 23 ?_;refine TK.unrowAt (c:=jb) (i:=5) (j:=jc) Z mQ uQ ?_;refine bY (j:=jc) ?_;rw [show b.sH.length=(z8 b n.toNat (dryX b n x)).sH.length by simp [z8]];refine au 6804 ?_;refine bD Z Z Z Z ((zaI hT (b:=(z8 b n.toNat (dryX b n x))) (s:=s) (h:=jc) (e:=e) hl hm).mono (fun _ _ h=>h)) ?_;rintro r10 K11 h12;rcases h12 with ⟨hb2,rfl,rfl⟩ | ⟨hb2,hn2,rfl,rfl⟩ | ⟨hb2,hn2,s2,h2,e2,rfl,rfl⟩
  ·refine au 3517066 ?_;refine bB Wz [(0,_),(s,_),(h,_),(e,_)] ?_;exact .inr (.inr (.inr ⟨Wv,by simpa using Jx,Int.not_lt.1 (of_decide_eq_false hc2),.inl ⟨hb2,rfl,rfl⟩⟩))
  ·refine au 3517066 ?_;refine bB Wz [(0,_),(s,_),(h,_),(e,_)] ?_;exact .inr (.inr (.inr ⟨Wv,by simpa using Jx,Int.not_lt.1 (of_decide_eq_false hc2),.inr (.inl ⟨hb2,hn2,rfl,rfl⟩)⟩))
  ·refine au 3517066 ?_;refine bB Wz [(s2,_),(h2,_),(e2,_),(0,_),(s,_),(h,_),(e,_)] ?_;exact .inr (.inr (.inr ⟨Wv,by simpa using Jx,Int.not_lt.1 (of_decide_eq_false hc2),.inr (.inr ⟨hb2,hn2,s2,h2,e2,rfl,rfl⟩)⟩))
 ·refine au 220661 ?_;intro j8 hj8;refine au 93714235170 ?_;constructor<;>intro Jz
  ·
   refine au 35170144042 ?_;refine bB Wz [(0,_),(s,_),(h,_),(e,_)] ?_;exact .inl ⟨Wv,rfl,rfl⟩
  exact absurd Wv (by simpa using Jz)
theorem zms {main:Bool} {T:gG->Hp->Prop} (hT:zt tp main T)  {b:RBk} {s h e:Nat} (hl:b.sE.length<=100) (hm:b.mE.length<=100) {r0:Int} :
  zr tp T gmR 32 [.agg (zH b s h e),za r0] [(0,zB),(s,zp b),(h,zF b),(e,zz b)] (fun r K'=>(zy b≠0/\r=.tup [.agg z7R,za (zy b)]/\K'=[(0,zB),(s,zp b),(h,zF b),(e,zz b)])\/(zy b=0/\betw r0 b.steps 40=ff/\r=.tup [.agg z7R,za 1]/\K'=[(0,zB),(s,zp b),(h,zF b),(e,zz b)])\/(zy b=0/\betw r0 b.steps 40=tt/\∃ s2 h2 e2,r=.tup [.agg (zH (atRound b r0) s2 h2 e2),za 0]/\K'=(s2,zp b)::(h2,zF b)::(e2,zz b)::[(0,zB),(s,zp b),(h,zF b),(e,zz b)])):=by
 refine zn 23 hT Tryz.func32 fun Y Wz=>?_;refine au 21042 ?_;intro jb hjb;refine au 220 ?_;intro jr hjr;refine au 68042235 ?_;refine TK.clE Z Z Z Z (vT hT hl hm) ?_;refine au 93714235 ?_;constructor<;>intro Jz
 ·refine au 35170144042 ?_;refine bB Wz [(0,_),(s,_),(h,_),(e,_)] ?_;exact .inl ⟨by simpa using Jz,rfl,rfl⟩
 have Wv:zy b=0:=by simpa using Jz
 have hbb:=zX Wv;refine au 6906701422120 ?_;refine TK.clE Z Z Z Z (yO hT) ?_;refine au 93300 ?_;constructor<;>intro Jx
 ·refine au 3517044042 ?_;refine bB Wz [(0,_),(s,_),(h,_),(e,_)] ?_;exact .inr (.inl ⟨Wv,by simpa using Jx,rfl,rfl⟩)
 have hb1:=uM (n:=r0) (lo:=b.steps) (hi:=40) (by simpa using Jx);refine au 680423170670142120 ?_;refine bD Z Z Z Z (zdC hT (b:=atRound b r0) (s:=s) (h:=h) (e:=e) (zes hbb oQ oQ)) ?_;rintro r7 K8 ⟨s2,h2,e2,rfl,rfl⟩;refine au 35170 ?_;refine bB Wz [(s2,_),(h2,_),(e2,_),(0,_),(s,_),(h,_),(e,_)] ?_;exact .inr (.inr ⟨Wv,by simpa using Jx,s2,h2,e2,rfl,rfl⟩)
theorem uE {main T} (hT:zt tp main T) {gm} {j n:Nat} {xs:List Int} (hn:xs.length=n) (hl:n<=100000) :
  zr tp T gm 75 [.row j n] [(j,.row (xs.map za) 3 1)] (fun r K'=>(∃ zs:List Int,r=.sl j 0 (compM xs).length/\K'=[(j,.row ((compM xs++zs).map za) 3 1)])\/(r=.row j n/\compM xs=xs/\K'=[(j,.row (xs.map za) 3 1)])):=by
 refine zn 61 hT Tryz.func75 fun Y Wz=>?_;refine au 93728014223542 ?_;constructor<;>intro Jz
 ·
  refine au 35142 ?_;refine bB Wz [(j,_)] ?_;exact .inr ⟨rfl,zhM (by simp at Jz; omega),rfl⟩
 have h2:2<=n:=by simp at Jz; omega
 refine au 13035422120 ?_;refine bA [0,3] ?_;refine bE (fun n1 Wq K=>∃ (i:Nat),n1=n - i/\1<=i/\i<=n/\(compN xs i).length=i/\Wq=.row j n::naL 2 (za i::naL 57 [])/\K=[(j,.row (xs.map za) 3 1)]) (n - 1) ⟨1,rfl,mL _,oQ,by simp [compN]; omega,rfl,rfl⟩ fun n1 Wq K hI Wj=>?_;obtain ⟨i,rfl,hi1,hi,hlead,rfl,rfl⟩:=hI;refine bG nQ ?_;refine au 93728011422 ?_;constructor<;>intro Jx
 ·have Qb:i<n:=by simp at Jx; omega
  refine au 21302120 ?_;refine bL [0,1,2,3,4,5,6,7,8,9] ?_;refine ad [[1,0],[1,3]] ?_;refine bT [16,17] Z (hq:=kh Z Z Z zq.h (mC _) oQ oQ) (h:=?_);refine bT [18] Z (hq:=zj Z Z ze.h (mC _) (zbw (i:=i) (ya oQ) Z)) (h:=?_);refine ad [[1,0],[1,3],[9,21]] ?_;refine bT [20,22] Z (hq:=kh Z Z Z zq.h (mC _) oQ oQ) (h:=?_);refine bT [23] Z (hq:=zj Z Z ze.h (mC _) (zbw (i:=i - 1) (ya oQ) oQ)) (h:=?_);refine ad [[4,19,24],[14]] ?_;refine au 9 ?_;constructor<;>intro hc2
  ·have heq:zK xs (i - 1)=zK xs i:=by have:=eq_of_beq hc2; exact this.symm
   obtain ⟨i0,rfl⟩:∃ i0,i=i0+1:=⟨i - 1,oQ⟩;have hc1e:compN xs (i0+2)=compN xs (i0+1):=vU heq;refine au 1142 ?_;refine bH Z (vd Z Z zq.h mQ Z Z oQ oQ Z) ?_;refine au 1303542235 ?_;refine bA [0,3,4,5] ?_;refine bE (fun n1 Wq K=>∃ (q w o4:Nat),n1=n - q/\o4=i0+1/\1<=q/\i0+1+q<=n/\(compN xs (i0+1+q)).length=w/\w+1<=i0+1+q/\Wq=.row j n::naL 2 (za w::.sl j o4 (n - (i0+1))::za q::naL 55 [])/\K=[(j,.row ((compN xs (i0+1+q)++xs.drop w).map za) 3 1)]) (n - 1) ⟨1,i0+1,_,rfl,(by omega:0+((i0+1:Nat):Int).toNat*1=i0+1),mL _,oQ,by rw [show i0+1+1=i0+2 by omega,hc1e]; exact hlead,oQ,rfl,by rw [show i0+1+1=i0+2 by omega,hc1e,zaQ _ oQ hlead,List.take_append_drop]⟩ fun n1 Wq K hI Ww=>?_;obtain ⟨q,w,o4,rfl,ho4,hq1,hq,hw,hwq,rfl,rfl⟩:=hI;have hdl:(compN xs (i0+1+q)++xs.drop w).length=n:=by rw [lF,List.length_drop,hw]; omega
   refine bG nQ ?_;refine au 93728011422 ?_;constructor<;>intro hc3
   ·have hql:i0+1+q<n:=by simp at hc3; omega
    have hq2:i0+1+(q+1)=(i0+q)+2:=by omega
    have hq3:compN xs (i0+q+1)=compN xs (i0+1+q):=by rw [show i0+q+1=i0+1+q by omega]
    have hq4:zK xs (i0+1+q)=zK xs (i0+q+1):=by rw [show i0+q+1=i0+1+q by omega]
    refine au 21302120 ?_;refine bL [0,1,2,3,4,5,6,7,8,9] ?_;refine ad [[1,4],[1,5],[2,35,36]] ?_;refine bT [37] Z (hq:=zj Z Z ze.h (mC _) (kQ (i:=i0+1+q) (zaP hw oQ oQ) oQ)) (h:=?_);refine ad [[1,4],[1,5],[9,40],[2,39,41]] ?_;refine bT [42] Z (hq:=zj Z Z ze.h (mC _) (kQ (i:=i0+q) (zaP hw oQ oQ) oQ)) (h:=?_);refine ad [[4,38,43],[14]] ?_;refine au 9 ?_;constructor<;>intro hc4
    ·have hne4:zK xs (i0+q)≠zK xs (i0+q+1):=fun h=>by rw [hq4,<- h] at hc4; simp at hc4
     refine au 360111142 ?_;refine bH Z (zj Z Z ze.h mQ (kQ (i:=i0+1+q) (zaP hw oQ oQ) oQ)) ?_;refine au 370 ?_;refine TK.st Z Z Z (zE Z Z ze.h Z Z mQ (zg6 (k:=w) oQ Z)) uQ (putN Z) ?_;refine au 352301414035230143 ?_;refine bA [0,3,4,5] ?_;refine bC [(j,_)] ?_;exact Ww _ _ _ oQ ⟨q+1,w+1,o4,rfl,ho4,oQ,oQ,by rw [hq2,vV hne4,lF,hq3,hw]; rfl,oQ,rfl,by rw [zkp hw oQ,hq2,vV hne4,hq3,<- hq4]⟩
    have heq4:zK xs (i0+q)=zK xs (i0+q+1):=by rw [<- hq4]; simp at hc4; exact hc4.symm
    refine au 3523014140120 ?_;refine bA [0,3,4,5] ?_;refine bC [(j,_)] ?_;exact Ww _ _ _ oQ ⟨q+1,w,o4,rfl,ho4,oQ,oQ,by rw [hq2,vU heq4,hq3,hw],oQ,rfl,by rw [hq2,vU heq4,hq3]⟩
   have hnq:n=i0+1+q:=by simp at hc3; omega
   refine au 1142160 ?_;refine bH Z (vd Z Z zq.h mQ Z Z oQ oQ Z) ?_;refine TK.st Z Z Z (zm9 Z ApOf.h TyZ.h Z oQ mQ (zjr (k:=w) hw oQ oQ oQ)) uQ (putN Z) ?_;refine au 11423 ?_;refine bH Z (vd Z Z zq.h mQ Z Z oQ oQ Z) ?_;refine au 35 ?_;refine bB Wz [(j,_)] ?_;have hcm:compM xs=compN xs (i0+1+q):=by unfold compM; rw [hn,hnq]
   exact .inl ⟨_,by rw [hcm,hw]; rfl,by rw [hcm]⟩
  have hne:¬ zK xs (i - 1)=zK xs i:=fun h=>by rw [h] at hc2; simp at hc2
  have hi2:i+1=(i - 1)+2:=by omega
  have hi3:zK xs i=zK xs (i - 1+1):=by rw [show i - 1+1=i by omega]
  have hlead2:(compN xs (i - 1+1)).length=i:=by rw [show i - 1+1=i by omega]; exact hlead
  refine au 3523014140120 ?_;refine bA [0,3] ?_;refine bC [(j,_)] ?_;exact Wj _ _ _ oQ ⟨i+1,rfl,oQ,oQ,by rw [hi2,vV (fun h=>hne (by rw [hi3]; exact h)),lF,hlead2]; simp; omega,rfl,rfl⟩
 obtain rfl:i=n:=by simp at Jx; omega
 refine au 35142160 ?_;refine bB Wz [(j,_)] ?_;exact .inr ⟨rfl,by unfold compM; rw [zaQ _ (mL _) (by rw [hn]; exact hlead),lW],rfl⟩
theorem zcL {main:Bool} {T:gG->Hp->Prop} (hT:zt tp main T)  {b:RBk} {s h e:Nat} (hl:b.sE.length<=100) (hm:b.mE.length<=100) {n:Int} (h12:(zh b).length<=12) :
  zr tp T gmR 28 [.agg (zH b s h e),za n] [(0,zB),(s,zp b),(h,zF b),(e,zz b)] (fun r K'=>(bar2 (zy b) (ym b n)≠0/\r=.tup [.v (.slice none 0 0),za (bar2 (zy b) (ym b n))]/\K'=[(0,zB),(s,zp b),(h,zF b),(e,zz b)])\/(bar2 (zy b) (ym b n)=0/\zh b=[]/\r=.tup [.v (.slice none 0 0),za 9]/\K'=[(0,zB),(s,zp b),(h,zF b),(e,zz b)])\/(bar2 (zy b) (ym b n)=0/\zh b≠[]/\∃ jr zs,r=.tup [.sl jr 0 (shrM b n).length,za 0]/\K'=(jr,.cells ((shrM b n++zs).map za) 3 ff)::[(0,zB),(s,zp b),(h,zF b),(e,zz b)])):=by
 refine zn 40 hT Tryz.func28 fun Y Wz=>?_;refine au 21042 ?_;intro jb hjb;refine au 320168042355 ?_;refine bI Z Z Z (zu (l:=[_]) Z zq.h TyZ.h dQ dQ Z) (fun _=>zx rfl tQ) fun ja hja=>?_;refine bD Z Z Z Z (uq hT (Kx:=[]) (p1:=ym b n) (fun h0=>yK Cal.h ((ui hT (b:=b) (s:=s) (h:=h) (e:=e) (n:=n) (zX h0).sms.len.2).frameP (R:=[(s,zp b)]) (List.Perm.refl _))) hl hm) ?_;rintro r1 K2 h3;rcases h3 with ⟨Wv,rfl,rfl⟩ | ⟨Wv,hnil,rfl,rfl⟩ | ⟨Wv,hne,a,rfl,rfl⟩
 ·refine au 220661 ?_;intro j6 hj6;refine au 937142235170 ?_;constructor<;>intro Jz
  ·
   refine au 355142 ?_;refine bB Wz [(0,_),(s,_),(h,_),(e,_)] ?_;exact .inl ⟨Wv,rfl,rfl⟩
  exact absurd Wv (by simpa using Jz)
 ·refine au 220661 ?_;intro j6 hj6;refine au 937142235170 ?_;constructor<;>intro Jz
  ·
   refine au 355142 ?_;refine bB Wz [(0,_),(s,_),(h,_),(e,_)] ?_;exact .inr (.inl ⟨Wv,hnil,rfl,rfl⟩)
  exact absurd Jz dQ
 ·refine au 220661 ?_;intro j6 hj6;refine au 937142235170 ?_;constructor<;>intro Jz
  ·exact absurd Jz sQ
  have hbb:=zX (kS Wv);have hth:=uX (kD Wv);have hs5:=hbb.sms.len;have Qx:0<(zh b).length:=List.length_pos_iff.2 hne;refine au 542120 ?_;refine TK.virt 8 3 1 Z fun jt0 hjt0=>?_;refine au 130312806906704223 ?_;refine bA [1,4,5,6,8,23,24,25] ?_;refine bC [(a,_),(0,_),(s,_),(h,_),(e,_),(j6,_),(jt0,_)] ?_;refine bE (fun n1 Wq K=>∃ (i jt:Nat),n1=(zh b).length - i/\i<=(zh b).length/\Wq=.any::za n::naL 2 (.v (.slice none 0 0)::za 0::.ptr j6 0::.any::.row jt i::naL 14 (.sl a 0 (zh b).length::za (zh b).length::za i::naL 14 []))/\K=[(a,allO (zh b)),(0,zB),(s,zp b),(h,zF b),(e,zz b),(j6,.cells (knownC b s h e a (zh b).length) 154 tt),(jt,.row ((((zh b).take i).map fun s=>zK s n.toNat).map za) 3 1)]) (zh b).length ⟨0,jt0,rfl,mN _,rfl,rfl⟩ fun n1 Wq K hI Wj=>?_;obtain ⟨i,jt,rfl,hi,rfl,rfl⟩:=hI;refine bG nQ ?_;refine au 923742 ?_;constructor<;>intro Jx
  ·have Qb:i<(zh b).length:=by simp at Jx; omega
   obtain ⟨st,hst⟩:∃ st,(zh b)[i]? =some st:=⟨_,lA Qb⟩;refine au 360421302120 ?_;refine bH Z (zS Z Z ze.h mQ (zaJ (i:=i) hst Z)) ?_;refine au 220 ?_;intro j10 hj10;refine au 1143170 ?_;refine bH Z (yH Z Z Z ArEl.h oQ oQ) ?_;refine bH Z (zj Z Z ze.h mQ (st_at (i:=n.toNat) oQ oQ)) ?_;refine bI Z Z Z (zu (l:=[_]) Z zq.h TyZ.h dQ dQ Z) (fun _=>zx rfl tQ) fun j4 hj4=>?_;refine TK.appR Z Z Z (a_app Z ApOf.h Z mQ (by simp; omega) Z (yq (ln:=[_]) mQ dQ sQ Z) oQ Z (by unfold maxLen; omega) oQ) (fun _=>uQ) (fun _=>zx rfl tQ) fun jt2=>?_;refine au 31230414035 ?_;refine bA [1,4,5,6,8,23,24,25] ?_;refine bC [(a,_),(0,_),(s,_),(h,_),(e,_),(j6,_),(jt2,_)] ?_;exact Wj _ _ _ oQ ⟨i+1,jt2,rfl,oQ,rfl,by rw [yL hst,lM,lM]; rfl⟩
  obtain rfl:i=(zh b).length:=by simp at Jx; omega
  rw [List.take_of_length_le (mL _)];have hsl2:(sortR ltI ((zh b).map fun s=>zK s n.toNat)).length=(zh b).length:=by unfold sortR; rw [vD _ _ (mL _),lJ]
  refine au 142160 ?_;refine bD Z Z Z Z (znm hT (xs:=((zh b).map fun s=>zK s n.toNat)) sQ ⟨Qx,h12⟩) ?_;rintro r5 K6 rfl;refine au 1423 ?_;refine bD Z Z Z Z (uE hT (xs:=sortR ltI ((zh b).map fun s=>zK s n.toNat)) hsl2 oQ) ?_;rintro r8 K9 h10;rcases h10 with ⟨zs,rfl,rfl⟩ | ⟨rfl,hcm,rfl⟩
  ·refine au 0 ?_;refine bY (j:=jt) ?_;refine au 355 ?_;refine bB Wz [(jt,_),(0,_),(s,_),(h,_),(e,_)] ?_;exact .inr (.inr ⟨Wv,hne,jt,zs,rfl,rfl⟩)
  ·refine au 0 ?_;refine TK.asSl 39 Z (mC _) ?_;refine bY (j:=jt) ?_;refine au 355 ?_;refine bB Wz [(jt,_),(0,_),(s,_),(h,_),(e,_)] ?_;exact .inr (.inr ⟨Wv,hne,jt,[],by unfold shrM; rw [hcm,hsl2],by unfold shrM; rw [hcm,lR]⟩)
end Go.Vel
namespace Go.Vel
open Go Go.Conc
section
variable {P:gP} {gm:Nat->Option Nat} {T:gG->Hp->Prop} {Y:KX P gm T} {ds:List Nat} {k:List Item} {Wq Wk:List AV} {K K' K1:KV} {Qy:Array gB} {i:Nat} {L':List Nat} {o:gB} {envf:Nat->List AV} {Wy Wx:List Pd}
theorem TD.cappG {s x:gO} {t e:gT} {size bytes j n m:Nat} {lo ln:List AV} {u:AV} {K'':Nat->KV} (sl:List Nat) (ho:Qy[i]? =some o) (hd:yi o.op=ff) (hw:zL Qy (onl sl Wq) o=some tt) (hp':pendOf Qy i Wy=Wx) (hc:chkC Qy Wx L' sl i o.dst=tt) (Qw:o.op=.call { callee:=.builtin .append,args:=#[s,x],argTypes:=#[t,t] }) (ht:apOf P t=some (e,size,bytes)) (hs:zo gm (onl sl Wq) s=some (.row j n)) (hm:(j,.row lo e size)∈K) (hlo:lo.length=n*size) (hx:zo gm (onl sl Wq) x=some u) (hl:lenA u=some m) (hsrc:0<m->srcO K size u m ln) (hln:m=0->ln=[])
  (hone:ln.all oneA=tt) (hmax:n+m<=maxLen) (hbytes:(n+m)*bytes<=140737488355328) (hu:∀ j',Upd K j (.row lo e size) j' (.row (lo++ln) e size) (K'' j')) (he:∀ j',zU Wq o.dst (.row j' (n+m))=envf j') (hv:∀ j',∀ p∈Wx,∀ x∈p.V,x∈K'' j') (h:∀ j',TD Y ds Qy k Wx L' (envf j') (K'' j')):TD Y ds Qy k Wy (i::L') Wq K:=by
 rcases mP m with e0 | Qx
 ·subst e0;have hk:K'' j=K:=(hu j).same (by rw [hln rfl,lR]);have ht':=ht;unfold apOf at ht';split at ht'
  ·rename_i e' h1;split at ht'
   ·rename_i ti h2;refine TD.cq (r:=.row j n) sl ho hd hw hp' hc (zfr Qw h1 h2 hs hx hl) (he j) (by rw [<- hk]; exact hv j) ?_;rw [<- hk]; exact h j
   ·cases ht'
  ·cases ht'
 ·exact TD.capp sl ho hd hw hp' hc (a_app Qw ht hs hm hlo hx (hsrc Qx) Qx hone hmax hbytes) hu he hv h
theorem zgI {j n:Nat} {ob ob':AObj} {K'':Nat->KV} {sl:List Nat} (hd:yi o.op=ff) (hq:∀ A,zV K A->OpOk P gm (onl sl Wq) A o (.row A.length n) (A.set j .gone++[ob'])) (hu:∀ j',Upd K j ob j' ob' (K'' j')) (he:∀ j',zU Wq o.dst (.row j' n)=envf j') (hv:∀ j',∀ p∈Wx,∀ x∈p.V,x∈K'' j') (h:∀ j',TD Y ds Qy k Wx L' (envf j') (K'' j')) :
  ExK Y (onl sl Wq) K o fun r K'=>(∀ p∈Wx,∀ x∈p.V,x∈K')/\TD Y ds Qy k Wx L' (zU Wq o.dst r) K' :=
 w7 hd fun A hv' hn=>⟨_,_,_,hq A hv',.renew hv' hn (hu _),hv _,by rw [he]; exact h _⟩
theorem zkx {s x:gO} {t e:gT} {size bytes j n m:Nat} {lo ln:List AV} {u:AV} {K'':Nat->KV} {sl:List Nat} (hd:yi o.op=ff) (Qw:o.op=.call { callee:=.builtin .append,args:=#[s,x],argTypes:=#[t,t] }) (ht:apOf P t=some (e,size,bytes)) (hs:zo gm (onl sl Wq) s=some (.row j n)) (hm:(j,.row lo e size)∈K) (hlo:lo.length=n*size) (hx:zo gm (onl sl Wq) x=some u) (hl:lenA u=some m) (hsrc:0<m->srcO K size u m ln) (hln:m=0->ln=[])
  (hone:ln.all oneA=tt) (hmax:n+m<=maxLen) (hbytes:(n+m)*bytes<=140737488355328) (hu:∀ j',Upd K j (.row lo e size) j' (.row (lo++ln) e size) (K'' j')) (he:∀ j',zU Wq o.dst (.row j' (n+m))=envf j') (hv:∀ j',∀ p∈Wx,∀ x∈p.V,x∈K'' j') (h:∀ j',TD Y ds Qy k Wx L' (envf j') (K'' j')) :
  ExK Y (onl sl Wq) K o fun r K'=>(∀ p∈Wx,∀ x∈p.V,x∈K')/\TD Y ds Qy k Wx L' (zU Wq o.dst r) K':=by
 rcases mP m with e0 | Qx
 ·subst e0;have hk:K'' j=K:=(hu j).same (by rw [hln rfl,lR]);have ht':=ht;unfold apOf at ht';split at ht'
  ·rename_i e' h1;split at ht'
   ·rename_i ti h2;exact w7 hd fun A hv' hn=>⟨.row j n,A,K,zfr Qw h1 h2 hs hx hl A hv',.same hv' hn,by rw [<- hk]; exact hv j,by rw [show zU Wq o.dst (.row j n)=envf j from he j,<- hk]; exact h j⟩
   ·cases ht'
  ·cases ht'
 ·exact zgI hd (a_app Qw ht hs hm hlo hx (hsrc Qx) Qx hone hmax hbytes) hu he hv h
end
end Go.Vel
namespace Go.Vel
open Go Go.Conc Go.Proofs
theorem zmY {main T} (hT:zt tp main T) {gm} {b:RBk} {s h e mask:Nat} (hm:b.mE.length<=3) (hk:mask<100) :
  zr tp T gm 91 [.agg (zH b s h e),za mask] [(e,zz b)] (fun r K'=>∃ jl jm,r=.tup [.agg [za b.steps,za b.round,za b.roll,za b.rolls,.sl s 0 b.sE.length,.sl h 0 b.sH.length,.row jm (onlyB b mask).mE.length],.row jl (zw mask b.mE.length).length]/\K'=[(jl,.row ((zw mask b.mE.length).map za) 3 1),(jm,.row ((onlyB b mask).mE.flatMap measC) 88 3),(e,zz b)]):=by
 refine zn 42 hT Tryz.func91 fun Y Wz=>?_;refine au 21042 ?_;intro jb hjb;refine au 220 ?_;intro jr hjr;refine au 54235 ?_;refine TK.virt 6 3 1 Z fun jl0 hjl0=>?_;refine au 220680423 ?_;intro j7 hj7;refine au 170670670423170 ?_;refine TK.normK (K':=[(j7,.cells [za b.steps,za b.round,za b.roll,za b.rolls,.sl s 0 b.sE.length,.sl h 0 b.sH.length,.v (.slice none 0 0)] 134 tt),_,_,_,_]) (by simp only [setL,zH,List.drop_zero,List.take,List.set]; rfl) ?_;refine TK.virtAt (j:=j7) (i:=6) (e:=88) (size:=3) (l:=[za b.steps,za b.round,za b.roll,za b.rolls,.sl s 0 b.sE.length,.sl h 0 b.sH.length,.v (.slice none 0 0)]) Z (fun _=>uQ) fun jm0 hjm0=>?_;refine au 130312806906706704223 ?_;refine bA [1,4,5,6,7,15,16,17] ?_;refine bC [(e,_),(jl0,_),(jm0,_),(j7,_),(jr,_)] ?_;refine bE (fun n Wq K=>∃ (i jl jm:Nat),n=b.mE.length - i/\i<=b.mE.length/\Wq=.any::.v (.int .i64 ((mask:Nat):Int))::naL 2 (.ptr jr 0::.v (.slice none 0 0)::.row jl (zw mask i).length::.ptr j7 0::naL 7 (.sl e 0 b.mE.length::za b.mE.length::za i::naL 24 []))/\K=[(e,zz b),(jl,.row ((zw mask i).map za) 3 1),(jm,.row ((onlyL b.mE mask i).flatMap measC) 88 3),(j7,.cells [za b.steps,za b.round,za b.roll,za b.rolls,.sl s 0 b.sE.length,.sl h 0 b.sH.length,.row jm (onlyL b.mE mask i).length] 134 tt),(jr,.cells z7R 134 tt)]) b.mE.length ⟨0,jl0,jm0,rfl,mN _,rfl,rfl⟩ fun n Wq K hI Wj=>?_;obtain ⟨i,jl,jm,rfl,hi,rfl,rfl⟩:=hI;have hbl:=wJ mask i;have hol:=za3 b.mE mask i hi;have hfl:=yw measC 3 (fun _=>rfl) (onlyL b.mE mask i);refine bG nQ ?_;refine au 923742 ?_;constructor<;>intro Jz
 ·have Qb:i<b.mE.length:=by simp at Jz; omega
  obtain ⟨x,hx⟩:∃ x,b.mE[i]? =some x:=⟨_,lA Qb⟩;refine au 3601421302120 ?_;refine bH Z (zS Z Z ze.h mQ (ze9 (i:=i) hx Z)) ?_;refine au 220 ?_;intro j9 hj9;refine au 114231705 ?_;refine bH Z (q_sh Z Z Z ⟨by omega,by show ((i:Nat):Int)<=64; omega⟩ (zjM mask i)) ?_;refine bH Z (zju Z Z Z (by have:=Nat.div_le_self mask (2 ^ i); omega)) ?_;refine au 937 ?_;constructor<;>intro Jx
  ·have hbit:mask / 2 ^ i % 2=1:=by have h:=eq_of_beq Jx; omega
   have hk1:zw mask (i+1)=zw mask i++[(i:Int)]:=by show zw mask i++_=_; rw [if_pos hbit]
   have hk2:onlyL b.mE mask (i+1)=onlyL b.mE mask i++[x]:=by show onlyL b.mE mask i++_=_; rw [if_pos hbit,hx]; rfl
   refine TK.dr [0,1,4,5,6,7,2,3,8,9,10,11,12,13] [0,1,2,3,4,5,6,7,8,9,10,11,12,13] ?_;refine ad [[1,6],[1,8],[3,7],[3,31],[10,32],[12,9]] ?_;refine TD.c2 (i1:=2) (i2:=8) (pend1:=[_,_,_,_,_]) (pend2:=[_,_,_,_,_]) (L1:=[3,8,9,10,11,12,13]) (L2:=[2,3,9,10,11,12,13]) [28] [34] Z Z Z Z Z Z Z ?_ ?_
   ·refine wL Z (zu (l:=[_]) Z zq.h TyZ.h dQ dQ Z) (fun _=>zx rfl tQ) sQ fun j1 hj1=>?_;refine TD.c2 (i1:=3) (i2:=8) (pend1:=[_,_,_,_]) (pend2:=[_,_,_,_]) (L1:=[8,9,10,11,12,13]) (L2:=[3,9,10,11,12,13]) [27,29] [34] Z Z Z Z Z Z Z ?_ ?_
    ·refine zgI Z (a_app Z ApOf.h Z mQ sQ Z (yq (ln:=[_]) mQ dQ sQ Z) oQ Z (by unfold maxLen; omega) oQ) (fun _=>uQ) (fun _=>zx rfl tQ) (fun _=>sQ) fun jl2=>?_;refine bV (Wx:=[_,_,_]) [34] Z Z Z Z Z (zu (l:=[_,_,_]) Z zq.h TyZ.h dQ dQ Z) (fun _=>zx rfl tQ) sQ fun j2 hj2=>?_;refine TD.capp (Wx:=[_,_]) [33,35] Z Z Z Z Z (a_app Z ApOf.h Z mQ oQ Z (yq (ln:=[_,_,_]) mQ dQ sQ Z) oQ Z (by unfold maxLen; omega) oQ) (fun _=>uQ) (fun _=>zx rfl tQ) (fun _=>sQ) fun jm2=>?_;refine TD.as (Wx:=[_,_]) [30] Z Z (zG Z Z) ?_;refine ad [[3,7],[3,37]] ?_;refine bR (Wx:=[_]) [36,38] Z Z (zE Z Z ze.h Z Z mQ Z) ?_;refine ad [[14]] ?_;refine au 312304140 ?_;refine bA [1,4,5,6,7,15,16,17] ?_;refine bC [(e,_),(jl2,_),(jm2,_),(j7,_),(jr,_)] ?_;exact Wj _ _ _ oQ ⟨i+1,jl2,jm2,rfl,oQ,by rw [hk1,lF]; rfl,by rw [hk1,hk2,km,lM,lF]; rfl⟩
    ·refine wL Z (zu (l:=[_,_,_]) Z zq.h TyZ.h dQ dQ Z) (fun _=>zx rfl tQ) sQ fun j3 hj3=>?_;refine TD.capp (Wx:=[_,_,_]) [27,29] Z Z Z Z Z (a_app Z ApOf.h Z mQ sQ Z (yq (ln:=[_]) mQ dQ sQ Z) oQ Z (by unfold maxLen; omega) oQ) (fun _=>uQ) (fun _=>zx rfl tQ) (fun _=>sQ) fun jl2=>?_;refine TD.capp (Wx:=[_,_]) [33,35] Z Z Z Z Z (a_app Z ApOf.h Z mQ oQ Z (yq (ln:=[_,_,_]) mQ dQ sQ Z) oQ Z (by unfold maxLen; omega) oQ) (fun _=>uQ) (fun _=>zx rfl tQ) (fun _=>sQ) fun jm2=>?_;refine TD.as (Wx:=[_,_]) [30] Z Z (zG Z Z) ?_;refine ad [[3,7],[3,37]] ?_;refine bR (Wx:=[_]) [36,38] Z Z (zE Z Z ze.h Z Z mQ Z) ?_;refine ad [[14]] ?_;refine au 312304140 ?_;refine bA [1,4,5,6,7,15,16,17] ?_;refine bC [(e,_),(jl2,_),(jm2,_),(j7,_),(jr,_)] ?_;exact Wj _ _ _ oQ ⟨i+1,jl2,jm2,rfl,oQ,by rw [hk1,lF]; rfl,by rw [hk1,hk2,km,lM,lF]; rfl⟩
   ·refine wL Z (zu (l:=[_,_,_]) Z zq.h TyZ.h dQ dQ Z) (fun _=>zx rfl tQ) sQ fun j4 hj4=>?_;refine bV (Wx:=[_,_,_,_]) [28] Z Z Z Z Z (zu (l:=[_]) Z zq.h TyZ.h dQ dQ Z) (fun _=>zx rfl tQ) sQ fun j5 hj5=>?_;refine TD.capp (Wx:=[_,_,_]) [27,29] Z Z Z Z Z (a_app Z ApOf.h Z mQ sQ Z (yq (ln:=[_]) mQ dQ sQ Z) oQ Z (by unfold maxLen; omega) oQ) (fun _=>uQ) (fun _=>zx rfl tQ) (fun _=>sQ) fun jl2=>?_;refine TD.capp (Wx:=[_,_]) [33,35] Z Z Z Z Z (a_app Z ApOf.h Z mQ oQ Z (yq (ln:=[_,_,_]) mQ dQ sQ Z) oQ Z (by unfold maxLen; omega) oQ) (fun _=>uQ) (fun _=>zx rfl tQ) (fun _=>sQ) fun jm2=>?_;refine TD.as (Wx:=[_,_]) [30] Z Z (zG Z Z) ?_;refine ad [[3,7],[3,37]] ?_;refine bR (Wx:=[_]) [36,38] Z Z (zE Z Z ze.h Z Z mQ Z) ?_;refine ad [[14]] ?_;refine au 312304140 ?_;refine bA [1,4,5,6,7,15,16,17] ?_;refine bC [(e,_),(jl2,_),(jm2,_),(j7,_),(jr,_)] ?_;exact Wj _ _ _ oQ ⟨i+1,jl2,jm2,rfl,oQ,by rw [hk1,lF]; rfl,by rw [hk1,hk2,km,lM,lF]; rfl⟩
  have hbit:¬ mask / 2 ^ i % 2=1:=fun h=>by rw [h] at Jx; simp at Jx
  refine au 312304140120 ?_;refine bA [1,4,5,6,7,15,16,17] ?_;refine bC [(e,_),(jl,_),(jm,_),(j7,_),(jr,_)] ?_;exact Wj _ _ _ oQ ⟨i+1,jl,jm,rfl,oQ,by rw [show zw mask (i+1)=zw mask i by show zw mask i++_=_; rw [if_neg hbit,lR]]; rfl,by rw [show zw mask (i+1)=zw mask i by show zw mask i++_=_; rw [if_neg hbit,lR],show onlyL b.mE mask (i+1)=onlyL b.mE mask i by show onlyL b.mE mask i++_=_; rw [if_neg hbit,lR]]⟩
 obtain rfl:i=b.mE.length:=by simp at Jz; omega
 refine au 35170168042160 ?_;refine bB Wz [(jl,_),(jm,_),(e,_)] ?_;exact ⟨jl,jm,by unfold onlyB; rfl,by unfold onlyB; rfl⟩
def badM (b:RBk) (k:Nat):Bool:=(zh (onlyB b k)).isEmpty
def clashL (b:RBk):Nat->Option (List Int)
 | 0=>none
 | k+1=>if badM b k=tt then (match clashL b k with
  | none=>some (zw k b.mE.length)
  | some l=>if yB (zw k b.mE.length) l=tt then some (zw k b.mE.length) else some l) else clashL b k
def clashM (b:RBk):Option (List Int):=clashL b (2 ^ b.mE.length)
def BestL (jo:Nat):Option (List Int)->KV->Prop
 | none,K=>K=[(jo,.cells [.v (.slice none 0 0),zC ff] 177 tt)]
 | some l,K=>∃ j0 e0,K=[(jo,.cells [.sl j0 0 l.length,zC tt] 177 tt),(j0,.cells (l.map za) e0 ff)]
theorem zoW {m:Nat} (hm:m<=3):IntKind.i64.wrap (1*2 ^ ((m:Nat):Int).toNat)=((2 ^ m:Nat):Int):=by
 have:m=0\/m=1\/m=2\/m=3:=by omega
 rcases this with rfl | rfl | rfl | rfl <;> decide
instance:zl tp 177 0 0 ff 1:={}
instance:zl tp 177 1 1 ff 1:={}
instance:TyZA tp 177 [.v (.slice none 0 0),.v (.bool ff)]:={}
theorem zh3 {main T} (hT:zt tp main T) {gm} {jo jl:Nat} {xs:List Int} {e1:gT} :
  zr tp T gm 92 [.ptr jo 0,.sl jl 0 xs.length,.fn 93 [] []] [(jo,.cells [.v (.slice none 0 0),zC ff] 177 tt),(jl,.cells (xs.map za) e1 ff)] (fun r K'=>K'=[(jo,.cells [.sl jl 0 xs.length,zC tt] 177 tt),(jl,.cells (xs.map za) e1 ff)]):=by
 refine zn 27 hT Tryz.func92 fun Y Wz=>?_;refine au 142 ?_;refine bH Z (yD Z Z) ?_;refine au 1300690670 ?_;refine bF 11 (fun g0_6=>?_) (fun g0_6=>?_)
 ·refine au 111418032608888888 ?_;refine bH Z (yD Z Z) ?_;refine au 170670 ?_;refine bH Z (yD Z Z) ?_;refine au 3170670 ?_;refine TK.rt0 Wz [(jo,_),(jl,_)] ?_;exact rfl
 simp at g0_6
theorem zh4 {main T} (hT:zt tp main T) {gm} {jo jl j0:Nat} {xs ys:List Int} {e1 e2:gT} (hl:xs.length<=1000) :
  zr tp T gm 92 [.ptr jo 0,.sl jl 0 xs.length,.fn 93 [] []] [(jo,.cells [.sl j0 0 ys.length,zC tt] 177 tt),(j0,.cells (ys.map za) e2 ff),(jl,.cells (xs.map za) e1 ff)] (fun r K'=>(yB xs ys=tt/\K'=[(jo,.cells [.sl jl 0 xs.length,zC tt] 177 tt),(jl,.cells (xs.map za) e1 ff)])\/(yB xs ys=ff/\K'=[(jo,.cells [.sl j0 0 ys.length,zC tt] 177 tt),(j0,.cells (ys.map za) e2 ff)])):=by
 refine zn 27 hT Tryz.func92 fun Y Wz=>?_;refine au 142 ?_;refine bH Z (yD Z Z) ?_;refine au 1300690670 ?_;refine bF 11 (fun g0_6=>?_) (fun g0_6=>?_)
 ·simp at g0_6
 refine au 111 ?_;refine bH Z (yD Z Z) ?_;refine au 690670 ?_;refine TK.callF' Z Z Z Z Z (yK Cal.h (zat hT hl)) vQ fun r1 K2 h3=>?_;obtain ⟨rfl,rfl⟩:=h3;refine au 93250 ?_;constructor<;>intro Jz
 ·refine au 1114 ?_;refine bH Z (yD Z Z) ?_;refine au 170670 ?_;refine bH Z (yD Z Z) ?_;refine au 3170670 ?_;refine TK.rt0 Wz [(jo,_),(jl,_)] ?_;exact .inl ⟨Jz,rfl⟩
 refine au 120 ?_;refine TK.rt0 Wz [(jo,_),(j0,_)] ?_;exact .inr ⟨Jz,rfl⟩
theorem zkn {main:Bool} {T:gG->Hp->Prop} (hT:zt tp main T)  {b:RBk} {s h e:Nat} (hl:b.sE.length<=100) (hm:b.mE.length<=100) :
  zr tp T gmR 40 [.agg (zH b s h e)] [(0,zB),(s,zp b),(h,zF b),(e,zz b)] (fun r K'=>(zy b≠0/\r=.tup [.v (.slice none 0 0),za (zy b)]/\K'=[(0,zB),(s,zp b),(h,zF b),(e,zz b)])\/(zy b=0/\zh b≠[]/\r=.tup [.v (.slice none 0 0),za 0]/\K'=[(0,zB),(s,zp b),(h,zF b),(e,zz b)])\/(zy b=0/\zh b=[]/\clashM b=none/\r=.tup [.v (.slice none 0 0),za 0]/\K'=[(0,zB),(s,zp b),(h,zF b),(e,zz b)])\/(zy b=0/\zh b=[]/\∃ l j0 e0,clashM b=some l/\r=.tup [.sl j0 0 l.length,za 0]/\K'=(j0,.cells (l.map za) e0 ff)::[(0,zB),(s,zp b),(h,zF b),(e,zz b)])):=by
 refine zn 41 hT Tryz.func40 fun Y Wz=>?_;refine au 21042 ?_;intro jb hjb;refine au 68042355 ?_;refine bD Z Z Z Z (zal hT (Kx:=[]) hl hm) ?_;rintro r1 K2 h3;rcases h3 with ⟨⟨Wv,rfl⟩ | ⟨Wv,rfl⟩,rfl⟩
 ·refine au 220661 ?_;intro j4 hj4;refine au 937142235170 ?_;constructor<;>intro Jz
  ·exact absurd Jz sQ
  have hbb:=zX Wv;have hml:=hbb.mes.len;have hsh:=zoW hml;have h2m:2 ^ b.mE.length<=8:=Nat.pow_le_pow_right (n:=2) dQ hml;refine au 680422120 ?_;refine TK.clE Z Z Z Z (zhk hT hbb) ?_;refine au 93 ?_;constructor<;>intro Jx
  ·refine au 35542 ?_;refine bB Wz [(0,_),(s,_),(h,_),(e,_)] ?_;exact .inr (.inl ⟨Wv,fun h=>by rw [h] at Jx; simp at Jx,rfl,rfl⟩)
  have hnil:zh b=[]:=by cases hh:zh b with | nil=>rfl | cons x r=>rw [hh] at Jx; simp at Jx
  refine au 22042120 ?_;intro jo hjo;refine au 2806906704223 ?_;refine bH Z (q_shL Z Z Z ⟨by omega,by show ((b.mE.length:Nat):Int)<=64; omega⟩ (r:=((2 ^ b.mE.length:Nat):Int)) hsh) ?_;refine au 13031 ?_;refine bA [1,2,3,4,6,23,24] ?_;refine bC ((0,_)::(s,_)::(h,_)::(e,_)::(j4,_)::(jb,_)::[(jo,_)]) ?_;refine bE (fun n Wq K=>∃ (i:Nat) (Kb:KV),n=2 ^ b.mE.length - i/\i<=2 ^ b.mE.length/\BestL jo (clashL b i) Kb/\Wq=.any::.ptr jb 0::.v (.slice none 0 0)::za 0::.ptr j4 0::.any::.ptr jo 0::naL 16 (.v (.int .i64 ((2 ^ b.mE.length:Nat):Int))::za i::naL 16 [])/\K=(0,zB)::(s,zp b)::(h,zF b)::(e,zz b)::(j4,.cells (zH b s h e) 134 tt)::(jb,.cells (zH b s h e) 26 tt)::Kb) (2 ^ b.mE.length) ⟨0,_,rfl,mN _,rfl,rfl,rfl⟩ fun n Wq K hI Wj=>?_;obtain ⟨i,Kb,rfl,hi,hbl,rfl,rfl⟩:=hI;refine bG nQ ?_;refine au 923742 ?_;constructor<;>intro hc2
  ·have Qb:i<2 ^ b.mE.length:=Int.ofNat_lt.1 (of_decide_eq_true hc2);have hbo:=zle hbb i;refine au 168042351421302120 ?_;refine bD Z Z Z Z (zmY hT (mask:=i) hml oQ) ?_ (hs:=(.right (.right (.right (.left (.none _))))));rintro r7 K8 ⟨jl,jm,rfl,rfl⟩;refine au 220661 ?_;intro j8 hj8;refine au 235170 ?_;refine TK.unrowAt (c:=j8) (i:=6) (j:=jm) Z mQ uQ ?_;refine bY (j:=jm) ?_;refine au 6804 ?_;refine bD Z Z Z Z (zhk hT hbo (s:=s) (h:=h) (e:=jm)) ?_ (hs:=(.rem (.tail (.tail (.tail (.tail (.tail .head))))) (.rem (.tail (.tail (.tail (.tail (.tail .head))))) (.rem (.tail (.tail .head)) (.none _)))));rintro r10 K11 ⟨rfl,rfl⟩;refine au 93300 ?_;constructor<;>intro hc3
   ·have hbad:badM b i=tt:=by simpa [badM] using hc3
    refine TK.asSl 9 Z mQ ?_;refine bY (j:=jl) ?_;refine au 4 ?_;rcases hcl:clashL b i with _ | l0
    ·rw [hcl] at hbl;have hbl:Kb=[(jo,.cells [.v (.slice none 0 0),zC ff] 177 tt)]:=hbl;subst hbl;refine bH Z (zb Z Z) ?_;refine bD Z Z Z Z (zh3 hT) ?_;rintro r13 K14 rfl;refine au 3123041403 ?_;refine bA [1,2,3,4,6,23,24] ?_;refine bC ((0,_)::(s,_)::(h,_)::(e,_)::(j4,_)::(jb,_)::[(jo,_),(jl,_)]) ?_;exact Wj _ _ _ oQ ⟨i+1,_,rfl,oQ,by unfold clashL; rw [if_pos hbad,hcl]; exact ⟨jl,3,rfl⟩,rfl,rfl⟩
    ·rw [hcl] at hbl;obtain ⟨j0,e0,rfl⟩:=hbl;refine bH Z (zb Z Z) ?_;refine bD Z Z Z Z (zh4 hT (by have:=wJ i b.mE.length; omega)) ?_;rintro r16 K17 h18;rcases h18 with ⟨hsm,rfl⟩ | ⟨hsm,rfl⟩
     ·refine au 3123041403 ?_;refine bA [1,2,3,4,6,23,24] ?_;refine bC ((0,_)::(s,_)::(h,_)::(e,_)::(j4,_)::(jb,_)::[(jo,_),(jl,_)]) ?_;exact Wj _ _ _ oQ ⟨i+1,_,rfl,oQ,by unfold clashL; rw [if_pos hbad,hcl]; dsimp only; rw [if_pos hsm]; exact ⟨jl,3,rfl⟩,rfl,rfl⟩
     ·refine au 3123041403 ?_;refine bA [1,2,3,4,6,23,24] ?_;refine bC ((0,_)::(s,_)::(h,_)::(e,_)::(j4,_)::(jb,_)::[(jo,_),(j0,_)]) ?_;exact Wj _ _ _ oQ ⟨i+1,_,rfl,oQ,by unfold clashL; rw [if_pos hbad,hcl]; dsimp only; rw [if_neg (by rw [hsm]; decide)]; exact ⟨j0,e0,rfl⟩,rfl,rfl⟩
   have hbad:¬ badM b i=tt:=fun h=>by simp [badM] at h; rw [h] at hc3; simp at hc3
   refine au 312304140120 ?_;refine bA [1,2,3,4,6,23,24] ?_;refine bC ((0,_)::(s,_)::(h,_)::(e,_)::(j4,_)::(jb,_)::Kb) ?_;exact Wj _ _ _ oQ ⟨i+1,_,rfl,oQ,by unfold clashL; rw [if_neg hbad]; exact hbl,rfl,rfl⟩
  have Qb:¬ i<2 ^ b.mE.length:=fun h=>of_decide_eq_false hc2 (Int.ofNat_lt.2 h);obtain rfl:i=2 ^ b.mE.length:=by omega
  refine au 42160 ?_;rcases hbst:clashL b (2 ^ b.mE.length) with _ | l0
  ·rw [hbst] at hbl;have hbl:Kb=[(jo,.cells [.v (.slice none 0 0),zC ff] 177 tt)]:=hbl;subst hbl;refine bH Z (zi Z Z zl.h dQ) ?_;refine au 355690 ?_;refine bB Wz [(0,_),(s,_),(h,_),(e,_)] ?_;exact .inr (.inr (.inl ⟨Wv,hnil,hbst,rfl,rfl⟩))
  ·rw [hbst] at hbl;obtain ⟨j0,e0,rfl⟩:=hbl;refine bH Z (zi Z Z zl.h dQ) ?_;refine au 355690 ?_;refine bB Wz [(j0,_),(0,_),(s,_),(h,_),(e,_)] ?_;exact .inr (.inr (.inr ⟨Wv,hnil,l0,j0,e0,hbst,rfl,rfl⟩))
 ·refine au 220661 ?_;intro j4 hj4;refine au 937142235170 ?_;constructor<;>intro Jz
  ·
   refine au 355142 ?_;refine bB Wz [(0,_),(s,_),(h,_),(e,_)] ?_;exact .inl ⟨Wv,rfl,rfl⟩
  exact absurd Wv (by simpa using Jz)
def greatM (b:RBk):Bool:=decide (b.sE.length>20)||decide (b.sH.length>20)||decide (b.mE.length>20)
def exB:RBk:=⟨12,15,8,2,[⟨0,3,2,1,ff⟩,⟨5,2,1,4,ff⟩,⟨9,4,3,0,ff⟩],[⟨0,1⟩,⟨0,0⟩,⟨0,1⟩],[]⟩
theorem zbd {α:Type} {xs ys:List α} {i:Nat} {x y:α} (hx:xs[i]? =some x) (hy:ys[i]? =some y) (ht:xs.take i=ys.take i) (he:x=y):xs.take (i+1)=ys.take (i+1):=by
 rw [yL hx,yL hy,ht,he]
theorem zbG {α:Type} {xs ys:List α} (hl:xs.length=ys.length) (ht:xs.take xs.length=ys.take xs.length):xs=ys:=by
 rwa [lW,hl,lW] at ht
theorem ne_at {α:Type} {xs ys:List α} {i:Nat} {x y:α} (hx:xs[i]? =some x) (hy:ys[i]? =some y) (hne:x≠y):xs≠ys:=fun h=>by rw [h,hy] at hx; exact hne (Option.some.inj hx).symm
instance:BlOf tp 132 [(0,1),(1,1),(2,1),(3,1),(4,1)]:={}
theorem zkH {main T} (hT:zt tp main T) {gm} {b:RBk} {s h e:Nat} :
  zr tp T gm 19 [.agg (zH b s h e)] [] (fun r K'=>r=zC (greatM b)/\K'=[]):=by
 refine zn 19 hT Tryz.func19 fun Y Wz=>?_;refine au 21042 ?_;intro jb hjb;refine au 172806906704235 ?_;refine bF 7 (fun g1_5=>?_) (fun g1_5=>?_)
 ·refine au 35260888812608888 ?_;refine bB Wz [] ?_;exact ⟨by unfold greatM; rw [show decide (b.sE.length>20)=tt by simp at g1_5; simp; omega]; rfl,rfl⟩
 refine au 12507280690670 ?_;refine bF 13 (fun g1_11=>?_) (fun g1_11=>?_)
 ·refine au 352608888 ?_;refine bB Wz [] ?_;exact ⟨by unfold greatM; rw [show decide (b.sH.length>20)=tt by simp at g1_11; simp; omega]; simp,rfl⟩
 refine au 352507280690670 ?_;refine bB Wz [] ?_;exact ⟨by unfold greatM; rw [show decide (b.sE.length>20)=ff by simp at g1_5; simp; omega,show decide (b.sH.length>20)=ff by simp at g1_11; simp; omega,Bool.false_or,Bool.false_or]; exact congrArg _ (congrArg _ (decide_eq_decide.2 oQ)),rfl⟩
theorem zfy {main T} (hT:zt tp main T) {gm} {j off j2:Nat} {ob:AObj} {xs ys:List Int} (hI:∀ (i:Nat) (x:Int),xs[i]? =some x->yj ob (off+(i:Int).toNat*1) 1=some [za x]) (hl:xs.length<=1000) :
  zr tp T gm 53 [.sl j off xs.length,.row j2 ys.length] [(j,ob),(j2,.row (ys.map za) 3 1)] (fun r K'=>r=zC (decide (xs=ys))/\K'=[(j,ob),(j2,.row (ys.map za) 3 1)]):=by
 refine zn 26 hT Tryz.func53 fun Y Wz=>?_;refine au 937280128014223542 ?_;constructor<;>intro Jz
 ·refine au 3542 ?_;refine bB Wz [(j,_),(j2,_)] ?_;exact ⟨by rw [decide_eq_false (fun h=>by rw [h] at Jz; simp at Jz)],rfl⟩
 have hll:xs.length=ys.length:=by simp at Jz; omega
 refine au 13035422120 ?_;refine bA [0,1,4,5] ?_;refine bE (fun n Wq K=>∃ (i:Nat),n=xs.length - i/\i<=xs.length/\xs.take i=ys.take i/\Wq=.sl j off xs.length::.row j2 ys.length::naL 2 (zC ff::za i::naL 20 [])/\K=[(j,ob),(j2,.row (ys.map za) 3 1)]) xs.length ⟨0,rfl,mN _,by simp,rfl,rfl⟩ fun n Wq K hI2 Wj=>?_;obtain ⟨i,rfl,hi,hta,rfl,rfl⟩:=hI2;refine bG nQ ?_;refine au 93728011422 ?_;constructor<;>intro Jx
 ·have Qb:i<xs.length:=by simp at Jx; omega
  obtain ⟨x,hx⟩:∃ x,xs[i]? =some x:=⟨_,lA Qb⟩;obtain ⟨y,hy⟩:∃ y,ys[i]? =some y:=⟨_,lA oQ⟩;refine au 21302120 ?_;refine bL [0,1,2,3,4,5,6,7,8] ?_;refine ad [[1,0],[1,5],[2,17,18]] ?_;refine bT [19] Z (hq:=zj Z Z ze.h (mC _) (hI i x hx)) (h:=?_);refine ad [[1,1],[1,5]] ?_;refine bT [21,22] Z (hq:=kh Z Z Z zq.h (mC _) oQ oQ) (h:=?_);refine bT [23] Z (hq:=zj Z Z ze.h (mC _) (zbw hy Z)) (h:=?_);refine ad [[4,20,24],[14]] ?_;refine au 9 ?_;constructor<;>intro hc2
  ·refine au 3542 ?_;refine bB Wz [(j,_),(j2,_)] ?_;exact ⟨by rw [decide_eq_false (ne_at hx hy (fun h=>by rw [h] at hc2; simp at hc2))],rfl⟩
  refine au 3523014140120 ?_;refine bA [0,1,4,5] ?_;refine bC [(j,_),(j2,_)] ?_;exact Wj _ _ _ oQ ⟨i+1,rfl,oQ,zbd hx hy hta (by simp at hc2; exact hc2),rfl,rfl⟩
 obtain rfl:i=xs.length:=by simp at Jx; omega
 refine au 3542160 ?_;refine bB Wz [(j,_),(j2,_)] ?_;exact ⟨by rw [decide_eq_true (zbG hll hta)],rfl⟩
theorem zdh {main T} (hT:zt tp main T) {gm} {j off j2:Nat} {ob:AObj} {xs ys:List (Int×Int)} (hI:∀ (i:Nat) (x:Int×Int),xs[i]? =some x->yj ob (off+(i:Int).toNat*2) 2=some (pairC x)) (hl:xs.length<=1000) :
  zr tp T gm 31 [.sl j off xs.length,.row j2 ys.length] [(j,ob),(j2,.row (ys.flatMap pairC) 76 2)] (fun r K'=>r=zC (decide (xs=ys))/\K'=[(j,ob),(j2,.row (ys.flatMap pairC) 76 2)]):=by
 refine zn 26 hT Tryz.func31 fun Y Wz=>?_;refine au 937280128014223542 ?_;constructor<;>intro Jz
 ·refine au 3542 ?_;refine bB Wz [(j,_),(j2,_)] ?_;exact ⟨by rw [decide_eq_false (fun h=>by rw [h] at Jz; simp at Jz)],rfl⟩
 have hll:xs.length=ys.length:=by simp at Jz; omega
 refine au 13035422120 ?_;refine bA [0,1,4,5] ?_;refine bE (fun n Wq K=>∃ (i:Nat),n=xs.length - i/\i<=xs.length/\xs.take i=ys.take i/\Wq=.sl j off xs.length::.row j2 ys.length::naL 2 (zC ff::za i::naL 20 [])/\K=[(j,ob),(j2,.row (ys.flatMap pairC) 76 2)]) xs.length ⟨0,rfl,mN _,by simp,rfl,rfl⟩ fun n Wq K hI2 Wj=>?_;obtain ⟨i,rfl,hi,hta,rfl,rfl⟩:=hI2;refine bG nQ ?_;refine au 93728011422 ?_;constructor<;>intro Jx
 ·have Qb:i<xs.length:=by simp at Jx; omega
  obtain ⟨x,hx⟩:∃ x,xs[i]? =some x:=⟨_,lA Qb⟩;obtain ⟨y,hy⟩:∃ y,ys[i]? =some y:=⟨_,lA oQ⟩;refine au 21302120 ?_;refine bL [0,1,2,3,4,5,6,7,8] ?_;refine ad [[1,0],[1,5],[2,17,18]] ?_;refine bT [19] Z (hq:=zS Z Z ze.h (mC _) (hI i x hx)) (h:=?_);refine ad [[1,1],[1,5]] ?_;refine bT [21,22] Z (hq:=kh Z Z Z zq.h (mC _) oQ oQ) (h:=?_);refine bT [23] Z (hq:=zS Z Z ze.h (mC _) (zdg (c:=2) (f:=pairC) (fun _=>rfl) hy rfl dQ)) (h:=?_);refine TD.z [20,24] Z (uy Z Z Z Z Z FlatF.h EqG.h) ?_;refine ad [[14]] ?_;refine au 9 ?_;constructor<;>intro hc2
  ·refine au 3542 ?_;refine bB Wz [(j,_),(j2,_)] ?_;exact ⟨by rw [decide_eq_false (ne_at hx hy (fun h=>by rw [h] at hc2; simp at hc2))],rfl⟩
  refine au 3523014140120 ?_;refine bA [0,1,4,5] ?_;refine bC [(j,_),(j2,_)] ?_;exact Wj _ _ _ oQ ⟨i+1,rfl,oQ,zbd hx hy hta (by simp at hc2; exact Prod.ext hc2.1 hc2.2),rfl,rfl⟩
 obtain rfl:i=xs.length:=by simp at Jx; omega
 refine au 3542160 ?_;refine bB Wz [(j,_),(j2,_)] ?_;exact ⟨by rw [decide_eq_true (zbG hll hta)],rfl⟩
theorem wV {main T} (hT:zt tp main T) {gm} {j off j2:Nat} {ob:AObj} {xs ys:List Int} (hI:∀ (i:Nat) (x:Int),xs[i]? =some x->yj ob (off+(i:Int).toNat*1) 1=some [za x]) (hl:xs.length<=1000) :
  zr tp T gm 13 [.sl j off xs.length,.row j2 ys.length] [(j,ob),(j2,.row (ys.map za) 3 1)] (fun r K'=>r=zC (decide (xs=ys))/\K'=[(j,ob),(j2,.row (ys.map za) 3 1)]):=by
 refine zn 8 hT Tryz.func13 fun Y Wz=>?_;refine au 11423542 ?_;refine TK.clE Z Z Z Z (zfy hT hI hl) ?_;refine au 35 ?_;refine bB Wz [(j,_),(j2,_)] ?_;exact ⟨rfl,rfl⟩
theorem to_ok {main T} (hT:zt tp main T) {gm} {a z:Int} :
  zr tp T gm 15 [za a,za z] [] (fun r K'=>r=.agg [za a,za z]/\K'=[]):=by
 refine zn 8 hT Tryz.func15 fun Y Wz=>?_;refine au 22042 ?_;intro j1 hj1;refine au 317039011423 ?_;refine bB Wz [] ?_;exact ⟨rfl,rfl⟩
theorem zcz {main T} (hT:zt tp main T) {gm} {n:Int} :
  zr tp T gm 11 [za n] [] (fun r K'=>r=.agg [za n,za n]/\K'=[]):=by
 refine zn 6 hT Tryz.func11 fun Y Wz=>?_;refine au 22042 ?_;intro j1 hj1;refine au 11423 ?_;refine TK.clE Z Z Z Z (to_ok hT) ?_;refine au 3170 ?_;refine bB Wz [] ?_;exact ⟨rfl,rfl⟩
theorem zhO {main T} (hT:zt tp main T) {gm}  :
  zr tp T gm 22 [] [] (fun r K'=>∃ s h e,r=.agg (zH exB s h e)/\K'=[(s,zp exB),(h,zF exB),(e,zz exB)]):=by
 refine zn 10 hT Tryz.func22 fun Y Wz=>?_;refine au 22042 ?_;intro j0 hj0;refine au 420420420423 ?_;refine bI Z Z Z (zu (l:=[_,_,_,_,_,_,_,_,_,_,_,_,_,_,_]) Z zq.h TyZ.h dQ dQ Z) (fun _=>zx rfl tQ) fun js hjs=>?_;refine TK.clE Z Z Z Z (to_ok hT) ?_;refine au 0 ?_;refine TK.clE Z Z Z Z (zcz hT) ?_;refine au 0 ?_;refine TK.clE Z Z Z Z (to_ok hT) ?_;refine au 0 ?_;refine bI Z Z Z (zu (l:=[_,_,_,_,_,_]) Z zq.h TyZ.h dQ dQ Z) (fun _=>zx rfl tQ) fun jh hjh=>?_;refine au 170440 ?_;refine TK.unrowAt (c:=j0) (i:=4) (j:=js) Z mQ uQ ?_;refine bY (j:=js) ?_;refine TK.unrowAt (c:=j0) (i:=5) (j:=jh) Z mQ uQ ?_;refine bY (j:=jh) ?_;refine TK.virtAt (j:=j0) (i:=6) (e:=88) (size:=3) (x:=none) (l:=[za 12,za 15,za 8,za 2,.sl js 0 3,.sl jh 0 3,.v (.slice none 0 0)]) (by rfl) (fun _=>uQ) fun je hje=>?_;refine TK.unrowAt (c:=j0) (i:=6) (j:=je) Z mQ uQ ?_;refine bY (j:=je) ?_;refine au 3 ?_;refine bB Wz [(js,_),(jh,_),(je,_)] ?_;exact ⟨js,jh,je,rfl,rfl⟩
theorem zbL {main T} (hT:zt tp main T) {gm} {b:RBk} {s h e:Nat} {m:RMeas} (hm:b.mE.length<=100) :
  zr tp T gm 41 [.agg (zH b s h e),.agg (measC m)] [(e,zz b)] (fun r K'=>∃ je,r=.agg (zH (yr b m) s h je)/\K'=[(je,zz (yr b m)),(e,zz b)]):=by
 refine zn 14 hT Tryz.func41 fun Y Wz=>?_;refine au 0 ?_;have hfl:=yw measC 3 (fun _=>rfl) b.mE;refine au 21042 ?_;intro jb hjb;refine au 210 ?_;intro jm hjm;refine au 220 ?_;intro jr hjr;refine au 23 ?_;refine TK.dr [1,2,4,0,3,5,6,7,8] [0,1,2,3,4,5,6,7,8] ?_;refine ad [[3,2],[10,6],[12,3]] ?_;refine TD.c2 (i1:=0) (i2:=5) (pend1:=[_,_,_]) (pend2:=[_,_]) (L1:=[3,5,6,7,8]) (L2:=[0,3,6,7,8]) [] [9] Z Z Z Z Z Z Z ?_ ?_
 ·refine wL Z (zu (l:=[]) Z zq.h TyZ.h dQ dQ Z) (fun _=>zx rfl tQ) sQ fun j1 hj1=>?_;refine TD.c2 (i1:=3) (i2:=5) (pend1:=[_,_]) (pend2:=[_,_]) (L1:=[5,6,7,8]) (L2:=[3,6,7,8]) [5,7] [9] Z Z Z Z Z Z Z ?_ ?_
  ·refine zkx (ln:=b.mE.flatMap measC) Z Z ApOf.h Z mQ Z Z Z (fun hp=>wG mQ oQ (kL hfl oQ)) (fun h=>lK oQ) (kN measC (fun _=>rfl) _) (by unfold maxLen; omega) oQ (fun _=>uQ) (fun _=>zx rfl tQ) (fun _=>by simp) fun jc=>?_;simp only [lC,mO];refine bV (Wx:=[_]) [9] Z Z Z Z Z (zu (l:=[_,_,_]) Z zq.h TyZ.h dQ dQ Z) (fun _=>zx rfl tQ) sQ fun j2 hj2=>?_;refine TD.capp (Wx:=[_]) [8,10] Z Z Z Z Z (a_app Z ApOf.h Z mQ oQ Z (yq (ln:=[_,_,_]) mQ dQ sQ Z) oQ Z (by unfold maxLen; omega) oQ) (fun _=>uQ) (fun _=>zx rfl tQ) (fun _=>sQ) fun je=>?_;refine ad [[3,2]] ?_;refine bR (Wx:=[]) [11,12] Z Z (zE Z Z ze.h Z Z mQ Z) ?_;refine ad [[14]] ?_;refine au 2 ?_;refine TK.unrowAt (c:=jb) (i:=6) (j:=je) Z mQ uQ ?_;refine bY (j:=je) ?_;rw [show b.mE.flatMap measC++[za m.cloth,za m.many,za m.wide]=(yr b m).mE.flatMap measC from (km measC b.mE m).symm,show b.mE.length+1=(yr b m).mE.length by simp [yr]];refine au 31706804 ?_;refine bB Wz [(je,_),(e,_)] ?_;exact ⟨je,rfl,rfl⟩
  ·refine wL Z (zu (l:=[_,_,_]) Z zq.h TyZ.h dQ dQ Z) (fun _=>zx rfl tQ) sQ fun j3 hj3=>?_;refine TD.cappG (ln:=b.mE.flatMap measC) (Wx:=[_]) [5,7] Z Z Z Z Z Z ApOf.h Z mQ Z Z Z (fun hp=>wG mQ oQ (kL hfl oQ)) (fun h=>lK oQ) (kN measC (fun _=>rfl) _) (by unfold maxLen; omega) oQ (fun _=>uQ) (fun _=>zx rfl tQ) (fun _=>by simp) fun jc=>?_;simp only [lC,mO];refine TD.capp (Wx:=[_]) [8,10] Z Z Z Z Z (a_app Z ApOf.h Z mQ oQ Z (yq (ln:=[_,_,_]) mQ dQ sQ Z) oQ Z (by unfold maxLen; omega) oQ) (fun _=>uQ) (fun _=>zx rfl tQ) (fun _=>sQ) fun je=>?_;refine ad [[3,2]] ?_;refine bR (Wx:=[]) [11,12] Z Z (zE Z Z ze.h Z Z mQ Z) ?_;refine ad [[14]] ?_;refine au 2 ?_;refine TK.unrowAt (c:=jb) (i:=6) (j:=je) Z mQ uQ ?_;refine bY (j:=je) ?_;rw [show b.mE.flatMap measC++[za m.cloth,za m.many,za m.wide]=(yr b m).mE.flatMap measC from (km measC b.mE m).symm,show b.mE.length+1=(yr b m).mE.length by simp [yr]];refine au 31706804 ?_;refine bB Wz [(je,_),(e,_)] ?_;exact ⟨je,rfl,rfl⟩
 ·refine wL Z (zu (l:=[_,_,_]) Z zq.h TyZ.h dQ dQ Z) (fun _=>zx rfl tQ) sQ fun j4 hj4=>?_;refine bV (Wx:=[_,_]) [] Z Z Z Z Z (zu (l:=[]) Z zq.h TyZ.h dQ dQ Z) (fun _=>zx rfl tQ) sQ fun j5 hj5=>?_;refine TD.cappG (ln:=b.mE.flatMap measC) (Wx:=[_]) [5,7] Z Z Z Z Z Z ApOf.h Z mQ Z Z Z (fun hp=>wG mQ oQ (kL hfl oQ)) (fun h=>lK oQ) (kN measC (fun _=>rfl) _) (by unfold maxLen; omega) oQ (fun _=>uQ) (fun _=>zx rfl tQ) (fun _=>by simp) fun jc=>?_;simp only [lC,mO];refine TD.capp (Wx:=[_]) [8,10] Z Z Z Z Z (a_app Z ApOf.h Z mQ oQ Z (yq (ln:=[_,_,_]) mQ dQ sQ Z) oQ Z (by unfold maxLen; omega) oQ) (fun _=>uQ) (fun _=>zx rfl tQ) (fun _=>sQ) fun je=>?_;refine ad [[3,2]] ?_;refine bR (Wx:=[]) [11,12] Z Z (zE Z Z ze.h Z Z mQ Z) ?_;refine ad [[14]] ?_;refine au 2 ?_;refine TK.unrowAt (c:=jb) (i:=6) (j:=je) Z mQ uQ ?_;refine bY (j:=je) ?_;rw [show b.mE.flatMap measC++[za m.cloth,za m.many,za m.wide]=(yr b m).mE.flatMap measC from (km measC b.mE m).symm,show b.mE.length+1=(yr b m).mE.length by simp [yr]];refine au 31706804 ?_;refine bB Wz [(je,_),(e,_)] ?_;exact ⟨je,rfl,rfl⟩
end Go.Vel
namespace Go.Vel
open Go Go.Conc
theorem pendS {Qy:Array gB} {i:Nat} {Wy Wx:List Pd} {es:List Nat} (h:edgesOf .any Qy i=es) (h2:(Wy.filter fun p => !(es.elem p.i))=Wx):pendOf Qy i Wy=Wx:=by unfold pendOf; rw [h]; exact h2
theorem x_len:(exB.sE.length<=100)/\(exB.mE.length<=100):=by decide
theorem wZ:zy exB=0:=by decide +kernel
theorem zhu:bar2 (zy exB) (cutsM exB [1,2])=0:=by decide +kernel
theorem zht:bar2 (zy exB) (cutsM exB [0,1])=0:=by decide +kernel
theorem zdr:bar2 (zy exB) (cutsM exB [0,2])=0:=by decide +kernel
theorem zlQ:stripsM exB [1,2]=[(1,4),(2,8)]:=by decide +kernel
theorem zlN:fitsM exB [0,1]=tt:=by decide +kernel
theorem zlO:fitsM exB [0,2]=ff:=by decide +kernel
theorem x_h1:bar2 (zy exB) (bar2 (cutsM exB [0,1]) (shM exB [1,0,1]))=0:=by decide +kernel
theorem zhv:hangM exB [0,1] [1,0,1]=some ([3,2],13):=by decide +kernel
theorem x_h2:bar2 (zy exB) (bar2 (cutsM exB [0,1]) (shM exB [0,0,1]))=0:=by decide +kernel
theorem zhw:hangM exB [0,1] [0,0,1]=some ([2,2],11):=by decide +kernel
theorem zlP:placesM exB [0,1] [0,0,1] [2,2]=[0,7]:=by decide +kernel
theorem zcf:zh exB=[[0,0,0],[0,0,1],[1,0,0],[1,0,1]]:=by decide +kernel
theorem x_ne:zh exB≠[]:=by rw [zcf]; decide
theorem x_th2:bar2 (zy exB) (ym exB 2)=0:=by decide +kernel
theorem zpi:shrM exB 2=[0,1]:=by decide +kernel
theorem x_new:newM exB=(3,5):=by decide +kernel
theorem znC:canM exB [0,1]=1:=by decide +kernel
theorem znD:canM exB [0,2]=2:=by decide +kernel
theorem zpf:betw 16 exB.steps 40=tt:=by decide +kernel
theorem zpd:bar2 (zy (atRound exB 16)) (cutsM (atRound exB 16) [0,1])=0:=by decide +kernel
theorem zph:zh (atRound exB 16)≠[]:=by decide +kernel
theorem znE:canM (atRound exB 16) [0,1]=0:=by decide +kernel
theorem zpl:squaresM exB (zh exB) [1,2]=some (9,15):=by decide +kernel
theorem zpk:squaresM exB (zh exB) [0,2]=none:=by decide +kernel
theorem zpj:squaresM exB (zh exB) [0,1]=some (9,13):=by decide +kernel
theorem zlR:widestM exB (zh exB)=some 16:=by decide +kernel
theorem x_ask:askM exB (zh exB)=(0,2):=by decide +kernel
def exM:RBk:=yr exB ⟨2,2,7⟩
theorem x_mc:zy exM=0:=by decide +kernel
theorem x_mst:zh exM=[[0,0,1],[1,0,0]]:=by decide +kernel
theorem zpg:newM exM=(4,4):=by decide +kernel
theorem x_mne:zh exM≠[]:=by rw [x_mst]; decide
def exD:RBk:=z8 exB (0:Int).toNat (dryX exB 0 ⟨1,5⟩)
theorem x_d1:bar2 (zy exB) (ym exB 0)=0/\isBd ⟨1,5⟩ 0 5=tt/\(dryX exB 0 ⟨1,5⟩).low<=(dryX exB 0 ⟨1,5⟩).high:=by decide +kernel
theorem x_d2:bar2 (zy exB) (ym exB 1)=0/\isBd ⟨1,2⟩ 0 5=tt/\(dryX exB 1 ⟨1,2⟩).high<(dryX exB 1 ⟨1,2⟩).low:=by decide +kernel
theorem x_dc:zy exD=0:=by decide +kernel
theorem x_dst:zh exD=[[1,0,0],[1,0,1]]:=by decide +kernel
theorem x_dne:zh exD≠[]:=by rw [x_dst]; decide
theorem x_dth:bar2 (zy exD) (ym exD 0)=0:=by decide +kernel
theorem zpe:shrM exD 0=[1]:=by decide +kernel
def exC1:RBk:=yr exB ⟨0,1,5⟩
def exC:RBk:=yr exC1 ⟨2,2,6⟩
theorem x_cc:zy exC=0:=by decide +kernel
theorem x_cst:zh exC=[]:=by decide +kernel
theorem zhs:clashM exC=some [0,1]:=by decide +kernel
theorem zhr:zw 3 3=[0,1]:=by decide
theorem x_hi3:sqOk exB (zh exB) (zw 3 3)=tt/\sqHi exB (zh exB) (zw 3 3)=13:=by
 unfold sqOk sqHi;rw [zhr,zpj];exact ⟨rfl,rfl⟩
theorem zpc:∀ c:Fin 8,0<c.1->sqOk exB (zh exB) (zw c.1 3)=tt->c.1≠3->(zw 3 3,sqHi exB (zh exB) (zw 3 3))≠(zw c.1 3,sqHi exB (zh exB) (zw c.1 3))/\cheaperM (zw c.1 3,sqHi exB (zh exB) (zw c.1 3)) (zw 3 3,sqHi exB (zh exB) (zw 3 3))=ff/\shorterM (zw c.1 3,sqHi exB (zh exB) (zw c.1 3)) (zw 3 3,sqHi exB (zh exB) (zw 3 3))=ff:=by decide +kernel
theorem zka {bt:List Int×Int->List Int×Int->Bool} {c:Nat} (hbt:bt=cheaperM\/bt=shorterM) (h:PlanA exB (zh exB) bt c):zw c exB.sE.length=[0,1]/\sqHi exB (zh exB) (zw c exB.sE.length)=13:=by
 obtain ⟨h0,h1,h2,h3⟩:=h;have e3:exB.sE.length=3:=rfl;rw [e3] at h1 h2 h3 ⊢;by_cases hc:c=3
 ·subst hc;exact ⟨zhr,x_hi3.2⟩
 ·exfalso;have h8:c<8:=h1;obtain ⟨q1,q2,q3⟩:=zpc ⟨c,h8⟩ h0 h2 hc;rcases h3 3 dQ dQ x_hi3.1 with h | h
  ·exact q1 h
  ·rcases hbt with rfl | rfl
   ·rw [q2] at h; cases h
   ·rw [q3] at h; cases h
theorem zfY (h:NoPlan exB (zh exB)):False:=by
 have:=h 3 dQ dQ;have e3:exB.sE.length=3:=rfl;rw [e3,x_hi3.1] at this;cases this
theorem or2 {x:Int} {A B:Prop} (h:(x≠0/\A)\/(x=0/\B)) (hx:x=0):B:=by
 rcases h with ⟨h,_⟩ | ⟨_,h⟩
 ·exact absurd hx h
 ·exact h
theorem or3 {x:Int} {A B C D:Prop} (h:(x≠0/\A)\/(x=0/\D/\B)\/(x=0/\¬ D/\C)) (hx:x=0) (hd:¬ D):C:=by
 rcases h with ⟨h,_⟩ | ⟨_,h,_⟩ | ⟨_,_,h⟩
 ·exact absurd hx h
 ·exact absurd h hd
 ·exact h
theorem or3b {x:Int} {A B C D:Prop} (h:(x≠0/\A)\/(x=0/\D/\B)\/(x=0/\C)) (hx:x=0) (hd:¬ D):C:=by
 rcases h with ⟨h,_⟩ | ⟨_,h,_⟩ | ⟨_,h⟩
 ·exact absurd hx h
 ·exact absurd h hd
 ·exact h
theorem or3c {x:Int} {y:Bool} {A B C:Prop} (h:(x≠0/\A)\/(x=0/\y=ff/\B)\/(x=0/\y=tt/\C)) (hx:x=0) (hy:y=tt):C:=by
 rcases h with ⟨h,_⟩ | ⟨_,h,_⟩ | ⟨_,_,h⟩
 ·exact absurd hx h
 ·rw [hy] at h; cases h
 ·exact h
theorem or4 {x u v:Int} {y:Bool} {A B C D:Prop} (h:(x≠0/\A)\/(x=0/\y=ff/\B)\/(x=0/\y=tt/\u<v/\C)\/(x=0/\y=tt/\v<=u/\D)) (hx:x=0/\y=tt/\v<=u):D:=by
 obtain ⟨h1,h2,h3⟩:=hx;rcases h with ⟨h,_⟩ | ⟨_,h,_⟩ | ⟨_,_,h,_⟩ | ⟨_,_,_,h⟩
 ·exact absurd h1 h
 ·rw [h2] at h; cases h
 ·omega
 ·exact h
theorem or4c {x u v:Int} {y:Bool} {A B C D:Prop} (h:(x≠0/\A)\/(x=0/\y=ff/\B)\/(x=0/\y=tt/\u<v/\C)\/(x=0/\y=tt/\v<=u/\D)) (hx:x=0/\y=tt/\u<v):C:=by
 obtain ⟨h1,h2,h3⟩:=hx;rcases h with ⟨h,_⟩ | ⟨_,h,_⟩ | ⟨_,_,_,h⟩ | ⟨_,_,h,_⟩
 ·exact absurd h1 h
 ·rw [h2] at h; cases h
 ·exact h
 ·omega
theorem orCl {x:Int} {A B C D E F:Prop} (h:(x≠0/\A)\/(x=0/\¬ D/\B)\/(x=0/\D/\E/\C)\/(x=0/\D/\F)) (hx:x=0) (hd:D) (he:¬ E):F:=by
 rcases h with ⟨h,_⟩ | ⟨_,h,_⟩ | ⟨_,_,h,_⟩ | ⟨_,_,h⟩
 ·exact absurd hx h
 ·exact absurd hd h
 ·exact absurd h he
 ·exact h
theorem trT {r:AV} {P Q:Prop} [Decidable P] (h:r=zC (decide P)/\Q) (hp:P):r=zC tt/\Q:=⟨by rw [h.1,decide_eq_true hp],h.2⟩
theorem zah {xs zs:List Int} {i:Nat} {x:Int} {e:gT} {rw':Bool} (h:xs[i]? =some x):yj (.cells ((xs++zs).map za) e rw') (0+(i:Int).toNat*1) 1=some [za x]:=yb (by rw [List.getElem?_append_left (lD.1 h).1]; exact h) rfl
theorem x_v12:sqLo exB (zh exB) [1,2]=9/\sqHi exB (zh exB) [1,2]=15/\sqOk exB (zh exB) [1,2]=tt:=by
 unfold sqLo sqHi sqOk;rw [zpl];exact ⟨rfl,rfl,rfl⟩
theorem x_v02:sqLo exB (zh exB) [0,2]=0/\sqHi exB (zh exB) [0,2]=0/\sqOk exB (zh exB) [0,2]=ff:=by
 unfold sqLo sqHi sqOk;rw [zpk];exact ⟨rfl,rfl,rfl⟩
theorem agr3 {b:RBk} {K:KV} {r:AV} {K':KV} (h:AgrR b K r K') (hx:zy b=0) (hn:zh b≠[]):∃ s h e,r=.tup [.agg (zH b s h e),za 0]/\K'=(s,zp b)::(h,zF b)::(e,zz b)::K:=or3 h hx hn
end Go.Vel
namespace Go.Vel
open Go Go.Conc Go.Proofs
theorem yk {main T} (hT:zt tp main T) {gm} {n lo hi:Int} :
  zr tp T gm 45 [za n,za lo,za hi] [] (fun r K'=>r=zC (betw n lo hi)/\K'=[]):=by
 refine zn 15 hT Tryz.func45 fun Y Wz=>?_;refine au 1711423542 ?_;refine bF 10 (fun g1_4=>?_) (fun g1_4=>?_)
 ·refine au 35260711 ?_;refine TK.rta Wz ?_;exact ⟨by simp [zC,betw,g1_4],rfl⟩
 refine au 35250888 ?_;refine TK.rta Wz ?_;exact ⟨by simp [zC,betw,g1_4],rfl⟩
theorem zag {main T} (hT:zt tp main T) {gm} {x:RBand} {lo hi:Int} :
  zr tp T gm 60 [.agg (bandC x),za lo,za hi] [] (fun r K'=>r=zC (isBd x lo hi)/\K'=[]):=by
 refine zn 24 hT Tryz.func60 fun Y Wz=>?_;refine au 21042 ?_;intro j1 hj1;refine au 1769067014235 ?_;refine bF 11 (fun g1_5=>?_) (fun g1_5=>?_)
 ·refine au 12607690670690670 ?_;refine bF 18 (fun g1_12=>?_) (fun g1_12=>?_)
  ·refine au 3526071690670 ?_;refine bB Wz [] ?_;exact ⟨by simp_all [isBd,bandC] <;> (intros; omega),rfl⟩
  refine au 352508888 ?_;refine bB Wz [] ?_;exact ⟨by simp_all [isBd,bandC] <;> (intros; omega),rfl⟩
 refine au 352508888125088888 ?_;refine bB Wz [] ?_;exact ⟨by simp_all [isBd,bandC] <;> (intros; omega),rfl⟩
theorem zj6 {main T} (hT:zt tp main T) {gm} {b:RBk} {s h e i:Nat} (hr:RndOk b) (hs:SmOk b) (hi:i<b.sE.length) :
  zr tp T gm 100 [.agg (zH b s h e),za i] [(s,zp b)] (fun r K'=>r=za (wideM b i)/\K'=[(s,zp b)]):=by
 refine zn 40 hT Tryz.func100 fun Y Wz=>?_;refine au 0 ?_;have h5:=hs.len;have hst:=hr.steps;have f0:=hs.fld 0 oQ;have fi:=hs.fld i hi;refine au 21042 ?_;intro jb hjb;refine au 937280690670230142235 ?_;constructor<;>intro Jz
 ·have Qp:i+1<b.sE.length:=by simp at Jz; omega
  have fn:=hs.fld (i+1) Qp;refine au 2 ?_;refine bL [0,1,2,3,4,5,6,7,8,9,10,11,12,13,14] ?_;refine ad [[3,2],[10,11],[1,1],[8,13],[2,12,14],[3,15]] ?_;refine bT [16] Z (hq:=zj Z Z ze.h (mC _) (yd (c:=0) (sm_at (i:=i+1) b Qp Z) dQ Z)) (h:=?_);refine ad [[3,2],[10,18],[1,1],[2,19,20],[3,21]] ?_;refine bT [22] Z (hq:=zj Z Z ze.h (mC _) (yd (c:=0) (sm_at (i:=i) b hi Z) dQ Z)) (h:=?_);refine ad [[9,17,23],[13,24],[14]] ?_;refine au 0 ?_;refine bB Wz [(s,_)] ?_;exact ⟨by unfold wideM; rw [if_pos Qp]; rfl,rfl⟩
 have Qp:¬ i+1<b.sE.length:=by simp at Jz; omega
 refine au 2120 ?_;refine bL [0,1,2,3,4,5,6,7,8,9,10,11,12,13,14,15] ?_;refine ad [[3,2],[10,25],[2,26],[3,27]] ?_;refine bT [28] Z (hq:=zj Z Z ze.h (mC _) (yd (c:=0) (sm_at (i:=0) b oQ Z) dQ Z)) (h:=?_);refine ad [[3,2],[10,30],[8,29,31],[3,2],[10,33],[1,1],[2,34,35],[3,36]] ?_;refine bT [37] Z (hq:=zj Z Z ze.h (mC _) (yd (c:=0) (sm_at (i:=i) b hi Z) dQ Z)) (h:=?_);refine ad [[9,32,38],[13,39],[14]] ?_;refine au 0 ?_;refine bB Wz [(s,_)] ?_;exact ⟨by unfold wideM; rw [if_neg Qp]; rfl,rfl⟩
theorem zjI {main T} (hT:zt tp main T) {gm} {b:RBk} {s h e:Nat} (hr:RndOk b) (hl:b.sE.length<=100) :
  zr tp T gm 54 [.agg (zH b s h e)] [(s,zp b)] (fun r K'=>r=za (seamsM b)/\K'=[(s,zp b)]):=by
 refine zn 61 hT Tryz.func54 fun Y Wz=>?_;refine au 0 ?_;have hst:=hr.steps;refine au 21042 ?_;intro jb hjb;refine au 28069067042235 ?_;refine TK.clE Z Z Z Z (yk hT) ?_;refine au 93300 ?_;constructor<;>intro Jz
 ·refine au 3542 ?_;refine bB Wz [(s,_)] ?_;simp only [mV,mW] at Jz;exact ⟨by simp [seamsM,Jz],rfl⟩
 simp only [mV,mW] at Jz;have hl5:=uM Jz;refine au 13035422120 ?_;refine bA [1,2,3] ?_;refine bE (fun n Wq K=>∃ (i:Nat) (last:Int),n=b.sE.length - i/\i<=b.sE.length/\seamsL b last (b.sE.drop i)=seamsM b/\(0<i->last=(sm b (i - 1)).step)/\(i=0->last = -1)/\Wq=.any::.ptr jb 0::za 0::za i::naL 57 []/\K=[(jb,.cells (zH b s h e) 26 tt),(s,zp b)]) b.sE.length ⟨0,-1,rfl,mN _,by unfold seamsM; rw [if_neg (by rw [Jz]; decide)]; rfl,fun h=>absurd h (Nat.lt_irrefl _),fun _=>rfl,rfl,rfl⟩ fun n Wq K hI Wj=>?_;obtain ⟨i,last,rfl,hi,Qz,hlast,hlast0,rfl,rfl⟩:=hI;refine bG nQ ?_;refine au 9372806906701422 ?_;constructor<;>intro Jx
 ·have Qb:i<b.sE.length:=by simp at Jx; omega
  refine au 3601690670421302120 ?_;refine bH Z (zS Z Z ze.h mQ (sm_at (i:=i) b Qb Z)) ?_;refine au 220 ?_;intro jx hjx;refine au 2406906706906704223170 ?_;refine TK.clE Z Z Z Z (yk hT) ?_;refine au 1300 ?_;refine bF 29 (fun g7_8=>?_) (fun g7_8=>?_)
  ·refine au 3542180326088881260888812608888 ?_;refine bB Wz [(s,_)] ?_;exact ⟨by rw [<- Qz,zM (kb Qb),seamsL,if_pos (by simp only [mV,mW] at g7_8; simp [seamB,g7_8])],rfl⟩
  refine au 690670 ?_;refine TK.clE Z Z Z Z (yk hT) ?_;refine au 1250300 ?_;refine bF 35 (fun g7_14=>?_) (fun g7_14=>?_)
  ·refine au 35421803260888812608888 ?_;refine bB Wz [(s,_)] ?_;exact ⟨by rw [<- Qz,zM (kb Qb),seamsL,if_pos (by simp only [mV,mW] at g7_8 g7_14; simp [seamB,g7_8,g7_14])],rfl⟩
  refine au 690670 ?_;refine TK.clE Z Z Z Z (yk hT) ?_;refine au 1250300 ?_;refine bF 41 (fun g7_20=>?_) (fun g7_20=>?_)
  ·refine au 354218032608888 ?_;refine bB Wz [(s,_)] ?_;exact ⟨by rw [<- Qz,zM (kb Qb),seamsL,if_pos (by simp only [mV,mW] at g7_8 g7_14 g7_20; simp [seamB,g7_8,g7_14,g7_20])],rfl⟩
  refine au 690670 ?_;refine TK.clE Z Z Z Z (yk hT) ?_;refine au 93250300 ?_;constructor<;>intro hc2
  ·refine au 3542 ?_;refine bB Wz [(s,_)] ?_;exact ⟨by rw [<- Qz,zM (kb Qb),seamsL,if_pos (by simp only [mV,mW] at g7_8 g7_14 g7_20 hc2; simp [seamB,g7_8,g7_14,g7_20,hc2])],rfl⟩
  have hsb:seamB b (sm b i)=tt:=by simp only [mV,mW] at g7_8 g7_14 g7_20 hc2; simp [seamB,g7_8,g7_14,g7_20,hc2]
  refine au 2120 ?_;refine bL [0,1,2,3,4,5,6,7,8,9,10,11,12,13] ?_;refine ad [[1,3],[4,47],[1,48]] ?_;refine TD.sp 49 (fun g9_3=>?_) (fun g9_3=>?_)
  ·have hi0:0<i:=by simp at g9_3; omega
   refine ad [[3,4,49],[10,49,50],[3,1,49],[10,49,52],[1,3,49],[9,49,54],[2,49,53,55],[3,49,56]] ?_;refine bT [49,57] Z (hq:=zj Z Z ze.h (mC _) (yd (c:=0) (sm_at (i:=i - 1) b oQ oQ) dQ Z)) (h:=?_);refine ad [[4,49,51,58],[7,49,59],[14]] ?_;refine au 9 ?_;constructor<;>intro hc3
   ·refine au 3542 ?_;refine bB Wz [(s,_)] ?_;exact ⟨by rw [<- Qz,zM (kb Qb),seamsL,if_neg (by rw [hsb]; decide),if_pos (by rw [hlast (by simp at g9_3; omega)]; exact of_decide_eq_true hc3)],rfl⟩
   refine au 3523014140120 ?_;refine bA [1,2,3] ?_;refine bC [(jb,_),(s,_)] ?_;exact Wj _ _ _ oQ ⟨i+1,(sm b i).step,rfl,oQ,by rw [<- Qz,zM (kb Qb),seamsL,if_neg (by rw [hsb]; decide),if_neg (by rw [hlast (by simp at g9_3; omega)]; exact of_decide_eq_false hc3)],fun _=>rfl,fun h=>by omega,rfl,rfl⟩
  refine ad [[11,4,49],[11,49,50],[11,1,49],[11,49,52],[11,3,49],[11,49,54],[11,49,53,55],[11,49,56],[11,49,57],[11,49,51,58],[6,49,59],[14]] ?_;refine au 3523014140120190 ?_;refine bA [1,2,3] ?_;refine bC [(jb,_),(s,_)] ?_;exact Wj _ _ _ oQ ⟨i+1,(sm b i).step,rfl,oQ,by have h0:=(zhc hsb).1; rw [<- Qz,zM (kb Qb),seamsL,if_neg (by rw [hsb]; decide),if_neg (by rw [hlast0 (by simp at g9_3; omega)]; omega)],fun _=>rfl,fun h=>by omega,rfl,rfl⟩
 obtain rfl:i=b.sE.length:=by simp at Jx; omega
 refine au 3542160 ?_;refine bB Wz [(s,_)] ?_;exact ⟨by rw [<- Qz,List.drop_length]; rfl,rfl⟩
theorem zhK {main T} (hT:zt tp main T) {gm} {b:RBk} {s h e:Nat} (hr:RndOk b) (hs:SmOk b) (hm:b.mE.length<=100) :
  zr tp T gm 55 [.agg (zH b s h e)] [(s,zp b),(h,zF b),(e,zz b)] (fun r K'=>r=za (if clothsM b≠0 then clothsM b else measM b)/\K'=[(s,zp b),(h,zF b),(e,zz b)]):=by
 refine zn 80 hT Tryz.func55 fun Y Wz=>?_;refine au 0 ?_;have hst:=hr.steps;have hl5:=hs.len;refine au 21042 ?_;intro jb hjb;refine au 93728069067028069067042235 ?_;constructor<;>intro Jz
 ·refine au 3542 ?_;refine bB Wz [(s,_),(h,_),(e,_)] ?_;exact ⟨by rw [show clothsM b=2 by unfold clothsM; rw [if_pos (by simp at Jz; omega)]]; rfl,rfl⟩
 have hle:b.sH.length=b.sE.length:=by simp at Jz; omega
 refine au 13035422120 ?_;refine bA [1,2,3] ?_;refine bE (fun n Wq K=>∃ (i:Nat),n=b.sH.length - i/\i<=b.sH.length/\clothsL b i (b.sH.drop i)=clothsM b/\Wq=.any::.ptr jb 0::za 0::za i::naL 76 []/\K=[(jb,.cells (zH b s h e) 26 tt),(s,zp b),(h,zF b),(e,zz b)]) b.sH.length ⟨0,rfl,mN _,by unfold clothsM; rw [if_neg (by simpa using hle)]; rfl,rfl,rfl⟩ fun n Wq K hI Wj=>?_;obtain ⟨i,rfl,hi,Qz,rfl,rfl⟩:=hI;refine bG nQ ?_;refine au 9372806906701422 ?_;constructor<;>intro Jx
 ·have Qb:i<b.sH.length:=by simp at Jx; omega
  refine au 3601690670421302120 ?_;refine bH Z (zS Z Z ze.h mQ (bd_at (i:=i) b Qb Z)) ?_;refine au 220 ?_;intro jx hjx;refine au 6804223170 ?_;refine TK.clE Z Z Z Z (zag hT (x:=bd b i)) ?_;refine au 1300 ?_;refine bF 29 (fun g7_4=>?_) (fun g7_4=>?_)
  ·refine au 35421803260888888 ?_;refine bB Wz [(s,_),(h,_),(e,_)] ?_;exact ⟨by rw [show clothsM b=1 by rw [<- Qz,zM (yT Qb),clothsL,if_pos (by simp at g7_4; simp [bandB,g7_4])]]; rfl,rfl⟩
  have hbd:0<=(bd b i).low/\(bd b i).low<=(bd b i).high/\(bd b i).high<=5:=by simp [isBd] at g7_4; omega
  refine au 932507240690670690670 ?_;constructor<;>intro hc2
  ·refine au 3542 ?_;refine bB Wz [(s,_),(h,_),(e,_)] ?_;exact ⟨by rw [show clothsM b=1 by rw [<- Qz,zM (yT Qb),clothsL,if_pos (by simp at g7_4 hc2; simp [bandB,g7_4] <;> omega)]]; rfl,rfl⟩
  have hbb:bandB (bd b i)=tt:=by simp at g7_4 hc2; simp [bandB,g7_4]; omega
  refine au 2120 ?_;refine bL [0,1,2,3,4,5] ?_;refine ad [[3,4],[10,37],[12,1],[1,3]] ?_;refine TD.clE (Wx:=[_,_]) [39,40] Z Z Z Z Z (zj6 hT (i:=i) hr hs oQ) ?_;refine ad [[4,38,41],[14]] ?_;refine au 9 ?_;constructor<;>intro hc3
  ·refine au 3542 ?_;refine bB Wz [(s,_),(h,_),(e,_)] ?_;exact ⟨by rw [show clothsM b=8 by rw [<- Qz,zM (yT Qb),clothsL,if_neg (by rw [hbb]; decide),if_pos (of_decide_eq_true hc3)]]; rfl,rfl⟩
  refine au 3523014140120 ?_;refine bA [1,2,3] ?_;refine bC [(jb,_),(s,_),(h,_),(e,_)] ?_;exact Wj _ _ _ oQ ⟨i+1,rfl,oQ,by rw [<- Qz,zM (yT Qb),clothsL,if_neg (by rw [hbb]; decide),if_neg (of_decide_eq_false hc3)],rfl,rfl⟩
 obtain rfl:i=b.sH.length:=by simp at Jx; omega
 have hcl:clothsM b=0:=by rw [<- Qz,List.drop_length]; rfl
 refine au 937280690670422160 ?_;constructor<;>intro hc4
 ·refine au 3542 ?_;refine bB Wz [(s,_),(h,_),(e,_)] ?_;exact ⟨by rw [if_neg (fun h=>h hcl),show measM b=2 by unfold measM; rw [if_pos (by simp at hc4; omega)]],rfl⟩
 refine au 13035422120 ?_;refine bA [1,2,5] ?_;refine bE (fun n Wq K=>∃ (i:Nat),n=b.mE.length - i/\i<=b.mE.length/\measL b (b.mE.drop i)=measM b/\Wq=.any::.ptr jb 0::za 0::naL 2 (za i::naL 74 [])/\K=[(jb,.cells (zH b s h e) 26 tt),(s,zp b),(h,zF b),(e,zz b)]) b.mE.length ⟨0,rfl,mN _,by unfold measM; rw [if_neg (by simp at hc4; omega)]; rfl,rfl,rfl⟩ fun n Wq K hI Wj=>?_;obtain ⟨i,rfl,hi,hinv2,rfl,rfl⟩:=hI;refine bG nQ ?_;refine au 9372806906701422 ?_;constructor<;>intro hc5
 ·have Qb:i<b.mE.length:=by simp at hc5; omega
  obtain ⟨x,hg⟩:∃ x,b.mE[i]? =some x:=⟨_,lA Qb⟩;refine au 3601690670421302120 ?_;refine bH Z (zS Z Z ze.h mQ (ze9 (i:=i) hg Z)) ?_;refine au 220 ?_;intro jy hjy;refine au 2402806906706906704223170 ?_;refine TK.clE Z Z Z Z (yk hT) ?_;refine au 93300 ?_;constructor<;>intro hc6
  ·refine au 3542 ?_;refine bB Wz [(s,_),(h,_),(e,_)] ?_;exact ⟨by rw [if_neg (fun h=>h hcl),<- hinv2,zM hg,measL,if_pos (by simp at hc6; simp [ym,hc6]),show ym b x.cloth=6 by simp at hc6; simp [ym,hc6]],rfl⟩
  refine au 28069067069067042120 ?_;refine TK.clE Z Z Z Z (yk hT) ?_;refine au 1300 ?_;refine bF 74 (fun g19_8=>?_) (fun g19_8=>?_)
  ·refine au 354218032608888 ?_;refine bB Wz [(s,_),(h,_),(e,_)] ?_;exact ⟨by rw [if_neg (fun h=>h hcl),<- hinv2,zM hg,measL,if_neg (by simp at hc6; simp [ym,hc6]),if_pos (by simp at g19_8; simp [measB,g19_8])],rfl⟩
  refine au 690670 ?_;refine TK.clE Z Z Z Z (yk hT) ?_;refine au 93250300 ?_;constructor<;>intro hc7
  ·refine au 3542 ?_;refine bB Wz [(s,_),(h,_),(e,_)] ?_;exact ⟨by rw [if_neg (fun h=>h hcl),<- hinv2,zM hg,measL,if_neg (by simp at hc6; simp [ym,hc6]),if_pos (by simp at g19_8 hc7; simp [measB,g19_8,hc7])],rfl⟩
  refine au 3523014140120 ?_;refine bA [1,2,5] ?_;refine bC [(jb,_),(s,_),(h,_),(e,_)] ?_;exact Wj _ _ _ oQ ⟨i+1,rfl,oQ,by rw [<- hinv2,zM hg,measL,if_neg (by simp at hc6; simp [ym,hc6]),if_neg (by simp at g19_8 hc7; simp [measB,g19_8,hc7])],rfl,rfl⟩
 obtain rfl:i=b.mE.length:=by simp at hc5; omega
 refine au 3542160 ?_;refine bB Wz [(s,_),(h,_),(e,_)] ?_;exact ⟨by rw [if_neg (fun h=>h hcl),<- hinv2,List.drop_length]; rfl,rfl⟩
theorem zdw {main T} (hT:zt tp main T) {gm} {b:RBk} {s h e:Nat} (hl:b.sE.length<=100) (hm:b.mE.length<=100) :
  zr tp T gm 16 [.agg (zH b s h e)] [(s,zp b),(h,zF b),(e,zz b)] (fun r K'=>r=za (zy b)/\K'=[(s,zp b),(h,zF b),(e,zz b)]):=by
 refine zn 35 hT Tryz.func16 fun Y Wz=>?_;refine au 21042 ?_;intro jb hjb;refine au 69067042235 ?_;refine TK.clE Z Z Z Z (yk hT) ?_;refine au 1300 ?_;refine bF 8 (fun g1_5=>?_) (fun g1_5=>?_)
 ·refine au 354218032608888126088881260888888 ?_;refine bB Wz [(s,_),(h,_),(e,_)] ?_;simp only [mV,mW] at g1_5;exact ⟨by rw [show zy b=1 by unfold zy; rw [if_pos (by rw [show roundsM b=1 by simp [roundsM,g1_5]]; decide)]; simp [roundsM,g1_5]],rfl⟩
 refine au 690670690670 ?_;refine TK.clE Z Z Z Z (yk hT) ?_;refine au 1250300 ?_;refine bF 16 (fun g1_13=>?_) (fun g1_13=>?_)
 ·refine au 35421803260888812608888 ?_;refine bB Wz [(s,_),(h,_),(e,_)] ?_;simp only [mV,mW] at g1_5 g1_13;exact ⟨by rw [show zy b=1 by unfold zy; rw [if_pos (by rw [show roundsM b=1 by simp [roundsM,g1_5,g1_13]]; decide)]; simp [roundsM,g1_5,g1_13]],rfl⟩
 refine au 690670 ?_;refine TK.clE Z Z Z Z (yk hT) ?_;refine au 1250300 ?_;refine bF 22 (fun g1_19=>?_) (fun g1_19=>?_)
 ·refine au 354218032608888 ?_;refine bB Wz [(s,_),(h,_),(e,_)] ?_;simp only [mV,mW] at g1_5 g1_13 g1_19;exact ⟨by rw [show zy b=1 by unfold zy; rw [if_pos (by rw [show roundsM b=1 by simp [roundsM,g1_5,g1_13,g1_19]]; decide)]; simp [roundsM,g1_5,g1_13,g1_19]],rfl⟩
 refine au 690670 ?_;refine TK.clE Z Z Z Z (yk hT) ?_;refine au 93250300 ?_;constructor<;>intro Jz
 ·refine au 3542 ?_;refine bB Wz [(s,_),(h,_),(e,_)] ?_;simp only [mV,mW] at g1_5 g1_13 g1_19 Jz;exact ⟨by rw [show zy b=1 by unfold zy; rw [if_pos (by rw [show roundsM b=1 by simp [roundsM,g1_5,g1_13,g1_19,Jz]]; decide)]; simp [roundsM,g1_5,g1_13,g1_19,Jz]],rfl⟩
 simp only [mV,mW] at g1_5 g1_13 g1_19 Jz;have hr0:roundsM b=0:=by simp [roundsM,g1_5,g1_13,g1_19,Jz]
 have hr:=zap hr0;refine au 680422120 ?_;refine TK.clE Z Z Z Z (zjI hT hr hl) ?_;refine au 93714235 ?_;constructor<;>intro Jx
 ·refine au 35142 ?_;refine bB Wz [(s,_),(h,_),(e,_)] ?_;exact ⟨by unfold zy; rw [if_neg (by simpa using hr0),if_pos (by simpa using Jx)],rfl⟩
 have hs0:seamsM b=0:=by simpa using Jx
 have hs:=za5 hs0;refine au 68042120 ?_;refine TK.clE Z Z Z Z (zhK hT hr hs hm) ?_;refine au 35 ?_;refine bB Wz [(s,_),(h,_),(e,_)] ?_;exact ⟨by rw [show zy b=(if clothsM b≠0 then clothsM b else measM b) by unfold zy; rw [if_neg (by simpa using hr0),if_neg (by simpa using hs0)]],rfl⟩
theorem znV {main T} (hT:zt tp main T) {gm} {b:RBk} {s h e:Nat} :
  zr tp T gm 4 [.agg (zH b s h e)] [(s,zp b),(h,zF b),(e,zz b)] (fun r K'=>r=zC (!greatM b&&decide (zy b=0))/\K'=[(s,zp b),(h,zF b),(e,zz b)]):=by
 refine zn 11 hT Tryz.func4 fun Y Wz=>?_;refine au 21042 ?_;intro jb hjb;refine au 6804235 ?_;refine bD Z Z Z Z (zkH hT) ?_ (hs:=(.none _));rintro r1 K2 ⟨rfl,rfl⟩;refine au 1300 ?_;refine bF 6 (fun g1_4=>?_) (fun g1_4=>?_)
 ·refine au 680 ?_;refine TK.clE Z Z Z Z (zdw hT (by simp [greatM] at g1_4; omega) (by simp [greatM] at g1_4; omega)) ?_;refine au 352607 ?_;refine bB Wz [(s,_),(h,_),(e,_)] ?_;exact ⟨by simp at g1_4; rw [g1_4]; simp; rfl,rfl⟩
 refine au 35250888 ?_;refine bB Wz [(s,_),(h,_),(e,_)] ?_;exact ⟨by simp at g1_4; rw [g1_4]; rfl,rfl⟩
theorem zcV {α:Type} {xs:List α} {p:α->Bool} {i:Nat} (h:i<xs.length) (hn:(xs.take i).any p=ff) (he:p xs[i]=ff):(xs.take (i+1)).any p=ff:=by
 rw [List.take_add_one,lA h,List.any_append,hn];simp [he]
theorem zdI {α:Type} (f:α->List AV) (hf:∀ x,(f x).all oneA=tt) (xs:List α):(xs.flatMap f).all oneA=tt:=by
 induction xs with
 | nil=>rfl
 | cons x xs ih=>rw [List.flatMap_cons,List.all_append,hf,ih]; rfl
def fcC (f:Int×Int):List AV:=[za f.1,za f.2]
def mv (a:Int):gV:=.int .i64 a
def fcV (f:Int×Int):gV:=.agg #[mv f.1,mv f.2]
theorem zoS {φ:Nat->Loc3} {n:Nat} (f:Int×Int):RelV φ n (.agg (fcC f)) (fcV f):=.agg rfl fun j a y ha hy=>by
 match j,ha,hy with
 | 0,ha,hy=>cases ha; cases hy; exact .v _
 | 1,ha,hy=>cases ha; cases hy; exact .v _
 | j+2,ha,hy=>cases ha
theorem uStr:tp.underlying 9=some .string:=by kernel_rfl
theorem ziD {e:Bool} (s:ByteArray):zO tp (Instr.checkKey e 10000 9 (.string s))=some ():=by
 show zO _ (Instr.checkKey e (9999+1) 9 _)=_;unfold Instr.checkKey;exact zP (ye uStr) rfl
def EnB (es:List MapEntry) (l:List (ByteArray×gV)):Prop:=es.map (fun e=>(e.key,e.val))=l.map fun p=>(Value.string p.1,p.2)
def MapB (ob:Obj) (l:List (ByteArray×gV)):Prop:=∃ es clock,ob=.map es clock/\EnB es.toList l
theorem ze7:MapB (.map #[] 0) []:=⟨#[],0,rfl,rfl⟩
def FoundB (s:ByteArray) (l:List (ByteArray×gV)) (i:Nat):Option (Nat×gV)->Prop
 | none=>∀ p∈l,p.1≠s
 | some (q,v)=>∃ j,q=i+j/\l[j]? =some (s,v)
theorem zet (a b:ByteArray):(a==b)=decide (a=b):=by
 obtain ⟨x⟩:=a;obtain ⟨y⟩:=b;have h:((ByteArray.mk x)==(ByteArray.mk y))=(x==y):=rfl;rw [h];by_cases e:x=y
 ·subst e; simp
 ·rw [beq_eq_false_iff_ne.2 e,decide_eq_false];intro h2;exact e (congrArg ByteArray.data h2)
theorem zeK {s:ByteArray}:∀ (es:List MapEntry) (l:List (ByteArray×gV)) (i:Nat),EnB es l->∃ r,Instr.findNow .string (.string s) es i=some r/\FoundB s l i r
 | [],[],_,_=>⟨none,rfl,fun p h=>by cases h⟩
 | [],_::_,_,h=>by simp [EnB] at h
 | _::_,[],_,h=>by simp [EnB] at h
 | e::es,p::l,i,h=>by
  simp only [EnB,List.map_cons,List.cons.injEq,Prod.mk.injEq] at h;obtain ⟨⟨h1,h2⟩,h3⟩:=h;unfold Instr.findNow;rw [h1];show ∃ r,(match some (s==p.1) with | some tt=>some (some (i,e.val)) | some ff=>Instr.findNow .string (.string s) es (i+1) | none=>none)=some r/\_;by_cases hs:s=p.1
  ·rw [show (s==p.1)=tt by rw [zet]; exact decide_eq_true hs];exact ⟨_,rfl,0,rfl,by rw [h2,List.getElem?_cons_zero,hs]⟩
  ·rw [show (s==p.1)=ff by rw [zet]; exact decide_eq_false hs];obtain ⟨r,q1,q2⟩:=zeK (s:=s) es l (i+1) h3;refine ⟨r,q1,?_⟩;cases r with
   | none =>
    intro p' hp';rcases lI.1 hp' with rfl | hp'
    ·exact fun e=>hs e.symm
    ·exact q2 p' hp'
   | some z =>
    obtain ⟨q,v⟩:=z;obtain ⟨j,q3,q4⟩:=q2;exact ⟨j+1,oQ,by rw [List.getElem?_cons_succ]; exact q4⟩
theorem ziN {s:ByteArray} {es:Array MapEntry} {l:List (ByteArray×gV)} (h:EnB es.toList l):∃ r,zO tp (Instr.findKey 9 (.string s) es.toList)=some r/\FoundB s l 0 r:=by
 obtain ⟨r,h1,h2⟩:=zeK (s:=s) es.toList l 0 h;refine ⟨r,?_,h2⟩;unfold Instr.findKey;refine zP (ye uStr) ?_;rw [h1];rfl
def setB (l:List (ByteArray×gV)) (s:ByteArray) (v:gV):Option (Nat×gV)->List (ByteArray×gV)
 | none=>l++[(s,v)]
 | some (q,_)=>l.set q (s,v)
theorem zlx (s:ByteArray):Instr.sameBits 10000 (.string s) (.string s)=tt:=by
 show Instr.sameBits (9999+1) (.string s) (.string s)=tt;simp [Instr.sameBits,zet]
structure KeyB (P:gP):Prop where
 ck:∀ e s,zO P (Instr.checkKey e 10000 9 (.string s))=some ()
 fd:∀ (s:ByteArray) (es:Array MapEntry) (l:List (ByteArray×gV)),EnB es.toList l->∃ r,zO P (Instr.findKey 9 (.string s) es.toList)=some r/\FoundB s l 0 r
theorem keyB:KeyB tp:=⟨fun _ s=>ziD s,fun s es l h=>ziN h⟩
section
variable {P:gP} {gm:Nat->Option Nat} {V:KV} {Wq:List AV} {o:gB}
theorem zln (hP:KeyB P) {t et:gT} {x y:gO} {j:Nat} {s:ByteArray} {ob:Obj} {l:List (ByteArray×gV)} {ti:TypeInfo} {z:gV} {av:gV->AV} (ho:o.op=.lookup t x y tt) (hx:zo gm Wq x=some (.map j)) (hy:zo gm Wq y=some (.v (.string s))) (ht:P.underlying t=some (.map 9 et)) (hi:P.info? et=some ti) (hz:ti.zero=some z) (hm:(j,.raw ob)∈V) (hf:MapB ob l) (hav:∀ φ n v,v=z\/(∃ p∈l,v=p.2)->RelV φ n (av v) v) :
  ∃ v ok,((ok=ff/\(∀ p∈l,p.1≠s)/\v=z)\/(ok=tt/\(s,v)∈l))/\Qk P gm Wq V o (.tup [av v,zC ok]):=by
 obtain ⟨es,c,rfl,hE⟩:=hf;obtain ⟨r,h1,h2⟩:=hP.fd s es l hE;have key:∀ v ok,((r=none/\v=z/\ok=ff)\/∃ q,r=some (q,v)/\ok=tt)->(v=z\/∃ p∈l,v=p.2)->Qk P gm Wq V o (.tup [av v,zC ok]):=fun v ok hq hv A hA φ F H a hg hH hE=>by
  unfold execOp; rw [ho];refine wpS_v ?_;have e1:=zD hg hE x;rw [zA hx] at e1;obtain ⟨hj,e1⟩:=vn e1;have e2:=zD hg hE y;rw [zA hy] at e2;rw [e1,inv_v e2];have hb:H (φ j).blk=some (tt,.map es c):=hH.obj j _ (hA.get hm);unfold Instr.lookup;refine zf _ _ _ (zJ ht ?_);dsimp only;refine zf _ _ _ ?_;refine ⟨tt,_,hb,rfl,rfl,?_⟩;refine zf _ _ _ ?_;rw [yV];refine zf _ _ _ (ko _ (hP.ck _ _) ?_);refine zf _ _ _ (ko _ h1 ?_);have hend:RelV φ A.length (.tup [av v,zC ok]) (.tuple #[v,.bool ok]):=.tup rfl fun k u w hu hw=>by
   match k,hu,hw with
   | 0,hu,hw=>cases hu; cases hw; exact hav _ _ _ hv
   | 1,hu,hw=>cases hu; cases hw; exact .v _
   | k+2,hu,hw=>cases hu
  rcases hq with ⟨rfl,rfl,rfl⟩ | ⟨q,rfl,rfl⟩
  ·exact zf _ _ _ (yU hi hz (zZ.quiet hH hend))
  ·exact zZ.quiet hH hend
 cases r with
 | none=>exact ⟨z,ff,.inl ⟨rfl,h2,rfl⟩,key z ff (.inl ⟨rfl,rfl,rfl⟩) (.inl rfl)⟩
 | some w =>
  obtain ⟨q,v⟩:=w;obtain ⟨i,_,h3⟩:=h2;have hm':=lN h3;exact ⟨v,tt,.inr ⟨rfl,hm'⟩,key v tt (.inr ⟨q,rfl,rfl⟩) (.inr ⟨_,hm',rfl⟩)⟩
theorem zoU (hP:KeyB P) {t et:gT} {x y w:gO} {j:Nat} {s:ByteArray} {ob:Obj} {l:List (ByteArray×gV)} {aw:AV} {v:gV} (ho:o.op=.mapUpdate t x y w) (hx:zo gm Wq x=some (.map j)) (hy:zo gm Wq y=some (.v (.string s))) (hw:zo gm Wq w=some aw) (haw:toV aw=some v) (ht:P.underlying t=some (.map 9 et)) (hm:(j,.raw ob)∈V) (hf:MapB ob l) :
  ∃ ob' r,FoundB s l 0 r/\MapB ob' (setB l s v r)/\∀ A,zV V A->OpOk P gm Wq A o .any (A.set j (.raw ob')):=by
 obtain ⟨es,c,rfl,hE⟩:=hf;obtain ⟨r,h1,h2⟩:=hP.fd s es l hE;have key:∀ ob',MapB ob' (setB l s v r)->(∀ (H:Hp) (b:Nat) (Q:Unit->Hp->Prop),H b=some (tt,.map es c)->Q () (H.put b (tt,ob'))->wpS P (match r with | some (i,_)=>Instr.keyThatStays (((es[i]?).map (·.key)).getD (.string s)) (.string s) >>= fun key=>setObj b (.map (es.modify i fun e=>{ e with key:=key,val:=v }) c) | none=>setObj b (.map (es.push { key:=.string s,val:=v,born:=c }) (c+1))) H Q)->∃ ob' r,FoundB s l 0 r/\MapB ob' (setB l s v r)/\∀ A,zV V A->OpOk P gm Wq A o .any (A.set j (.raw ob')):=fun ob' hob hq=>by
  refine ⟨ob',r,h2,hob,fun A hA φ F H a hg hH hE=>?_⟩;unfold execOp; rw [ho];refine wpS_u ?_;have e1:=zD hg hE x;rw [zA hx] at e1;obtain ⟨hj,e1⟩:=vn e1;have e2:=zD hg hE y;rw [zA hy] at e2;have e3:=zD hg hE w;rw [zA hw] at e3;rw [e1,inv_v e2,uY haw e3];have hb:H (φ j).blk=some (tt,.map es c):=hH.obj j _ (hA.get hm);unfold Instr.mapUpdate;refine zf _ _ _ (zJ ht ?_);dsimp only;refine zf _ _ _ ?_;refine ⟨tt,_,hb,rfl,rfl,?_⟩;refine zf _ _ _ (ko _ (hP.ck _ _) ?_);refine zf _ _ _ (ko _ h1 ?_);exact hq H _ _ hb ⟨undef,φ,.inr ⟨rfl,rfl⟩,Agr.refl _ _,by simp,hH.set (hA.get hm) rfl trivial (Hp.put_same _ _ _),.any _⟩
 cases r with
 | none =>
  refine key (.map (es.push { key:=.string s,val:=v,born:=c }) (c+1)) ⟨_,_,rfl,?_⟩ fun H b Q hb hq=>⟨_,hb,rfl,rfl,hq⟩;show EnB (es.push _).toList (l++[(s,v)]);unfold EnB at hE ⊢;rw [Array.toList_push,lM,lM,hE];rfl
 | some z =>
  obtain ⟨q,v0⟩:=z;obtain ⟨i,hqi,h3⟩:=h2;obtain rfl:q=i:=by omega
  have hq2:∃ en,es[q]? =some en/\en.key=.string s:=by
   unfold EnB at hE;have h4:=congrArg (fun l=>l[q]?) hE;simp only [lQ,h3,Option.map_some,mI] at h4;cases hes:es[q]? with
   | none=>rw [hes] at h4; cases h4
   | some en =>
    rw [hes] at h4;simp only [Option.map_some,Option.some.injEq,Prod.mk.injEq] at h4;exact ⟨en,rfl,h4.1⟩
  obtain ⟨en,he1,he2⟩:=hq2;refine key (.map (es.modify q fun e=>{ e with key:=.string s,val:=v }) c) ⟨_,_,rfl,?_⟩ fun H b Q hb hq=>?_
  ·show EnB (es.modify q _).toList (l.set q (s,v));unfold EnB at hE ⊢;rw [Array.toList_modify,List.map_set,<- hE];refine List.ext_getElem? fun k=>?_;rw [lQ,List.getElem?_modify,List.getElem?_set,lQ];by_cases hk:q=k
   ·subst hk;have hl:q<es.toList.length:=by
     have:=(Array.getElem?_eq_some_iff.1 he1).1;simpa using this
    rw [if_pos rfl,lJ,if_pos hl,mI,he1];simp
   ·rw [if_neg hk];cases es.toList[k]? with
    | none=>rfl
    | some e=>simp [hk]
  ·dsimp only;rw [he1];have hks:Instr.keyThatStays (((some en).map (·.key)).getD (.string s)) (.string s)=(pure (.string s):Sem gV):=by
    show Instr.keyThatStays en.key (.string s)=_;rw [he2];unfold Instr.keyThatStays;rw [zlx];rfl
   rw [hks];refine zf _ _ _ ?_;rw [yV];exact ⟨_,hb,rfl,rfl,hq⟩
theorem zlo (hP:KeyB P) {t et:gT} {x y:gO} {j:Nat} {s:ByteArray} {ob:Obj} {l:List (ByteArray×gV)} {ti:TypeInfo} {z:gV} {az:AV} (ho:o.op=.lookup t x y ff) (hx:zo gm Wq x=some (.map j)) (hy:zo gm Wq y=some (.v (.string s))) (ht:P.underlying t=some (.map 9 et)) (hi:P.info? et=some ti) (hz:ti.zero=some z) (haz:∀ φ n,RelV φ n az z) (hm:(j,.raw ob)∈V) (hf:MapB ob l) (hno:∀ v,(s,v)∉l):Qk P gm Wq V o az:=by
 obtain ⟨es,c,rfl,hE⟩:=hf;obtain ⟨r,h1,h2⟩:=hP.fd s es l hE;intro A hA φ F H a hg hH hE;unfold execOp; rw [ho];refine wpS_v ?_;have e1:=zD hg hE x;rw [zA hx] at e1;obtain ⟨hj,e1⟩:=vn e1;have e2:=zD hg hE y;rw [zA hy] at e2;rw [e1,inv_v e2];have hb:H (φ j).blk=some (tt,.map es c):=hH.obj j _ (hA.get hm);unfold Instr.lookup;refine zf _ _ _ (zJ ht ?_);dsimp only;refine zf _ _ _ ?_;refine ⟨tt,_,hb,rfl,rfl,?_⟩;refine zf _ _ _ ?_;rw [yV];refine zf _ _ _ (ko _ (hP.ck _ _) ?_);refine zf _ _ _ (ko _ h1 ?_);cases r with
 | none=>exact zf _ _ _ (yU hi hz (zZ.quiet hH (haz _ _)))
 | some w =>
  obtain ⟨q,v⟩:=w;obtain ⟨i,_,h3⟩:=h2;exact absurd (lN h3) (hno v)
end
section
variable {P:gP} {gm:Nat->Option Nat} {T:gG->Hp->Prop} {Y:KX P gm T} {ds:List Nat} {k:List Item} {Wq:List AV} {K:KV} {Qy:Array gB} {i:Nat} {Wp:List Nat} {o:gB}
theorem TK.updB (hP:KeyB P) {t et:gT} {x y w:gO} {j:Nat} {s:ByteArray} {ob:Obj} {l:List (ByteArray×gV)} {aw:AV} {v:gV} {K':Obj->KV} (ho:Qy[i]? =some o) (Qw:o.op=.mapUpdate t x y w) (hd:yi o.op=ff) (hwa:zL Qy Wq o=some tt) (hdst:o.dst=none) (hx:zo gm Wq x=some (.map j)) (hy:zo gm Wq y=some (.v (.string s))) (hw:zo gm Wq w=some aw) (haw:toV aw=some v) (ht:P.underlying t=some (.map 9 et)) (hm:(j,.raw ob)∈K) (hf:MapB ob l)
  (hu:∀ ob',Upd K j (.raw ob) j (.raw ob') (K' ob')) (h:∀ ob' r,FoundB s l 0 r->MapB ob' (setB l s v r)->TK Y ds (.inRegion Qy Wp::k) Wq (K' ob')):TK Y ds (.inRegion Qy (i::Wp)::k) Wq K:=by
 obtain ⟨ob',r,h0,h1,h2⟩:=zoU (V:=K) hP Qw hx hy hw haw ht hm hf;exact TK.st ho hd hwa h2 (hu ob') (by rw [hdst]; rfl) (h ob' r h0 h1)
theorem TK.lookB2 (hP:KeyB P) {t et:gT} {x y:gO} {j:Nat} {s:ByteArray} {ob:Obj} {l:List (ByteArray×gV)} {ti:TypeInfo} {z:gV} {av:gV->AV} (ho:Qy[i]? =some o) (Qw:o.op=.lookup t x y tt) (hd:yi o.op=ff) (hwa:zL Qy Wq o=some tt) (hx:zo gm Wq x=some (.map j)) (hy:zo gm Wq y=some (.v (.string s))) (ht:P.underlying t=some (.map 9 et)) (hi:P.info? et=some ti) (hz:ti.zero=some z) (hm:(j,.raw ob)∈K) (hf:MapB ob l) (hav:∀ φ n v,v=z\/(∃ p∈l,v=p.2)->RelV φ n (av v) v)
  (h:∀ v ok,((ok=ff/\(∀ p∈l,p.1≠s)/\v=z)\/(ok=tt/\(s,v)∈l))->TK Y ds (.inRegion Qy Wp::k) (zU Wq o.dst (.tup [av v,zC ok])) K):TK Y ds (.inRegion Qy (i::Wp)::k) Wq K:=by
 obtain ⟨v,ok,h1,h2⟩:=zln (V:=K) hP Qw hx hy ht hi hz hm hf hav;exact TK.q ho hd hwa h2 rfl (h v ok h1)
end
theorem ve {K:KV} {x:Nat×AObj}:x∈K->∃ R,Rem K x R:=by
 induction K with
 | nil=>intro h; cases h
 | cons y K ih =>
  intro h;rcases lI.1 h with rfl | h
  ·exact ⟨_,.head⟩
  ·obtain ⟨R,hR⟩:=ih h;exact ⟨_,.tail hR⟩
theorem not_f {a:Bool} (h:(!a)=tt):a=ff:=by cases a <;> simp_all
theorem fl_at {α:Type} {f:α->List AV} {c:Nat} (hc:∀ x,(f x).length=c) {xs:List α} {x:α} {i:Nat} {n:Int} {e:gT} {rw':Bool} (h:xs[i]? =some x) (hn:n=(i:Int)) (h0:0<c):yj (.cells (xs.flatMap f) e rw') (0+n.toNat*c) c=some (f x):=wS (c:=c) hc h hn h0
def byteOk (i:Nat) (c:Int):Bool:=(decide (97<=c)&&decide (c<=122))||((decide ((i:Int)>0)&&decide (48<=c))&&decide (c<=57))
def bytesOk (s:ByteArray) (n:Nat):Bool:=(List.range n).all fun i=>byteOk i (((s.data[i]?).map fun b=>(b.toNat:Int)).getD 0)
def isNameM (s:ByteArray):Bool:=bytesOk s s.size&&(decide (1<=(s.size:Int))&&decide ((s.size:Int)<=12))
theorem zaM {s:ByteArray} {i:Nat} {c:UInt8} (h:s.data[i]? =some c):bytesOk s (i+1)=(bytesOk s i&&byteOk i c.toNat):=by
 unfold bytesOk;rw [List.range_succ,List.all_append];simp [h]
theorem zbE {s:ByteArray} {i n:Nat} {c:UInt8} (h:s.data[i]? =some c) (hi:i<n) (hb:byteOk i c.toNat=ff):bytesOk s n=ff:=by
 unfold bytesOk;rw [List.all_eq_false];exact ⟨i,List.mem_range.2 hi,by simp [h,hb]⟩
theorem zaL {i:Nat} {c:Int} (h:(!(decide (97<=c)&&decide (c<=122)))=tt) (h2:((i:Int)==0)=tt):byteOk i c=ff:=by
 unfold byteOk;rw [show (decide (97<=c)&&decide (c<=122))=ff from not_f h,show (i:Int)=0 by simpa using h2]; rfl
theorem vr {i:Nat} {c:Int} (h:(!(decide (97<=c)&&decide (c<=122)))=tt) (h2:((i:Int)==0)=ff):byteOk i c=(decide (48<=c)&&decide (c<=57)):=by
 unfold byteOk;rw [show (decide (97<=c)&&decide (c<=122))=ff from not_f h,show decide ((i:Int)>0)=tt by have:(i:Int)≠0:=(by simpa using h2); simp; omega]; rfl
theorem zhB {s:ByteArray} {n i:Nat} {c:UInt8} (h:bytesOk s n=tt) (hi:i<n) (hc:s.data[i]? =some c):byteOk i c.toNat=tt:=by
 unfold bytesOk at h;have:=List.all_eq_true.1 h i (List.mem_range.2 hi);simpa [hc] using this
theorem uh {α:Type} {l:List α} {i:Nat} {y:α} (h:l[i]? =some y):l.take (i+1)=l.take i++[y]:=by rw [List.take_add_one,h]; rfl
def mkC (m:MkR):List AV:=[.v (.string m.what),za m.col,za m.row]
def skC (p:Nat×SkT):List AV:=[.v (.string p.2.name),za p.2.flo,za p.2.fhi,za p.2.wide,za p.2.slo,za p.2.shi,.sl p.1 0 p.2.mK.length]
def stpC (st wr:Int) (g:Nat) (Zq:List (Nat×SkT)):List AV:=[za st,za wr,.sl g 0 Zq.length]
abbrev mkO (x:SkT):AObj:=.cells (x.mK.flatMap mkC) 98 ff
abbrev skO (Zq:List (Nat×SkT)):AObj:=.cells (Zq.flatMap skC) 95 ff
def mkK (Zq:List (Nat×SkT)):KV:=Zq.map fun p=>(p.1,mkO p.2)
def skB (st wr:Int) (Zq:List (Nat×SkT)):StpB:=⟨st,wr,Zq.map (·.2)⟩
structure SkOk (steps:Int) (x:SkT):Prop where
 nam:isNameM x.name=tt
 fr:0<=x.flo/\x.flo<=x.fhi/\x.fhi<=steps - 1/\x.fhi - x.flo<3
 wd:1<=x.wide/\x.wide<=steps
 se : -3<=x.slo/\x.slo<=x.shi/\x.shi<=3/\x.shi - x.slo<3
 nm:x.mK.length<=4
 mks:∀ m∈x.mK,isNameM m.what=tt/\0<=m.col/\m.col<=x.wide - 1 /\ -9<=m.row/\m.row<=9
 two:x.mK.Pairwise fun m n=>m.what.toList≠n.what.toList
def waysX (x:SkT):Int:=(x.fhi - x.flo+1)*(x.shi - x.slo+1)
def waysI:List SkT->Int->Int
 | [],n=>n
 | x::l,n=>waysI l (n*waysX x)
structure StpOk (b:StpB):Prop where
 st:4<=b.steps/\b.steps<=24
 wr:0<=b.wrong/\b.wrong<=2
 ns:1<=b.sks.length/\b.sks.length<=4
 sk:∀ x∈b.sks,SkOk b.steps x
 two:b.sks.Pairwise fun x y=>x.name.toList≠y.name.toList
 wy:waysI b.sks 1<=200
theorem z_len (Zq:List (Nat×SkT)):(Zq.map (·.2)).length=Zq.length:=lJ ..
theorem zOk {st wr:Int} {Zq:List (Nat×SkT)} (hb:StpOk (skB st wr Zq)) {i:Nat} {p:Nat×SkT} (h:Zq[i]? =some p):SkOk st p.2:=hb.sk _ (lY.2 ⟨p,lN h,rfl⟩)
theorem zN {st wr:Int} {Zq:List (Nat×SkT)} (hb:StpOk (skB st wr Zq)):1<=Zq.length/\Zq.length<=4:=by
 have:=hb.ns;rwa [show (skB st wr Zq).sks.length=Zq.length from z_len Zq] at this
theorem sk_at {Zq:List (Nat×SkT)} {i:Nat} {n:Int} {p:Nat×SkT} {e:gT} {rw':Bool} (h:Zq[i]? =some p) (hn:n=(i:Int)):yj (.cells (Zq.flatMap skC) e rw') (0+n.toNat*7) 7=some (skC p):=fl_at (c:=7) (fun _=>rfl) h hn dQ
theorem mk_at {x:SkT} {i:Nat} {n:Int} {m:MkR} {e:gT} {rw':Bool} (h:x.mK[i]? =some m) (hn:n=(i:Int)):yj (.cells (x.mK.flatMap mkC) e rw') (0+n.toNat*3) 3=some (mkC m):=fl_at (c:=3) (fun _=>rfl) h hn dQ
theorem v8 {Zq:List (Nat×SkT)} {i:Nat} {p:Nat×SkT} (h:Zq[i]? =some p):(p.1,mkO p.2)∈mkK Zq:=lY.2 ⟨p,lN h,rfl⟩
def MksAt (ob:AObj) (off:Nat) (xs:List MkR):Prop:=∀ (i:Nat) (h:i<xs.length),yj ob (off+(i:Int).toNat*3) 3=some (mkC xs[i])
theorem zkV (x:SkT) (i:Nat):MksAt (mkO x) 0 (x.mK.take i):=fun k h=>by
 rw [List.length_take] at h;rw [List.getElem_take];exact mk_at (lA oQ) rfl
theorem zo4 {x:SkT} {g i:Nat} (h:i<=x.mK.length):subA g 0 3 0 ((i:Int).toNat)=.sl g 0 (x.mK.take i).length:=by
 rw [List.length_take,Nat.min_eq_left h];rfl
theorem znS {l:List MkR} (hp:l.Pairwise fun m n=>m.what.toList≠n.what.toList) {i:Nat} {m:MkR} (hx:l[i]? =some m):((l.take i).any fun o=>o.what.toList==m.what.toList)=ff:=by
 rw [List.any_eq_false];intro o ho;obtain ⟨k,hk,rfl⟩:=List.getElem_of_mem ho;rw [List.length_take] at hk;obtain ⟨h1,h2⟩:=lD.1 hx;have:=List.pairwise_iff_getElem.1 hp k i oQ h1 oQ;rw [List.getElem_take];rw [h2] at this;intro he;exact this (by simpa using he)
theorem zkZ {st wr:Int} {Zq:List (Nat×SkT)} (hb:StpOk (skB st wr Zq)) {i:Nat} {p:Nat×SkT} (hx:Zq[i]? =some p):∀ q∈Zq.take i,q.2.name≠p.2.name:=fun q hq=>by
 obtain ⟨k,hk,rfl⟩:=List.getElem_of_mem hq;rw [List.length_take] at hk;obtain ⟨h1,h2⟩:=lD.1 hx;have h3:(Zq.map (·.2)).Pairwise fun x y=>x.name.toList≠y.name.toList:=hb.two;have:=List.pairwise_iff_getElem.1 h3 k i (by rw [z_len]; omega) (by rw [z_len]; exact h1) oQ;rw [List.getElem_map,List.getElem_map,h2] at this;rw [List.getElem_take];exact fun e=>this (congrArg ByteArray.toList e)
def namesL (Zq:List (Nat×SkT)) (i:Nat):List (ByteArray×gV):=(Zq.take i).map fun p=>(p.2.name,Value.bool tt)
theorem zk0 {Zq:List (Nat×SkT)} {i:Nat} {p:Nat×SkT} (h:Zq[i]? =some p):namesL Zq (i+1)=namesL Zq i++[(p.2.name,.bool tt)]:=by
 unfold namesL;rw [uh h,lM]; rfl
theorem zcw {st wr:Int} {Zq:List (Nat×SkT)} (hb:StpOk (skB st wr Zq)) {i:Nat} {p:Nat×SkT} (hx:Zq[i]? =some p) {v:gV} (h:(p.2.name,v)∈namesL Zq i):False:=by
 obtain ⟨q,hq,e⟩:=lY.1 h;exact zkZ hb hx q hq (congrArg Prod.fst e)
theorem zi7 {st wr:Int} {Zq:List (Nat×SkT)} (hb:StpOk (skB st wr Zq)) {i:Nat} {p:Nat×SkT} (hx:Zq[i]? =some p) {r:Option (Nat×gV)} (h:FoundB p.2.name (namesL Zq i) 0 r):setB (namesL Zq i) p.2.name (.bool tt) r=namesL Zq (i+1):=by
 cases r with
 | none=>exact (zk0 hx).symm
 | some z =>
  obtain ⟨q,v⟩:=z;obtain ⟨j,_,h2⟩:=h;exact (zcw hb hx (lN h2)).elim
theorem zj3 {l:List SkT} {i:Nat} {x:SkT} {n:Int} (h:l[i]? =some x):waysI (l.take (i+1)) n=waysI (l.take i) n*waysX x:=by
 induction l generalizing i n with
 | nil=>simp at h
 | cons y l ih =>
  cases i with
  | zero=>cases h; rfl
  | succ i=>exact ih (i:=i) (n:=n*waysX y) h
theorem uk {st:Int} {x:SkT} (h:SkOk st x):1<=waysX x/\waysX x<=9:=by
 have h1:=h.fr;have h2:=h.se;unfold waysX;have a1:x.fhi - x.flo=0\/x.fhi - x.flo=1\/x.fhi - x.flo=2:=by omega
 have a2:x.shi - x.slo=0\/x.shi - x.slo=1\/x.shi - x.slo=2:=by omega
 rcases a1 with e1 | e1 | e1 <;> rcases a2 with e2 | e2 | e2 <;> rw [e1,e2] <;> decide
theorem zdm {st:Int}:∀ {l:List SkT} (n:Int),(∀ x∈l,SkOk st x)->1<=n->1<=waysI l n/\waysI l n<=n*9 ^ l.length
 | [],n,_,h=>⟨h,by simp [waysI]⟩
 | x::l,n,hl,h=>by
  have hx:=uk (hl x sQ);have h1:1<=n*waysX x:=by have:=Int.mul_le_mul h hx.1 dQ oQ; simpa using this
  have h2:=zdm (n*waysX x) (fun y hy=>hl y (List.mem_cons_of_mem _ hy)) h1;refine ⟨h2.1,Int.le_trans h2.2 ?_⟩;rw [lZ,Int.pow_succ,Int.mul_comm (9 ^ l.length) 9,<- Int.mul_assoc];exact Int.mul_le_mul_of_nonneg_right (Int.mul_le_mul_of_nonneg_left hx.2 oQ) (Int.pow_nonneg dQ)
theorem zef {st:Int} {l:List SkT} (hl:∀ x∈l,SkOk st x) {i:Nat} (h:i<=4):1<=waysI (l.take i) 1/\waysI (l.take i) 1<=6561:=by
 have h1:=zdm (l:=l.take i) 1 (fun x hx=>hl x (List.mem_of_mem_take hx)) dQ;refine ⟨h1.1,Int.le_trans h1.2 ?_⟩;have h2:(l.take i).length<=4:=by rw [List.length_take]; omega
 have h3:(l.take i).length=0\/(l.take i).length=1\/(l.take i).length=2\/(l.take i).length=3\/(l.take i).length=4:=by omega
 rcases h3 with e | e | e | e | e <;> rw [e] <;> decide
theorem zm2 {a x:Nat×AObj} {L R:KV} (h:Rem L x R):(a::L).Perm ([x,a]++R):=(List.Perm.cons _ h.perm).trans (List.Perm.swap _ _ _)
def spChecksG:AObj:=.cells [.fn 223 [] [],.fn 224 [] [],.fn 225 [] []] 219 ff
instance:ArEl tp 219 3 218 ff 1:={}
instance:BlOf tp 105 [(0,3)]:={}
instance:zl tp 105 0 0 tt 3:={}
instance:zl tp 29 0 0 ff 1:={}
instance:zl tp 29 1 1 ff 1:={}
instance:zl tp 29 2 2 ff 1:={}
instance:zl tp 95 0 0 ff 1:={}
instance:zl tp 95 1 1 tt 2:={}
instance:zl tp 95 2 3 ff 1:={}
instance:zl tp 95 3 4 tt 2:={}
instance:zl tp 95 4 6 ff 1:={}
instance:zl tp 98 0 0 ff 1:={}
instance:zl tp 98 1 1 ff 1:={}
instance:zl tp 98 2 2 ff 1:={}
instance:InfO tp 4 Tryz.t4:={}
instance:zq tp 27 95 7:={}
instance:zq tp 93 98 3:={}
instance:ze tp 219 tt 3:={}
instance:ze tp 27 ff 1:={}
instance:ze tp 29 tt 3:={}
instance:ze tp 9 ff 1:={}
instance:ze tp 93 ff 1:={}
instance:ze tp 95 tt 7:={}
instance:ze tp 98 tt 3:={}
instance:TyZ tp 105 [.int .i64 0,.int .i64 0,.slice none 0 0]:={}
instance:TyZA tp 95 [.v (.string ⟨#[]⟩),.v (.int .i64 0),.v (.int .i64 0),.v (.int .i64 0),.v (.int .i64 0),.v (.int .i64 0),.v (.slice none 0 0)]:={}
instance:TyZA tp 98 [.v (.string ⟨#[]⟩),.v (.int .i64 0),.v (.int .i64 0)]:={}
instance:Und tp 27 (.slice 95):={}
instance:Und tp 310 (.map 9 4):={}
instance:Und tp 93 (.slice 98):={}
theorem kW {main T} (hT:zt tp main T) {gm} {n lo hi:Int} :
  zr tp T gm 97 [za n,za lo,za hi] [] (fun r K'=>r=zC (decide (lo<=n)&&decide (n<=hi))/\K'=[]):=by
 refine zn 15 hT Tryz.func97 fun Y Wz=>?_;refine au 1711423542 ?_;refine bF 10 (fun g1_4=>?_) (fun g1_4=>?_)
 ·refine au 35260711 ?_;refine TK.rta Wz ?_;exact ⟨by simp [zC, *],rfl⟩
 refine au 35250888 ?_;refine TK.rta Wz ?_;exact ⟨by simp [zC, *],rfl⟩
theorem zd4 {main T} (hT:zt tp main T) {gm} {x y lo hi many:Int} (hx : -1000<=x/\x<=1000 /\ -1000<=y/\y<=1000) (h:lo<=x/\x<=y/\y<=hi/\y - x<many) :
  zr tp T gm 227 [.agg [za x,za y],za lo,za hi,za many] [] (fun r K'=>r=zC tt/\K'=[]):=by
 refine zn 35 hT Tryz.func227 fun Y Wz=>?_;refine au 21042 ?_;intro j1 hj1;refine au 1769067014235 ?_;refine bF 13 (fun g1_5=>?_) (fun g1_5=>?_)
 ·refine au 12607690670690670 ?_;refine bF 20 (fun g1_12=>?_) (fun g1_12=>?_)
  ·refine au 126071690670 ?_;refine bF 26 (fun g1_18=>?_) (fun g1_18=>?_)
   ·refine au 3526071240690670690670 ?_;refine bB Wz [] ?_;exact ⟨by simp [zC, *],rfl⟩
   simp at g1_18; omega
  simp at g1_12; omega
 simp at g1_5; omega
theorem zgm {main T} (hT:zt tp main T) {gm} {c:UInt8} :
  zr tp T gm 230 [.v (.int .u8 c.toNat)] [] (fun r K'=>r=zC (decide ((97:Int)<=c.toNat)&&decide ((c.toNat:Int)<=122))/\K'=[]):=by
 refine zn 9 hT Tryz.func230 fun Y Wz=>?_;refine au 171423542 ?_;refine bF 5 (fun g1_3=>?_) (fun g1_3=>?_)
 ·refine au 3526071 ?_;refine TK.rta Wz ?_;exact ⟨by simp [zC, *],rfl⟩
 refine au 3525088 ?_;refine TK.rta Wz ?_;exact ⟨by simp [zC, *],rfl⟩
theorem zd6 {main T} (hT:zt tp main T) {gm} {s:ByteArray} (hn:isNameM s=tt) :
  zr tp T gm 226 [.v (.string s)] [] (fun r K'=>r=zC tt/\K'=[]):=by
 refine zn 34 hT Tryz.func226 fun Y Wz=>?_;refine au 0 ?_;obtain ⟨hby,hsz⟩:=Bool.and_eq_true_iff.1 (show (bytesOk s s.size&&(decide (1<=(s.size:Int))&&decide ((s.size:Int)<=12)))=tt from hn);have hsz2:1<=s.size/\s.size<=12:=by simp at hsz; omega
 refine au 13031290142235423542 ?_;refine bA [0,3,7,8] ?_;refine bE (fun n Wq K=>∃ (i:Nat),n=s.size - i/\i<=s.size/\Wq=.v (.string s)::naL 2 (.fn 230 [] []::naL 3 (za s.size::za i::naL 25 []))/\K=[]) (s.size) ⟨0,rfl,mN _,rfl,rfl⟩ fun n Wq K hI Wj=>?_;obtain ⟨i,rfl,hi,rfl,rfl⟩:=hI;refine bG nQ ?_;refine au 923742 ?_;refine ⟨fun hc=>?_,fun hc=>?_⟩
 ·simp only [decide_eq_true_eq] at hc;have Qb:i<s.data.size:=by have:s.data.size=s.size:=rfl; omega
  obtain ⟨cb,hcb⟩:∃ cb,s.data[i]? =some cb:=⟨_,Array.getElem?_eq_getElem Qb⟩;have hbo:=zhB hby (show i<s.size from Qb) hcb;have hcs:s[(i:Int).toNat]? =some cb:=hcb;refine au 1142351421302120 ?_;refine bH Z (wA Z Z Z Und.h oQ hcs) ?_;refine au 114235 ?_;refine TK.clE Z Z Z Z (zgm hT (c:=cb)) ?_;refine au 1300 ?_;refine bF 18 (fun g6_5=>?_) (fun g6_5=>?_)
  ·refine au 171 ?_;refine bF 21 (fun g6_8=>?_) (fun g6_8=>?_)
   ·exact absurd hbo (by rw [zaL g6_5 g6_8]; decide)
   refine au 125071 ?_;refine bF 25 (fun g6_12=>?_) (fun g6_12=>?_)
   ·exact absurd hbo (by rw [vr g6_5 g6_8]; simp at g6_12 ⊢; omega)
   refine au 9326025071 ?_;constructor<;>intro Jx
   ·exact absurd hbo (by rw [vr g6_5 g6_8]; simp at Jx ⊢; omega)
   refine au 312304140120 ?_;refine bA [0,3,7,8] ?_;exact Wj _ _ _ oQ ⟨i+1,rfl,oQ,rfl,rfl⟩
  refine au 31230414012019032508888888888 ?_;refine bA [0,3,7,8] ?_;exact Wj _ _ _ oQ ⟨i+1,rfl,oQ,rfl,rfl⟩
 simp only [decide_eq_false_iff_not] at hc;obtain rfl:i=s.size:=by omega
 refine au 290142160 ?_;refine TK.clE Z Z Z Z (kW hT) ?_;refine au 35 ?_;refine bB Wz [] ?_;exact ⟨by rw [hsz],rfl⟩
theorem zfN {main T} (hT:zt tp main T) {gm} {st wr:Int} {g:Nat} {Zq:List (Nat×SkT)} (hb:StpOk (skB st wr Zq)) :
  zr tp T gm 223 [.agg (stpC st wr g Zq)] [] (fun r K'=>r=za 0/\K'=[]):=by
 refine zn 21 hT Tryz.func223 fun Y Wz=>?_;refine au 0 ?_;have h1:4<=st/\st<=24:=hb.st;have h2:0<=wr/\wr<=2:=hb.wr;have h3:=zN hb;refine au 21042 ?_;intro jb hjb;refine au 69067067042235 ?_;refine TK.clE Z Z Z Z (kW hT) ?_;refine au 1300 ?_;refine bF 8 (fun g1_6=>?_) (fun g1_6=>?_)
 ·simp at g1_6; omega
 refine au 690670670 ?_;refine TK.clE Z Z Z Z (kW hT) ?_;refine au 93250300 ?_;constructor<;>intro Jz
 ·simp at Jz; omega
 refine au 280690670670422120 ?_;refine TK.clE Z Z Z Z (kW hT) ?_;refine au 93300 ?_;constructor<;>intro Jx
 ·simp at Jx; omega
 refine au 3542120 ?_;refine bB Wz [] ?_;exact ⟨rfl,rfl⟩
theorem zhW {main T} (hT:zt tp main T) {gm} {j off:Nat} {ob:AObj} {xs:List MkR} {p:MkR->Bool} {g:FuncId} {cp:List AV} {Kc:KV} (hg:yo tp g=tt) (hp:∀ x∈xs,zr tp T gm g ([.agg (mkC x)]++cp) Kc (fun r K'=>r=zC (p x)/\K'=Kc)) (hI:MksAt ob off xs) (hl:xs.length<=1000) :
  zr tp T gm 231 [.sl j off xs.length,.fn g [] cp] ((j,ob)::Kc) (fun r K'=>(∃ n:Int,r=za n/\decide (n>=0)=xs.any p)/\K'=(j,ob)::Kc):=by
 refine zn 19 hT Tryz.func231 fun Y Wz=>?_;refine au 1303128014223542 ?_;refine bA [0,1,7,8] ?_;refine bE (fun n Wq K=>∃ (i:Nat),n=xs.length - i/\i<=xs.length/\(xs.take i).any p=ff/\Wq=.sl j off xs.length::.fn g [] cp::naL 5 (za xs.length::za i::naL 10 [])/\K=(j,ob)::Kc) xs.length ⟨0,rfl,mN _,by simp,rfl,rfl⟩ fun n Wq K hI' Wj=>?_;obtain ⟨i,rfl,hi,hn,rfl,rfl⟩:=hI';refine bG nQ ?_;refine au 923742 ?_;refine ⟨fun hc=>?_,fun hc=>?_⟩
 ·simp only [decide_eq_true_eq] at hc;have Qb:i<xs.length:=by omega
  refine au 36011142351421302120 ?_;refine bH Z (zS Z Z ze.h mQ (hI i Qb)) ?_;refine bD Z Z Z Z (hp xs[i] (List.getElem_mem _)) ?_ (hs:=(.right (.all _))) (hg:=hg);rintro r1 K2 ⟨rfl,hK⟩;refine au 0 ?_;rw [hK];refine bN (K':=(j,ob)::Kc) (List.perm_append_singleton _ _) ?_;refine au 93 ?_;constructor<;>intro Jx
  ·refine au 35142 ?_;refine TK.rta Wz ?_;exact ⟨⟨i,rfl,by rw [decide_eq_true (Int.natCast_nonneg i),List.any_eq_true.2 ⟨xs[i],List.getElem_mem _,Jx⟩]⟩,rfl⟩
  refine au 312304140120 ?_;refine bA [0,1,7,8] ?_;exact Wj _ _ _ oQ ⟨i+1,rfl,oQ,zcV Qb hn Jx,rfl,rfl⟩
 simp only [decide_eq_false_iff_not] at hc;obtain rfl:i=xs.length:=by omega
 refine au 3542160 ?_;refine TK.rta Wz ?_;rw [lW] at hn;exact ⟨⟨-1,rfl,by rw [hn] <;> rfl⟩,rfl⟩
theorem zei {main T} (hT:zt tp main T) {gm} {j off:Nat} {ob:AObj} {xs:List MkR} {p:MkR->Bool} {g:FuncId} {cp:List AV} {Kc:KV} (hg:yo tp g=tt) (hp:∀ x∈xs,zr tp T gm g ([.agg (mkC x)]++cp) Kc (fun r K'=>r=zC (p x)/\K'=Kc)) (hI:MksAt ob off xs) (hl:xs.length<=1000) :
  zr tp T gm 228 [.sl j off xs.length,.fn g [] cp] ((j,ob)::Kc) (fun r K'=>r=zC (xs.any p)/\K'=(j,ob)::Kc):=by
 refine zn 9 hT Tryz.func228 fun Y Wz=>?_;refine au 11423542 ?_;refine bD Z Z Z Z (zhW hT hg hp hI hl) ?_ (hs:=(.all _));rintro r1 K2 ⟨⟨m,rfl,hm⟩,hK⟩;refine au 0 ?_;rw [hK,lR];refine au 357 ?_;refine TK.rta Wz ?_;exact ⟨by rw [<- hm] <;> rfl,rfl⟩
theorem zgl {main T} (hT:zt tp main T) {gm} {x y:MkR} {jy:Nat} {e:gT} :
  zr tp T gm 229 [.agg (mkC x),.ptr jy 0] [(jy,.cells (mkC y) e tt)] (fun r K'=>r=zC (x.what.toList==y.what.toList)/\K'=[(jy,.cells (mkC y) e tt)]):=by
 refine zn 9 hT Tryz.func229 fun Y Wz=>?_;refine au 21042 ?_;intro j1 hj1;refine au 353306906706906704235 ?_;refine bB Wz [(jy,_)] ?_;exact ⟨rfl,rfl⟩
theorem zih {main T} (hT:zt tp main T) {gm} {st wr:Int} {g:Nat} {Zq:List (Nat×SkT)} (hb:StpOk (skB st wr Zq)) :
  zr tp T gm 224 [.agg (stpC st wr g Zq)] ((g,skO Zq)::mkK Zq) (fun r K'=>r=za 0/\K'=(g,skO Zq)::mkK Zq):=by
 refine zn 95 hT Tryz.func224 fun Y Wz=>?_;refine au 0 ?_;have h1:4<=st/\st<=24:=hb.st;have h3:=zN hb;refine au 21042 ?_;intro jb hjb;refine au 4235 ?_;refine TK.newM Z Z Z (uu Z) (fun _=>zx rfl tQ) fun jm hjm=>?_;refine au 1303128069067067042235 ?_;refine bA [1,3,11,12,13] ?_;refine bE (fun n Wq K=>∃ (i:Nat) (ob:Obj),n=Zq.length - i/\i<=Zq.length/\MapB ob (namesL Zq i)/\Wq=.any::.ptr jb 0::.any::.map jm::naL 7 (.sl g 0 Zq.length::za Zq.length::za i::naL 81 [])/\K=(jm,.raw ob)::(jb,.cells (stpC st wr g Zq) 105 tt)::(g,skO Zq)::mkK Zq) Zq.length ⟨0,_,rfl,mN _,ze7,rfl,rfl⟩ fun n Wq K hI Wj=>?_;obtain ⟨i,ob,rfl,hi,hob,rfl,rfl⟩:=hI;refine bG nQ ?_;refine au 923742 ?_;constructor<;>intro Jz
 ·have Qb:i<Zq.length:=by simp at Jz; omega
  obtain ⟨p,hp⟩:∃ p,Zq[i]? =some p:=⟨_,lA Qb⟩;have hx:=zOk hb hp;have hf:=hx.fr;have hw:=hx.wd;have hs:=hx.se;have hn4:=hx.nm;have hmm:=v8 hp;refine au 360421302120 ?_;refine bH Z (zS Z Z ze.h mQ (sk_at hp Z)) ?_;refine au 220 ?_;intro jx hjx;refine au 6906704213023170 ?_;refine TK.clE Z Z Z Z (zd6 hT hx.nam) ?_;refine au 935300 ?_;constructor<;>intro Jx
  ·exact absurd Jx dQ
  refine au 690670142 ?_;refine bH Z (zlo keyB Z Z Z Und.h InfO.h Z (fun _ _=>.v _) mQ hob (fun v hv=>zcw hb hp hv)) ?_;refine au 935 ?_;constructor<;>intro hc2
  ·exact absurd hc2 dQ
  refine au 24069067067068067042 ?_;refine TK.clE Z Z Z Z (zd4 hT ⟨by omega,oQ,oQ,oQ⟩ ⟨by omega,oQ,oQ,oQ⟩) ?_;refine au 1300 ?_;refine bF 36 (fun g9_9=>?_) (fun g9_9=>?_)
  ·exact absurd g9_9 dQ
  refine au 690670670690670 ?_;refine TK.clE Z Z Z Z (kW hT) ?_;refine au 1250300 ?_;refine bF 45 (fun g9_18=>?_) (fun g9_18=>?_)
  ·simp at g9_18; omega
  refine au 680670 ?_;refine TK.clE Z Z Z Z (zd4 hT ⟨by omega,oQ,oQ,oQ⟩ ⟨by omega,oQ,oQ,oQ⟩) ?_;refine au 935250300 ?_;constructor<;>intro hc3
  ·exact absurd hc3 dQ
  refine au 935728069067042 ?_;constructor<;>intro hc4
  ·simp at hc4; omega
  refine au 690670142140120 ?_;refine TK.updB keyB Z Z Z Z Z Z Z Z Z Und.h mQ hob (fun _=>uQ) fun ob2 r2 hr2 hob1=>?_;have hob2:MapB ob2 (namesL Zq (i+1)):=by rw [<- zi7 hb hp hr2]; exact hob1
  refine au 13031280690670423 ?_;refine bA [1,3,5,11,12,13,60,61,62] ?_;refine bE (fun n Wq K=>∃ (q:Nat),n=p.2.mK.length - q/\q<=p.2.mK.length/\Wq=.any::.ptr jb 0::.any::.map jm::.any::.ptr jx 0::naL 5 (.sl g 0 Zq.length::za Zq.length::za i::naL 46 (.sl p.1 0 p.2.mK.length::za p.2.mK.length::za q::naL 32 []))/\K=(jx,.cells (skC p) 95 tt)::(jm,.raw ob2)::(jb,.cells (stpC st wr g Zq) 105 tt)::(g,skO Zq)::mkK Zq) p.2.mK.length ⟨0,rfl,mN _,rfl,rfl⟩ fun n Wq K hI Ww=>?_;obtain ⟨q,rfl,hq,rfl,rfl⟩:=hI;refine bG nQ ?_;refine au 923742 ?_;constructor<;>intro hc5
  ·have hql:q<p.2.mK.length:=by simp at hc5; omega
   obtain ⟨m,hm⟩:∃ m,p.2.mK[q]? =some m:=⟨_,lA hql⟩;obtain ⟨k1,k2,k3,k4,k5⟩:=hx.mks m (lN hm);refine au 3601421302120 ?_;refine bH Z (zS Z Z ze.h mQ (mk_at hm Z)) ?_;refine au 220 ?_;intro jw hjw;refine au 6906704213031705 ?_;refine TK.clE Z Z Z Z (zd6 hT k1) ?_;refine au 935300 ?_;constructor<;>intro hc6
   ·exact absurd hc6 dQ
   refine au 2 ?_;obtain ⟨Rq,hRq⟩:=ve hmm;refine bN (K':=(jx,_)::(jm,_)::(jb,_)::(g,_)::(jw,_)::mkK Zq) (List.perm_middle (l₁:=[(jx,_),(jm,_),(jb,_),(g,_)])).symm ?_;refine au 16906704 ?_;refine bH Z (zjz Z Z zq.h Z Z oQ oQ (zo4 (x:=p.2) hq)) ?_;refine au 320 ?_;refine bD Z Z Z Z ((zei hT (cp:=[.ptr jw 0]) (Kc:=[(jw,.cells (mkC m) 98 tt)]) (p:=fun o=>o.what.toList==m.what.toList) Cal.h (fun y _=>zgl hT) (zkV p.2 q) (by rw [List.length_take]; omega)).frameP (zm2 hRq)) ?_ (hs:=(.right (.right (.right (.right (.all _))))));rintro r16 K17 ⟨rfl,rfl⟩;refine au 0 ?_;refine bN (K':=(jx,_)::(jm,_)::(jb,_)::(g,_)::(jw,_)::mkK Zq) (lH (l₁:=(jw,_)::mkK Zq)) ?_;rw [znS hx.two hm];refine au 935 ?_;constructor<;>intro hc7
   ·exact absurd hc7 dQ
   refine au 24069067069067042 ?_;refine TK.clE Z Z Z Z (kW hT) ?_;refine au 1300 ?_;refine bF 87 (fun g21_8=>?_) (fun g21_8=>?_)
   ·simp at g21_8; omega
   refine au 690670 ?_;refine TK.clE Z Z Z Z (kW hT) ?_;refine au 935250300 ?_;constructor<;>intro hc8
   ·simp at hc8; omega
   refine au 312304140140120 ?_;refine bA [1,3,5,11,12,13,60,61,62] ?_;refine bC (((jx,_)::(jm,_)::(jb,_)::(g,_)::mkK Zq)) ?_;exact Ww _ _ _ oQ ⟨q+1,rfl,oQ,rfl,rfl⟩
  refine au 312304140160 ?_;refine bA [1,3,11,12,13] ?_;refine bC (((jm,_)::(jb,_)::(g,_)::mkK Zq)) ?_;exact Wj _ _ _ oQ ⟨i+1,ob2,rfl,oQ,hob2,rfl,rfl⟩
 refine au 3542160 ?_;refine bB Wz (((g,_)::mkK Zq)) ?_;exact ⟨rfl,rfl⟩
theorem zjT {main T} (hT:zt tp main T) {gm} {st wr:Int} {g:Nat} {Zq:List (Nat×SkT)} (hb:StpOk (skB st wr Zq)) :
  zr tp T gm 225 [.agg (stpC st wr g Zq)] ((g,skO Zq)::mkK Zq) (fun r K'=>r=za 0/\K'=(g,skO Zq)::mkK Zq):=by
 refine zn 36 hT Tryz.func225 fun Y Wz=>?_;refine au 0 ?_;have h3:=zN hb;have hwy:waysI (Zq.map (·.2)) 1<=200:=hb.wy;refine au 21042 ?_;intro jb hjb;refine au 13031280690670670422354235 ?_;refine bA [1,3,8,9,10] ?_;refine bE (fun n Wq K=>∃ (i:Nat),n=Zq.length - i/\i<=Zq.length/\Wq=.any::.ptr jb 0::.any::za (waysI ((Zq.map (·.2)).take i) 1)::naL 4 (.sl g 0 Zq.length::za Zq.length::za i::naL 25 [])/\K=(jb,.cells (stpC st wr g Zq) 105 tt)::(g,skO Zq)::mkK Zq) Zq.length ⟨0,rfl,mN _,rfl,rfl⟩ fun n Wq K hI Wj=>?_;obtain ⟨i,rfl,hi,rfl,rfl⟩:=hI;refine bG nQ ?_;refine au 923742 ?_;constructor<;>intro Jz
 ·have Qb:i<Zq.length:=by simp at Jz; omega
  obtain ⟨p,hp⟩:∃ p,Zq[i]? =some p:=⟨_,lA Qb⟩;have hp2:(Zq.map (·.2))[i]? =some p.2:=by rw [lQ,hp]; rfl
  have hx:=zOk hb hp;have hf:=hx.fr;have hs:=hx.se;have hwb:=uk hx;have hwi:=zef (st:=st) (l:=Zq.map (·.2)) (i:=i) (show ∀ x∈Zq.map (·.2),SkOk st x from hb.sk) oQ;have hmul : -9223372036854775808<=waysI ((Zq.map (·.2)).take i) 1*waysX p.2/\waysI ((Zq.map (·.2)).take i) 1*waysX p.2<9223372036854775808:=by
   have a1:=Int.mul_nonneg (show 0<=waysI ((Zq.map (·.2)).take i) 1 by omega) (show 0<=waysX p.2 by omega);have a2:=Int.mul_le_mul hwi.2 hwb.2 oQ dQ;omega
  have hm1 : -9223372036854775808<=(p.2.fhi - p.2.flo+1)*(p.2.shi - p.2.slo+1)/\(p.2.fhi - p.2.flo+1)*(p.2.shi - p.2.slo+1)<9223372036854775808:=by
   have:waysX p.2=(p.2.fhi - p.2.flo+1)*(p.2.shi - p.2.slo+1):=rfl;omega
  refine au 360421302120 ?_;refine bH Z (zS Z Z ze.h mQ (sk_at hp Z)) ?_;refine au 220 ?_;intro jx hjx;refine au 230240690670670690670670230240690670670690670670143170 ?_;refine bH Z (q_mul Z Z Z (by exact hm1)) ?_;refine bH Z (q_mul Z Z Z (by exact hmul)) ?_;refine au 31230414035 ?_;refine bA [1,3,8,9,10] ?_;refine bC (((jb,_)::(g,_)::mkK Zq)) ?_;exact Wj _ _ _ oQ ⟨i+1,rfl,oQ,by rw [zj3 hp2] <;> rfl,rfl⟩
 obtain rfl:i=Zq.length:=by simp at Jz; omega
 refine au 9371422160 ?_;constructor<;>intro Jx
 ·rw [List.take_of_length_le (by rw [z_len]; exact mL _)] at Jx; simp at Jx; omega
 refine au 3542120 ?_;refine bB Wz (((g,_)::mkK Zq)) ?_;exact ⟨rfl,rfl⟩
theorem zau {main:Bool} {T:gG->Hp->Prop} (hT:zt tp main T)  {st wr:Int} {g:Nat} {Zq:List (Nat×SkT)} (hb:StpOk (skB st wr Zq)) :
  zr tp T gmR 95 [.agg (stpC st wr g Zq)] ((1,spChecksG)::(g,skO Zq)::mkK Zq) (fun r K'=>r=za 0/\K'=(1,spChecksG)::(g,skO Zq)::mkK Zq):=by
 refine zn 18 hT Tryz.func95 fun Y Wz=>?_;refine au 21042 ?_;intro jb hjb;refine au 1303168042235 ?_;refine TK.loop ?_;refine au 923742 ?_;refine ⟨fun k0=>?_,fun k0=>?_⟩
 ·
  refine au 421302120 ?_;refine bH Z (kH Z Z Z ArEl.h oQ oQ Z) ?_;refine au 40068014235 ?_;refine TK.clE Z Z Z Z (zfN hT (g:=g) hb) ?_;refine au 0 ?_;refine au 93714235 ?_;refine ⟨fun k1=>?_,fun k1=>?_⟩
  ·exact absurd k1 dQ
  refine au 312304140120 ?_;refine TK.inLoop ?_;refine au 923742 ?_;refine ⟨fun k0=>?_,fun k0=>?_⟩
  ·
   refine au 421302120 ?_;refine bH Z (kH Z Z Z ArEl.h oQ oQ Z) ?_;refine au 40068014235 ?_;refine TK.clE Z Z Z Z (zih hT hb) ?_;refine au 0 ?_;refine bN (lH (l₁:=(g,_)::mkK Zq)) ?_;simp only [cA];refine au 93714235 ?_;refine ⟨fun k1=>?_,fun k1=>?_⟩
   ·exact absurd k1 dQ
   refine au 312304140120 ?_;refine TK.inLoop ?_;refine au 923742 ?_;refine ⟨fun k0=>?_,fun k0=>?_⟩
   ·
    refine au 421302120 ?_;refine bH Z (kH Z Z Z ArEl.h oQ oQ Z) ?_;refine au 40068014235 ?_;refine TK.clE Z Z Z Z (zjT hT hb) ?_;refine au 0 ?_;refine bN (lH (l₁:=(g,_)::mkK Zq)) ?_;simp only [cA];refine au 93714235 ?_;refine ⟨fun k1=>?_,fun k1=>?_⟩
    ·exact absurd k1 dQ
    refine au 312304140120 ?_;refine TK.inLoop ?_;refine au 923742 ?_;refine ⟨fun k0=>?_,fun k0=>?_⟩
    ·exact absurd k0 dQ
    refine au 3542160 ?_;refine bB Wz (((1,_)::(g,_)::mkK Zq)) ?_;exact ⟨rfl,rfl⟩
   exact absurd k0 dQ
  exact absurd k0 dQ
 exact absurd k0 dQ
end Go.Vel
end
