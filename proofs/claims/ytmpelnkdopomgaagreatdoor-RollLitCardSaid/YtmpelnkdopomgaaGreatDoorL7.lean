/- Texts for the statements of chapter 8: what all of them need, part 8. It holds of every program, tape and world that the statements name, as each theorem says. -/
import Derived.Test.YtmpelnkdopomgaaGreatDoorL5
import Derived.Test.YtmpelnkdopomgaaGreatDoorL6
section
set_option linter.all false
set_option maxRecDepth 20000
set_option maxHeartbeats 60000000
open Go.Proofs.Tryz renaming prog -> tp
open List renaming getElem?_eq_getElem -> lA, nil_append -> lC, getD_eq_getElem?_getD -> lE, length_append -> lF, eq_nil_of_length_eq_zero -> lK, map_append -> lM, append_nil -> lR, mem_singleton -> lS, getElem?_eq_none -> lU, take_length -> lW, length_cons -> lZ, replicate -> mB
open List.Mem renaming head -> mC
open Nat renaming le_refl -> mL, zero_le -> mN, zero_add -> mO, eq_zero_or_pos -> mP
open Bool renaming not_eq_true' -> mV, not_eq_false' -> mW, and_eq_true -> mX
open Go.Vel.TK renaming maskL -> bA, rt -> bB, kp -> bC, cl -> bD, loopN -> bE, sp -> bF, na -> bG, a -> bH, newR -> bI, dq -> bL, dr -> bM, frzRow -> bY
open Go.Vel.TD renaming cl -> bQ, s -> bR, norm -> bS, y -> bT, cnewR -> bV
namespace Go.Vel
open Go Go.Conc
section
variable {P:Program} {gm:Nat->Option Nat} {env:List AV} {A A':List AObj} {o:Oper} {V:KV}
theorem zkg {d:Operand} {t e:TypeId} {ti:TypeInfo} {z:Value} {i off m:Nat} (ho:o.op=.call { callee:=.builtin .clear,args:=#[d],argTypes:=#[t] }) (ht:P.underlying t=some (.slice e)) (hi:P.info? e=some ti) (hz:ti.zero=some z) (hzc:z.cells=#[.int .i64 0]) (hd:zS gm env d=.sl i off m) (hm:0<m) (hs:storeA A i off (mB m (.v (.int .i64 0)))=some A') :
  OpOk P gm env A o (.tup []) A':=fun φ F H a hg hH hE=>by
 rw [yM ho];have hd':=zC hg hE d;rw [hd] at hd';obtain ⟨hil,cap,b,hlc,hb,ed⟩:=zb9 hd';simp only [builtin,List.map_toArray,List.map_cons,List.map_nil];refine wpS_v ?_;rw [ed,hb hm];obtain ⟨m',rfl⟩:∃ m',m=m'+1:=⟨m - 1,oQ⟩;unfold Builtin.clear_;dsimp only;show wpS P (underlying t >>= _) H _;refine zc _ _ _ (zG ht ?_);refine zc _ _ _ (yR hi hz ?_);have hzz:(Builtin.zeroCells z.cells (m'+1)).toList=(Array.replicate (m'+1) (Value.int .i64 0)).toList:=by
  rw [hzc];unfold Builtin.zeroCells;apply List.ext_getElem
  ·simp
  ·intro i h1 h2;simp [Nat.mod_one]
 rw [hzz];refine zc _ _ _ (za2 hH hs (ys:=Array.replicate (m'+1) (Value.int .i64 0)) ?_ fun H' hH' hlen=>?_)
 ·have:=zbe φ A.length (Array.replicate (m'+1) (Value.int .i64 0));simpa using this
 ·exact ⟨_,φ,.inl rfl,Agr.refl _ _,oQ,hH',.tup rfl fun j a y ha=>by simp at ha⟩
theorem zl1 {d:Operand} {t e:TypeId} {i off m:Nat} {ob ob':AObj} (ho:o.op=.call { callee:=.builtin .clear,args:=#[d],argTypes:=#[t] }) (ha:apOf P t=some (e,1,8)) (hz:tyZero P e=some [.int .i64 0]) (hd:zo gm env d=some (.sl i off m)) (hm:0<m) (hi:(i,ob)∈V) (hs:putO ob off (mB m (.v (.int .i64 0)))=some ob') :
  ∀ A,zR V A->OpOk P gm env A o (.tup []) (A.set i ob'):=fun A hA=>by
 unfold apOf at ha;split at ha
 ·rename_i e' h1;split at ha
  ·rename_i ti h2;split at ha
   ·rename_i z h3;split at ha
    ·rename_i h4;simp only [Option.some.injEq,Prod.mk.injEq] at ha;obtain ⟨rfl,h5,h6⟩:=ha;obtain ⟨i',z',g1,g2,g3⟩:=wD hz;rw [h2] at g1;cases g1;rw [h3] at g2;cases g2;exact zkg ho h1 h2 h3 (by rw [<- Array.toList_inj,g3]) (zA hd) hm (zaV (hA.get hi) hs)
    ·cases ha
   ·cases ha
  ·cases ha
 ·cases ha
end
theorem zgw {xs:List Int} {k:Nat} {n v:Int} {e:TypeId} {s:Nat} (h:k<xs.length) (hn:n=(k:Int)):putO (.row (xs.map intA) e s) (n.toNat*1) [intA v]=some (.row ((xs.set k v).map intA) e s):=by
 subst hn;unfold putO;dsimp only;rw [if_pos ⟨by simp; omega,by simp,rfl⟩,ze8 _ _ _ (by simp; omega),List.map_set];simp
theorem ze9 (c:AV):∀ (m:Nat) (l:List AV) (k:Nat),k+m=l.length->setL l k (mB m c)=l.take k++mB m c
 | 0,l,k,h=>by simp [setL,List.take_of_length_le (by omega:l.length<=k)]
 | m+1,l,k,h=>by
  rw [List.replicate_succ];show setL (l.set k c) (k+1) (mB m c)=_;rw [ze9 c m (l.set k c) (k+1) (by rw [List.length_set]; omega),List.take_add_one,List.getElem?_set_self oQ,List.take_set_of_le (mL _)];simp
theorem zkr {xs:List Int} {k m:Nat} {e:TypeId} {s:Nat} (h:k+m=xs.length) (hm:0<m):putO (.row (xs.map intA) e s) k (mB m (.v (.int .i64 0)))=some (.row ((xs.take k++mB m 0).map intA) e s):=by
 unfold putO;dsimp only;rw [if_pos ⟨by simp; omega,by simpa using hm,by simp [oneA,oneCell]⟩,ze9 _ _ _ _ (by simpa using h),lM,List.map_take,List.map_replicate]
def compN (xs:List Int):Nat->List Int
 | 0=>[]
 | 1=>xs.take 1
 | p+2=>compN xs (p+1)++(if zL xs p=zL xs (p+1) then [] else [zL xs (p+1)])
def compM (xs:List Int):List Int:=compN xs xs.length
theorem zda (xs:List Int):∀ p,p<=xs.length->(compN xs p).length<=p
 | 0,_=>by simp [compN]
 | 1,_=>by simp [compN]; omega
 | p+2,h=>by
  have:=zda xs (p+1) oQ;unfold compN;rw [lF];split <;> simp <;> omega
theorem uL {xs:List Int} {p:Nat} (h:zL xs p=zL xs (p+1)):compN xs (p+2)=compN xs (p+1):=by
 conv=>lhs; unfold compN
 rw [if_pos h,lR]
theorem uM {xs:List Int} {p:Nat} (h:zL xs p≠zL xs (p+1)):compN xs (p+2)=compN xs (p+1)++[zL xs (p+1)]:=by
 conv=>lhs; unfold compN
 rw [if_neg h]
theorem zkN {s t:List Int} (h:s.length=t.length) (h5:s.length<=5) (he:eqSt s t=true):s=t:=by
 simp only [eqSt,mX,beq_iff_eq] at he;obtain ⟨e0,e1,e2,e3,e4⟩:=he;refine List.ext_getElem h fun i h1 h2=>?_;have g:∀ (l:List Int) (h:i<l.length),l.getD i 0=l[i]:=fun l h=>by rw [lE,lA h]; rfl
 have:i=0\/i=1\/i=2\/i=3\/i=4:=by omega
 rw [<- g s h1,<- g t h2];rcases this with rfl | rfl | rfl | rfl | rfl <;> assumption
theorem zbA {b:RBk}:∀ (r:List RBand) (p s:List Int),s∈fromM b p r->s.take p.length=p/\s.length=p.length+r.length
 | [],p,s,h=>by
  unfold fromM at h;split at h
  ·rw [lS.1 h]; simp
  ·cases h
 | x::r,p,s,h=>by
  unfold fromM at h;obtain ⟨n,hn,hs⟩:=List.mem_flatMap.1 h;obtain ⟨h1,h2⟩:=zbA r (p++[n]) s hs;rw [lF,List.length_singleton] at h1 h2;refine ⟨?_,by rw [h2,lZ]; omega⟩;have:=congrArg (List.take p.length) h1;rw [List.take_take,List.take_append_of_le_length (mL _),lW,Nat.min_eq_left oQ] at this;exact this
theorem zbq:∀ (k:Nat) (n:Int),(numsF n k).Nodup
 | 0,_=>.nil
 | k+1,n=>by
  unfold numsF;refine List.nodup_cons.2 ⟨fun h=>?_,zbq k _⟩;rw [zaJ] at h;omega
theorem zb4 {b:RBk}:∀ (r:List RBand) (p:List Int),(fromM b p r).Nodup
 | [],p=>by unfold fromM; split <;> simp
 | x::r,p=>by
  unfold fromM;show List.Pairwise (· ≠ ·) _;rw [List.pairwise_flatMap];refine ⟨fun n _=>zb4 r _,?_⟩;have:=zbq (x.high+1 - x.low).toNat x.low;unfold numsM;refine List.Pairwise.imp (fun {a c} hne s hs1 s2 hs2 he=>?_) this;subst he;have e1:=(zbA r _ s hs1).1;have e2:=(zbA r _ s hs2).1;rw [lF,List.length_singleton] at e1 e2;have:=e1.symm.trans e2;simp at this;exact hne this
theorem zfo (b:RBk):(zh b).Nodup:=zb4 _ _
theorem zim {b:RBk} (hb:ROk b) {pre:List (List Int)} {S:List Int} (h:pre++[S] <+: zh b):∀ k∈pre,eqSt S k=false:=fun k hk=>by
 have hnd:(pre++[S]).Nodup:=(zfo b).sublist h.sublist;have hS:S∈zh b:=h.subset sQ;have hk2:k∈zh b:=h.subset (by simp [hk]);have l1:=(ki hb hS).1.len;have l2:=(ki hb hk2).1.len;cases he:eqSt S k with
 | false=>rfl
 | true =>
  have:=zkN oQ (by have:=hb.sms.len; omega) he;subst this;rw [List.nodup_append] at hnd;exact absurd rfl (hnd.2.2 S hk S sQ)
end Go.Vel
namespace Go.Vel
open Go Go.Conc Go.Proofs
def cntM (all:List (List Int)) (n:Nat) (v:Int):Nat:=(all.filter fun s=>decide (zL s n=v)).length
def mostL (all:List (List Int)) (n:Nat):Nat->Int
 | 0=>0
 | k+1=>max (mostL all n k) (cntM (all.take (k+1)) n (zL (all.getD k []) n))
def askL (b:RBk) (all:List (List Int)):Nat->Int×Int
 | 0=>(-1,all.length)
 | n+1=>if mostL all n all.length<(askL b all n).2 then (n,mostL all n all.length) else askL b all n
def askM (b:RBk) (all:List (List Int)):Int×Int:=askL b all b.seams.length
theorem zjw {all:List (List Int)} {k:Nat} {st:List Int} (h:all[k]? =some st) (n:Nat) (v:Int):((cntM (all.take (k+1)) n v:Nat):Int)=if v=zL st n then ((cntM (all.take k) n (zL st n):Nat):Int)+1 else ((cntM (all.take k) n v:Nat):Int):=by
 unfold cntM;rw [yA h,List.filter_append,lF];by_cases e:v=zL st n
 ·subst e;rw [if_pos rfl]; simp
 ·rw [if_neg e];have:¬ zL st n=v:=fun h=>e h.symm;simp [this]
theorem zmw (all:List (List Int)) (n:Nat) (v:Int):cntM all n v<=all.length:=List.length_filter_le _ _
theorem zbo {ob:Obj} {f g:Int->Int} (h:MapOk ob f) (e:∀ n,f n=g n):MapOk ob g:=by
 have:f=g:=funext e;rwa [this] at h
theorem zlE {all:List (List Int)} {n k:Nat} {st:List Int} (h:all[k]? =some st):mostL all n (k+1)=max (mostL all n k) (cntM (all.take (k+1)) n (zL st n)):=by
 have:all.getD k []=st:=by rw [lE,h]; rfl
 conv=>lhs; unfold mostL
 rw [this]
instance:InfO tp 3 Tryz.t3:={}
instance:ze tp 144 false 1:={}
instance:TyZA tp 144 [.v (.map none)]:={}
instance:Und tp 144 (.map 141 4):={}
instance:Und tp 167 (.map 3 3):={}
theorem zaU {main:Bool} {T:Goroutine->Hp->Prop} (hT:zn tp main T)  {b:RBk} {s h e:Nat} (hl:b.seams.length<=100) (hm:b.measures.length<=100) :
  zq tp T gmR 24 [.agg (zD b s h e)] [(0,zB),(s,zl b),(h,zF b),(e,zt b)] (fun r K'=>r=.tup [intA (if zx b=0 then (zh b).length else 0),intA (zx b)]/\K'=[(0,zB),(s,zl b),(h,zF b),(e,zt b)]):=by
 refine wJ 24 hT Tryz.func24 fun Y hro hret=>?_;refine au 21042 ?_;intro jb hjb;refine au 68042355 ?_;refine bD Z Z Z Z (uV hT (Kx:=[]) hl hm) ?_;rintro r1 K2 h3;rcases h3 with ⟨⟨hbar,rfl⟩ | ⟨hbar,rfl⟩,rfl⟩
 ·refine au 220661 ?_;intro j4 hj4;refine au 937142235170 ?_;constructor<;>intro hc0
  ·exact absurd hc0 sQ
  have hbb:=zZ hbar;refine au 42120 ?_;refine TK.newM Z Z Z (zaG Z) (fun _=>zr rfl tQ) fun jm hjm=>?_;refine au 220 ?_;intro j6 hj6;refine au 13033206804223170 ?_;refine bC [(j6,_),(jm,_),(j4,_),(jb,_),(0,_),(s,_),(h,_),(e,_)] ?_;refine TK.rangeStates hT hbb (s:=s) (h:=h) (e:=e) (J:=fun pre K1=>∃ ob,MapS ob pre/\K1=[(j6,.cells [.map jm] 144 true),(jm,.raw ob),(j4,.cells (zD b s h e) 128 true),(jb,.cells (zD b s h e) 26 true),(0,zB)]) (D:=fun _ _=>False) rfl hro rfl (by repeat (first | exact Split.none _ | exact Split.all _ | (apply Split.rem; repeat (first | exact Rem.head | apply Rem.tail)) | apply Split.right)) ⟨_,zj4,rfl⟩ (fun Y' l lo lb pre S K1 hbegin hfin hout hpre hJ=>?_) (fun d K2 hJ=>?_) (fun d c K2 hD=>?_)
  ·obtain ⟨ob,hob,rfl⟩:=hJ;have hnew:=zim hbb hpre;refine au 2204 ?_;intro j7 hj7;refine au 3170 ?_;refine hbegin _ _ _ _ _ uQ ?_;refine au 6806904130 ?_;refine TK.st Z Z Z (ze2 keyOk Z Z Z Und.h mQ hob hnew) uQ (putN Z) ?_;refine au 1403 ?_;exact hfin _ _ [(j6,_),(jm,_),(j4,_),(jb,_),(0,_)] _ (by repeat (first | exact Split.none _ | exact Split.all _ | (apply Split.rem; repeat (first | exact Rem.head | apply Rem.tail)) | apply Split.right)) ⟨_,zlD hob,rfl⟩
  ·obtain ⟨ob,hob,rfl⟩:=hJ;simp only [cA];refine au 69042140 ?_;refine bH Z (ziJ Z Z Und.h mQ hob) ?_;refine au 355 ?_;refine TK.leave (.ret _) fun A hA=>hret _ _ _ _ ([(0,_),(s,_),(h,_),(e,_)]) ([(0,_),(s,_),(h,_),(e,_)]) _ _ _ (.inr rfl) (by repeat (first | exact Split.none _ | exact Split.all _ | (apply Split.rem; repeat (first | exact Rem.head | apply Rem.tail)) | apply Split.right)) sQ sQ (by repeat (first | exact Split.none _ | exact Split.all _ | (apply Split.rem; repeat (first | exact Rem.head | apply Rem.tail)) | apply Split.right)) (vg (.cons (zX Z) (.cons (zX Z) ResKs.nil)) rfl) ?_ A hA;exact ⟨by rw [hbar,if_pos rfl],rfl⟩
  ·exact hD.elim
 ·refine au 220661 ?_;intro j4 hj4;refine au 937142235170 ?_;constructor<;>intro hc0
  ·
   refine au 355142 ?_;refine TK.leave (.ret _) fun A hA=>hret _ _ _ _ ([(0,_),(s,_),(h,_),(e,_)]) ([(0,_),(s,_),(h,_),(e,_)]) _ _ _ (.inr rfl) (by repeat (first | exact Split.none _ | exact Split.all _ | (apply Split.rem; repeat (first | exact Rem.head | apply Rem.tail)) | apply Split.right)) sQ sQ (by repeat (first | exact Split.none _ | exact Split.all _ | (apply Split.rem; repeat (first | exact Rem.head | apply Rem.tail)) | apply Split.right)) (vg (.cons (zX Z) (.cons (zX Z) ResKs.nil)) rfl) ?_ A hA;exact ⟨by rw [if_neg hbar],rfl⟩
  exact absurd hbar (by simpa using hc0)
theorem zmt {main:Bool} {T:Goroutine->Hp->Prop} (hT:zn tp main T)  {b:RBk} {s h e:Nat} (hl:b.seams.length<=100) (hm:b.measures.length<=100) :
  zq tp T gmR 36 [.agg (zD b s h e)] [(0,zB),(s,zl b),(h,zF b),(e,zt b)] (fun r K'=>(zx b≠0/\r=.tup [intA 0,intA 0,intA (zx b)]/\K'=[(0,zB),(s,zl b),(h,zF b),(e,zt b)])\/(zx b=0/\zh b=[]/\r=.tup [intA 0,intA 0,intA 9]/\K'=[(0,zB),(s,zl b),(h,zF b),(e,zt b)])\/(zx b=0/\zh b≠[]/\r=.tup [intA (askM b (zh b)).1,intA (askM b (zh b)).2,intA 0]/\K'=[(0,zB),(s,zl b),(h,zF b),(e,zt b)])):=by
 refine zm 58 hT Tryz.func36 fun Y hret=>?_;refine au 21042 ?_;intro jb hjb;refine au 680423555 ?_;refine bD Z Z Z Z (wL hT (Kx:=[]) hl hm) ?_;rintro r1 K2 h3;rcases h3 with ⟨hbar,rfl,rfl⟩ | ⟨hbar,hnil,rfl,rfl⟩ | ⟨hbar,hne,a,rfl,rfl⟩
 ·refine au 220661 ?_;intro j5 hj5;refine au 937142235170 ?_;constructor<;>intro hc0
  ·
   refine au 3555142 ?_;refine bB hret [(0,_),(s,_),(h,_),(e,_)] ?_;exact .inl ⟨hbar,rfl,rfl⟩
  exact absurd hbar (by simpa using hc0)
 ·refine au 220661 ?_;intro j5 hj5;refine au 937142235170 ?_;constructor<;>intro hc0
  ·
   refine au 3555142 ?_;refine bB hret [(0,_),(s,_),(h,_),(e,_)] ?_;exact .inr (.inl ⟨hbar,hnil,rfl,rfl⟩)
  exact absurd hc0 dQ
 ·refine au 220661 ?_;intro j5 hj5;refine au 937142235170 ?_;constructor<;>intro hc0
  ·exact absurd hc0 sQ
  have hbb:=zZ hbar;have hlen:=kH hbb;have hpos:0<(zh b).length:=List.length_pos_iff.2 hne;have hall:okAll b (zh b):=fun st hst=>(ki hbb hst).1;have hs5:=hbb.sms.len;refine au 2120 ?_;refine bL [0,1,2,3,4] ?_;refine ad [[3,5],[10,19]] ?_;refine TD.z [20] Z (q_len Z Z Z Und.h) ?_;refine TD.as (pend':=[⟨2,[20],[]⟩,⟨1,[19],[(_,_)]⟩,⟨0,[5],[]⟩]) [] Z Z (zy Z Z) ?_;refine ad [[13,21],[14]] ?_;refine au 13031280690670422 ?_;refine bA [1,2,3,4,5,23,24,25] ?_;refine bC [(a,_),(0,_),(s,_),(h,_),(e,_),(j5,_),(jb,_)] ?_;refine bE (fun n env K=>∃ (i:Nat),n=b.seams.length - i/\i<=b.seams.length/\env=.any::.ptr jb 0::intA (askL b (zh b) i).1::intA (askL b (zh b) i).2::intA 0::.ptr j5 0::naL 17 (.sl s 0 b.seams.length::intA b.seams.length::intA i::naL 32 [])/\K=[(a,allO (zh b)),(0,zB),(s,zl b),(h,zF b),(e,zt b),(j5,.cells (knownC b s h e a (zh b).length) 148 true),(jb,.cells (zD b s h e) 26 true)]) b.seams.length ⟨0,rfl,mN _,rfl,rfl⟩ fun n env K hI hnext=>?_;obtain ⟨i,rfl,hi,rfl,rfl⟩:=hI;refine bG nQ ?_;refine au 923742 ?_;constructor<;>intro hc1
  ·have hil:i<b.seams.length:=by simp at hc1; omega
   refine au 42351421302120 ?_;refine TK.newM Z Z Z (zaG Z) (fun _=>zr rfl tQ) fun jm hjm=>?_;refine au 13031280690670422354235 ?_;refine bA [1,2,3,4,5,6,7,8,23,24,25,30,31,32] ?_;refine bE (fun n env K=>∃ (q:Nat) (om:Obj),n=(zh b).length - q/\q<=(zh b).length/\MapOk om (fun v=>(cntM ((zh b).take q) i v:Int))/\env=.any::.ptr jb 0::intA (askL b (zh b) i).1::intA (askL b (zh b) i).2::intA 0::.ptr j5 0::intA i::.map jm::intA (mostL (zh b) i q)::naL 14 (.sl s 0 b.seams.length::intA b.seams.length::intA i::naL 4 (.sl a 0 (zh b).length::intA (zh b).length::intA q::naL 25 []))/\K=[(jm,.raw om),(a,allO (zh b)),(0,zB),(s,zl b),(h,zF b),(e,zt b),(j5,.cells (knownC b s h e a (zh b).length) 148 true),(jb,.cells (zD b s h e) 26 true)]) (zh b).length ⟨0,_,rfl,mN _,zbo zii (fun v=>rfl),rfl,rfl⟩ fun n env K hI hnext1=>?_;obtain ⟨q,om,rfl,hq,hom,rfl,rfl⟩:=hI;refine bG nQ ?_;refine au 923742 ?_;constructor<;>intro hc2
   ·have hql:q<(zh b).length:=by simp at hc2; omega
    obtain ⟨st,hst⟩:∃ st,(zh b)[q]? =some st:=⟨_,lA hql⟩;have hcl:cntM ((zh b).take q) i (zL st i)<=243:=by have:=zmw ((zh b).take q) i (zL st i); rw [List.length_take] at this; omega
    have hom2:MapOk (upM om (zL st i) ((cntM ((zh b).take q) i (zL st i):Int)+1)) (fun v=>(cntM ((zh b).take (q+1)) i v:Int)):=zbo (znA hom) (fun v=>(zjw hst i v).symm);refine au 360421302120 ?_;refine bH Z (zK Z Z ze.h mQ (zbQ (i:=q) hst Z)) ?_;refine au 220 ?_;intro j10 hj10;refine au 11423170 ?_;refine bH Z (kF Z Z Z ArEl.h oQ oQ) ?_;refine bH Z (zk Z Z ze.h mQ (st_at (i:=i) oQ Z)) ?_;refine bH Z (zeX Z Z Z Und.h Und.h InfO.h Z mQ hom) ?_;refine bH Z (q_add Z Z Z (by show -9223372036854775808<=((cntM ((zh b).take q) i (zL st i):Nat):Int)+1/\((cntM ((zh b).take q) i (zL st i):Nat):Int)+1<9223372036854775808; omega)) ?_;refine TK.st Z Z Z (zfP Z Z Z Z Und.h Und.h mQ hom) uQ (putN Z) ?_;refine au 11143 ?_;refine bH Z (kF Z Z Z ArEl.h oQ oQ) ?_;refine bH Z (zk Z Z ze.h mQ (st_at (i:=i) oQ Z)) ?_;refine bH Z (zeX Z Z Z Und.h Und.h InfO.h Z mQ hom2) ?_;refine bH Z (zcl Z Z Z) ?_;refine au 31230414035 ?_;refine bA [1,2,3,4,5,6,7,8,23,24,25,30,31,32] ?_;refine bC [(jm,_),(a,_),(0,_),(s,_),(h,_),(e,_),(j5,_),(jb,_)] ?_;exact hnext1 _ _ _ oQ ⟨q+1,_,rfl,oQ,hom2,by rw [zlE hst]; rfl,rfl⟩
   obtain rfl:q=(zh b).length:=by simp at hc2; omega
   refine au 9371142160 ?_;constructor<;>intro hc3
   ·refine au 312304140355114 ?_;refine bA [1,2,3,4,5,23,24,25] ?_;refine bC [(a,_),(0,_),(s,_),(h,_),(e,_),(j5,_),(jb,_)] ?_;exact hnext _ _ _ oQ ⟨i+1,rfl,oQ,by rw [show askL b (zh b) (i+1)=(((i:Nat):Int),mostL (zh b) i (zh b).length) from if_pos (of_decide_eq_true hc3)]; rfl,rfl⟩
   refine au 312304140120 ?_;refine bA [1,2,3,4,5,23,24,25] ?_;refine bC [(a,_),(0,_),(s,_),(h,_),(e,_),(j5,_),(jb,_)] ?_;exact hnext _ _ _ oQ ⟨i+1,rfl,oQ,by rw [show askL b (zh b) (i+1)=askL b (zh b) i from if_neg (of_decide_eq_false hc3)]; rfl,rfl⟩
  obtain rfl:i=b.seams.length:=by simp at hc1; omega
  refine au 35551142160 ?_;refine bB hret [(0,_),(s,_),(h,_),(e,_)] ?_;exact .inr (.inr ⟨hbar,hne,rfl,rfl⟩)
theorem zly {main T} (hT:zn tp main T) {gm} {x y:Int} :
  zq tp T gm 134 [intA x,intA y] [] (fun r K'=>r=zw (decide (x<y))/\K'=[]):=by
 refine zm 17 hT Tryz.func134 fun Y hret=>?_;refine au 1423542 ?_;refine TK.clE Z Z Z Z (zbD hT) ?_;refine au 1 ?_;refine bF 7 (fun g1_3=>?_) (fun g1_3=>?_)
 ·cases g1_3
 refine au 352507111250888 ?_;refine TK.rta hret ?_;exact ⟨rfl,rfl⟩
section
variable {P:Program} {gm:Nat->Option Nat} {T:Goroutine->Hp->Prop} {Y:KX P gm T} {ds:List Nat} {k:List Item} {env env':List AV} {K:KV}
theorem TK.asSl (d:Nat) {j n:Nat} {l:List AV} {e:TypeId} {s:Nat} (hd:env[d]? =some (.row j n)) (hm:(j,.row l e s)∈K) (h:TK Y ds k (env.set d (.sl j 0 n)) K):TK Y ds k env K:=fun A hA φ H ts h1 h2 h3 h4 h5 h6=>by
 have hj:=hA.view.get hm;have hb:(φ j).base=0:=(h5.obj j _ hj).2.1;have hr:∀ y,RelV φ A.length (.row j n) y->RelV φ A.length (.sl j 0 n) y:=fun y hy=>by
  have:=uk (j:=j) hb hy;simpa [unrow] using this
 exact h _ hA φ H ts h1 h2 h3 h4 h5 (by simpa using h6.set' hd hr)
end
theorem zeU {xs:List Int} {k:Nat} {n v:Int} {e:TypeId} {s:Nat} (h:k<xs.length) (hn:n=(k:Int)):putO (.row (xs.map intA) e s) (0+n.toNat*1) [intA v]=some (.row ((xs.set k v).map intA) e s):=by
 rw [mO];exact zgw h hn
def ltI (x y:Int):Bool:=decide (x<y)
theorem zaw {xs:List Int}:∀ p,p<=xs.length->(compN xs p).length=p->compN xs p=xs.take p
 | 0,_,_=>by simp [compN]
 | 1,_,_=>by simp [compN]
 | p+2,h,hl=>by
  have h1:=zda xs (p+1) oQ;by_cases e:zL xs p=zL xs (p+1)
  ·rw [uL e] at hl; omega
  ·rw [uM e] at hl ⊢;rw [lF,List.length_singleton] at hl;rw [zaw (p+1) oQ oQ];exact (yA (yb oQ)).symm
theorem zav {xs:List Int} {w i:Nat} {C:List Int} (hC:C.length=w) (h:w<=i) (hi:i<xs.length):(C++xs.drop w)[i]? =some (zL xs i):=by
 rw [List.getElem?_append_right oQ,List.getElem?_drop,hC,show w+(i - w)=i by omega];exact yb hi
theorem zjx {xs C:List Int} {w:Nat} {v:Int} (hC:C.length=w) (h:w<xs.length):(C++xs.drop w).set w v=(C++[v])++xs.drop (w+1):=by
 rw [List.set_append_right _ _ oQ,hC,Nat.sub_self,zO (yb h),List.set_cons_zero,List.append_assoc];rfl
theorem ziF {xs C:List Int} {k m off:Nat} {e:TypeId} {s:Nat} (hC:C.length=k) (ho:off=k) (h:k+m=(C++xs.drop k).length) (hm:0<m):putO (.row ((C++xs.drop k).map intA) e s) off (mB m (.v (.int .i64 0)))=some (.row ((C++mB m 0).map intA) e s):=by
 subst ho;rw [zkr h hm,List.take_left' hC]
theorem zh6 {main T} (hT:zn tp main T) {gm} {j n:Nat} {xs:List Int} (hn:xs.length=n) (h12:1<=n/\n<=12) :
  zq tp T gm 128 [.row j n,intA 0,intA n] [(j,.row (xs.map intA) 3 1)] (fun r K'=>K'=[(j,.row ((sortR ltI xs).map intA) 3 1)]):=by
 refine zm 49 hT Tryz.func128 fun Y hret=>?_;refine au 0 ?_;refine TK.asSl 0 Z (mC _) ?_;refine au 13035230142 ?_;refine bA [0,1,2,6] ?_;refine bE (fun n1 env K=>∃ (i:Nat),n1=n - i/\1<=i/\i<=n/\env=.sl j 0 n::intA 0::intA n::naL 3 (intA i::naL 42 [])/\K=[(j,.row ((sortN ltI xs i++xs.drop i).map intA) 3 1)]) (n - 1) ⟨1,rfl,mL _,h12.1,rfl,by rw [zfm oQ]⟩ fun n1 env K hI hnext=>?_;obtain ⟨i,rfl,hi1,hi,rfl,rfl⟩:=hI;refine bG nQ ?_;refine au 93711422 ?_;constructor<;>intro hc0
 ·have hil:i<n:=by simp at hc0; omega
  obtain ⟨x,hx⟩:∃ x,xs[i]? =some x:=⟨_,lA oQ⟩;have hSl:=vw (lt:=ltI) xs i oQ;have hTl:(xs.drop (i+1)).length=n - (i+1):=by simp; omega
  refine au 130351421302120 ?_;refine bA [0,1,2,6,7] ?_;refine bE (fun n1 env K=>∃ (p:Nat),n1=p/\p<=i/\insJ ltI x (sortN ltI xs i) p=insJ ltI x (sortN ltI xs i) (sortN ltI xs i).length/\env=.sl j 0 n::intA 0::intA n::naL 3 (intA i::intA p::naL 41 [])/\K=[(j,.row ((dataM (sortN ltI xs i) (xs.drop (i+1)) x p).map intA) 3 1)]) i ⟨i,rfl,mL _,by rw [hSl],rfl,by have:=zea (sortN ltI xs i) (xs.drop (i+1)) x; rw [hSl] at this; rw [this,<- zO hx]⟩ fun n1 env K hI hnext1=>?_;obtain ⟨p,hnp,hp,hins,rfl,rfl⟩:=hI;subst n1;have hdl:=zd9 (S:=sortN ltI xs i) (T:=xs.drop (i+1)) (x:=x) (j:=p);refine bG nQ ?_;refine au 22 ?_;refine bL [0,1,2,3,4,5,6,7,8,9,10,11,12,13,14] ?_;refine ad [[1,7],[1,1],[4,16,17],[1,18]] ?_;refine TD.sp 19 (fun g4_4=>?_) (fun g4_4=>?_)
  ·have hp0:0<p:=by simp at g4_4; omega
   obtain ⟨q,rfl⟩:∃ q,p=q+1:=⟨p - 1,oQ⟩;obtain ⟨y,hy⟩:∃ y,(sortN ltI xs i)[q]? =some y:=⟨_,lA oQ⟩;refine ad [[1,0,19],[1,7,19],[2,19,20,21]] ?_;refine bT [19,22] Z (hq:=zk Z Z ze.h (mC _) (kY (i:=q+1) (za5 oQ) oQ)) (h:=?_);refine ad [[1,0,19],[1,7,19],[9,19,25],[2,19,24,26]] ?_;refine bT [19,27] Z (hq:=zk Z Z ze.h (mC _) (kY (i:=q) ((vY oQ).trans hy) oQ)) (h:=?_);refine bQ (pend':=[⟨11,[19,24,26],[]⟩,⟨10,[19,25],[]⟩,⟨9,[7,19],[]⟩,⟨8,[0,19],[]⟩,⟨6,[19,20,21],[]⟩,⟨5,[7,19],[]⟩,⟨4,[0,19],[]⟩,⟨2,[16,17],[]⟩,⟨1,[1],[]⟩,⟨0,[7],[]⟩]) [19,23,28] Z Z Z Z Z (zly hT) (fun r1 K2 h3=>⟨?_,?_⟩)
   ·rcases h3 with ⟨rfl,rfl⟩
    all_goals simp
   obtain ⟨rfl,rfl⟩:=h3;try simp only [cA]
   refine bS tQ ?_;refine ad [[7,19,29],[14]] ?_;refine au 9 ?_;constructor<;>intro hc1
   ·have hsw:=zdc (T:=xs.drop (i+1)) (x:=x) hy;refine au 1302120 ?_;refine bL [0,1,5,6,7,8,9,10,11,12,13,14,15,2,3,4,16,17] ?_;refine ad [[1,0],[1,7],[1,0],[1,7],[9,36],[1,0],[1,7],[9,39],[2,38,40]] ?_;refine bT [41] Z (hq:=zk Z Z ze.h (mC _) (kY (i:=q) ((vY oQ).trans hy) oQ)) (h:=?_);refine ad [[1,0],[1,7],[2,43,44]] ?_;refine bT [45] Z (hq:=zk Z Z ze.h (mC _) (kY (i:=q+1) (za5 oQ) oQ)) (h:=?_);refine ad [[2,33,34]] ?_;refine bR (pend':=[⟨12,[43,44],[]⟩,⟨11,[7],[]⟩,⟨10,[0],[]⟩,⟨4,[36],[]⟩,⟨3,[7],[]⟩,⟨2,[0],[]⟩]) [42,47] Z Z (zM Z Z ze.h Z Z mQ (zeU (k:=q+1) oQ Z)) ?_;refine ad [[2,35,37]] ?_;refine bR (pend':=[]) [46,48] Z Z (zM Z Z ze.h Z Z mQ (zeU (k:=q) (by rw [List.length_set]; omega) oQ)) ?_;refine ad [[14]] ?_;refine au 3524014140 ?_;refine bA [0,1,2,6,7] ?_;refine bC [(j,_)] ?_;exact hnext1 _ _ _ oQ ⟨q,rfl,oQ,by rw [<- hins,zgk hy hc1],by rw [show ((q+1:Nat):Int) - 1=(q:Int) by omega]; rfl,by rw [hsw]⟩
   have hstop:=vZ (lt:=ltI) (x:=x) (S:=sortN ltI xs i) (T:=xs.drop (i+1)) (j:=q+1) oQ (fun i1 y1 h1 h2=>by obtain rfl:q=i1:=oQ; rw [hy] at h2; cases h2; exact hc1);rw [hins] at hstop;refine au 3523014140160 ?_;refine bA [0,1,2,6] ?_;refine bC [(j,_)] ?_;exact hnext _ _ _ oQ ⟨i+1,rfl,oQ,oQ,rfl,by rw [kZ hx,<- hstop]⟩
  obtain rfl:p=0:=by simp at g4_4; omega
  have hstop:=vZ (lt:=ltI) (x:=x) (S:=sortN ltI xs i) (T:=xs.drop (i+1)) (j:=0) (mN _) (fun i y h=>by omega);rw [hins] at hstop;refine ad [[11,0,19],[11,7,19],[11,19,20,21],[11,19,22],[11,0,19],[11,7,19],[11,19,25],[11,19,24,26],[11,19,27],[11,19,23,28],[6,19,29],[14]] ?_;refine au 3523014140160190 ?_;refine bA [0,1,2,6] ?_;refine bC [(j,_)] ?_;exact hnext _ _ _ oQ ⟨i+1,rfl,oQ,oQ,rfl,by rw [kZ hx,<- hstop]⟩
 obtain rfl:i=n:=by simp at hc0; omega
 have hfin:[(j,AObj.row ((sortN ltI xs i++xs.drop i).map intA) 3 1)]=[(j,.row ((sortN ltI xs xs.length).map intA) 3 1)]:=by rw [hn,List.drop_eq_nil_of_le oQ,lR]
 refine au 160 ?_;refine TK.rt0 hret [(j,_)] ?_;rw [show sortR ltI xs=sortN ltI xs xs.length from rfl];exact hfin
theorem ziA {main T} (hT:zn tp main T) {gm} {lim:Int} {j n:Nat} {xs:List Int} (hn:xs.length=n) (h12:1<=n/\n<=12) :
  zq tp T gm 110 [.row j n,intA 0,intA n,intA lim] [(j,.row (xs.map intA) 3 1)] (fun r K'=>K'=[(j,.row ((sortR ltI xs).map intA) 3 1)]):=by
 refine zm 134 hT Tryz.func110 fun Y hret=>?_;refine au 13035423542 ?_;refine TK.loop ?_;refine au 9371422352401142130 ?_;constructor<;>intro hc0
 ·refine au 11142 ?_;refine bD Z Z Z Z (zh6 hT hn h12) ?_;rintro r1 K2 rfl;refine au 3 ?_;refine bB hret [(j,_)] ?_;exact rfl
 simp at hc0; omega
theorem zmc {main T} (hT:zn tp main T) {gm} {j n:Nat} {xs:List Int} (hn:xs.length=n) (h12:1<=n/\n<=12) :
  zq tp T gm 70 [.row j n] [(j,.row (xs.map intA) 3 1)] (fun r K'=>K'=[(j,.row ((sortR ltI xs).map intA) 3 1)]):=by
 refine zm 11 hT Tryz.func70 fun Y hret=>?_;refine au 111435280142 ?_;refine bH Z (yP Z Z Und.h Und.h (zdN (n:=n) oQ)) ?_;refine bD Z Z Z Z (zbU hT (n:=n) oQ) ?_ (hs:=(.none _));rintro r1 K2 ⟨m,rfl,rfl⟩;refine au 0 ?_;refine bD Z Z Z Z (ziA hT hn h12) ?_;rintro r4 K5 rfl;refine au 3 ?_;refine TK.rt0 hret [(j,_)] ?_;exact rfl
end Go.Vel
namespace Go.Vel
open Go Go.Conc
section
variable {P:Program} {gm:Nat->Option Nat} {T:Goroutine->Hp->Prop} {Y:KX P gm T} {ds:List Nat} {k:List Item} {env env':List AV} {K K' K1:KV} {ops:Array Oper} {i:Nat} {rest:List Nat} {o:Oper} {envf:Nat->List AV}
theorem Upd.same' {K K':KV} {i j:Nat} {o o':AObj} (h:Upd K i o j o' K'):i=j->o'=o->K'=K:=by
 induction h with
 | head=>intro hj e; rw [e,hj]
 | tail _ ih=>intro hj e; rw [ih hj e]
theorem Upd.same {K K':KV} {i:Nat} {o o':AObj} (h:Upd K i o i o' K') (e:o'=o):K'=K:=h.same' rfl e
theorem TK.appG {s x:Operand} {t e:TypeId} {size bytes j n m:Nat} {lo ln:List AV} {u:AV} {K'':Nat->KV} (ho:ops[i]? =some o) (hw:zQ ops env o=some true) (hop:o.op=.call { callee:=.builtin .append,args:=#[s,x],argTypes:=#[t,t] }) (ht:apOf P t=some (e,size,bytes)) (hs:zo gm env s=some (.row j n)) (hm:(j,.row lo e size)∈K) (hlo:lo.length=n*size) (hx:zo gm env x=some u) (hl:lenA u=some m) (hsrc:0<m->srcO K size u m ln) (hln:m=0->ln=[])
  (hone:ln.all oneA=true) (hmax:n+m<=maxLen) (hbytes:(n+m)*bytes<=140737488355328) (hu:∀ j',Upd K j (.row lo e size) j' (.row (lo++ln) e size) (K'' j')) (he:∀ j',zP env o.dst (.row j' (n+m))=envf j') (h:∀ j',TK Y ds (.inRegion ops rest::k) (envf j') (K'' j')):TK Y ds (.inRegion ops (i::rest)::k) env K:=by
 rcases mP m with e0 | hpos
 ·subst e0;have hk:K'' j=K:=(hu j).same (by rw [hln rfl,lR]);have ht':=ht;unfold apOf at ht';split at ht'
  ·rename_i e' h1;split at ht'
   ·rename_i ti h2;refine TK.q (r:=.row j n) ho (by rw [hop]; rfl) hw (zeV hop h1 h2 hs hx hl) (he j) ?_;rw [<- hk]; exact h j
   ·cases ht'
  ·cases ht'
 ·exact TK.appR ho (by rw [hop]; rfl) hw (a_app hop ht hs hm hlo hx (hsrc hpos) hpos hone hmax hbytes) hu he h
theorem TK.normK (he:K=K') (h:TK Y ds k env K'):TK Y ds k env K:=he ▸ h
end
theorem ke {l:List AV} {e:TypeId} {rw':Bool} {n size:Nat} (hl:l.length=n*size) (h:0<n*size):takeO (.cells l e rw') 0 (n*size)=some l:=by
 simp only [takeO,AObj.look,mO,List.drop_zero];rw [if_pos ⟨h,oQ⟩,<- hl,lW]
theorem kK {α:Type} (f:α->List AV) (h:∀ x,(f x).all oneA=true) (xs:List α):(xs.flatMap f).all oneA=true:=by
 induction xs with
 | nil=>rfl
 | cons x xs ih=>rw [List.flatMap_cons,List.all_append,h,ih]; rfl
end Go.Vel
namespace Go.Vel
open Go Go.Conc Go.Proofs
def AgrR (b:RBk) (K:KV) (r:AV) (K':KV):Prop:=(zx b≠0/\r=.tup [.agg z7R,intA (zx b)]/\K'=K)\/(zx b=0/\zh b=[]/\r=.tup [.agg z7R,intA 9]/\K'=K)\/(zx b=0/\zh b≠[]/\∃ s h e,r=.tup [.agg (zD b s h e),intA 0]/\K'=(s,zl b)::(h,zF b)::(e,zt b)::K)
def yp (b:RBk) (m:RMeas):RBk:={ b with measures:=b.measures++[m] }
def driedB (b:RBk) (i:Nat) (x:RBand):RBk:={ b with shrinks:=b.shrinks.set i x }
theorem zkp {xs:List RBand} {i:Nat} {n:Int} {x:RBand} {e:TypeId} (h:i<xs.length) (hn:n=(i:Int)):putO (.row (xs.flatMap bandC) e 2) (n.toNat*2) (bandC x)=some (.row ((xs.set i x).flatMap bandC) e 2):=by
 subst hn;unfold putO;dsimp only;have hl:=yy bandC 2 (fun _=>rfl) xs;rw [if_pos ⟨by rw [hl]; simp [bandC]; omega,by simp [bandC],rfl⟩];have key:∀ (xs:List RBand) (i:Nat),i<xs.length->setL (xs.flatMap bandC) (i*2) (bandC x)=(xs.set i x).flatMap bandC:=by
  intro xs
  induction xs with
  | nil=>intro i hi; simp at hi
  | cons y r ih =>
   intro i hi;cases i with
   | zero=>rfl
   | succ i =>
    have:=ih i (by simpa using hi);rw [show (i+1)*2=i*2+2 by omega,List.set_cons_succ,List.flatMap_cons,List.flatMap_cons,<- this];rfl
 rw [Int.toNat_natCast,key xs i h]
instance:ApOf tp 22 54 5 40:={}
instance:ApOf tp 23 28 2 16:={}
instance:ApOf tp 24 95 3 24:={}
instance:BlOf tp 26 [(0,1),(1,1),(2,1),(3,1),(4,1),(5,1),(6,1)]:={}
instance:TyZ tp 26 [.int .i64 0,.int .i64 0,.int .i64 0,.int .i64 0,.slice none 0 0,.slice none 0 0,.slice none 0 0]:={}
instance:TyZ tp 54 [.int .i64 0,.int .i64 0,.int .i64 0,.int .i64 0,.bool false]:={}
instance:TyZ tp 95 [.int .i64 0,.int .i64 0,.int .i64 0]:={}
instance:TyZA tp 26 [.v (.int .i64 0),.v (.int .i64 0),.v (.int .i64 0),.v (.int .i64 0),.v (.slice none 0 0),.v (.slice none 0 0),.v (.slice none 0 0)]:={}
theorem zgZ {main T} (hT:zn tp main T) {gm} {j n:Nat} {l:List AV} {et:TypeId} {rw':Bool} (hl:l.length=n*5) (hone:l.all oneA=true) (hn:n<=100000) :
  zq tp T gm 112 [.sl j 0 n] [(j,.cells l et rw')] (fun r K'=>∃ j2,r=.row j2 n/\K'=[(j,.cells l et rw'),(j2,.row l 54 5)]):=by
 refine zm 8 hT Tryz.func112 fun Y hret=>?_;refine au 14223542 ?_;refine TK.nilT Z Z Z Z Und.h fun tz hz=>?_;refine au 93 ?_;constructor<;>intro hc0
 ·refine au 542 ?_;refine TK.virt 2 54 5 Z fun j0 hj0=>?_;refine au 3 ?_;refine bB hret [(j,_),(j0,_)] ?_;obtain rfl:=hz hc0;obtain rfl:=lK (by simpa using hl);exact ⟨_,rfl,rfl⟩
 refine au 42120 ?_;refine bI Z Z Z (zp (l:=[]) Z zE.h TyZ.h dQ dQ Z) (fun _=>zr rfl tQ) fun j1 hj1=>?_;refine au 1 ?_;refine TK.appG (envf:=fun _=>[_,_,_,_,_,_,_,_]) (ln:=l) rfl rfl rfl ApOf.h rfl mQ rfl rfl rfl (fun hp=>kR mQ oQ (ke hl oQ)) (fun h=>by subst h; exact lK (by simpa using hl)) hone (by unfold maxLen; omega) oQ (fun _=>uQ) (fun _=>rfl) fun j2=>?_;simp only [lC,mO];refine au 35 ?_;refine bB hret [(j,_),(j2,_)] ?_;exact ⟨_,rfl,rfl⟩
theorem zbW {main T} (hT:zn tp main T) {gm} {j n:Nat} {l:List AV} {et:TypeId} {rw':Bool} (hl:l.length=n*2) (hone:l.all oneA=true) (hn:n<=100000) :
  zq tp T gm 86 [.sl j 0 n] [(j,.cells l et rw')] (fun r K'=>∃ j2,r=.row j2 n/\K'=[(j,.cells l et rw'),(j2,.row l 28 2)]):=by
 refine zm 8 hT Tryz.func86 fun Y hret=>?_;refine au 14223542 ?_;refine TK.nilT Z Z Z Z Und.h fun tz hz=>?_;refine au 93 ?_;constructor<;>intro hc0
 ·refine au 542 ?_;refine TK.virt 2 28 2 Z fun j0 hj0=>?_;refine au 3 ?_;refine bB hret [(j,_),(j0,_)] ?_;obtain rfl:=hz hc0;obtain rfl:=lK (by simpa using hl);exact ⟨_,rfl,rfl⟩
 refine au 42120 ?_;refine bI Z Z Z (zp (l:=[]) Z zE.h TyZ.h dQ dQ Z) (fun _=>zr rfl tQ) fun j1 hj1=>?_;refine au 1 ?_;refine TK.appG (envf:=fun _=>[_,_,_,_,_,_,_,_]) (ln:=l) rfl rfl rfl ApOf.h rfl mQ rfl rfl rfl (fun hp=>kR mQ oQ (ke hl oQ)) (fun h=>by subst h; exact lK (by simpa using hl)) hone (by unfold maxLen; omega) oQ (fun _=>uQ) (fun _=>rfl) fun j2=>?_;simp only [lC,mO];refine au 35 ?_;refine bB hret [(j,_),(j2,_)] ?_;exact ⟨_,rfl,rfl⟩
theorem uK {main T} (hT:zn tp main T) {gm} {j n:Nat} {l:List AV} {et:TypeId} {rw':Bool} (hl:l.length=n*3) (hone:l.all oneA=true) (hn:n<=100000) :
  zq tp T gm 83 [.sl j 0 n] [(j,.cells l et rw')] (fun r K'=>∃ j2,r=.row j2 n/\K'=[(j,.cells l et rw'),(j2,.row l 95 3)]):=by
 refine zm 8 hT Tryz.func83 fun Y hret=>?_;refine au 14223542 ?_;refine TK.nilT Z Z Z Z Und.h fun tz hz=>?_;refine au 93 ?_;constructor<;>intro hc0
 ·refine au 542 ?_;refine TK.virt 2 95 3 Z fun j0 hj0=>?_;refine au 3 ?_;refine bB hret [(j,_),(j0,_)] ?_;obtain rfl:=hz hc0;obtain rfl:=lK (by simpa using hl);exact ⟨_,rfl,rfl⟩
 refine au 42120 ?_;refine bI Z Z Z (zp (l:=[]) Z zE.h TyZ.h dQ dQ Z) (fun _=>zr rfl tQ) fun j1 hj1=>?_;refine au 1 ?_;refine TK.appG (envf:=fun _=>[_,_,_,_,_,_,_,_]) (ln:=l) rfl rfl rfl ApOf.h rfl mQ rfl rfl rfl (fun hp=>kR mQ oQ (ke hl oQ)) (fun h=>by subst h; exact lK (by simpa using hl)) hone (by unfold maxLen; omega) oQ (fun _=>uQ) (fun _=>rfl) fun j2=>?_;simp only [lC,mO];refine au 35 ?_;refine bB hret [(j,_),(j2,_)] ?_;exact ⟨_,rfl,rfl⟩
theorem zdb {main T} (hT:zn tp main T) {gm} {b:RBk} {s h e:Nat} (hb:ROk b) :
  zq tp T gm 78 [.agg (zD b s h e)] [(s,zl b),(h,zF b),(e,zt b)] (fun r K'=>∃ s2 h2 e2,r=.agg (zD b s2 h2 e2)/\K'=[(s2,zl b),(h2,zF b),(e2,zt b),(s,zl b),(h,zF b),(e,zt b)]):=by
 refine zm 16 hT Tryz.func78 fun Y hret=>?_;refine au 0 ?_;have hs5:=hb.sms.len;have hsl:=hb.cls.len;have hml:=hb.mes.len;refine au 21042 ?_;intro jb hjb;refine au 220 ?_;intro jr hjr;refine au 23 ?_;refine bM [0,1,3,4,6,7,2,9,5,8,10,11,12,13,14] [0,1,2,3,4,5,6,7,8,9,10,11,12,13,14] ?_;refine ad [[3,1],[10,3],[3,1],[10,6],[3,1],[10,9]] ?_;refine bQ (pend':=[⟨7,[9],[(_,_)]⟩,⟨6,[1],[]⟩,⟨4,[6],[(_,_)]⟩,⟨3,[1],[]⟩,⟨0,[1],[]⟩]) [4] Z Z Z Z Z (zgZ hT (yy seamC 5 (fun _=>rfl) b.seams) (kK seamC (fun _=>rfl) _) oQ) (fun r1 K2 h3=>⟨?_,?_⟩)
 ·rcases h3 with ⟨s2,rfl,rfl⟩
  all_goals simp
 obtain ⟨s2,rfl,rfl⟩:=h3;try simp only [cA]
 refine bS tQ ?_;refine ad [[3,1]] ?_;refine bQ (pend':=[⟨9,[1],[]⟩,⟨7,[9],[(_,_)]⟩,⟨6,[1],[]⟩,⟨3,[1],[]⟩,⟨0,[1],[]⟩]) [7] Z Z Z Z Z (zbW hT (yy bandC 2 (fun _=>rfl) b.shrinks) (kK bandC (fun _=>rfl) _) oQ) (fun r4 K5 h6=>⟨?_,?_⟩)
 ·rcases h6 with ⟨h2,rfl,rfl⟩
  all_goals simp
 obtain ⟨h2,rfl,rfl⟩:=h6;try simp only [cA]
 refine bS tQ ?_;refine bQ (pend':=[⟨9,[1],[]⟩,⟨6,[1],[]⟩,⟨3,[1],[]⟩,⟨0,[1],[]⟩]) [10] Z Z Z Z Z (uK hT (yy yk 3 (fun _=>rfl) b.measures) (kK yk (fun _=>rfl) _) oQ) (fun r7 K8 h9=>⟨?_,?_⟩)
 ·rcases h9 with ⟨e2,rfl,rfl⟩
  all_goals simp
 obtain ⟨e2,rfl,rfl⟩:=h9;try simp only [cA]
 refine bS tQ ?_;refine bR (pend':=[]) [5,12] Z Z (zM Z Z ze.h Z Z mQ Z) ?_;refine ad [[3,1]] ?_;refine bR (pend':=[]) [8,13] Z Z (zM Z Z ze.h Z Z mQ Z) ?_;refine ad [[3,1]] ?_;refine bR (pend':=[]) [11,14] Z Z (zM Z Z ze.h Z Z mQ Z) ?_;refine ad [[14]] ?_;refine au 2 ?_;refine TK.unrowAt (c:=jb) (i:=4) (j:=s2) Z mQ uQ ?_;refine bY (j:=s2) ?_;refine TK.unrowAt (c:=jb) (i:=5) (j:=h2) Z mQ uQ ?_;refine bY (j:=h2) ?_;refine TK.unrowAt (c:=jb) (i:=6) (j:=e2) Z mQ uQ ?_;refine bY (j:=e2) ?_;refine au 31706804 ?_;refine bB hret [(s2,_),(h2,_),(e2,_),(s,_),(h,_),(e,_)] ?_;exact ⟨s2,h2,e2,rfl,rfl⟩
theorem zaq {main:Bool} {T:Goroutine->Hp->Prop} (hT:zn tp main T)  {b:RBk} {s h e:Nat} (hl:b.seams.length<=100) (hm:b.measures.length<=100) :
  zq tp T gmR 84 [.agg (zD b s h e)] [(0,zB),(s,zl b),(h,zF b),(e,zt b)] (fun r K'=>AgrR b [(0,zB),(s,zl b),(h,zF b),(e,zt b)] r K'):=by
 refine zm 17 hT Tryz.func84 fun Y hret=>?_;refine au 21042 ?_;intro jb hjb;refine au 220 ?_;intro jr hjr;refine au 68042235 ?_;refine bD Z Z Z Z (wL hT (Kx:=[]) hl hm) ?_;rintro r1 K2 h3;rcases h3 with ⟨hbar,rfl,rfl⟩ | ⟨hbar,hnil,rfl,rfl⟩ | ⟨hbar,hne,a,rfl,rfl⟩
 ·refine au 220661 ?_;intro j4 hj4;refine au 93714235170 ?_;constructor<;>intro hc0
  ·
   refine au 35170144042 ?_;refine bB hret [(0,_),(s,_),(h,_),(e,_)] ?_;exact .inl ⟨hbar,rfl,rfl⟩
  exact absurd hbar (by simpa using hc0)
 ·refine au 220661 ?_;intro j4 hj4;refine au 93714235170 ?_;constructor<;>intro hc0
  ·
   refine au 35170144042 ?_;refine bB hret [(0,_),(s,_),(h,_),(e,_)] ?_;exact .inr (.inl ⟨hbar,hnil,rfl,rfl⟩)
  exact absurd hc0 dQ
 ·refine au 220661 ?_;intro j4 hj4;refine au 93714235170 ?_;constructor<;>intro hc0
  ·exact absurd hc0 sQ
  have hbb:=zZ hbar;refine au 68042120 ?_;refine bD Z Z Z Z (zdb hT hbb) ?_;rintro r4 K5 ⟨s2,h2,e2,rfl,rfl⟩;refine au 35170 ?_;refine bB hret [(s2,_),(h2,_),(e2,_),(0,_),(s,_),(h,_),(e,_)] ?_;exact .inr (.inr ⟨hbar,hne,s2,h2,e2,rfl,rfl⟩)
theorem zhh {main:Bool} {T:Goroutine->Hp->Prop} (hT:zn tp main T)  {b:RBk} {s h e:Nat} (hl:b.seams.length<=100) (hm:b.measures.length<=100) {m:RMeas} :
  zq tp T gmR 37 [.agg (zD b s h e),.agg (yk m)] [(0,zB),(s,zl b),(h,zF b),(e,zt b)] (fun r K'=>(zx b≠0/\r=.tup [.agg z7R,intA (zx b)]/\K'=[(0,zB),(s,zl b),(h,zF b),(e,zt b)])\/(zx b=0/\AgrR (yp b m) [(0,zB),(s,zl b),(h,zF b),(e,zt b)] r K')):=by
 refine zm 24 hT Tryz.func37 fun Y hret=>?_;refine au 21042 ?_;intro jb hjb;refine au 210 ?_;intro jm hjm;refine au 220 ?_;intro jr hjr;refine au 68042235 ?_;refine TK.clE Z Z Z Z (vN hT hl hm) ?_;refine au 93714235 ?_;constructor<;>intro hc0
 ·refine au 35170144042 ?_;refine bB hret [(0,_),(s,_),(h,_),(e,_)] ?_;exact .inl ⟨by simpa using hc0,rfl,rfl⟩
 have hbar:zx b=0:=by simpa using hc0
 have hml:=(zZ hbar).mes.len;have hfl:=yy yk 3 (fun _=>rfl) b.measures;refine au 2120 ?_;refine bM [0,1,3,2,4,5,6,7] [0,1,2,3,4,5,6,7] ?_;refine ad [[3,2],[10,13],[12,3]] ?_;refine TD.c2 (i1:=2) (i2:=4) (pend1:=[⟨3,[3],[(_,_)]⟩,⟨0,[2],[]⟩]) (pend2:=[⟨1,[13],[(_,_)]⟩,⟨0,[2],[]⟩]) (L1:=[4,5,6,7]) (L2:=[2,5,6,7]) [14] [16] Z Z Z Z Z Z Z ?_ ?_
 ·refine kc Z Z Cal.h Z (uK hT (yy yk 3 (fun _=>rfl) b.measures) (kK yk (fun _=>rfl) _) oQ) (by repeat (first | exact Split.none _ | exact Split.all _ | (apply Split.rem; repeat (first | exact Rem.head | apply Rem.tail)) | apply Split.right)) fun r4 K5 h6=>⟨?_,?_⟩
  ·rcases h6 with ⟨jc,rfl,rfl⟩
   all_goals simp
  obtain ⟨jc,rfl,rfl⟩:=h6;try simp only [cA]
  refine bS (env':=[_,_,_,_,_,_,_,_,_,_,_,_,_,_,_,_,_,_,_,_,_,_,_,_]) Z ?_;refine bV (pend':=[⟨0,[2],[]⟩]) [16] Z Z Z Z Z (zp (l:=[_,_,_]) Z zE.h TyZ.h dQ dQ Z) (fun _=>zr rfl tQ) sQ fun j7 hj7=>?_;refine TD.capp (pend':=[⟨0,[2],[]⟩]) [15,17] Z Z Z Z Z (a_app Z ApOf.h Z mQ oQ Z (yg (ln:=[_,_,_]) mQ dQ sQ Z) oQ Z (by unfold maxLen; omega) oQ) (fun _=>uQ) (fun _=>zr rfl tQ) (fun _=>sQ) fun je=>?_;refine ad [[3,2]] ?_;refine bR (pend':=[]) [18,19] Z Z (zM Z Z ze.h Z Z mQ Z) ?_;refine ad [[14]] ?_;refine au 2 ?_;refine TK.unrowAt (c:=jb) (i:=6) (j:=je) Z mQ uQ ?_;refine bY (j:=je) ?_;rw [show b.measures.flatMap yk++[intA m.cloth,intA m.many,intA m.wide]=(yp b m).measures.flatMap yk from (kj yk b.measures m).symm,show b.measures.length+1=(yp b m).measures.length by simp [yp]];refine au 6804 ?_;refine bD Z Z Z Z ((zaq hT (b:=yp b m) (s:=s) (h:=h) (e:=je) hl (by simp [yp]; omega)).mono (fun _ _ h=>h)) ?_;rintro r8 K9 h10;rcases h10 with ⟨hb2,rfl,rfl⟩ | ⟨hb2,hn2,rfl,rfl⟩ | ⟨hb2,hn2,s2,h2,e2,rfl,rfl⟩
  ·refine au 3517066 ?_;refine bB hret [(0,_),(s,_),(h,_),(e,_)] ?_;exact .inr ⟨hbar,.inl ⟨hb2,rfl,rfl⟩⟩
  ·refine au 3517066 ?_;refine bB hret [(0,_),(s,_),(h,_),(e,_)] ?_;exact .inr ⟨hbar,.inr (.inl ⟨hb2,hn2,rfl,rfl⟩)⟩
  ·refine au 3517066 ?_;refine bB hret [(s2,_),(h2,_),(e2,_),(0,_),(s,_),(h,_),(e,_)] ?_;exact .inr ⟨hbar,.inr (.inr ⟨hb2,hn2,s2,h2,e2,rfl,rfl⟩)⟩
 ·refine kJ Z (zp (l:=[_,_,_]) Z zE.h TyZ.h dQ dQ Z) (fun _=>zr rfl tQ) sQ fun j11 hj11=>?_;refine bQ (pend':=[⟨0,[2],[]⟩]) [14] Z Z Z Z Z (uK hT (yy yk 3 (fun _=>rfl) b.measures) (kK yk (fun _=>rfl) _) oQ) (fun r12 K13 h14=>⟨?_,?_⟩)
  ·rcases h14 with ⟨jc,rfl,rfl⟩
   all_goals simp
  obtain ⟨jc,rfl,rfl⟩:=h14;try simp only [cA]
  refine bS tQ ?_;refine TD.capp (pend':=[⟨0,[2],[]⟩]) [15,17] Z Z Z Z Z (a_app Z ApOf.h Z mQ oQ Z (yg (ln:=[_,_,_]) mQ dQ sQ Z) oQ Z (by unfold maxLen; omega) oQ) (fun _=>uQ) (fun _=>zr rfl tQ) (fun _=>sQ) fun je=>?_;refine ad [[3,2]] ?_;refine bR (pend':=[]) [18,19] Z Z (zM Z Z ze.h Z Z mQ Z) ?_;refine ad [[14]] ?_;refine au 2 ?_;refine TK.unrowAt (c:=jb) (i:=6) (j:=je) Z mQ uQ ?_;refine bY (j:=je) ?_;rw [show b.measures.flatMap yk++[intA m.cloth,intA m.many,intA m.wide]=(yp b m).measures.flatMap yk from (kj yk b.measures m).symm,show b.measures.length+1=(yp b m).measures.length by simp [yp]];refine au 6804 ?_;refine bD Z Z Z Z ((zaq hT (b:=yp b m) (s:=s) (h:=h) (e:=je) hl (by simp [yp]; omega)).mono (fun _ _ h=>h)) ?_;rintro r15 K16 h17;rcases h17 with ⟨hb2,rfl,rfl⟩ | ⟨hb2,hn2,rfl,rfl⟩ | ⟨hb2,hn2,s2,h2,e2,rfl,rfl⟩
  ·refine au 3517066 ?_;refine bB hret [(0,_),(s,_),(h,_),(e,_)] ?_;exact .inr ⟨hbar,.inl ⟨hb2,rfl,rfl⟩⟩
  ·refine au 3517066 ?_;refine bB hret [(0,_),(s,_),(h,_),(e,_)] ?_;exact .inr ⟨hbar,.inr (.inl ⟨hb2,hn2,rfl,rfl⟩)⟩
  ·refine au 3517066 ?_;refine bB hret [(s2,_),(h2,_),(e2,_),(0,_),(s,_),(h,_),(e,_)] ?_;exact .inr ⟨hbar,.inr (.inr ⟨hb2,hn2,s2,h2,e2,rfl,rfl⟩)⟩
def dryX (b:RBk) (n:Int) (x:RBand):RBand:=⟨max (bd b n.toNat).low x.low,min (bd b n.toNat).high x.high⟩
def shrM (b:RBk) (n:Int):List Int:=compM (sortR ltI ((zh b).map fun s=>zL s n.toNat))
theorem zg4 {xs:List Int} (h:xs.length<2):compM xs=xs:=by
 rcases xs with _ | ⟨x,_ | ⟨y,r⟩⟩
 ·rfl
 ·rfl
 ·simp only [lZ] at h; omega
def onlyL (xs:List RMeas) (mask:Nat):Nat->List RMeas
 | 0=>[]
 | i+1=>onlyL xs mask i++(if mask / 2 ^ i % 2=1 then (xs[i]?).toList else [])
def onlyB (b:RBk) (mask:Nat):RBk:={ b with measures:=onlyL b.measures mask b.measures.length }
theorem zaM (xs:List RMeas) (mask:Nat):∀ i,i<=xs.length->(onlyL xs mask i).length=(zu mask i).length
 | 0,_=>rfl
 | i+1,h=>by
  unfold onlyL zu;rw [lF,lF,zaM xs mask i oQ];split
  ·rw [lA oQ]; rfl
  ·rfl
theorem zdw {xs:List RMeas} {mask:Nat}:∀ i m,m∈onlyL xs mask i->m∈xs
 | 0,m,h=>by cases h
 | i+1,m,h=>by
  unfold onlyL at h;rcases List.mem_append.1 h with h | h
  ·exact zdw i m h
  ·split at h
   ·cases e:xs[i]? with
    | none=>rw [e] at h; cases h
    | some y=>rw [e] at h; rw [lS.1 h]; exact List.mem_of_getElem? e
   ·cases h
theorem zkl {b:RBk} (hb:ROk b) (mask:Nat):ROk (onlyB b mask):=⟨⟨hb.rnd.steps,hb.rnd.round,hb.rnd.roll,hb.rnd.rolls⟩,⟨hb.sms.len,hb.sms.fld,hb.sms.asc⟩,⟨hb.cls.len,hb.cls.bnd⟩,⟨by
 show (onlyL b.measures mask b.measures.length).length<=3;rw [zaM _ _ _ (mL _)];have:=w8 mask b.measures.length;have:=hb.mes.len;omega,fun m hm=>hb.mes.bnd m (zdw _ m hm)⟩⟩
theorem zhS {main:Bool} {T:Goroutine->Hp->Prop} (hT:zn tp main T)  {b:RBk} {s h e:Nat} (hl:b.seams.length<=100) (hm:b.measures.length<=100) {n:Int} {x:RBand} :
  zq tp T gmR 38 [.agg (zD b s h e),intA n,.agg (bandC x)] [(0,zB),(s,zl b),(h,zF b),(e,zt b)] (fun r K'=>(bar2 (zx b) (thereM b n)≠0/\r=.tup [.agg z7R,intA (bar2 (zx b) (thereM b n))]/\K'=[(0,zB),(s,zl b),(h,zF b),(e,zt b)])\/(bar2 (zx b) (thereM b n)=0/\isBd x 0 5=false/\r=.tup [.agg z7R,intA 1]/\K'=[(0,zB),(s,zl b),(h,zF b),(e,zt b)])\/(bar2 (zx b) (thereM b n)=0/\isBd x 0 5=true/\(dryX b n x).high<(dryX b n x).low/\r=.tup [.agg z7R,intA 9]/\K'=[(0,zB),(s,zl b),(h,zF b),(e,zt b)])\/(bar2 (zx b) (thereM b n)=0/\isBd x 0 5=true/\(dryX b n x).low<=(dryX b n x).high/\AgrR (driedB b n.toNat (dryX b n x)) [(0,zB),(s,zl b),(h,zF b),(e,zt b)] r K')):=by
 refine zm 65 hT Tryz.func38 fun Y hret=>?_;refine au 21042 ?_;intro jb hjb;refine au 210 ?_;intro jx hjx;refine au 220 ?_;intro jr hjr;refine au 320168042235 ?_;refine bI Z Z Z (zp (l:=[_]) Z zE.h TyZ.h dQ dQ Z) (fun _=>zr rfl tQ) fun ja hja=>?_;refine bD Z Z Z Z (vB hT (Kx:=[]) (p1:=thereM b n) hl hm (fun h0=>yJ Cal.h ((zaf hT (b:=b) (s:=s) (h:=h) (e:=e) (n:=n) (zZ h0).sms.len.2).frameP (R:=[(s,zl b)]) (List.Perm.refl _)))) ?_;rintro r1 K2 h3;rcases h3 with ⟨⟨hbar,rfl⟩ | ⟨hbar,rfl⟩,rfl⟩
 ·refine au 220661 ?_;intro j8 hj8;refine au 93714235170 ?_;constructor<;>intro hc0
  ·exact absurd hc0 sQ
  have hbb:=zZ (wb hbar);have hth:=zbh (kC hbar);have hs5:=hbb.sms.len;have hsl:=hbb.cls.len;have hml:=hbb.mes.len;have hnb:n.toNat<b.shrinks.length:=by omega
  have hnn:n=(n.toNat:Int):=by omega
  refine au 680422120 ?_;refine TK.clE Z Z Z Z (zdk hT (x:=x)) ?_;refine au 93300 ?_;constructor<;>intro hc1
  ·refine au 3517044042 ?_;refine bB hret [(0,_),(s,_),(h,_),(e,_)] ?_;exact .inr (.inl ⟨hbar,by simpa using hc1,rfl,rfl⟩)
  refine au 2120 ?_;refine bL [0,1,2,3,4,5,6,7,8,9,10,11,12,13,14,15,16,17,18,19,20] ?_;refine ad [[3,3],[10,27],[1,1],[2,28,29],[3,30]] ?_;refine bT [31] Z (hq:=zk Z Z ze.h (mC _) (yd (c:=0) (bd_at b (i:=n.toNat) hnb hnn) dQ Z)) (h:=?_);refine ad [[3,5],[10,33]] ?_;refine TD.z [32,34] Z (zcl Z Z Z) ?_;refine ad [[3,3],[10,36],[1,1],[2,37,38],[3,39]] ?_;refine bT [40] Z (hq:=zk Z Z ze.h (mC _) (yd (c:=1) (bd_at b (i:=n.toNat) hnb hnn) dQ Z)) (h:=?_);refine ad [[3,5],[10,42]] ?_;refine TD.z [41,43] Z (zcm Z Z Z) ?_;refine TD.z [35,44] Z (yi (l:=[_,_]) Z TyZ.h BlOf.h Z) ?_;refine TD.cnewP (pend':=[⟨18,[35,44],[]⟩,⟨17,[41,43],[]⟩,⟨16,[42],[(_,_)]⟩,⟨15,[5],[]⟩,⟨14,[40],[(_,_)]⟩,⟨13,[39],[]⟩,⟨12,[37,38],[]⟩,⟨11,[1],[]⟩,⟨10,[36],[(_,_)]⟩,⟨9,[3],[]⟩,⟨8,[32,34],[]⟩,⟨7,[33],[(_,_)]⟩,⟨6,[5],[]⟩,⟨5,[31],[(_,_)]⟩,⟨4,[30],[]⟩,⟨3,[28,29],[]⟩,⟨2,[1],[]⟩,⟨1,[27],[(_,_)]⟩,⟨0,[3],[]⟩]) [] Z Z Z Z Z (yC Z TyZA.h) (fun _=>zr rfl tQ) sQ fun j10 hj10=>?_;refine bR (pend':=[]) [10,45] Z Z (zM Z Z ze.h Z Z mQ Z) ?_;refine ad [[14]] ?_;refine au 937690670690670422 ?_;constructor<;>intro hc2
  ·refine au 3517044042 ?_;refine bB hret [(0,_),(s,_),(h,_),(e,_)] ?_;exact .inr (.inr (.inl ⟨hbar,by simpa using hc1,of_decide_eq_true hc2,rfl,rfl⟩))
  refine au 69067042120 ?_;refine bD Z Z Z Z (zbW hT (yy bandC 2 (fun _=>rfl) b.shrinks) (kK bandC (fun _=>rfl) _) oQ) ?_;rintro r7 K8 ⟨jc,rfl,rfl⟩;refine au 3706801690670423170670 ?_;refine TK.st Z Z Z (zM Z Z ze.h Z Z mQ (zkp (x:=(dryX b n x)) hnb hnn)) uQ (putN Z) ?_;refine au 23 ?_;refine TK.unrowAt (c:=jb) (i:=5) (j:=jc) Z mQ uQ ?_;refine bY (j:=jc) ?_;rw [show b.shrinks.length=(driedB b n.toNat (dryX b n x)).shrinks.length by simp [driedB]];refine au 6804 ?_;refine bD Z Z Z Z ((zaq hT (b:=(driedB b n.toNat (dryX b n x))) (s:=s) (h:=jc) (e:=e) hl hm).mono (fun _ _ h=>h)) ?_;rintro r10 K11 h12;rcases h12 with ⟨hb2,rfl,rfl⟩ | ⟨hb2,hn2,rfl,rfl⟩ | ⟨hb2,hn2,s2,h2,e2,rfl,rfl⟩
  ·refine au 3517066 ?_;refine bB hret [(0,_),(s,_),(h,_),(e,_)] ?_;exact .inr (.inr (.inr ⟨hbar,by simpa using hc1,Int.not_lt.1 (of_decide_eq_false hc2),.inl ⟨hb2,rfl,rfl⟩⟩))
  ·refine au 3517066 ?_;refine bB hret [(0,_),(s,_),(h,_),(e,_)] ?_;exact .inr (.inr (.inr ⟨hbar,by simpa using hc1,Int.not_lt.1 (of_decide_eq_false hc2),.inr (.inl ⟨hb2,hn2,rfl,rfl⟩)⟩))
  ·refine au 3517066 ?_;refine bB hret [(s2,_),(h2,_),(e2,_),(0,_),(s,_),(h,_),(e,_)] ?_;exact .inr (.inr (.inr ⟨hbar,by simpa using hc1,Int.not_lt.1 (of_decide_eq_false hc2),.inr (.inr ⟨hb2,hn2,s2,h2,e2,rfl,rfl⟩)⟩))
 ·refine au 220661 ?_;intro j8 hj8;refine au 93714235170 ?_;constructor<;>intro hc0
  ·
   refine au 35170144042 ?_;refine bB hret [(0,_),(s,_),(h,_),(e,_)] ?_;exact .inl ⟨hbar,rfl,rfl⟩
  exact absurd hbar (by simpa using hc0)
theorem zls {main:Bool} {T:Goroutine->Hp->Prop} (hT:zn tp main T)  {b:RBk} {s h e:Nat} (hl:b.seams.length<=100) (hm:b.measures.length<=100) {r0:Int} :
  zq tp T gmR 31 [.agg (zD b s h e),intA r0] [(0,zB),(s,zl b),(h,zF b),(e,zt b)] (fun r K'=>(zx b≠0/\r=.tup [.agg z7R,intA (zx b)]/\K'=[(0,zB),(s,zl b),(h,zF b),(e,zt b)])\/(zx b=0/\betw r0 b.steps 40=false/\r=.tup [.agg z7R,intA 1]/\K'=[(0,zB),(s,zl b),(h,zF b),(e,zt b)])\/(zx b=0/\betw r0 b.steps 40=true/\∃ s2 h2 e2,r=.tup [.agg (zD (atRound b r0) s2 h2 e2),intA 0]/\K'=(s2,zl b)::(h2,zF b)::(e2,zt b)::[(0,zB),(s,zl b),(h,zF b),(e,zt b)])):=by
 refine zm 23 hT Tryz.func31 fun Y hret=>?_;refine au 21042 ?_;intro jb hjb;refine au 220 ?_;intro jr hjr;refine au 68042235 ?_;refine TK.clE Z Z Z Z (vN hT hl hm) ?_;refine au 93714235 ?_;constructor<;>intro hc0
 ·refine au 35170144042 ?_;refine bB hret [(0,_),(s,_),(h,_),(e,_)] ?_;exact .inl ⟨by simpa using hc0,rfl,rfl⟩
 have hbar:zx b=0:=by simpa using hc0
 have hbb:=zZ hbar;refine au 6906701422120 ?_;refine TK.clE Z Z Z Z (yK hT) ?_;refine au 93300 ?_;constructor<;>intro hc1
 ·refine au 3517044042 ?_;refine bB hret [(0,_),(s,_),(h,_),(e,_)] ?_;exact .inr (.inl ⟨hbar,by simpa using hc1,rfl,rfl⟩)
 have hb1:=uw (n:=r0) (lo:=b.steps) (hi:=40) (by simpa using hc1);refine au 680423170670142120 ?_;refine bD Z Z Z Z (zdb hT (b:=atRound b r0) (s:=s) (h:=h) (e:=e) (zar hbb oQ oQ)) ?_;rintro r7 K8 ⟨s2,h2,e2,rfl,rfl⟩;refine au 35170 ?_;refine bB hret [(s2,_),(h2,_),(e2,_),(0,_),(s,_),(h,_),(e,_)] ?_;exact .inr (.inr ⟨hbar,by simpa using hc1,s2,h2,e2,rfl,rfl⟩)
theorem zfC {main T} (hT:zn tp main T) {gm} {j n:Nat} {xs:List Int} (hn:xs.length=n) (hl:n<=1000) :
  zq tp T gm 71 [.row j n] [(j,.row (xs.map intA) 3 1)] (fun r K'=>(∃ zs:List Int,r=.sl j 0 (compM xs).length/\K'=[(j,.row ((compM xs++zs).map intA) 3 1)])\/(r=.row j n/\compM xs=xs/\K'=[(j,.row (xs.map intA) 3 1)])):=by
 refine zm 61 hT Tryz.func71 fun Y hret=>?_;refine au 93728014223542 ?_;constructor<;>intro hc0
 ·
  refine au 35142 ?_;refine bB hret [(j,_)] ?_;exact .inr ⟨rfl,zg4 (by simp at hc0; omega),rfl⟩
 have h2:2<=n:=by simp at hc0; omega
 refine au 13035422120 ?_;refine bA [0,3] ?_;refine bE (fun n1 env K=>∃ (i:Nat),n1=n - i/\1<=i/\i<=n/\(compN xs i).length=i/\env=.row j n::naL 2 (intA i::naL 57 [])/\K=[(j,.row (xs.map intA) 3 1)]) (n - 1) ⟨1,rfl,mL _,oQ,by simp [compN]; omega,rfl,rfl⟩ fun n1 env K hI hnext=>?_;obtain ⟨i,rfl,hi1,hi,hlead,rfl,rfl⟩:=hI;refine bG nQ ?_;refine au 93728011422 ?_;constructor<;>intro hc1
 ·have hil:i<n:=by simp at hc1; omega
  refine au 21302120 ?_;refine bL [0,1,2,3,4,5,6,7,8,9] ?_;refine ad [[1,0],[1,3]] ?_;refine bT [16,17] Z (hq:=kq Z Z Z zE.h (mC _) oQ oQ) (h:=?_);refine bT [18] Z (hq:=zk Z Z ze.h (mC _) (zbf (i:=i) (yb oQ) Z)) (h:=?_);refine ad [[1,0],[1,3],[9,21]] ?_;refine bT [20,22] Z (hq:=kq Z Z Z zE.h (mC _) oQ oQ) (h:=?_);refine bT [23] Z (hq:=zk Z Z ze.h (mC _) (zbf (i:=i - 1) (yb oQ) oQ)) (h:=?_);refine ad [[4,19,24],[14]] ?_;refine au 9 ?_;constructor<;>intro hc2
  ·have heq:zL xs (i - 1)=zL xs i:=by have:=eq_of_beq hc2; exact this.symm
   obtain ⟨i0,rfl⟩:∃ i0,i=i0+1:=⟨i - 1,oQ⟩;have hc1e:compN xs (i0+2)=compN xs (i0+1):=uL heq;refine au 1142 ?_;refine bH Z (wZ Z Z zE.h mQ Z Z oQ oQ Z) ?_;refine au 1303542235 ?_;refine bA [0,3,4,5] ?_;refine bE (fun n1 env K=>∃ (q w o4:Nat),n1=n - q/\o4=i0+1/\1<=q/\i0+1+q<=n/\(compN xs (i0+1+q)).length=w/\w+1<=i0+1+q/\env=.row j n::naL 2 (intA w::.sl j o4 (n - (i0+1))::intA q::naL 55 [])/\K=[(j,.row ((compN xs (i0+1+q)++xs.drop w).map intA) 3 1)]) (n - 1) ⟨1,i0+1,_,rfl,(by omega:0+((i0+1:Nat):Int).toNat*1=i0+1),mL _,oQ,by rw [show i0+1+1=i0+2 by omega,hc1e]; exact hlead,oQ,rfl,by rw [show i0+1+1=i0+2 by omega,hc1e,zaw _ oQ hlead,List.take_append_drop]⟩ fun n1 env K hI hnext1=>?_;obtain ⟨q,w,o4,rfl,ho4,hq1,hq,hw,hwq,rfl,rfl⟩:=hI;have hdl:(compN xs (i0+1+q)++xs.drop w).length=n:=by rw [lF,List.length_drop,hw]; omega
   refine bG nQ ?_;refine au 93728011422 ?_;constructor<;>intro hc3
   ·have hql:i0+1+q<n:=by simp at hc3; omega
    have hq2:i0+1+(q+1)=(i0+q)+2:=by omega
    have hq3:compN xs (i0+q+1)=compN xs (i0+1+q):=by rw [show i0+q+1=i0+1+q by omega]
    have hq4:zL xs (i0+1+q)=zL xs (i0+q+1):=by rw [show i0+q+1=i0+1+q by omega]
    refine au 21302120 ?_;refine bL [0,1,2,3,4,5,6,7,8,9] ?_;refine ad [[1,4],[1,5],[2,35,36]] ?_;refine bT [37] Z (hq:=zk Z Z ze.h (mC _) (kY (i:=i0+1+q) (zav hw oQ oQ) oQ)) (h:=?_);refine ad [[1,4],[1,5],[9,40],[2,39,41]] ?_;refine bT [42] Z (hq:=zk Z Z ze.h (mC _) (kY (i:=i0+q) (zav hw oQ oQ) oQ)) (h:=?_);refine ad [[4,38,43],[14]] ?_;refine au 9 ?_;constructor<;>intro hc4
    ·have hne4:zL xs (i0+q)≠zL xs (i0+q+1):=fun h=>by rw [hq4,<- h] at hc4; simp at hc4
     refine au 360111142 ?_;refine bH Z (zk Z Z ze.h mQ (kY (i:=i0+1+q) (zav hw oQ oQ) oQ)) ?_;refine au 370 ?_;refine TK.st Z Z Z (zM Z Z ze.h Z Z mQ (zgw (k:=w) oQ Z)) uQ (putN Z) ?_;refine au 352301414035230143 ?_;refine bA [0,3,4,5] ?_;refine bC [(j,_)] ?_;exact hnext1 _ _ _ oQ ⟨q+1,w+1,o4,rfl,ho4,oQ,oQ,by rw [hq2,uM hne4,lF,hq3,hw]; rfl,oQ,rfl,by rw [zjx hw oQ,hq2,uM hne4,hq3,<- hq4]⟩
    have heq4:zL xs (i0+q)=zL xs (i0+q+1):=by rw [<- hq4]; simp at hc4; exact hc4.symm
    refine au 3523014140120 ?_;refine bA [0,3,4,5] ?_;refine bC [(j,_)] ?_;exact hnext1 _ _ _ oQ ⟨q+1,w,o4,rfl,ho4,oQ,oQ,by rw [hq2,uL heq4,hq3,hw],oQ,rfl,by rw [hq2,uL heq4,hq3]⟩
   have hnq:n=i0+1+q:=by simp at hc3; omega
   refine au 1142160 ?_;refine bH Z (wZ Z Z zE.h mQ Z Z oQ oQ Z) ?_;refine TK.st Z Z Z (zl1 Z ApOf.h TyZ.h Z oQ mQ (ziF (k:=w) hw oQ oQ oQ)) uQ (putN Z) ?_;refine au 11423 ?_;refine bH Z (wZ Z Z zE.h mQ Z Z oQ oQ Z) ?_;refine au 35 ?_;refine bB hret [(j,_)] ?_;have hcm:compM xs=compN xs (i0+1+q):=by unfold compM; rw [hn,hnq]
   exact .inl ⟨_,by rw [hcm,hw]; rfl,by rw [hcm]⟩
  have hne:¬ zL xs (i - 1)=zL xs i:=fun h=>by rw [h] at hc2; simp at hc2
  have hi2:i+1=(i - 1)+2:=by omega
  have hi3:zL xs i=zL xs (i - 1+1):=by rw [show i - 1+1=i by omega]
  have hlead2:(compN xs (i - 1+1)).length=i:=by rw [show i - 1+1=i by omega]; exact hlead
  refine au 3523014140120 ?_;refine bA [0,3] ?_;refine bC [(j,_)] ?_;exact hnext _ _ _ oQ ⟨i+1,rfl,oQ,oQ,by rw [hi2,uM (fun h=>hne (by rw [hi3]; exact h)),lF,hlead2]; simp; omega,rfl,rfl⟩
 obtain rfl:i=n:=by simp at hc1; omega
 refine au 35142160 ?_;refine bB hret [(j,_)] ?_;exact .inr ⟨rfl,by unfold compM; rw [zaw _ (mL _) (by rw [hn]; exact hlead),lW],rfl⟩
theorem zcq {main:Bool} {T:Goroutine->Hp->Prop} (hT:zn tp main T)  {b:RBk} {s h e:Nat} (hl:b.seams.length<=100) (hm:b.measures.length<=100) {n:Int} (h12:(zh b).length<=12) :
  zq tp T gmR 25 [.agg (zD b s h e),intA n] [(0,zB),(s,zl b),(h,zF b),(e,zt b)] (fun r K'=>(bar2 (zx b) (thereM b n)≠0/\r=.tup [.v (.slice none 0 0),intA (bar2 (zx b) (thereM b n))]/\K'=[(0,zB),(s,zl b),(h,zF b),(e,zt b)])\/(bar2 (zx b) (thereM b n)=0/\zh b=[]/\r=.tup [.v (.slice none 0 0),intA 9]/\K'=[(0,zB),(s,zl b),(h,zF b),(e,zt b)])\/(bar2 (zx b) (thereM b n)=0/\zh b≠[]/\∃ jr zs,r=.tup [.sl jr 0 (shrM b n).length,intA 0]/\K'=(jr,.cells ((shrM b n++zs).map intA) 3 false)::[(0,zB),(s,zl b),(h,zF b),(e,zt b)])):=by
 refine zm 40 hT Tryz.func25 fun Y hret=>?_;refine au 21042 ?_;intro jb hjb;refine au 320168042355 ?_;refine bI Z Z Z (zp (l:=[_]) Z zE.h TyZ.h dQ dQ Z) (fun _=>zr rfl tQ) fun ja hja=>?_;refine bD Z Z Z Z (zaF hT (Kx:=[]) (p1:=thereM b n) (fun h0=>yJ Cal.h ((zaf hT (b:=b) (s:=s) (h:=h) (e:=e) (n:=n) (zZ h0).sms.len.2).frameP (R:=[(s,zl b)]) (List.Perm.refl _))) hl hm) ?_;rintro r1 K2 h3;rcases h3 with ⟨hbar,rfl,rfl⟩ | ⟨hbar,hnil,rfl,rfl⟩ | ⟨hbar,hne,a,rfl,rfl⟩
 ·refine au 220661 ?_;intro j6 hj6;refine au 937142235170 ?_;constructor<;>intro hc0
  ·
   refine au 355142 ?_;refine bB hret [(0,_),(s,_),(h,_),(e,_)] ?_;exact .inl ⟨hbar,rfl,rfl⟩
  exact absurd hbar (by simpa using hc0)
 ·refine au 220661 ?_;intro j6 hj6;refine au 937142235170 ?_;constructor<;>intro hc0
  ·
   refine au 355142 ?_;refine bB hret [(0,_),(s,_),(h,_),(e,_)] ?_;exact .inr (.inl ⟨hbar,hnil,rfl,rfl⟩)
  exact absurd hc0 dQ
 ·refine au 220661 ?_;intro j6 hj6;refine au 937142235170 ?_;constructor<;>intro hc0
  ·exact absurd hc0 sQ
  have hbb:=zZ (wb hbar);have hth:=zbh (kC hbar);have hs5:=hbb.sms.len;have hpos:0<(zh b).length:=List.length_pos_iff.2 hne;refine au 542120 ?_;refine TK.virt 8 3 1 Z fun jt0 hjt0=>?_;refine au 130312806906704223 ?_;refine bA [1,4,5,6,8,23,24,25] ?_;refine bC [(a,_),(0,_),(s,_),(h,_),(e,_),(j6,_),(jt0,_)] ?_;refine bE (fun n1 env K=>∃ (i jt:Nat),n1=(zh b).length - i/\i<=(zh b).length/\env=.any::intA n::naL 2 (.v (.slice none 0 0)::intA 0::.ptr j6 0::.any::.row jt i::naL 14 (.sl a 0 (zh b).length::intA (zh b).length::intA i::naL 14 []))/\K=[(a,allO (zh b)),(0,zB),(s,zl b),(h,zF b),(e,zt b),(j6,.cells (knownC b s h e a (zh b).length) 148 true),(jt,.row ((((zh b).take i).map fun s=>zL s n.toNat).map intA) 3 1)]) (zh b).length ⟨0,jt0,rfl,mN _,rfl,rfl⟩ fun n1 env K hI hnext=>?_;obtain ⟨i,jt,rfl,hi,rfl,rfl⟩:=hI;refine bG nQ ?_;refine au 923742 ?_;constructor<;>intro hc1
  ·have hil:i<(zh b).length:=by simp at hc1; omega
   obtain ⟨st,hst⟩:∃ st,(zh b)[i]? =some st:=⟨_,lA hil⟩;refine au 360421302120 ?_;refine bH Z (zK Z Z ze.h mQ (zbQ (i:=i) hst Z)) ?_;refine au 220 ?_;intro j10 hj10;refine au 1143170 ?_;refine bH Z (kF Z Z Z ArEl.h oQ oQ) ?_;refine bH Z (zk Z Z ze.h mQ (st_at (i:=n.toNat) oQ oQ)) ?_;refine bI Z Z Z (zp (l:=[_]) Z zE.h TyZ.h dQ dQ Z) (fun _=>zr rfl tQ) fun j4 hj4=>?_;refine TK.appR Z Z Z (a_app Z ApOf.h Z mQ (by simp; omega) Z (yg (ln:=[_]) mQ dQ sQ Z) oQ Z (by unfold maxLen; omega) oQ) (fun _=>uQ) (fun _=>zr rfl tQ) fun jt2=>?_;refine au 31230414035 ?_;refine bA [1,4,5,6,8,23,24,25] ?_;refine bC [(a,_),(0,_),(s,_),(h,_),(e,_),(j6,_),(jt2,_)] ?_;exact hnext _ _ _ oQ ⟨i+1,jt2,rfl,oQ,rfl,by rw [yA hst,lM,lM]; rfl⟩
  obtain rfl:i=(zh b).length:=by simp at hc1; omega
  rw [List.take_of_length_le (mL _)];have hsl2:(sortR ltI ((zh b).map fun s=>zL s n.toNat)).length=(zh b).length:=by unfold sortR; rw [vw _ _ (mL _),List.length_map]
  refine au 142160 ?_;refine bD Z Z Z Z (zmc hT (xs:=((zh b).map fun s=>zL s n.toNat)) sQ ⟨hpos,h12⟩) ?_;rintro r5 K6 rfl;refine au 1423 ?_;refine bD Z Z Z Z (zfC hT (xs:=sortR ltI ((zh b).map fun s=>zL s n.toNat)) hsl2 oQ) ?_;rintro r8 K9 h10;rcases h10 with ⟨zs,rfl,rfl⟩ | ⟨rfl,hcm,rfl⟩
  ·refine au 0 ?_;refine bY (j:=jt) ?_;refine au 355 ?_;refine bB hret [(jt,_),(0,_),(s,_),(h,_),(e,_)] ?_;exact .inr (.inr ⟨hbar,hne,jt,zs,rfl,rfl⟩)
  ·refine au 0 ?_;refine TK.asSl 39 Z (mC _) ?_;refine bY (j:=jt) ?_;refine au 355 ?_;refine bB hret [(jt,_),(0,_),(s,_),(h,_),(e,_)] ?_;exact .inr (.inr ⟨hbar,hne,jt,[],by unfold shrM; rw [hcm,hsl2],by unfold shrM; rw [hcm,lR]⟩)
end Go.Vel
namespace Go.Vel
open Go Go.Conc
section
variable {P:Program} {gm:Nat->Option Nat} {T:Goroutine->Hp->Prop} {Y:KX P gm T} {ds:List Nat} {k:List Item} {env env':List AV} {K K' K1:KV} {ops:Array Oper} {i:Nat} {L':List Nat} {o:Oper} {envf:Nat->List AV} {pend pend':List Pd}
theorem TD.cappG {s x:Operand} {t e:TypeId} {size bytes j n m:Nat} {lo ln:List AV} {u:AV} {K'':Nat->KV} (sl:List Nat) (ho:ops[i]? =some o) (hd:yc o.op=false) (hw:zQ ops (onl sl env) o=some true) (hp':pendOf ops i pend=pend') (hc:chkC ops pend' L' sl i o.dst=true) (hop:o.op=.call { callee:=.builtin .append,args:=#[s,x],argTypes:=#[t,t] }) (ht:apOf P t=some (e,size,bytes)) (hs:zo gm (onl sl env) s=some (.row j n)) (hm:(j,.row lo e size)∈K) (hlo:lo.length=n*size) (hx:zo gm (onl sl env) x=some u) (hl:lenA u=some m) (hsrc:0<m->srcO K size u m ln) (hln:m=0->ln=[])
  (hone:ln.all oneA=true) (hmax:n+m<=maxLen) (hbytes:(n+m)*bytes<=140737488355328) (hu:∀ j',Upd K j (.row lo e size) j' (.row (lo++ln) e size) (K'' j')) (he:∀ j',zP env o.dst (.row j' (n+m))=envf j') (hv:∀ j',∀ p∈pend',∀ x∈p.V,x∈K'' j') (h:∀ j',TD Y ds ops k pend' L' (envf j') (K'' j')):TD Y ds ops k pend (i::L') env K:=by
 rcases mP m with e0 | hpos
 ·subst e0;have hk:K'' j=K:=(hu j).same (by rw [hln rfl,lR]);have ht':=ht;unfold apOf at ht';split at ht'
  ·rename_i e' h1;split at ht'
   ·rename_i ti h2;refine TD.cq (r:=.row j n) sl ho hd hw hp' hc (zeV hop h1 h2 hs hx hl) (he j) (by rw [<- hk]; exact hv j) ?_;rw [<- hk]; exact h j
   ·cases ht'
  ·cases ht'
 ·exact TD.capp sl ho hd hw hp' hc (a_app hop ht hs hm hlo hx (hsrc hpos) hpos hone hmax hbytes) hu he hv h
theorem zcE {j n:Nat} {ob ob':AObj} {K'':Nat->KV} {sl:List Nat} (hd:yc o.op=false) (hq:∀ A,zR K A->OpOk P gm (onl sl env) A o (.row A.length n) (A.set j .gone++[ob'])) (hu:∀ j',Upd K j ob j' ob' (K'' j')) (he:∀ j',zP env o.dst (.row j' n)=envf j') (hv:∀ j',∀ p∈pend',∀ x∈p.V,x∈K'' j') (h:∀ j',TD Y ds ops k pend' L' (envf j') (K'' j')) :
  ExK Y (onl sl env) K o fun r K'=>(∀ p∈pend',∀ x∈p.V,x∈K')/\TD Y ds ops k pend' L' (zP env o.dst r) K' :=
 wi hd fun A hv' hn=>⟨_,_,_,hq A hv',.renew hv' hn (hu _),hv _,by rw [he]; exact h _⟩
theorem zjG {s x:Operand} {t e:TypeId} {size bytes j n m:Nat} {lo ln:List AV} {u:AV} {K'':Nat->KV} {sl:List Nat} (hd:yc o.op=false) (hop:o.op=.call { callee:=.builtin .append,args:=#[s,x],argTypes:=#[t,t] }) (ht:apOf P t=some (e,size,bytes)) (hs:zo gm (onl sl env) s=some (.row j n)) (hm:(j,.row lo e size)∈K) (hlo:lo.length=n*size) (hx:zo gm (onl sl env) x=some u) (hl:lenA u=some m) (hsrc:0<m->srcO K size u m ln) (hln:m=0->ln=[])
  (hone:ln.all oneA=true) (hmax:n+m<=maxLen) (hbytes:(n+m)*bytes<=140737488355328) (hu:∀ j',Upd K j (.row lo e size) j' (.row (lo++ln) e size) (K'' j')) (he:∀ j',zP env o.dst (.row j' (n+m))=envf j') (hv:∀ j',∀ p∈pend',∀ x∈p.V,x∈K'' j') (h:∀ j',TD Y ds ops k pend' L' (envf j') (K'' j')) :
  ExK Y (onl sl env) K o fun r K'=>(∀ p∈pend',∀ x∈p.V,x∈K')/\TD Y ds ops k pend' L' (zP env o.dst r) K':=by
 rcases mP m with e0 | hpos
 ·subst e0;have hk:K'' j=K:=(hu j).same (by rw [hln rfl,lR]);have ht':=ht;unfold apOf at ht';split at ht'
  ·rename_i e' h1;split at ht'
   ·rename_i ti h2;exact wi hd fun A hv' hn=>⟨.row j n,A,K,zeV hop h1 h2 hs hx hl A hv',.same hv' hn,by rw [<- hk]; exact hv j,by rw [show zP env o.dst (.row j n)=envf j from he j,<- hk]; exact h j⟩
   ·cases ht'
  ·cases ht'
 ·exact zcE hd (a_app hop ht hs hm hlo hx (hsrc hpos) hpos hone hmax hbytes) hu he hv h
end
end Go.Vel
namespace Go.Vel
open Go Go.Conc Go.Proofs
theorem zlV {main T} (hT:zn tp main T) {gm} {b:RBk} {s h e mask:Nat} (hm:b.measures.length<=3) (hk:mask<100) :
  zq tp T gm 88 [.agg (zD b s h e),intA mask] [(e,zt b)] (fun r K'=>∃ jl jm,r=.tup [.agg [intA b.steps,intA b.round,intA b.roll,intA b.rolls,.sl s 0 b.seams.length,.sl h 0 b.shrinks.length,.row jm (onlyB b mask).measures.length],.row jl (zu mask b.measures.length).length]/\K'=[(jl,.row ((zu mask b.measures.length).map intA) 3 1),(jm,.row ((onlyB b mask).measures.flatMap yk) 95 3),(e,zt b)]):=by
 refine zm 42 hT Tryz.func88 fun Y hret=>?_;refine au 21042 ?_;intro jb hjb;refine au 220 ?_;intro jr hjr;refine au 54235 ?_;refine TK.virt 6 3 1 Z fun jl0 hjl0=>?_;refine au 220680423 ?_;intro j7 hj7;refine au 170670670423170 ?_;refine TK.normK (K':=[(j7,.cells [intA b.steps,intA b.round,intA b.roll,intA b.rolls,.sl s 0 b.seams.length,.sl h 0 b.shrinks.length,.v (.slice none 0 0)] 128 true),_,_,_,_]) (by simp only [setL,zD,List.drop_zero,List.take,List.set]; rfl) ?_;refine TK.virtAt (j:=j7) (i:=6) (e:=95) (size:=3) (l:=[intA b.steps,intA b.round,intA b.roll,intA b.rolls,.sl s 0 b.seams.length,.sl h 0 b.shrinks.length,.v (.slice none 0 0)]) Z (fun _=>uQ) fun jm0 hjm0=>?_;refine au 130312806906706704223 ?_;refine bA [1,4,5,6,7,15,16,17] ?_;refine bC [(e,_),(jl0,_),(jm0,_),(j7,_),(jr,_)] ?_;refine bE (fun n env K=>∃ (i jl jm:Nat),n=b.measures.length - i/\i<=b.measures.length/\env=.any::.v (.int .i64 ((mask:Nat):Int))::naL 2 (.ptr jr 0::.v (.slice none 0 0)::.row jl (zu mask i).length::.ptr j7 0::naL 7 (.sl e 0 b.measures.length::intA b.measures.length::intA i::naL 24 []))/\K=[(e,zt b),(jl,.row ((zu mask i).map intA) 3 1),(jm,.row ((onlyL b.measures mask i).flatMap yk) 95 3),(j7,.cells [intA b.steps,intA b.round,intA b.roll,intA b.rolls,.sl s 0 b.seams.length,.sl h 0 b.shrinks.length,.row jm (onlyL b.measures mask i).length] 128 true),(jr,.cells z7R 128 true)]) b.measures.length ⟨0,jl0,jm0,rfl,mN _,rfl,rfl⟩ fun n env K hI hnext=>?_;obtain ⟨i,jl,jm,rfl,hi,rfl,rfl⟩:=hI;have hbl:=w8 mask i;have hol:=zaM b.measures mask i hi;have hfl:=yy yk 3 (fun _=>rfl) (onlyL b.measures mask i);refine bG nQ ?_;refine au 923742 ?_;constructor<;>intro hc0
 ·have hil:i<b.measures.length:=by simp at hc0; omega
  obtain ⟨x,hx⟩:∃ x,b.measures[i]? =some x:=⟨_,lA hil⟩;refine au 3601421302120 ?_;refine bH Z (zK Z Z ze.h mQ (zcd (i:=i) hx Z)) ?_;refine au 220 ?_;intro j9 hj9;refine au 114231705 ?_;refine bH Z (q_sh Z Z Z ⟨by omega,by show ((i:Nat):Int)<=64; omega⟩ (ziT mask i)) ?_;refine bH Z (ziH Z Z Z (by have:=Nat.div_le_self mask (2 ^ i); omega)) ?_;refine au 937 ?_;constructor<;>intro hc1
  ·have hbit:mask / 2 ^ i % 2=1:=by have h:=eq_of_beq hc1; omega
   have hk1:zu mask (i+1)=zu mask i++[(i:Int)]:=by show zu mask i++_=_; rw [if_pos hbit]
   have hk2:onlyL b.measures mask (i+1)=onlyL b.measures mask i++[x]:=by show onlyL b.measures mask i++_=_; rw [if_pos hbit,hx]; rfl
   refine bM [0,1,4,5,6,7,2,3,8,9,10,11,12,13] [0,1,2,3,4,5,6,7,8,9,10,11,12,13] ?_;refine ad [[1,6],[1,8],[3,7],[3,31],[10,32],[12,9]] ?_;refine TD.c2 (i1:=2) (i2:=8) (pend1:=[⟨7,[9],[(_,_)]⟩,⟨6,[32],[(_,_)]⟩,⟨5,[31],[]⟩,⟨4,[7],[]⟩,⟨0,[6],[]⟩]) (pend2:=[⟨6,[32],[(_,_)]⟩,⟨5,[31],[]⟩,⟨4,[7],[]⟩,⟨1,[8],[]⟩,⟨0,[6],[]⟩]) (L1:=[3,8,9,10,11,12,13]) (L2:=[2,3,9,10,11,12,13]) [28] [34] Z Z Z Z Z Z Z ?_ ?_
   ·refine kJ Z (zp (l:=[_]) Z zE.h TyZ.h dQ dQ Z) (fun _=>zr rfl tQ) sQ fun j1 hj1=>?_;refine TD.c2 (i1:=3) (i2:=8) (pend1:=[⟨7,[9],[(_,_)]⟩,⟨6,[32],[(_,_)]⟩,⟨5,[31],[]⟩,⟨4,[7],[]⟩]) (pend2:=[⟨6,[32],[(_,_)]⟩,⟨5,[31],[]⟩,⟨4,[7],[]⟩,⟨0,[6],[]⟩]) (L1:=[8,9,10,11,12,13]) (L2:=[3,9,10,11,12,13]) [27,29] [34] Z Z Z Z Z Z Z ?_ ?_
    ·refine zcE Z (a_app Z ApOf.h Z mQ sQ Z (yg (ln:=[_]) mQ dQ sQ Z) oQ Z (by unfold maxLen; omega) oQ) (fun _=>uQ) (fun _=>zr rfl tQ) (fun _=>sQ) fun jl2=>?_;refine bV (pend':=[⟨6,[32],[(_,_)]⟩,⟨5,[31],[]⟩,⟨4,[7],[]⟩]) [34] Z Z Z Z Z (zp (l:=[_,_,_]) Z zE.h TyZ.h dQ dQ Z) (fun _=>zr rfl tQ) sQ fun j2 hj2=>?_;refine TD.capp (pend':=[⟨5,[31],[]⟩,⟨4,[7],[]⟩]) [33,35] Z Z Z Z Z (a_app Z ApOf.h Z mQ oQ Z (yg (ln:=[_,_,_]) mQ dQ sQ Z) oQ Z (by unfold maxLen; omega) oQ) (fun _=>uQ) (fun _=>zr rfl tQ) (fun _=>sQ) fun jm2=>?_;refine TD.as (pend':=[⟨5,[31],[]⟩,⟨4,[7],[]⟩]) [30] Z Z (zy Z Z) ?_;refine ad [[3,7],[3,37]] ?_;refine bR (pend':=[⟨11,[7],[]⟩]) [36,38] Z Z (zM Z Z ze.h Z Z mQ Z) ?_;refine ad [[14]] ?_;refine au 312304140 ?_;refine bA [1,4,5,6,7,15,16,17] ?_;refine bC [(e,_),(jl2,_),(jm2,_),(j7,_),(jr,_)] ?_;exact hnext _ _ _ oQ ⟨i+1,jl2,jm2,rfl,oQ,by rw [hk1,lF]; rfl,by rw [hk1,hk2,kj,lM,lF]; rfl⟩
    ·refine kJ Z (zp (l:=[_,_,_]) Z zE.h TyZ.h dQ dQ Z) (fun _=>zr rfl tQ) sQ fun j3 hj3=>?_;refine TD.capp (pend':=[⟨6,[32],[(_,_)]⟩,⟨5,[31],[]⟩,⟨4,[7],[]⟩]) [27,29] Z Z Z Z Z (a_app Z ApOf.h Z mQ sQ Z (yg (ln:=[_]) mQ dQ sQ Z) oQ Z (by unfold maxLen; omega) oQ) (fun _=>uQ) (fun _=>zr rfl tQ) (fun _=>sQ) fun jl2=>?_;refine TD.capp (pend':=[⟨5,[31],[]⟩,⟨4,[7],[]⟩]) [33,35] Z Z Z Z Z (a_app Z ApOf.h Z mQ oQ Z (yg (ln:=[_,_,_]) mQ dQ sQ Z) oQ Z (by unfold maxLen; omega) oQ) (fun _=>uQ) (fun _=>zr rfl tQ) (fun _=>sQ) fun jm2=>?_;refine TD.as (pend':=[⟨5,[31],[]⟩,⟨4,[7],[]⟩]) [30] Z Z (zy Z Z) ?_;refine ad [[3,7],[3,37]] ?_;refine bR (pend':=[⟨11,[7],[]⟩]) [36,38] Z Z (zM Z Z ze.h Z Z mQ Z) ?_;refine ad [[14]] ?_;refine au 312304140 ?_;refine bA [1,4,5,6,7,15,16,17] ?_;refine bC [(e,_),(jl2,_),(jm2,_),(j7,_),(jr,_)] ?_;exact hnext _ _ _ oQ ⟨i+1,jl2,jm2,rfl,oQ,by rw [hk1,lF]; rfl,by rw [hk1,hk2,kj,lM,lF]; rfl⟩
   ·refine kJ Z (zp (l:=[_,_,_]) Z zE.h TyZ.h dQ dQ Z) (fun _=>zr rfl tQ) sQ fun j4 hj4=>?_;refine bV (pend':=[⟨6,[32],[(_,_)]⟩,⟨5,[31],[]⟩,⟨4,[7],[]⟩,⟨0,[6],[]⟩]) [28] Z Z Z Z Z (zp (l:=[_]) Z zE.h TyZ.h dQ dQ Z) (fun _=>zr rfl tQ) sQ fun j5 hj5=>?_;refine TD.capp (pend':=[⟨6,[32],[(_,_)]⟩,⟨5,[31],[]⟩,⟨4,[7],[]⟩]) [27,29] Z Z Z Z Z (a_app Z ApOf.h Z mQ sQ Z (yg (ln:=[_]) mQ dQ sQ Z) oQ Z (by unfold maxLen; omega) oQ) (fun _=>uQ) (fun _=>zr rfl tQ) (fun _=>sQ) fun jl2=>?_;refine TD.capp (pend':=[⟨5,[31],[]⟩,⟨4,[7],[]⟩]) [33,35] Z Z Z Z Z (a_app Z ApOf.h Z mQ oQ Z (yg (ln:=[_,_,_]) mQ dQ sQ Z) oQ Z (by unfold maxLen; omega) oQ) (fun _=>uQ) (fun _=>zr rfl tQ) (fun _=>sQ) fun jm2=>?_;refine TD.as (pend':=[⟨5,[31],[]⟩,⟨4,[7],[]⟩]) [30] Z Z (zy Z Z) ?_;refine ad [[3,7],[3,37]] ?_;refine bR (pend':=[⟨11,[7],[]⟩]) [36,38] Z Z (zM Z Z ze.h Z Z mQ Z) ?_;refine ad [[14]] ?_;refine au 312304140 ?_;refine bA [1,4,5,6,7,15,16,17] ?_;refine bC [(e,_),(jl2,_),(jm2,_),(j7,_),(jr,_)] ?_;exact hnext _ _ _ oQ ⟨i+1,jl2,jm2,rfl,oQ,by rw [hk1,lF]; rfl,by rw [hk1,hk2,kj,lM,lF]; rfl⟩
  have hbit:¬ mask / 2 ^ i % 2=1:=fun h=>by rw [h] at hc1; simp at hc1
  refine au 312304140120 ?_;refine bA [1,4,5,6,7,15,16,17] ?_;refine bC [(e,_),(jl,_),(jm,_),(j7,_),(jr,_)] ?_;exact hnext _ _ _ oQ ⟨i+1,jl,jm,rfl,oQ,by rw [show zu mask (i+1)=zu mask i by show zu mask i++_=_; rw [if_neg hbit,lR]]; rfl,by rw [show zu mask (i+1)=zu mask i by show zu mask i++_=_; rw [if_neg hbit,lR],show onlyL b.measures mask (i+1)=onlyL b.measures mask i by show onlyL b.measures mask i++_=_; rw [if_neg hbit,lR]]⟩
 obtain rfl:i=b.measures.length:=by simp at hc0; omega
 refine au 35170168042160 ?_;refine bB hret [(jl,_),(jm,_),(e,_)] ?_;exact ⟨jl,jm,by unfold onlyB; rfl,by unfold onlyB; rfl⟩
def badM (b:RBk) (k:Nat):Bool:=(zh (onlyB b k)).isEmpty
def clashL (b:RBk):Nat->Option (List Int)
 | 0=>none
 | k+1=>if badM b k=true then (match clashL b k with
  | none=>some (zu k b.measures.length)
  | some l=>if yz (zu k b.measures.length) l=true then some (zu k b.measures.length) else some l) else clashL b k
def clashM (b:RBk):Option (List Int):=clashL b (2 ^ b.measures.length)
def BestL (jo:Nat):Option (List Int)->KV->Prop
 | none,K=>K=[(jo,.cells [.v (.slice none 0 0),zw false] 173 true)]
 | some l,K=>∃ j0 e0,K=[(jo,.cells [.sl j0 0 l.length,zw true] 173 true),(j0,.cells (l.map intA) e0 false)]
theorem znu {m:Nat} (hm:m<=3):IntKind.i64.wrap (1*2 ^ ((m:Nat):Int).toNat)=((2 ^ m:Nat):Int):=by
 have:m=0\/m=1\/m=2\/m=3:=by omega
 rcases this with rfl | rfl | rfl | rfl <;> decide
instance:zj tp 173 0 0 false 1:={}
instance:zj tp 173 1 1 false 1:={}
instance:TyZA tp 173 [.v (.slice none 0 0),.v (.bool false)]:={}
theorem zhk {main T} (hT:zn tp main T) {gm} {jo jl:Nat} {xs:List Int} {e1:TypeId} :
  zq tp T gm 89 [.ptr jo 0,.sl jl 0 xs.length,.fn 90 [] []] [(jo,.cells [.v (.slice none 0 0),zw false] 173 true),(jl,.cells (xs.map intA) e1 false)] (fun r K'=>K'=[(jo,.cells [.sl jl 0 xs.length,zw true] 173 true),(jl,.cells (xs.map intA) e1 false)]):=by
 refine zm 27 hT Tryz.func89 fun Y hret=>?_;refine au 142 ?_;refine bH Z (kG Z Z) ?_;refine au 1300690670 ?_;refine bF 11 (fun g0_6=>?_) (fun g0_6=>?_)
 ·refine au 111418032608888888 ?_;refine bH Z (kG Z Z) ?_;refine au 170670 ?_;refine bH Z (kG Z Z) ?_;refine au 3170670 ?_;refine TK.rt0 hret [(jo,_),(jl,_)] ?_;exact rfl
 simp at g0_6
theorem zhl {main T} (hT:zn tp main T) {gm} {jo jl j0:Nat} {xs ys:List Int} {e1 e2:TypeId} (hl:xs.length<=1000) :
  zq tp T gm 89 [.ptr jo 0,.sl jl 0 xs.length,.fn 90 [] []] [(jo,.cells [.sl j0 0 ys.length,zw true] 173 true),(j0,.cells (ys.map intA) e2 false),(jl,.cells (xs.map intA) e1 false)] (fun r K'=>(yz xs ys=true/\K'=[(jo,.cells [.sl jl 0 xs.length,zw true] 173 true),(jl,.cells (xs.map intA) e1 false)])\/(yz xs ys=false/\K'=[(jo,.cells [.sl j0 0 ys.length,zw true] 173 true),(j0,.cells (ys.map intA) e2 false)])):=by
 refine zm 27 hT Tryz.func89 fun Y hret=>?_;refine au 142 ?_;refine bH Z (kG Z Z) ?_;refine au 1300690670 ?_;refine bF 11 (fun g0_6=>?_) (fun g0_6=>?_)
 ·simp at g0_6
 refine au 111 ?_;refine bH Z (kG Z Z) ?_;refine au 690670 ?_;refine TK.callF' Z Z Z Z Z (yJ Cal.h (u9 hT hl)) (by repeat (first | exact Split.none _ | exact Split.all _ | (apply Split.rem; repeat (first | exact Rem.head | apply Rem.tail)) | apply Split.right)) fun r1 K2 h3=>?_;obtain ⟨rfl,rfl⟩:=h3;refine au 93250 ?_;constructor<;>intro hc0
 ·refine au 1114 ?_;refine bH Z (kG Z Z) ?_;refine au 170670 ?_;refine bH Z (kG Z Z) ?_;refine au 3170670 ?_;refine TK.rt0 hret [(jo,_),(jl,_)] ?_;exact .inl ⟨hc0,rfl⟩
 refine au 120 ?_;refine TK.rt0 hret [(jo,_),(j0,_)] ?_;exact .inr ⟨hc0,rfl⟩
theorem zju {main:Bool} {T:Goroutine->Hp->Prop} (hT:zn tp main T)  {b:RBk} {s h e:Nat} (hl:b.seams.length<=100) (hm:b.measures.length<=100) :
  zq tp T gmR 39 [.agg (zD b s h e)] [(0,zB),(s,zl b),(h,zF b),(e,zt b)] (fun r K'=>(zx b≠0/\r=.tup [.v (.slice none 0 0),intA (zx b)]/\K'=[(0,zB),(s,zl b),(h,zF b),(e,zt b)])\/(zx b=0/\zh b≠[]/\r=.tup [.v (.slice none 0 0),intA 0]/\K'=[(0,zB),(s,zl b),(h,zF b),(e,zt b)])\/(zx b=0/\zh b=[]/\clashM b=none/\r=.tup [.v (.slice none 0 0),intA 0]/\K'=[(0,zB),(s,zl b),(h,zF b),(e,zt b)])\/(zx b=0/\zh b=[]/\∃ l j0 e0,clashM b=some l/\r=.tup [.sl j0 0 l.length,intA 0]/\K'=(j0,.cells (l.map intA) e0 false)::[(0,zB),(s,zl b),(h,zF b),(e,zt b)])):=by
 refine zm 41 hT Tryz.func39 fun Y hret=>?_;refine au 21042 ?_;intro jb hjb;refine au 68042355 ?_;refine bD Z Z Z Z (uV hT (Kx:=[]) hl hm) ?_;rintro r1 K2 h3;rcases h3 with ⟨⟨hbar,rfl⟩ | ⟨hbar,rfl⟩,rfl⟩
 ·refine au 220661 ?_;intro j4 hj4;refine au 937142235170 ?_;constructor<;>intro hc0
  ·exact absurd hc0 sQ
  have hbb:=zZ hbar;have hml:=hbb.mes.len;have hsh:=znu hml;have h2m:2 ^ b.measures.length<=8:=Nat.pow_le_pow_right (n:=2) dQ hml;refine au 680422120 ?_;refine TK.clE Z Z Z Z (zgH hT hbb) ?_;refine au 93 ?_;constructor<;>intro hc1
  ·refine au 35542 ?_;refine bB hret [(0,_),(s,_),(h,_),(e,_)] ?_;exact .inr (.inl ⟨hbar,fun h=>by rw [h] at hc1; simp at hc1,rfl,rfl⟩)
  have hnil:zh b=[]:=by cases hh:zh b with | nil=>rfl | cons x r=>rw [hh] at hc1; simp at hc1
  refine au 22042120 ?_;intro jo hjo;refine au 2806906704223 ?_;refine bH Z (q_shL Z Z Z ⟨by omega,by show ((b.measures.length:Nat):Int)<=64; omega⟩ (r:=((2 ^ b.measures.length:Nat):Int)) hsh) ?_;refine au 13031 ?_;refine bA [1,2,3,4,6,23,24] ?_;refine bC ((0,_)::(s,_)::(h,_)::(e,_)::(j4,_)::(jb,_)::[(jo,_)]) ?_;refine bE (fun n env K=>∃ (i:Nat) (Kb:KV),n=2 ^ b.measures.length - i/\i<=2 ^ b.measures.length/\BestL jo (clashL b i) Kb/\env=.any::.ptr jb 0::.v (.slice none 0 0)::intA 0::.ptr j4 0::.any::.ptr jo 0::naL 16 (.v (.int .i64 ((2 ^ b.measures.length:Nat):Int))::intA i::naL 16 [])/\K=(0,zB)::(s,zl b)::(h,zF b)::(e,zt b)::(j4,.cells (zD b s h e) 128 true)::(jb,.cells (zD b s h e) 26 true)::Kb) (2 ^ b.measures.length) ⟨0,_,rfl,mN _,rfl,rfl,rfl⟩ fun n env K hI hnext=>?_;obtain ⟨i,Kb,rfl,hi,hbl,rfl,rfl⟩:=hI;refine bG nQ ?_;refine au 923742 ?_;constructor<;>intro hc2
  ·have hil:i<2 ^ b.measures.length:=Int.ofNat_lt.1 (of_decide_eq_true hc2);have hbo:=zkl hbb i;refine au 168042351421302120 ?_;refine bD Z Z Z Z (zlV hT (mask:=i) hml oQ) ?_ (hs:=(.right (.right (.right (.left (.none _))))));rintro r7 K8 ⟨jl,jm,rfl,rfl⟩;refine au 220661 ?_;intro j8 hj8;refine au 235170 ?_;refine TK.unrowAt (c:=j8) (i:=6) (j:=jm) Z mQ uQ ?_;refine bY (j:=jm) ?_;refine au 6804 ?_;refine bD Z Z Z Z (zgH hT hbo (s:=s) (h:=h) (e:=jm)) ?_ (hs:=(.rem (.tail (.tail (.tail (.tail (.tail .head))))) (.rem (.tail (.tail (.tail (.tail (.tail .head))))) (.rem (.tail (.tail .head)) (.none _)))));rintro r10 K11 ⟨rfl,rfl⟩;refine au 93300 ?_;constructor<;>intro hc3
   ·have hbad:badM b i=true:=by simpa [badM] using hc3
    refine TK.asSl 9 Z mQ ?_;refine bY (j:=jl) ?_;refine au 4 ?_;rcases hcl:clashL b i with _ | l0
    ·rw [hcl] at hbl;have hbl:Kb=[(jo,.cells [.v (.slice none 0 0),zw false] 173 true)]:=hbl;subst hbl;refine bH Z (zf Z Z) ?_;refine bD Z Z Z Z (zhk hT) ?_;rintro r13 K14 rfl;refine au 3123041403 ?_;refine bA [1,2,3,4,6,23,24] ?_;refine bC ((0,_)::(s,_)::(h,_)::(e,_)::(j4,_)::(jb,_)::[(jo,_),(jl,_)]) ?_;exact hnext _ _ _ oQ ⟨i+1,_,rfl,oQ,by unfold clashL; rw [if_pos hbad,hcl]; exact ⟨jl,3,rfl⟩,rfl,rfl⟩
    ·rw [hcl] at hbl;obtain ⟨j0,e0,rfl⟩:=hbl;refine bH Z (zf Z Z) ?_;refine bD Z Z Z Z (zhl hT (by have:=w8 i b.measures.length; omega)) ?_;rintro r16 K17 h18;rcases h18 with ⟨hsm,rfl⟩ | ⟨hsm,rfl⟩
     ·refine au 3123041403 ?_;refine bA [1,2,3,4,6,23,24] ?_;refine bC ((0,_)::(s,_)::(h,_)::(e,_)::(j4,_)::(jb,_)::[(jo,_),(jl,_)]) ?_;exact hnext _ _ _ oQ ⟨i+1,_,rfl,oQ,by unfold clashL; rw [if_pos hbad,hcl]; dsimp only; rw [if_pos hsm]; exact ⟨jl,3,rfl⟩,rfl,rfl⟩
     ·refine au 3123041403 ?_;refine bA [1,2,3,4,6,23,24] ?_;refine bC ((0,_)::(s,_)::(h,_)::(e,_)::(j4,_)::(jb,_)::[(jo,_),(j0,_)]) ?_;exact hnext _ _ _ oQ ⟨i+1,_,rfl,oQ,by unfold clashL; rw [if_pos hbad,hcl]; dsimp only; rw [if_neg (by rw [hsm]; decide)]; exact ⟨j0,e0,rfl⟩,rfl,rfl⟩
   have hbad:¬ badM b i=true:=fun h=>by simp [badM] at h; rw [h] at hc3; simp at hc3
   refine au 312304140120 ?_;refine bA [1,2,3,4,6,23,24] ?_;refine bC ((0,_)::(s,_)::(h,_)::(e,_)::(j4,_)::(jb,_)::Kb) ?_;exact hnext _ _ _ oQ ⟨i+1,_,rfl,oQ,by unfold clashL; rw [if_neg hbad]; exact hbl,rfl,rfl⟩
  have hil:¬ i<2 ^ b.measures.length:=fun h=>of_decide_eq_false hc2 (Int.ofNat_lt.2 h);obtain rfl:i=2 ^ b.measures.length:=by omega
  refine au 42160 ?_;rcases hbst:clashL b (2 ^ b.measures.length) with _ | l0
  ·rw [hbst] at hbl;have hbl:Kb=[(jo,.cells [.v (.slice none 0 0),zw false] 173 true)]:=hbl;subst hbl;refine bH Z (zd Z Z zj.h dQ) ?_;refine au 355690 ?_;refine bB hret [(0,_),(s,_),(h,_),(e,_)] ?_;exact .inr (.inr (.inl ⟨hbar,hnil,hbst,rfl,rfl⟩))
  ·rw [hbst] at hbl;obtain ⟨j0,e0,rfl⟩:=hbl;refine bH Z (zd Z Z zj.h dQ) ?_;refine au 355690 ?_;refine bB hret [(j0,_),(0,_),(s,_),(h,_),(e,_)] ?_;exact .inr (.inr (.inr ⟨hbar,hnil,l0,j0,e0,hbst,rfl,rfl⟩))
 ·refine au 220661 ?_;intro j4 hj4;refine au 937142235170 ?_;constructor<;>intro hc0
  ·
   refine au 355142 ?_;refine bB hret [(0,_),(s,_),(h,_),(e,_)] ?_;exact .inl ⟨hbar,rfl,rfl⟩
  exact absurd hbar (by simpa using hc0)
def greatM (b:RBk):Bool:=decide (b.seams.length>20)||decide (b.shrinks.length>20)||decide (b.measures.length>20)
def exB:RBk:=⟨12,15,8,2,[⟨0,3,2,1,false⟩,⟨5,2,1,4,false⟩,⟨9,4,3,0,false⟩],[⟨0,1⟩,⟨0,0⟩,⟨0,1⟩],[]⟩
theorem zaX {α:Type} {xs ys:List α} {i:Nat} {x y:α} (hx:xs[i]? =some x) (hy:ys[i]? =some y) (ht:xs.take i=ys.take i) (he:x=y):xs.take (i+1)=ys.take (i+1):=by
 rw [yA hx,yA hy,ht,he]
theorem zbj {α:Type} {xs ys:List α} (hl:xs.length=ys.length) (ht:xs.take xs.length=ys.take xs.length):xs=ys:=by
 rwa [lW,hl,lW] at ht
theorem ne_at {α:Type} {xs ys:List α} {i:Nat} {x y:α} (hx:xs[i]? =some x) (hy:ys[i]? =some y) (hne:x≠y):xs≠ys:=fun h=>by rw [h,hy] at hx; exact hne (Option.some.inj hx).symm
instance:BlOf tp 54 [(0,1),(1,1),(2,1),(3,1),(4,1)]:={}
theorem zjS {main T} (hT:zn tp main T) {gm} {b:RBk} {s h e:Nat} :
  zq tp T gm 15 [.agg (zD b s h e)] [] (fun r K'=>r=zw (greatM b)/\K'=[]):=by
 refine zm 19 hT Tryz.func15 fun Y hret=>?_;refine au 21042 ?_;intro jb hjb;refine au 172806906704235 ?_;refine bF 7 (fun g1_5=>?_) (fun g1_5=>?_)
 ·refine au 35260888812608888 ?_;refine bB hret [] ?_;exact ⟨by unfold greatM; rw [show decide (b.seams.length>20)=true by simp at g1_5; simp; omega]; rfl,rfl⟩
 refine au 12507280690670 ?_;refine bF 13 (fun g1_11=>?_) (fun g1_11=>?_)
 ·refine au 352608888 ?_;refine bB hret [] ?_;exact ⟨by unfold greatM; rw [show decide (b.shrinks.length>20)=true by simp at g1_11; simp; omega]; simp,rfl⟩
 refine au 352507280690670 ?_;refine bB hret [] ?_;exact ⟨by unfold greatM; rw [show decide (b.seams.length>20)=false by simp at g1_5; simp; omega,show decide (b.shrinks.length>20)=false by simp at g1_11; simp; omega,Bool.false_or,Bool.false_or]; exact congrArg _ (congrArg _ (decide_eq_decide.2 oQ)),rfl⟩
theorem ze3 {main T} (hT:zn tp main T) {gm} {j off j2:Nat} {ob:AObj} {xs ys:List Int} (hI:∀ (i:Nat) (x:Int),xs[i]? =some x->takeO ob (off+(i:Int).toNat*1) 1=some [intA x]) (hl:xs.length<=1000) :
  zq tp T gm 75 [.sl j off xs.length,.row j2 ys.length] [(j,ob),(j2,.row (ys.map intA) 3 1)] (fun r K'=>r=zw (decide (xs=ys))/\K'=[(j,ob),(j2,.row (ys.map intA) 3 1)]):=by
 refine zm 26 hT Tryz.func75 fun Y hret=>?_;refine au 937280128014223542 ?_;constructor<;>intro hc0
 ·refine au 3542 ?_;refine bB hret [(j,_),(j2,_)] ?_;exact ⟨by rw [decide_eq_false (fun h=>by rw [h] at hc0; simp at hc0)],rfl⟩
 have hll:xs.length=ys.length:=by simp at hc0; omega
 refine au 13035422120 ?_;refine bA [0,1,4,5] ?_;refine bE (fun n env K=>∃ (i:Nat),n=xs.length - i/\i<=xs.length/\xs.take i=ys.take i/\env=.sl j off xs.length::.row j2 ys.length::naL 2 (zw false::intA i::naL 20 [])/\K=[(j,ob),(j2,.row (ys.map intA) 3 1)]) xs.length ⟨0,rfl,mN _,by simp,rfl,rfl⟩ fun n env K hI2 hnext=>?_;obtain ⟨i,rfl,hi,hta,rfl,rfl⟩:=hI2;refine bG nQ ?_;refine au 93728011422 ?_;constructor<;>intro hc1
 ·have hil:i<xs.length:=by simp at hc1; omega
  obtain ⟨x,hx⟩:∃ x,xs[i]? =some x:=⟨_,lA hil⟩;obtain ⟨y,hy⟩:∃ y,ys[i]? =some y:=⟨_,lA oQ⟩;refine au 21302120 ?_;refine bL [0,1,2,3,4,5,6,7,8] ?_;refine ad [[1,0],[1,5],[2,17,18]] ?_;refine bT [19] Z (hq:=zk Z Z ze.h (mC _) (hI i x hx)) (h:=?_);refine ad [[1,1],[1,5]] ?_;refine bT [21,22] Z (hq:=kq Z Z Z zE.h (mC _) oQ oQ) (h:=?_);refine bT [23] Z (hq:=zk Z Z ze.h (mC _) (zbf hy Z)) (h:=?_);refine ad [[4,20,24],[14]] ?_;refine au 9 ?_;constructor<;>intro hc2
  ·refine au 3542 ?_;refine bB hret [(j,_),(j2,_)] ?_;exact ⟨by rw [decide_eq_false (ne_at hx hy (fun h=>by rw [h] at hc2; simp at hc2))],rfl⟩
  refine au 3523014140120 ?_;refine bA [0,1,4,5] ?_;refine bC [(j,_),(j2,_)] ?_;exact hnext _ _ _ oQ ⟨i+1,rfl,oQ,zaX hx hy hta (by simp at hc2; exact hc2),rfl,rfl⟩
 obtain rfl:i=xs.length:=by simp at hc1; omega
 refine au 3542160 ?_;refine bB hret [(j,_),(j2,_)] ?_;exact ⟨by rw [decide_eq_true (zbj hll hta)],rfl⟩
theorem zcV {main T} (hT:zn tp main T) {gm} {j off j2:Nat} {ob:AObj} {xs ys:List (Int×Int)} (hI:∀ (i:Nat) (x:Int×Int),xs[i]? =some x->takeO ob (off+(i:Int).toNat*2) 2=some (pairC x)) (hl:xs.length<=1000) :
  zq tp T gm 28 [.sl j off xs.length,.row j2 ys.length] [(j,ob),(j2,.row (ys.flatMap pairC) 81 2)] (fun r K'=>r=zw (decide (xs=ys))/\K'=[(j,ob),(j2,.row (ys.flatMap pairC) 81 2)]):=by
 refine zm 26 hT Tryz.func28 fun Y hret=>?_;refine au 937280128014223542 ?_;constructor<;>intro hc0
 ·refine au 3542 ?_;refine bB hret [(j,_),(j2,_)] ?_;exact ⟨by rw [decide_eq_false (fun h=>by rw [h] at hc0; simp at hc0)],rfl⟩
 have hll:xs.length=ys.length:=by simp at hc0; omega
 refine au 13035422120 ?_;refine bA [0,1,4,5] ?_;refine bE (fun n env K=>∃ (i:Nat),n=xs.length - i/\i<=xs.length/\xs.take i=ys.take i/\env=.sl j off xs.length::.row j2 ys.length::naL 2 (zw false::intA i::naL 20 [])/\K=[(j,ob),(j2,.row (ys.flatMap pairC) 81 2)]) xs.length ⟨0,rfl,mN _,by simp,rfl,rfl⟩ fun n env K hI2 hnext=>?_;obtain ⟨i,rfl,hi,hta,rfl,rfl⟩:=hI2;refine bG nQ ?_;refine au 93728011422 ?_;constructor<;>intro hc1
 ·have hil:i<xs.length:=by simp at hc1; omega
  obtain ⟨x,hx⟩:∃ x,xs[i]? =some x:=⟨_,lA hil⟩;obtain ⟨y,hy⟩:∃ y,ys[i]? =some y:=⟨_,lA oQ⟩;refine au 21302120 ?_;refine bL [0,1,2,3,4,5,6,7,8] ?_;refine ad [[1,0],[1,5],[2,17,18]] ?_;refine bT [19] Z (hq:=zK Z Z ze.h (mC _) (hI i x hx)) (h:=?_);refine ad [[1,1],[1,5]] ?_;refine bT [21,22] Z (hq:=kq Z Z Z zE.h (mC _) oQ oQ) (h:=?_);refine bT [23] Z (hq:=zK Z Z ze.h (mC _) (zcU (c:=2) (f:=pairC) (fun _=>rfl) hy rfl dQ)) (h:=?_);refine TD.z [20,24] Z (zaO Z Z Z Z Z FlatF.h EqG.h) ?_;refine ad [[14]] ?_;refine au 9 ?_;constructor<;>intro hc2
  ·refine au 3542 ?_;refine bB hret [(j,_),(j2,_)] ?_;exact ⟨by rw [decide_eq_false (ne_at hx hy (fun h=>by rw [h] at hc2; simp at hc2))],rfl⟩
  refine au 3523014140120 ?_;refine bA [0,1,4,5] ?_;refine bC [(j,_),(j2,_)] ?_;exact hnext _ _ _ oQ ⟨i+1,rfl,oQ,zaX hx hy hta (by simp at hc2; exact Prod.ext hc2.1 hc2.2),rfl,rfl⟩
 obtain rfl:i=xs.length:=by simp at hc1; omega
 refine au 3542160 ?_;refine bB hret [(j,_),(j2,_)] ?_;exact ⟨by rw [decide_eq_true (zbj hll hta)],rfl⟩
theorem vf {main T} (hT:zn tp main T) {gm} {j off j2:Nat} {ob:AObj} {xs ys:List Int} (hI:∀ (i:Nat) (x:Int),xs[i]? =some x->takeO ob (off+(i:Int).toNat*1) 1=some [intA x]) (hl:xs.length<=1000) :
  zq tp T gm 29 [.sl j off xs.length,.row j2 ys.length] [(j,ob),(j2,.row (ys.map intA) 3 1)] (fun r K'=>r=zw (decide (xs=ys))/\K'=[(j,ob),(j2,.row (ys.map intA) 3 1)]):=by
 refine zm 8 hT Tryz.func29 fun Y hret=>?_;refine au 11423542 ?_;refine TK.clE Z Z Z Z (ze3 hT hI hl) ?_;refine au 35 ?_;refine bB hret [(j,_),(j2,_)] ?_;exact ⟨rfl,rfl⟩
theorem to_ok {main T} (hT:zn tp main T) {gm} {a z:Int} :
  zq tp T gm 30 [intA a,intA z] [] (fun r K'=>r=.agg [intA a,intA z]/\K'=[]):=by
 refine zm 8 hT Tryz.func30 fun Y hret=>?_;refine au 22042 ?_;intro j1 hj1;refine au 317039011423 ?_;refine bB hret [] ?_;exact ⟨rfl,rfl⟩
theorem znj {main T} (hT:zn tp main T) {gm} {n:Int} :
  zq tp T gm 58 [intA n] [] (fun r K'=>r=.agg [intA n,intA n]/\K'=[]):=by
 refine zm 6 hT Tryz.func58 fun Y hret=>?_;refine au 22042 ?_;intro j1 hj1;refine au 11423 ?_;refine TK.clE Z Z Z Z (to_ok hT) ?_;refine au 3170 ?_;refine bB hret [] ?_;exact ⟨rfl,rfl⟩
theorem zg7 {main T} (hT:zn tp main T) {gm}  :
  zq tp T gm 19 [] [] (fun r K'=>∃ s h e,r=.agg (zD exB s h e)/\K'=[(s,zl exB),(h,zF exB),(e,zt exB)]):=by
 refine zm 10 hT Tryz.func19 fun Y hret=>?_;refine au 22042 ?_;intro j0 hj0;refine au 420420420423 ?_;refine bI Z Z Z (zp (l:=[_,_,_,_,_,_,_,_,_,_,_,_,_,_,_]) Z zE.h TyZ.h dQ dQ Z) (fun _=>zr rfl tQ) fun js hjs=>?_;refine TK.clE Z Z Z Z (to_ok hT) ?_;refine au 0 ?_;refine TK.clE Z Z Z Z (znj hT) ?_;refine au 0 ?_;refine TK.clE Z Z Z Z (to_ok hT) ?_;refine au 0 ?_;refine bI Z Z Z (zp (l:=[_,_,_,_,_,_]) Z zE.h TyZ.h dQ dQ Z) (fun _=>zr rfl tQ) fun jh hjh=>?_;refine au 170440 ?_;refine TK.unrowAt (c:=j0) (i:=4) (j:=js) Z mQ uQ ?_;refine bY (j:=js) ?_;refine TK.unrowAt (c:=j0) (i:=5) (j:=jh) Z mQ uQ ?_;refine bY (j:=jh) ?_;refine TK.virtAt (j:=j0) (i:=6) (e:=95) (size:=3) (x:=none) (l:=[intA 12,intA 15,intA 8,intA 2,.sl js 0 3,.sl jh 0 3,.v (.slice none 0 0)]) (by rfl) (fun _=>uQ) fun je hje=>?_;refine TK.unrowAt (c:=j0) (i:=6) (j:=je) Z mQ uQ ?_;refine bY (j:=je) ?_;refine au 3 ?_;refine bB hret [(js,_),(jh,_),(je,_)] ?_;exact ⟨js,jh,je,rfl,rfl⟩
theorem zbp {main T} (hT:zn tp main T) {gm} {b:RBk} {s h e:Nat} {m:RMeas} (hm:b.measures.length<=100) :
  zq tp T gm 40 [.agg (zD b s h e),.agg (yk m)] [(e,zt b)] (fun r K'=>∃ je,r=.agg (zD (yp b m) s h je)/\K'=[(je,zt (yp b m)),(e,zt b)]):=by
 refine zm 14 hT Tryz.func40 fun Y hret=>?_;refine au 0 ?_;have hfl:=yy yk 3 (fun _=>rfl) b.measures;refine au 21042 ?_;intro jb hjb;refine au 210 ?_;intro jm hjm;refine au 220 ?_;intro jr hjr;refine au 23 ?_;refine bM [1,2,4,0,3,5,6,7,8] [0,1,2,3,4,5,6,7,8] ?_;refine ad [[3,2],[10,6],[12,3]] ?_;refine TD.c2 (i1:=0) (i2:=5) (pend1:=[⟨4,[3],[(_,_)]⟩,⟨2,[6],[(_,_)]⟩,⟨1,[2],[]⟩]) (pend2:=[⟨2,[6],[(_,_)]⟩,⟨1,[2],[]⟩]) (L1:=[3,5,6,7,8]) (L2:=[0,3,6,7,8]) [] [9] Z Z Z Z Z Z Z ?_ ?_
 ·refine kJ Z (zp (l:=[]) Z zE.h TyZ.h dQ dQ Z) (fun _=>zr rfl tQ) sQ fun j1 hj1=>?_;refine TD.c2 (i1:=3) (i2:=5) (pend1:=[⟨4,[3],[(_,_)]⟩,⟨1,[2],[]⟩]) (pend2:=[⟨2,[6],[(_,_)]⟩,⟨1,[2],[]⟩]) (L1:=[5,6,7,8]) (L2:=[3,6,7,8]) [5,7] [9] Z Z Z Z Z Z Z ?_ ?_
  ·refine zjG (ln:=b.measures.flatMap yk) Z Z ApOf.h Z mQ Z Z Z (fun hp=>kR mQ oQ (ke hfl oQ)) (fun h=>lK oQ) (kK yk (fun _=>rfl) _) (by unfold maxLen; omega) oQ (fun _=>uQ) (fun _=>zr rfl tQ) (fun _=>by simp) fun jc=>?_;simp only [lC,mO];refine bV (pend':=[⟨1,[2],[]⟩]) [9] Z Z Z Z Z (zp (l:=[_,_,_]) Z zE.h TyZ.h dQ dQ Z) (fun _=>zr rfl tQ) sQ fun j2 hj2=>?_;refine TD.capp (pend':=[⟨1,[2],[]⟩]) [8,10] Z Z Z Z Z (a_app Z ApOf.h Z mQ oQ Z (yg (ln:=[_,_,_]) mQ dQ sQ Z) oQ Z (by unfold maxLen; omega) oQ) (fun _=>uQ) (fun _=>zr rfl tQ) (fun _=>sQ) fun je=>?_;refine ad [[3,2]] ?_;refine bR (pend':=[]) [11,12] Z Z (zM Z Z ze.h Z Z mQ Z) ?_;refine ad [[14]] ?_;refine au 2 ?_;refine TK.unrowAt (c:=jb) (i:=6) (j:=je) Z mQ uQ ?_;refine bY (j:=je) ?_;rw [show b.measures.flatMap yk++[intA m.cloth,intA m.many,intA m.wide]=(yp b m).measures.flatMap yk from (kj yk b.measures m).symm,show b.measures.length+1=(yp b m).measures.length by simp [yp]];refine au 31706804 ?_;refine bB hret [(je,_),(e,_)] ?_;exact ⟨je,rfl,rfl⟩
  ·refine kJ Z (zp (l:=[_,_,_]) Z zE.h TyZ.h dQ dQ Z) (fun _=>zr rfl tQ) sQ fun j3 hj3=>?_;refine TD.cappG (ln:=b.measures.flatMap yk) (pend':=[⟨1,[2],[]⟩]) [5,7] Z Z Z Z Z Z ApOf.h Z mQ Z Z Z (fun hp=>kR mQ oQ (ke hfl oQ)) (fun h=>lK oQ) (kK yk (fun _=>rfl) _) (by unfold maxLen; omega) oQ (fun _=>uQ) (fun _=>zr rfl tQ) (fun _=>by simp) fun jc=>?_;simp only [lC,mO];refine TD.capp (pend':=[⟨1,[2],[]⟩]) [8,10] Z Z Z Z Z (a_app Z ApOf.h Z mQ oQ Z (yg (ln:=[_,_,_]) mQ dQ sQ Z) oQ Z (by unfold maxLen; omega) oQ) (fun _=>uQ) (fun _=>zr rfl tQ) (fun _=>sQ) fun je=>?_;refine ad [[3,2]] ?_;refine bR (pend':=[]) [11,12] Z Z (zM Z Z ze.h Z Z mQ Z) ?_;refine ad [[14]] ?_;refine au 2 ?_;refine TK.unrowAt (c:=jb) (i:=6) (j:=je) Z mQ uQ ?_;refine bY (j:=je) ?_;rw [show b.measures.flatMap yk++[intA m.cloth,intA m.many,intA m.wide]=(yp b m).measures.flatMap yk from (kj yk b.measures m).symm,show b.measures.length+1=(yp b m).measures.length by simp [yp]];refine au 31706804 ?_;refine bB hret [(je,_),(e,_)] ?_;exact ⟨je,rfl,rfl⟩
 ·refine kJ Z (zp (l:=[_,_,_]) Z zE.h TyZ.h dQ dQ Z) (fun _=>zr rfl tQ) sQ fun j4 hj4=>?_;refine bV (pend':=[⟨2,[6],[(_,_)]⟩,⟨1,[2],[]⟩]) [] Z Z Z Z Z (zp (l:=[]) Z zE.h TyZ.h dQ dQ Z) (fun _=>zr rfl tQ) sQ fun j5 hj5=>?_;refine TD.cappG (ln:=b.measures.flatMap yk) (pend':=[⟨1,[2],[]⟩]) [5,7] Z Z Z Z Z Z ApOf.h Z mQ Z Z Z (fun hp=>kR mQ oQ (ke hfl oQ)) (fun h=>lK oQ) (kK yk (fun _=>rfl) _) (by unfold maxLen; omega) oQ (fun _=>uQ) (fun _=>zr rfl tQ) (fun _=>by simp) fun jc=>?_;simp only [lC,mO];refine TD.capp (pend':=[⟨1,[2],[]⟩]) [8,10] Z Z Z Z Z (a_app Z ApOf.h Z mQ oQ Z (yg (ln:=[_,_,_]) mQ dQ sQ Z) oQ Z (by unfold maxLen; omega) oQ) (fun _=>uQ) (fun _=>zr rfl tQ) (fun _=>sQ) fun je=>?_;refine ad [[3,2]] ?_;refine bR (pend':=[]) [11,12] Z Z (zM Z Z ze.h Z Z mQ Z) ?_;refine ad [[14]] ?_;refine au 2 ?_;refine TK.unrowAt (c:=jb) (i:=6) (j:=je) Z mQ uQ ?_;refine bY (j:=je) ?_;rw [show b.measures.flatMap yk++[intA m.cloth,intA m.many,intA m.wide]=(yp b m).measures.flatMap yk from (kj yk b.measures m).symm,show b.measures.length+1=(yp b m).measures.length by simp [yp]];refine au 31706804 ?_;refine bB hret [(je,_),(e,_)] ?_;exact ⟨je,rfl,rfl⟩
end Go.Vel
namespace Go.Vel
open Go Go.Conc
theorem pendS {ops:Array Oper} {i:Nat} {pend pend':List Pd} {es:List Nat} (h:edgesOf .any ops i=es) (h2:(pend.filter fun p => !(es.elem p.i))=pend'):pendOf ops i pend=pend':=by unfold pendOf; rw [h]; exact h2
theorem x_len:(exB.seams.length<=100)/\(exB.measures.length<=100):=by decide
theorem wR:zx exB=0:=by decide +kernel
theorem zgQ:bar2 (zx exB) (cutsM exB [1,2])=0:=by decide +kernel
theorem zgP:bar2 (zx exB) (cutsM exB [0,1])=0:=by decide +kernel
theorem zc3:bar2 (zx exB) (cutsM exB [0,2])=0:=by decide +kernel
theorem zkX:stripsM exB [1,2]=[(1,4),(2,8)]:=by decide +kernel
theorem zkU:fitsM exB [0,1]=true:=by decide +kernel
theorem zkV:fitsM exB [0,2]=false:=by decide +kernel
theorem x_h1:bar2 (zx exB) (bar2 (cutsM exB [0,1]) (shM exB [1,0,1]))=0:=by decide +kernel
theorem zgR:hangM exB [0,1] [1,0,1]=some ([3,2],13):=by decide +kernel
theorem x_h2:bar2 (zx exB) (bar2 (cutsM exB [0,1]) (shM exB [0,0,1]))=0:=by decide +kernel
theorem zgS:hangM exB [0,1] [0,0,1]=some ([2,2],11):=by decide +kernel
theorem zkW:placesM exB [0,1] [0,0,1] [2,2]=[0,7]:=by decide +kernel
theorem zbP:zh exB=[[0,0,0],[0,0,1],[1,0,0],[1,0,1]]:=by decide +kernel
theorem x_ne:zh exB≠[]:=by rw [zbP]; decide
theorem x_th2:bar2 (zx exB) (thereM exB 2)=0:=by decide +kernel
theorem znI:shrM exB 2=[0,1]:=by decide +kernel
theorem x_new:newM exB=(3,5):=by decide +kernel
theorem zmp:canM exB [0,1]=1:=by decide +kernel
theorem zmq:canM exB [0,2]=2:=by decide +kernel
theorem znF:betw 16 exB.steps 40=true:=by decide +kernel
theorem znD:bar2 (zx (atRound exB 16)) (cutsM (atRound exB 16) [0,1])=0:=by decide +kernel
theorem znH:zh (atRound exB 16)≠[]:=by decide +kernel
theorem zmr:canM (atRound exB 16) [0,1]=0:=by decide +kernel
theorem znL:squaresM exB (zh exB) [1,2]=some (9,15):=by decide +kernel
theorem znK:squaresM exB (zh exB) [0,2]=none:=by decide +kernel
theorem znJ:squaresM exB (zh exB) [0,1]=some (9,13):=by decide +kernel
theorem zkY:widestM exB (zh exB)=some 16:=by decide +kernel
theorem x_ask:askM exB (zh exB)=(0,2):=by decide +kernel
def exM:RBk:=yp exB ⟨2,2,7⟩
theorem x_mc:zx exM=0:=by decide +kernel
theorem x_mst:zh exM=[[0,0,1],[1,0,0]]:=by decide +kernel
theorem znG:newM exM=(4,4):=by decide +kernel
theorem x_mne:zh exM≠[]:=by rw [x_mst]; decide
def exD:RBk:=driedB exB (0:Int).toNat (dryX exB 0 ⟨1,5⟩)
theorem x_d1:bar2 (zx exB) (thereM exB 0)=0/\isBd ⟨1,5⟩ 0 5=true/\(dryX exB 0 ⟨1,5⟩).low<=(dryX exB 0 ⟨1,5⟩).high:=by decide +kernel
theorem x_d2:bar2 (zx exB) (thereM exB 1)=0/\isBd ⟨1,2⟩ 0 5=true/\(dryX exB 1 ⟨1,2⟩).high<(dryX exB 1 ⟨1,2⟩).low:=by decide +kernel
theorem x_dc:zx exD=0:=by decide +kernel
theorem x_dst:zh exD=[[1,0,0],[1,0,1]]:=by decide +kernel
theorem x_dne:zh exD≠[]:=by rw [x_dst]; decide
theorem x_dth:bar2 (zx exD) (thereM exD 0)=0:=by decide +kernel
theorem znE:shrM exD 0=[1]:=by decide +kernel
def exC1:RBk:=yp exB ⟨0,1,5⟩
def exC:RBk:=yp exC1 ⟨2,2,6⟩
theorem x_cc:zx exC=0:=by decide +kernel
theorem x_cst:zh exC=[]:=by decide +kernel
theorem zgO:clashM exC=some [0,1]:=by decide +kernel
theorem zgN:zu 3 3=[0,1]:=by decide
theorem x_hi3:sqOk exB (zh exB) (zu 3 3)=true/\sqHi exB (zh exB) (zu 3 3)=13:=by
 unfold sqOk sqHi;rw [zgN,znJ];exact ⟨rfl,rfl⟩
theorem znC:∀ c:Fin 8,0<c.1->sqOk exB (zh exB) (zu c.1 3)=true->c.1≠3->(zu 3 3,sqHi exB (zh exB) (zu 3 3))≠(zu c.1 3,sqHi exB (zh exB) (zu c.1 3))/\cheaperM (zu c.1 3,sqHi exB (zh exB) (zu c.1 3)) (zu 3 3,sqHi exB (zh exB) (zu 3 3))=false/\shorterM (zu c.1 3,sqHi exB (zh exB) (zu c.1 3)) (zu 3 3,sqHi exB (zh exB) (zu 3 3))=false:=by decide +kernel
theorem zji {bt:List Int×Int->List Int×Int->Bool} {c:Nat} (hbt:bt=cheaperM\/bt=shorterM) (h:PlanA exB (zh exB) bt c):zu c exB.seams.length=[0,1]/\sqHi exB (zh exB) (zu c exB.seams.length)=13:=by
 obtain ⟨h0,h1,h2,h3⟩:=h;have e3:exB.seams.length=3:=rfl;rw [e3] at h1 h2 h3 ⊢;by_cases hc:c=3
 ·subst hc;exact ⟨zgN,x_hi3.2⟩
 ·exfalso;have h8:c<8:=h1;obtain ⟨q1,q2,q3⟩:=znC ⟨c,h8⟩ h0 h2 hc;rcases h3 3 dQ dQ x_hi3.1 with h | h
  ·exact q1 h
  ·rcases hbt with rfl | rfl
   ·rw [q2] at h; cases h
   ·rw [q3] at h; cases h
theorem zfy (h:NoPlan exB (zh exB)):False:=by
 have:=h 3 dQ dQ;have e3:exB.seams.length=3:=rfl;rw [e3,x_hi3.1] at this;cases this
theorem or2 {x:Int} {A B:Prop} (h:(x≠0/\A)\/(x=0/\B)) (hx:x=0):B:=by
 rcases h with ⟨h,_⟩ | ⟨_,h⟩
 ·exact absurd hx h
 ·exact h
theorem or3 {x:Int} {A B C D:Prop} (h:(x≠0/\A)\/(x=0/\D/\B)\/(x=0/\¬ D/\C)) (hx:x=0) (hd:¬ D):C:=by
 rcases h with ⟨h,_⟩ | ⟨_,h,_⟩ | ⟨_,_,h⟩
 ·exact absurd hx h
 ·exact absurd h hd
 ·exact h
theorem or3b {x:Int} {A B C D:Prop} (h:(x≠0/\A)\/(x=0/\D/\B)\/(x=0/\C)) (hx:x=0) (hd:¬ D):C:=by
 rcases h with ⟨h,_⟩ | ⟨_,h,_⟩ | ⟨_,h⟩
 ·exact absurd hx h
 ·exact absurd h hd
 ·exact h
theorem or3c {x:Int} {y:Bool} {A B C:Prop} (h:(x≠0/\A)\/(x=0/\y=false/\B)\/(x=0/\y=true/\C)) (hx:x=0) (hy:y=true):C:=by
 rcases h with ⟨h,_⟩ | ⟨_,h,_⟩ | ⟨_,_,h⟩
 ·exact absurd hx h
 ·rw [hy] at h; cases h
 ·exact h
theorem or4 {x u v:Int} {y:Bool} {A B C D:Prop} (h:(x≠0/\A)\/(x=0/\y=false/\B)\/(x=0/\y=true/\u<v/\C)\/(x=0/\y=true/\v<=u/\D)) (hx:x=0/\y=true/\v<=u):D:=by
 obtain ⟨h1,h2,h3⟩:=hx;rcases h with ⟨h,_⟩ | ⟨_,h,_⟩ | ⟨_,_,h,_⟩ | ⟨_,_,_,h⟩
 ·exact absurd h1 h
 ·rw [h2] at h; cases h
 ·omega
 ·exact h
theorem or4c {x u v:Int} {y:Bool} {A B C D:Prop} (h:(x≠0/\A)\/(x=0/\y=false/\B)\/(x=0/\y=true/\u<v/\C)\/(x=0/\y=true/\v<=u/\D)) (hx:x=0/\y=true/\u<v):C:=by
 obtain ⟨h1,h2,h3⟩:=hx;rcases h with ⟨h,_⟩ | ⟨_,h,_⟩ | ⟨_,_,_,h⟩ | ⟨_,_,h,_⟩
 ·exact absurd h1 h
 ·rw [h2] at h; cases h
 ·exact h
 ·omega
theorem orCl {x:Int} {A B C D E F:Prop} (h:(x≠0/\A)\/(x=0/\¬ D/\B)\/(x=0/\D/\E/\C)\/(x=0/\D/\F)) (hx:x=0) (hd:D) (he:¬ E):F:=by
 rcases h with ⟨h,_⟩ | ⟨_,h,_⟩ | ⟨_,_,h,_⟩ | ⟨_,_,h⟩
 ·exact absurd hx h
 ·exact absurd hd h
 ·exact absurd h he
 ·exact h
theorem trT {r:AV} {P Q:Prop} [Decidable P] (h:r=zw (decide P)/\Q) (hp:P):r=zw true/\Q:=⟨by rw [h.1,decide_eq_true hp],h.2⟩
theorem zev {xs zs:List Int} {i:Nat} {x:Int} {e:TypeId} {rw':Bool} (h:xs[i]? =some x):takeO (.cells ((xs++zs).map intA) e rw') (0+(i:Int).toNat*1) 1=some [intA x]:=yr (by rw [List.getElem?_append_left (List.getElem?_eq_some_iff.1 h).1]; exact h) rfl
theorem x_v12:sqLo exB (zh exB) [1,2]=9/\sqHi exB (zh exB) [1,2]=15/\sqOk exB (zh exB) [1,2]=true:=by
 unfold sqLo sqHi sqOk;rw [znL];exact ⟨rfl,rfl,rfl⟩
theorem x_v02:sqLo exB (zh exB) [0,2]=0/\sqHi exB (zh exB) [0,2]=0/\sqOk exB (zh exB) [0,2]=false:=by
 unfold sqLo sqHi sqOk;rw [znK];exact ⟨rfl,rfl,rfl⟩
theorem agr3 {b:RBk} {K:KV} {r:AV} {K':KV} (h:AgrR b K r K') (hx:zx b=0) (hn:zh b≠[]):∃ s h e,r=.tup [.agg (zD b s h e),intA 0]/\K'=(s,zl b)::(h,zF b)::(e,zt b)::K:=or3 h hx hn
end Go.Vel
namespace Go.Vel
open Go Go.Conc Go.Proofs
theorem z7 {main T} (hT:zn tp main T) {gm} {n lo hi:Int} :
  zq tp T gm 12 [intA n,intA lo,intA hi] [] (fun r K'=>r=zw (betw n lo hi)/\K'=[]):=by
 refine zm 15 hT Tryz.func12 fun Y hret=>?_;refine au 1711423542 ?_;refine bF 10 (fun g1_4=>?_) (fun g1_4=>?_)
 ·refine au 35260711 ?_;refine TK.rta hret ?_;exact ⟨by simp [zw,betw,g1_4],rfl⟩
 refine au 35250888 ?_;refine TK.rta hret ?_;exact ⟨by simp [zw,betw,g1_4],rfl⟩
theorem zb8 {main T} (hT:zn tp main T) {gm} {x:RBand} {lo hi:Int} :
  zq tp T gm 100 [.agg (bandC x),intA lo,intA hi] [] (fun r K'=>r=zw (isBd x lo hi)/\K'=[]):=by
 refine zm 24 hT Tryz.func100 fun Y hret=>?_;refine au 21042 ?_;intro j1 hj1;refine au 1769067014235 ?_;refine bF 11 (fun g1_5=>?_) (fun g1_5=>?_)
 ·refine au 12607690670690670 ?_;refine bF 18 (fun g1_12=>?_) (fun g1_12=>?_)
  ·refine au 3526071690670 ?_;refine bB hret [] ?_;exact ⟨by simp_all [isBd,bandC] <;> (intros; omega),rfl⟩
  refine au 352508888 ?_;refine bB hret [] ?_;exact ⟨by simp_all [isBd,bandC] <;> (intros; omega),rfl⟩
 refine au 352508888125088888 ?_;refine bB hret [] ?_;exact ⟨by simp_all [isBd,bandC] <;> (intros; omega),rfl⟩
theorem zdM {main T} (hT:zn tp main T) {gm} {b:RBk} {s h e i:Nat} (hr:RndOk b) (hs:SmOk b) (hi:i<b.seams.length) :
  zq tp T gm 101 [.agg (zD b s h e),intA i] [(s,zl b)] (fun r K'=>r=intA (wideM b i)/\K'=[(s,zl b)]):=by
 refine zm 40 hT Tryz.func101 fun Y hret=>?_;refine au 0 ?_;have h5:=hs.len;have hst:=hr.steps;have f0:=hs.fld 0 oQ;have fi:=hs.fld i hi;refine au 21042 ?_;intro jb hjb;refine au 937280690670230142235 ?_;constructor<;>intro hc0
 ·have hlt:i+1<b.seams.length:=by simp at hc0; omega
  have fn:=hs.fld (i+1) hlt;refine au 2 ?_;refine bL [0,1,2,3,4,5,6,7,8,9,10,11,12,13,14] ?_;refine ad [[3,2],[10,11],[1,1],[8,13],[2,12,14],[3,15]] ?_;refine bT [16] Z (hq:=zk Z Z ze.h (mC _) (yd (c:=0) (sm_at (i:=i+1) b hlt Z) dQ Z)) (h:=?_);refine ad [[3,2],[10,18],[1,1],[2,19,20],[3,21]] ?_;refine bT [22] Z (hq:=zk Z Z ze.h (mC _) (yd (c:=0) (sm_at (i:=i) b hi Z) dQ Z)) (h:=?_);refine ad [[9,17,23],[13,24],[14]] ?_;refine au 0 ?_;refine bB hret [(s,_)] ?_;exact ⟨by unfold wideM; rw [if_pos hlt]; rfl,rfl⟩
 have hlt:¬ i+1<b.seams.length:=by simp at hc0; omega
 refine au 2120 ?_;refine bL [0,1,2,3,4,5,6,7,8,9,10,11,12,13,14,15] ?_;refine ad [[3,2],[10,25],[2,26],[3,27]] ?_;refine bT [28] Z (hq:=zk Z Z ze.h (mC _) (yd (c:=0) (sm_at (i:=0) b oQ Z) dQ Z)) (h:=?_);refine ad [[3,2],[10,30],[8,29,31],[3,2],[10,33],[1,1],[2,34,35],[3,36]] ?_;refine bT [37] Z (hq:=zk Z Z ze.h (mC _) (yd (c:=0) (sm_at (i:=i) b hi Z) dQ Z)) (h:=?_);refine ad [[9,32,38],[13,39],[14]] ?_;refine au 0 ?_;refine bB hret [(s,_)] ?_;exact ⟨by unfold wideM; rw [if_neg hlt]; rfl,rfl⟩
theorem ziQ {main T} (hT:zn tp main T) {gm} {b:RBk} {s h e:Nat} (hr:RndOk b) (hl:b.seams.length<=100) :
  zq tp T gm 53 [.agg (zD b s h e)] [(s,zl b)] (fun r K'=>r=intA (seamsM b)/\K'=[(s,zl b)]):=by
 refine zm 61 hT Tryz.func53 fun Y hret=>?_;refine au 0 ?_;have hst:=hr.steps;refine au 21042 ?_;intro jb hjb;refine au 28069067042235 ?_;refine TK.clE Z Z Z Z (z7 hT) ?_;refine au 93300 ?_;constructor<;>intro hc0
 ·refine au 3542 ?_;refine bB hret [(s,_)] ?_;simp only [mV,mW] at hc0;exact ⟨by simp [seamsM,hc0],rfl⟩
 simp only [mV,mW] at hc0;have hl5:=uw hc0;refine au 13035422120 ?_;refine bA [1,2,3] ?_;refine bE (fun n env K=>∃ (i:Nat) (last:Int),n=b.seams.length - i/\i<=b.seams.length/\seamsL b last (b.seams.drop i)=seamsM b/\(0<i->last=(sm b (i - 1)).step)/\(i=0->last = -1)/\env=.any::.ptr jb 0::intA 0::intA i::naL 57 []/\K=[(jb,.cells (zD b s h e) 26 true),(s,zl b)]) b.seams.length ⟨0,-1,rfl,mN _,by unfold seamsM; rw [if_neg (by rw [hc0]; decide)]; rfl,fun h=>absurd h (Nat.lt_irrefl _),fun _=>rfl,rfl,rfl⟩ fun n env K hI hnext=>?_;obtain ⟨i,last,rfl,hi,hinv,hlast,hlast0,rfl,rfl⟩:=hI;refine bG nQ ?_;refine au 9372806906701422 ?_;constructor<;>intro hc1
 ·have hil:i<b.seams.length:=by simp at hc1; omega
  refine au 3601690670421302120 ?_;refine bH Z (zK Z Z ze.h mQ (sm_at (i:=i) b hil Z)) ?_;refine au 220 ?_;intro jx hjx;refine au 2406906706906704223170 ?_;refine TK.clE Z Z Z Z (z7 hT) ?_;refine au 1300 ?_;refine bF 29 (fun g7_8=>?_) (fun g7_8=>?_)
  ·refine au 3542180326088881260888812608888 ?_;refine bB hret [(s,_)] ?_;exact ⟨by rw [<- hinv,zO (yL hil),seamsL,if_pos (by simp only [mV,mW] at g7_8; simp [seamB,g7_8])],rfl⟩
  refine au 690670 ?_;refine TK.clE Z Z Z Z (z7 hT) ?_;refine au 1250300 ?_;refine bF 35 (fun g7_14=>?_) (fun g7_14=>?_)
  ·refine au 35421803260888812608888 ?_;refine bB hret [(s,_)] ?_;exact ⟨by rw [<- hinv,zO (yL hil),seamsL,if_pos (by simp only [mV,mW] at g7_8 g7_14; simp [seamB,g7_8,g7_14])],rfl⟩
  refine au 690670 ?_;refine TK.clE Z Z Z Z (z7 hT) ?_;refine au 1250300 ?_;refine bF 41 (fun g7_20=>?_) (fun g7_20=>?_)
  ·refine au 354218032608888 ?_;refine bB hret [(s,_)] ?_;exact ⟨by rw [<- hinv,zO (yL hil),seamsL,if_pos (by simp only [mV,mW] at g7_8 g7_14 g7_20; simp [seamB,g7_8,g7_14,g7_20])],rfl⟩
  refine au 690670 ?_;refine TK.clE Z Z Z Z (z7 hT) ?_;refine au 93250300 ?_;constructor<;>intro hc2
  ·refine au 3542 ?_;refine bB hret [(s,_)] ?_;exact ⟨by rw [<- hinv,zO (yL hil),seamsL,if_pos (by simp only [mV,mW] at g7_8 g7_14 g7_20 hc2; simp [seamB,g7_8,g7_14,g7_20,hc2])],rfl⟩
  have hsb:seamB b (sm b i)=true:=by simp only [mV,mW] at g7_8 g7_14 g7_20 hc2; simp [seamB,g7_8,g7_14,g7_20,hc2]
  refine au 2120 ?_;refine bL [0,1,2,3,4,5,6,7,8,9,10,11,12,13] ?_;refine ad [[1,3],[4,47],[1,48]] ?_;refine TD.sp 49 (fun g9_3=>?_) (fun g9_3=>?_)
  ·have hi0:0<i:=by simp at g9_3; omega
   refine ad [[3,4,49],[10,49,50],[3,1,49],[10,49,52],[1,3,49],[9,49,54],[2,49,53,55],[3,49,56]] ?_;refine bT [49,57] Z (hq:=zk Z Z ze.h (mC _) (yd (c:=0) (sm_at (i:=i - 1) b oQ oQ) dQ Z)) (h:=?_);refine ad [[4,49,51,58],[7,49,59],[14]] ?_;refine au 9 ?_;constructor<;>intro hc3
   ·refine au 3542 ?_;refine bB hret [(s,_)] ?_;exact ⟨by rw [<- hinv,zO (yL hil),seamsL,if_neg (by rw [hsb]; decide),if_pos (by rw [hlast (by simp at g9_3; omega)]; exact of_decide_eq_true hc3)],rfl⟩
   refine au 3523014140120 ?_;refine bA [1,2,3] ?_;refine bC [(jb,_),(s,_)] ?_;exact hnext _ _ _ oQ ⟨i+1,(sm b i).step,rfl,oQ,by rw [<- hinv,zO (yL hil),seamsL,if_neg (by rw [hsb]; decide),if_neg (by rw [hlast (by simp at g9_3; omega)]; exact of_decide_eq_false hc3)],fun _=>rfl,fun h=>by omega,rfl,rfl⟩
  refine ad [[11,4,49],[11,49,50],[11,1,49],[11,49,52],[11,3,49],[11,49,54],[11,49,53,55],[11,49,56],[11,49,57],[11,49,51,58],[6,49,59],[14]] ?_;refine au 3523014140120190 ?_;refine bA [1,2,3] ?_;refine bC [(jb,_),(s,_)] ?_;exact hnext _ _ _ oQ ⟨i+1,(sm b i).step,rfl,oQ,by have h0:=(zgz hsb).1; rw [<- hinv,zO (yL hil),seamsL,if_neg (by rw [hsb]; decide),if_neg (by rw [hlast0 (by simp at g9_3; omega)]; omega)],fun _=>rfl,fun h=>by omega,rfl,rfl⟩
 obtain rfl:i=b.seams.length:=by simp at hc1; omega
 refine au 3542160 ?_;refine bB hret [(s,_)] ?_;exact ⟨by rw [<- hinv,List.drop_length]; rfl,rfl⟩
theorem zg2 {main T} (hT:zn tp main T) {gm} {b:RBk} {s h e:Nat} (hr:RndOk b) (hs:SmOk b) (hm:b.measures.length<=100) :
  zq tp T gm 54 [.agg (zD b s h e)] [(s,zl b),(h,zF b),(e,zt b)] (fun r K'=>r=intA (if clothsM b≠0 then clothsM b else measM b)/\K'=[(s,zl b),(h,zF b),(e,zt b)]):=by
 refine zm 80 hT Tryz.func54 fun Y hret=>?_;refine au 0 ?_;have hst:=hr.steps;have hl5:=hs.len;refine au 21042 ?_;intro jb hjb;refine au 93728069067028069067042235 ?_;constructor<;>intro hc0
 ·refine au 3542 ?_;refine bB hret [(s,_),(h,_),(e,_)] ?_;exact ⟨by rw [show clothsM b=2 by unfold clothsM; rw [if_pos (by simp at hc0; omega)]]; rfl,rfl⟩
 have hle:b.shrinks.length=b.seams.length:=by simp at hc0; omega
 refine au 13035422120 ?_;refine bA [1,2,3] ?_;refine bE (fun n env K=>∃ (i:Nat),n=b.shrinks.length - i/\i<=b.shrinks.length/\clothsL b i (b.shrinks.drop i)=clothsM b/\env=.any::.ptr jb 0::intA 0::intA i::naL 76 []/\K=[(jb,.cells (zD b s h e) 26 true),(s,zl b),(h,zF b),(e,zt b)]) b.shrinks.length ⟨0,rfl,mN _,by unfold clothsM; rw [if_neg (by simpa using hle)]; rfl,rfl,rfl⟩ fun n env K hI hnext=>?_;obtain ⟨i,rfl,hi,hinv,rfl,rfl⟩:=hI;refine bG nQ ?_;refine au 9372806906701422 ?_;constructor<;>intro hc1
 ·have hil:i<b.shrinks.length:=by simp at hc1; omega
  refine au 3601690670421302120 ?_;refine bH Z (zK Z Z ze.h mQ (bd_at (i:=i) b hil Z)) ?_;refine au 220 ?_;intro jx hjx;refine au 6804223170 ?_;refine TK.clE Z Z Z Z (zb8 hT (x:=bd b i)) ?_;refine au 1300 ?_;refine bF 29 (fun g7_4=>?_) (fun g7_4=>?_)
  ·refine au 35421803260888888 ?_;refine bB hret [(s,_),(h,_),(e,_)] ?_;exact ⟨by rw [show clothsM b=1 by rw [<- hinv,zO (kA hil),clothsL,if_pos (by simp at g7_4; simp [bandB,g7_4])]]; rfl,rfl⟩
  have hbd:0<=(bd b i).low/\(bd b i).low<=(bd b i).high/\(bd b i).high<=5:=by simp [isBd] at g7_4; omega
  refine au 932507240690670690670 ?_;constructor<;>intro hc2
  ·refine au 3542 ?_;refine bB hret [(s,_),(h,_),(e,_)] ?_;exact ⟨by rw [show clothsM b=1 by rw [<- hinv,zO (kA hil),clothsL,if_pos (by simp at g7_4 hc2; simp [bandB,g7_4] <;> omega)]]; rfl,rfl⟩
  have hbb:bandB (bd b i)=true:=by simp at g7_4 hc2; simp [bandB,g7_4]; omega
  refine au 2120 ?_;refine bL [0,1,2,3,4,5] ?_;refine ad [[3,4],[10,37],[12,1],[1,3]] ?_;refine bQ (pend':=[⟨1,[37],[(_,_)]⟩,⟨0,[4],[]⟩]) [39,40] Z Z Z Z Z (zdM hT (i:=i) hr hs oQ) (fun r4 K5 h6=>⟨?_,?_⟩)
  ·rcases h6 with ⟨rfl,rfl⟩
   all_goals simp
  obtain ⟨rfl,rfl⟩:=h6;try simp only [cA]
  refine bS tQ ?_;refine ad [[4,38,41],[14]] ?_;refine au 9 ?_;constructor<;>intro hc3
  ·refine au 3542 ?_;refine bB hret [(s,_),(h,_),(e,_)] ?_;exact ⟨by rw [show clothsM b=8 by rw [<- hinv,zO (kA hil),clothsL,if_neg (by rw [hbb]; decide),if_pos (of_decide_eq_true hc3)]]; rfl,rfl⟩
  refine au 3523014140120 ?_;refine bA [1,2,3] ?_;refine bC [(jb,_),(s,_),(h,_),(e,_)] ?_;exact hnext _ _ _ oQ ⟨i+1,rfl,oQ,by rw [<- hinv,zO (kA hil),clothsL,if_neg (by rw [hbb]; decide),if_neg (of_decide_eq_false hc3)],rfl,rfl⟩
 obtain rfl:i=b.shrinks.length:=by simp at hc1; omega
 have hcl:clothsM b=0:=by rw [<- hinv,List.drop_length]; rfl
 refine au 937280690670422160 ?_;constructor<;>intro hc4
 ·refine au 3542 ?_;refine bB hret [(s,_),(h,_),(e,_)] ?_;exact ⟨by rw [if_neg (fun h=>h hcl),show measM b=2 by unfold measM; rw [if_pos (by simp at hc4; omega)]],rfl⟩
 refine au 13035422120 ?_;refine bA [1,2,5] ?_;refine bE (fun n env K=>∃ (i:Nat),n=b.measures.length - i/\i<=b.measures.length/\measL b (b.measures.drop i)=measM b/\env=.any::.ptr jb 0::intA 0::naL 2 (intA i::naL 74 [])/\K=[(jb,.cells (zD b s h e) 26 true),(s,zl b),(h,zF b),(e,zt b)]) b.measures.length ⟨0,rfl,mN _,by unfold measM; rw [if_neg (by simp at hc4; omega)]; rfl,rfl,rfl⟩ fun n env K hI hnext=>?_;obtain ⟨i,rfl,hi,hinv2,rfl,rfl⟩:=hI;refine bG nQ ?_;refine au 9372806906701422 ?_;constructor<;>intro hc5
 ·have hil:i<b.measures.length:=by simp at hc5; omega
  obtain ⟨x,hg⟩:∃ x,b.measures[i]? =some x:=⟨_,lA hil⟩;refine au 3601690670421302120 ?_;refine bH Z (zK Z Z ze.h mQ (zcd (i:=i) hg Z)) ?_;refine au 220 ?_;intro jy hjy;refine au 2402806906706906704223170 ?_;refine TK.clE Z Z Z Z (z7 hT) ?_;refine au 93300 ?_;constructor<;>intro hc6
  ·refine au 3542 ?_;refine bB hret [(s,_),(h,_),(e,_)] ?_;exact ⟨by rw [if_neg (fun h=>h hcl),<- hinv2,zO hg,measL,if_pos (by simp at hc6; simp [thereM,hc6]),show thereM b x.cloth=6 by simp at hc6; simp [thereM,hc6]],rfl⟩
  refine au 28069067069067042120 ?_;refine TK.clE Z Z Z Z (z7 hT) ?_;refine au 1300 ?_;refine bF 74 (fun g19_8=>?_) (fun g19_8=>?_)
  ·refine au 354218032608888 ?_;refine bB hret [(s,_),(h,_),(e,_)] ?_;exact ⟨by rw [if_neg (fun h=>h hcl),<- hinv2,zO hg,measL,if_neg (by simp at hc6; simp [thereM,hc6]),if_pos (by simp at g19_8; simp [measB,g19_8])],rfl⟩
  refine au 690670 ?_;refine TK.clE Z Z Z Z (z7 hT) ?_;refine au 93250300 ?_;constructor<;>intro hc7
  ·refine au 3542 ?_;refine bB hret [(s,_),(h,_),(e,_)] ?_;exact ⟨by rw [if_neg (fun h=>h hcl),<- hinv2,zO hg,measL,if_neg (by simp at hc6; simp [thereM,hc6]),if_pos (by simp at g19_8 hc7; simp [measB,g19_8,hc7])],rfl⟩
  refine au 3523014140120 ?_;refine bA [1,2,5] ?_;refine bC [(jb,_),(s,_),(h,_),(e,_)] ?_;exact hnext _ _ _ oQ ⟨i+1,rfl,oQ,by rw [<- hinv2,zO hg,measL,if_neg (by simp at hc6; simp [thereM,hc6]),if_neg (by simp at g19_8 hc7; simp [measB,g19_8,hc7])],rfl,rfl⟩
 obtain rfl:i=b.measures.length:=by simp at hc5; omega
 refine au 3542160 ?_;refine bB hret [(s,_),(h,_),(e,_)] ?_;exact ⟨by rw [if_neg (fun h=>h hcl),<- hinv2,List.drop_length]; rfl,rfl⟩
theorem zas {main T} (hT:zn tp main T) {gm} {b:RBk} {s h e:Nat} (hl:b.seams.length<=100) (hm:b.measures.length<=100) :
  zq tp T gm 16 [.agg (zD b s h e)] [(s,zl b),(h,zF b),(e,zt b)] (fun r K'=>r=intA (zx b)/\K'=[(s,zl b),(h,zF b),(e,zt b)]):=by
 refine zm 35 hT Tryz.func16 fun Y hret=>?_;refine au 21042 ?_;intro jb hjb;refine au 69067042235 ?_;refine TK.clE Z Z Z Z (z7 hT) ?_;refine au 1300 ?_;refine bF 8 (fun g1_5=>?_) (fun g1_5=>?_)
 ·refine au 354218032608888126088881260888888 ?_;refine bB hret [(s,_),(h,_),(e,_)] ?_;simp only [mV,mW] at g1_5;exact ⟨by rw [show zx b=1 by unfold zx; rw [if_pos (by rw [show roundsM b=1 by simp [roundsM,g1_5]]; decide)]; simp [roundsM,g1_5]],rfl⟩
 refine au 690670690670 ?_;refine TK.clE Z Z Z Z (z7 hT) ?_;refine au 1250300 ?_;refine bF 16 (fun g1_13=>?_) (fun g1_13=>?_)
 ·refine au 35421803260888812608888 ?_;refine bB hret [(s,_),(h,_),(e,_)] ?_;simp only [mV,mW] at g1_5 g1_13;exact ⟨by rw [show zx b=1 by unfold zx; rw [if_pos (by rw [show roundsM b=1 by simp [roundsM,g1_5,g1_13]]; decide)]; simp [roundsM,g1_5,g1_13]],rfl⟩
 refine au 690670 ?_;refine TK.clE Z Z Z Z (z7 hT) ?_;refine au 1250300 ?_;refine bF 22 (fun g1_19=>?_) (fun g1_19=>?_)
 ·refine au 354218032608888 ?_;refine bB hret [(s,_),(h,_),(e,_)] ?_;simp only [mV,mW] at g1_5 g1_13 g1_19;exact ⟨by rw [show zx b=1 by unfold zx; rw [if_pos (by rw [show roundsM b=1 by simp [roundsM,g1_5,g1_13,g1_19]]; decide)]; simp [roundsM,g1_5,g1_13,g1_19]],rfl⟩
 refine au 690670 ?_;refine TK.clE Z Z Z Z (z7 hT) ?_;refine au 93250300 ?_;constructor<;>intro hc0
 ·refine au 3542 ?_;refine bB hret [(s,_),(h,_),(e,_)] ?_;simp only [mV,mW] at g1_5 g1_13 g1_19 hc0;exact ⟨by rw [show zx b=1 by unfold zx; rw [if_pos (by rw [show roundsM b=1 by simp [roundsM,g1_5,g1_13,g1_19,hc0]]; decide)]; simp [roundsM,g1_5,g1_13,g1_19,hc0]],rfl⟩
 simp only [mV,mW] at g1_5 g1_13 g1_19 hc0;have hr0:roundsM b=0:=by simp [roundsM,g1_5,g1_13,g1_19,hc0]
 have hr:=uY hr0;refine au 680422120 ?_;refine TK.clE Z Z Z Z (ziQ hT hr hl) ?_;refine au 93714235 ?_;constructor<;>intro hc1
 ·refine au 35142 ?_;refine bB hret [(s,_),(h,_),(e,_)] ?_;exact ⟨by unfold zx; rw [if_neg (by simpa using hr0),if_pos (by simpa using hc1)],rfl⟩
 have hs0:seamsM b=0:=by simpa using hc1
 have hs:=zaP hs0;refine au 68042120 ?_;refine TK.clE Z Z Z Z (zg2 hT hr hs hm) ?_;refine au 35 ?_;refine bB hret [(s,_),(h,_),(e,_)] ?_;exact ⟨by rw [show zx b=(if clothsM b≠0 then clothsM b else measM b) by unfold zx; rw [if_neg (by simpa using hr0),if_neg (by simpa using hs0)]],rfl⟩
theorem zmD {main T} (hT:zn tp main T) {gm} {b:RBk} {s h e:Nat} :
  zq tp T gm 4 [.agg (zD b s h e)] [(s,zl b),(h,zF b),(e,zt b)] (fun r K'=>r=zw (!greatM b&&decide (zx b=0))/\K'=[(s,zl b),(h,zF b),(e,zt b)]):=by
 refine zm 11 hT Tryz.func4 fun Y hret=>?_;refine au 21042 ?_;intro jb hjb;refine au 6804235 ?_;refine bD Z Z Z Z (zjS hT) ?_ (hs:=(.none _));rintro r1 K2 ⟨rfl,rfl⟩;refine au 1300 ?_;refine bF 6 (fun g1_4=>?_) (fun g1_4=>?_)
 ·refine au 680 ?_;refine TK.clE Z Z Z Z (zas hT (by simp [greatM] at g1_4; omega) (by simp [greatM] at g1_4; omega)) ?_;refine au 352607 ?_;refine bB hret [(s,_),(h,_),(e,_)] ?_;exact ⟨by simp at g1_4; rw [g1_4]; simp; rfl,rfl⟩
 refine au 35250888 ?_;refine bB hret [(s,_),(h,_),(e,_)] ?_;exact ⟨by simp at g1_4; rw [g1_4]; rfl,rfl⟩
end Go.Vel
namespace Go.Vel
open Go Go.Conc
theorem zbT (b:RBk) (l:List Int):∀ (o:List Int) (z z':Alloc),z.left<=z'.left->(o.foldl (allocM b l) z).left<=(o.foldl (allocM b l) z').left
 | [],z,z',h=>h
 | k::o,z,z',h=>by
  rw [List.foldl_cons,List.foldl_cons];refine zbT b l o _ _ ?_;show z.left - min z.left (cutS b l k.toNat).most<=z'.left - min z'.left (cutS b l k.toNat).most;omega
theorem zhc {b:RBk} {r r':Int} (h:r<=r') {l s:List Int} (hs:(hangM (atRound b r') l s).isSome=true):(hangM (atRound b r) l s).isSome=true:=by
 unfold hangM at hs ⊢;by_cases hf:fitsM (atRound b r') l=false
 ·rw [if_pos hf] at hs; cases hs
 ·have hf':¬ fitsM (atRound b r) l=false:=hf;rw [if_neg hf] at hs;rw [if_neg hf'];dsimp only at hs ⊢;by_cases h0:0<(allocA (atRound b r') l (yn (atRound b r') s)).left
  ·rw [if_pos h0] at hs; cases hs
  ·have hm:(allocA (atRound b r) l (yn (atRound b r) s)).left<=(allocA (atRound b r') l (yn (atRound b r') s)).left:=by
    refine zbT b l (ordM b l) _ _ ?_;show r - b.steps+_<=r' - b.steps+_;omega
   rw [if_neg oQ];rfl
theorem zab (b:RBk) (all:List (List Int)) (l:List Int):sqOk b all l=true↔∀ s∈all,(hangM b l s).isSome=true:=by
 unfold sqOk squaresM waysM;have key:(all.filterMap (hangM b l)).length<all.length↔¬ ∀ s∈all,(hangM b l s).isSome=true:=by
  induction all with
  | nil=>simp
  | cons s r ih =>
   have hle:(r.filterMap (hangM b l)).length<=r.length:=List.length_filterMap_le _ _;cases hs:hangM b l s with
   | none =>
    rw [List.filterMap_cons_none hs];simp [hs];omega
   | some z =>
    rw [List.filterMap_cons_some hs,lZ,lZ,Nat.succ_lt_succ_iff,ih];simp [hs]
 by_cases h:(all.filterMap (hangM b l)).length<all.length
 ·rw [if_pos h];simp only [Option.isSome_none,Bool.false_eq_true,false_iff];exact key.1 h
 ·rw [if_neg h];simp only [Option.isSome_some,true_iff];exact Classical.not_not.1 fun hh=>h (key.2 hh)
theorem zgU {b:RBk} {all:List (List Int)} {r r':Int} (h:r<=r') (hc:canAt b all r'=true):canAt b all r=true:=by
 unfold canAt at hc ⊢;rw [List.any_eq_true] at hc ⊢;obtain ⟨c,h1,h2⟩:=hc;refine ⟨c,h1,?_⟩;rw [mX] at h2 ⊢;refine ⟨h2.1,?_⟩;rw [zab] at *
 exact fun s hs=>zhc h (h2.2 s hs)
theorem uo (b:RBk) (all:List (List Int)):∀ k,(∀ n,widestL b all k=some n->b.steps<=n/\n<b.steps+k/\canAt b all n=true/\∀ r,n<r->r<b.steps+k->canAt b all r=false)/\(widestL b all k=none->∀ r,b.steps<=r->r<b.steps+k->canAt b all r=false)
 | 0=>⟨(fun n h=>by cases h),(fun _ r h1 h2=>by omega)⟩
 | k+1=>by
  obtain ⟨i1,i2⟩:=uo b all k;unfold widestL;by_cases hc:canAt b all (b.steps+k)=true
  ·rw [if_pos hc];refine ⟨fun n h=>?_,fun h=>by cases h⟩;cases h;exact ⟨by omega,oQ,hc,fun r h1 h2=>by omega⟩
  ·rw [if_neg hc];have hc:canAt b all (b.steps+k)=false:=by simpa using hc
   refine ⟨fun n h=>?_,fun h r h1 h2=>?_⟩
   ·obtain ⟨q1,q2,q3,q4⟩:=i1 n h;refine ⟨q1,oQ,q3,fun r h1 h2=>?_⟩;by_cases e:r=b.steps+k
    ·rw [e]; exact hc
    ·exact q4 r h1 oQ
   ·by_cases e:r=b.steps+k
    ·rw [e]; exact hc
    ·exact i2 h r h1 oQ
theorem zcy {b:RBk} {all:List (List Int)} (h2:b.steps<=40) {r:Int} (h0:b.steps<=r) (h1:r<=40):canAt b all r=((widestM b all).isSome&&decide (r<=(widestM b all).getD 0)):=by
 obtain ⟨i1,i2⟩:=uo b all (41 - b.steps).toNat;unfold widestM;cases h:widestL b all (41 - b.steps).toNat with
 | none =>
  rw [i2 h r h0 oQ]; rfl
 | some n =>
  obtain ⟨q1,q2,q3,q4⟩:=i1 n h;show canAt b all r=(true&&decide (r<=n));rw [Bool.true_and];by_cases hr:r<=n
  ·rw [decide_eq_true hr];exact zgU hr q3
  ·rw [decide_eq_false hr];exact q4 r oQ oQ
theorem zje {b:RBk} {all:List (List Int)} (h2:b.steps<=40) {n:Int} (h:widestM b all=some n):b.steps<=n/\n<=40:=by
 obtain ⟨i1,_⟩:=uo b all (41 - b.steps).toNat;obtain ⟨q1,q2,_⟩:=i1 n h;omega
def otherM (c n:Nat):List Int:=if zu c n=[] then [((c % n:Nat):Int)] else zu c n
theorem zbr (x:List Int):yz x x=false:=by
 cases h:yz x x with
 | false=>rfl
 | true=>rw [kx,zez] at h; omega
theorem zjn {b:RBk} {all:List (List Int)} {c d:Nat} (h:PlanA b all cheaperM c) (h0:0<d) (h1:d<2 ^ b.seams.length) (hs:sqOk b all (zu d b.seams.length)=true):sqHi b all (zu c b.seams.length)<=sqHi b all (zu d b.seams.length)/\(sqHi b all (zu c b.seams.length)<sqHi b all (zu d b.seams.length)\/yz (zu d b.seams.length) (zu c b.seams.length)=false):=by
 rcases h.2.2.2 d h0 h1 hs with e | e
 ·obtain ⟨e1,e2⟩:=Prod.mk.inj e;exact ⟨by omega,.inr (by rw [e1]; exact zbr _)⟩
 ·rw [we] at e;dsimp only at e;rcases e with e | ⟨e,e2⟩
  ·exact ⟨by omega,.inl e⟩
  ·exact ⟨by omega,.inr (zaR e2)⟩
theorem zll {b:RBk} {all:List (List Int)} {c d:Nat} (h:PlanA b all shorterM c) (h0:0<d) (h1:d<2 ^ b.seams.length) (hs:sqOk b all (zu d b.seams.length)=true):yz (zu d b.seams.length) (zu c b.seams.length)=false:=by
 rcases h.2.2.2 d h0 h1 hs with e | e
 ·rw [(Prod.mk.inj e).1]; exact zbr _
 ·exact zaR e
theorem vI {b:RBk} {all:List (List Int)} {c:Nat} {bt:List Int×Int->List Int×Int->Bool} (h:PlanA b all bt c) (hn:NoPlan b all):False:=by
 have:=hn c h.1 h.2.1;rw [h.2.2.1] at this;cases this
theorem ze5 {b:RBk}:∀ (l:List RSeam) (last:Int),(∀ s∈l,seamB b s=true/\last<s.step)->(l.Pairwise fun s t=>s.step<t.step)->seamsL b last l=0
 | [],_,_,_=>rfl
 | s::r,last,h,hp=>by
  obtain ⟨p1,p2⟩:=List.pairwise_cons.1 hp;have h1:=h s sQ;unfold seamsL;rw [if_neg (by rw [h1.1]; decide),if_neg oQ];exact ze5 r _ (fun t ht=>⟨(h t (by simp [ht])).1,p1 t ht⟩) p2
theorem zc9 {b:RBk}:∀ (l:List RBand) (i:Nat),(∀ k x,l[k]? =some x->bandB x=true/\x.high<wideM b (i+k))->clothsL b i l=0
 | [],_,_=>rfl
 | x::r,i,h=>by
  have h1:=h 0 x rfl;unfold clothsL;rw [if_neg (by rw [h1.1]; decide),if_neg (by have:=h1.2; rw [Nat.add_zero] at this; omega)];exact zc9 r _ fun k y hy=>by
   have:=h (k+1) y (by simpa using hy);rwa [show i+(k+1)=i+1+k by omega] at this
theorem zgq {b:RBk}:∀ (l:List RMeas),(∀ m∈l,0<=m.cloth/\m.cloth<b.seams.length/\1<=m.many/\m.many<=b.seams.length/\0<=m.wide/\m.wide<=24)->measL b l=0
 | [],_=>rfl
 | m::r,h=>by
  have h1:=h m sQ;have h2:thereM b m.cloth=0:=by unfold thereM; rw [if_pos (by simp [betw]; omega)]
  have h3:measB b m=true:=by simp only [measB,betw,mX,decide_eq_true_eq]; omega
  unfold measL;rw [if_neg (by rw [h2]; decide),if_neg (by rw [h3]; decide)];exact zgq r fun y hy=>h y (by simp [hy])
theorem zkf {b:RBk} (h:ROk b):zx b=0:=by
 have hr:=h.rnd;have h1:roundsM b=0:=by
  unfold roundsM;rw [if_pos];simp only [betw,mX,decide_eq_true_eq];exact ⟨⟨⟨hr.steps,hr.round⟩,hr.roll⟩,hr.rolls⟩
 have hs:=h.sms;have sat:∀ i,(hi:i<b.seams.length)->b.seams[i]=sm b i:=fun i hi=>by
  have:=yL hi;rw [lA hi] at this;exact Option.some.inj this
 have h2:seamsM b=0:=by
  have hbl:betw b.seams.length 1 5=true:=by
   have:=hs.len;simp only [betw,mX,decide_eq_true_eq];omega
  unfold seamsM;rw [if_neg (by rw [hbl]; decide)];refine ze5 _ _ (fun s hm=>?_) (List.pairwise_iff_getElem.2 fun i j hi hj hij=>by rw [sat i hi,sat j hj]; exact hs.asc i j hij hj);obtain ⟨i,hi,rfl⟩:=List.getElem_of_mem hm;rw [sat i hi];have:=hs.fld i hi;exact ⟨by simp only [seamB,betw,mX,decide_eq_true_eq]; omega,oQ⟩
 have h3:clothsM b=0:=by
  unfold clothsM;rw [if_neg (by rw [h.cls.len]; simp)];refine zc9 _ _ fun k x hx=>?_;have hk:k<b.shrinks.length:=by
   rcases Nat.lt_or_ge k b.shrinks.length with h | h
   ·exact h
   ·rw [lU h] at hx; cases hx
  rw [kA hk] at hx;cases hx;have:=h.cls.bnd k (by have:=h.cls.len; omega);exact ⟨by simp only [bandB,isBd,mX,decide_eq_true_eq]; omega,by rw [mO]; exact this.2.2.2.2⟩
 have h4:measM b=0:=by
  unfold measM;have:=h.mes.len;rw [if_neg oQ];exact zgq _ h.mes.bnd
 unfold zx;rw [if_neg (by rw [h1]; decide),if_neg (by rw [h2]; decide),if_neg (by rw [h3]; decide)];exact h4
def sumF (f:Nat->Int):Nat->Int
 | 0=>0
 | k+1=>sumF f k+f k
theorem wy {f g:Nat->Int}:∀ n,(∀ i,i<n->f i=g i)->sumF f n=sumF g n
 | 0,_=>rfl
 | n+1,h=>by
  unfold sumF;rw [wy n (fun i hi=>h i oQ),h n oQ]
theorem zae {f g:Nat->Int} {k:Nat}:∀ n,k<n->(∀ i,i≠k->g i=f i)->sumF g n=sumF f n - f k+g k
 | 0,h,_=>by omega
 | n+1,h,he=>by
  unfold sumF;by_cases e:k=n
  ·subst e;rw [wy k (fun i hi=>he i oQ)];omega
  ·rw [zae n oQ he,he n (fun h=>e h.symm)];omega
theorem uj {f:Nat->Int} {n:Nat} (h:∀ i,n<=i->f i=0):∀ k,sumF f (n+k)=sumF f n
 | 0=>rfl
 | k+1=>by
  show sumF f (n+k)+f (n+k)=_;rw [uj h k,h _ oQ,Int.add_zero]
theorem zad (f g:Nat->Int):∀ n,sumF (fun i=>f i+g i) n=sumF f n+sumF g n
 | 0=>rfl
 | n+1=>by
  show sumF (fun i=>f i+g i) n+(f n+g n)=sumF f n+f n+(sumF g n+g n);rw [zad f g n];omega
theorem zdj {lt:Int->Int->Bool} {x:Int} {S:List Int}:∀ j,j<=S.length->(insJ lt x S j).Perm (x::S)
 | 0,_=>List.Perm.refl _
 | j+1,h=>by
  unfold insJ;rw [lA oQ];dsimp only;split
  ·exact zdj j oQ
  ·have h1:=List.perm_middle (a:=x) (l₁:=S.take (j+1)) (l₂:=S.drop (j+1));rwa [List.take_append_drop] at h1
theorem zaa {lt:Int->Int->Bool} {l:List Int}:∀ i,i<=l.length->(sortN lt l i).Perm (l.take i)
 | 0,_=>by rw [List.take_zero]; exact List.Perm.refl _
 | i+1,h=>by
  have hg:l[i]? =some l[i]:=lA oQ;rw [kZ hg,yA hg];exact (zdj _ (mL _)).trans ((List.Perm.cons _ (zaa i oQ)).trans (List.perm_append_singleton _ _).symm)
theorem zdx (b:RBk) (l:List Int):(ordM b l).Nodup:=by
 unfold ordM sortR;refine (zaa _ (mL _)).nodup_iff.2 ?_;rw [lW];unfold idxM;exact List.Pairwise.map _ (fun a b hab=>by intro h; exact hab oQ) List.nodup_range
theorem zeh {L:List Int} {k i:Nat} {v:Int} (h:k<L.length):(L.set k v).getD i 0=if i=k then v else L.getD i 0:=by
 rw [lE,List.getElem?_set,lE];by_cases e:k=i
 ·rw [if_pos e,if_pos h,if_pos e.symm]; rfl
 ·rw [if_neg e,if_neg (fun hh=>e hh.symm)]
theorem zc5 {b:RBk} {l:List Int}:∀ (o:List Int) (z:Alloc),o.Nodup->(∀ k∈o,0<=k/\k<l.length)->(∀ k∈o,z.steps.getD k.toNat 0=0)->z.steps.length=l.length->0<=z.left->(∀ k∈o,0<=(cutS b l k.toNat).most)->(∀ i,0<=z.steps.getD i 0/\(i<l.length->z.steps.getD i 0<=(cutS b l i).most\/(i:Int)∈o)) ->
  sumF (fun i=>(o.foldl (allocM b l) z).steps.getD i 0) l.length+(o.foldl (allocM b l) z).left=sumF (fun i=>z.steps.getD i 0) l.length+z.left /\
  (o.foldl (allocM b l) z).squares - sumF (fun i=>(o.foldl (allocM b l) z).steps.getD i 0*(cutS b l i).busy) l.length=z.squares - sumF (fun i=>z.steps.getD i 0*(cutS b l i).busy) l.length /\
  0<=(o.foldl (allocM b l) z).left/\∀ i,0<=(o.foldl (allocM b l) z).steps.getD i 0/\(i<l.length->(o.foldl (allocM b l) z).steps.getD i 0<=(cutS b l i).most)
 | [],z,_,_,_,_,hz,_,hm=>⟨rfl,rfl,hz,fun i=>⟨(hm i).1,fun hi=>by
  rcases (hm i).2 hi with h | h
  ·exact h
  ·cases h⟩⟩
 | k::o,z,hn,ho,h0,hlen,hz,hmo,hm=>by
  obtain ⟨n1,n2⟩:=List.nodup_cons.1 hn;have hk:=ho k sQ;have hkl:k.toNat<z.steps.length:=by omega
  have hk0:=h0 k sQ;have hmk:=hmo k sQ;rw [List.foldl_cons];obtain ⟨v,hv⟩:∃ v,v=min z.left (cutS b l k.toNat).most:=⟨_,rfl⟩;have hz':allocM b l z k=⟨z.steps.set k.toNat v,z.squares+v*(cutS b l k.toNat).busy,z.left - v⟩:=by rw [hv]; rfl
  have hs:∀ i,(z.steps.set k.toNat v).getD i 0=if i=k.toNat then v else z.steps.getD i 0:=fun i=>zeh hkl
  obtain ⟨r1,r2,r3,r4⟩:=zc5 o (allocM b l z k) n2 (fun x hx=>ho x (by simp [hx])) (fun x hx=>by
   rw [hz'];show (z.steps.set k.toNat v).getD x.toNat 0=0;have hx0:=ho x (by simp [hx]);have hne:x≠k:=fun e=>n1 (e ▸ hx);rw [hs,if_neg oQ];exact h0 x (by simp [hx])) (by rw [hz']; show (z.steps.set k.toNat v).length=_; rw [List.length_set]; exact hlen) (by rw [hz']; show 0<=z.left - v; omega) (fun x hx=>hmo x (by simp [hx])) (fun i=>by
   rw [hz'];show 0<=(z.steps.set k.toNat v).getD i 0/\(i<l.length->(z.steps.set k.toNat v).getD i 0<=_\/_);rw [hs];by_cases e:i=k.toNat
   ·rw [if_pos e];exact ⟨by omega,fun _=>.inl (by rw [e]; omega)⟩
   ·rw [if_neg e];refine ⟨(hm i).1,fun hi=>?_⟩;rcases (hm i).2 hi with h | h
    ·exact .inl h
    ·rcases List.mem_cons.1 h with h | h
     ·omega
     ·exact .inr h)
  have e1:sumF (fun i=>(allocM b l z k).steps.getD i 0) l.length=sumF (fun i=>z.steps.getD i 0) l.length+v:=by
   rw [hz'];rw [zae (f:=fun i=>z.steps.getD i 0) (k:=k.toNat) l.length oQ (fun i hi=>by show (z.steps.set k.toNat v).getD i 0=_; rw [hs,if_neg hi])];show _ - z.steps.getD k.toNat 0+(z.steps.set k.toNat v).getD k.toNat 0=_;rw [hs,if_pos rfl,hk0];omega
  have e2:sumF (fun i=>(allocM b l z k).steps.getD i 0*(cutS b l i).busy) l.length=sumF (fun i=>z.steps.getD i 0*(cutS b l i).busy) l.length+v*(cutS b l k.toNat).busy:=by
   rw [hz'];rw [zae (f:=fun i=>z.steps.getD i 0*(cutS b l i).busy) (k:=k.toNat) l.length oQ (fun i hi=>by show (z.steps.set k.toNat v).getD i 0*_=_; rw [hs,if_neg hi])];show _ - z.steps.getD k.toNat 0*_+(z.steps.set k.toNat v).getD k.toNat 0*_=_;rw [hs,if_pos rfl,hk0,Int.zero_mul];omega
  rw [e1] at r1;rw [e2] at r2;rw [hz'] at r1 r2 r3 r4 ⊢;dsimp only at r1 r2;refine ⟨by omega,oQ,r3,r4⟩
theorem zdH (b:RBk) (l:List Int):∀ k,spoilM b l k=sumF (fun i=>(cutS b l i).spoil) k
 | 0=>rfl
 | k+1=>by
  show spoilM b l k+_=sumF _ k+_;rw [zdH b l k]
def needM (b:RBk) (l w:List Int) (k:Nat):Int:=sumF (fun i=>(cutS b l i).spoil+w.getD i 0*(cutS b l i).busy) k
theorem zbC {b:RBk} (hb:ROk b) {l s w:List Int} {q:Int} (hl:CutsOk b l) (hs:StOk b s) (h:hangM b l s=some (w,q)):fitsM b l=true/\w.length=l.length/\sumF (fun i=>w.getD i 0) l.length=yn b s/\q=needM b l w l.length/\∀ i,0<=w.getD i 0/\(i<l.length->w.getD i 0<=(cutS b l i).most):=by
 obtain ⟨hwl,_⟩:=zh2 hb hl hs h;unfold hangM at h;split at h
 ·cases h
 ·rename_i hf;dsimp only at h;split at h
  ·cases h
  ·rename_i hle;have hr:∀ i,(alloc0 b l (yn b s)).steps.getD i 0=0:=fun i=>by
    show (mB l.length (0:Int)).getD i 0=0;rw [lE,List.getElem?_replicate];split <;> rfl
   obtain ⟨r1,r2,r3,r4⟩:=zc5 (b:=b) (l:=l) (ordM b l) (alloc0 b l (yn b s)) (zdx b l) (fun k hk=>ww hk) (fun k _=>hr _) (by show (mB l.length (0:Int)).length=_; rw [List.length_replicate]) (uS hb hs).1 (fun k hk=>by
    have:=ww hk;exact (hb.sms.fld _ (hl.lt (k:=k.toNat) oQ).2.2).2.2.1) (fun i=>by
    rw [hr];refine ⟨Int.le_refl _,fun hi=>.inl ?_⟩;exact (hb.sms.fld _ (hl.lt hi).2.2).2.2.1)
   have z1:sumF (fun i=>(alloc0 b l (yn b s)).steps.getD i 0) l.length=0:=by
    rw [wy (g:=fun _=>0) l.length (fun i _=>hr i)];have:=uj (f:=fun _=>0) (n:=0) (fun _ _=>rfl) l.length;rwa [mO] at this
   have z2:sumF (fun i=>(alloc0 b l (yn b s)).steps.getD i 0*(cutS b l i).busy) l.length=0:=by
    rw [wy (g:=fun _=>0) l.length (fun i _=>by rw [hr i,Int.zero_mul])];have:=uj (f:=fun _=>0) (n:=0) (fun _ _=>rfl) l.length;rwa [mO] at this
   rw [z1] at r1;rw [z2] at r2;have q1:(alloc0 b l (yn b s)).left=yn b s:=rfl;have q2:(alloc0 b l (yn b s)).squares=spoilM b l l.length:=rfl;cases h;refine ⟨by simpa using hf,hwl,?_,?_,r4⟩
   ·unfold allocA at hle ⊢;omega
   ·unfold needM;rw [zad,<- zdH];unfold allocA;omega
def manyM (b:RBk) (l:List Int) (i:Nat):Int:=if i+1<l.length then zL l (i+1) - zL l i else zL l 0 - zL l i+b.seams.length
def nowS (b:RBk) (s:List Int) (x:Nat):Int:=sumF (nowM b s) x
end Go.Vel
namespace Go.Vel
open Go Go.Conc Go.Proofs
def u16A (x:Fin 65536):AV:=.v (.int .u16 (x.1:Int))
def u16O (l:List (Fin 65536)):AObj:=.cells (l.flatMap fun x=>[u16A x]) 177 false
def choM (l:List (Fin 65536)) (i:Nat):Int:=match l[i]? with | some x=>x.1 | none=>0
def chosenM (x:RBand) (n:Int):Int:=x.low+n % (x.high - x.low+1)
theorem zf6 (l:List (Fin 65536)) (i:Nat):0<=choM l i/\choM l i<65536:=by
 unfold choM;cases l[i]? with
 | none=>exact ⟨Int.le_refl _,by decide⟩
 | some x=>exact ⟨by show (0:Int)<=(x.1:Int); omega,by show (x.1:Int)<65536; have:=x.2; omega⟩
instance:zE tp 37 177 1:={}
instance:ze tp 177 false 1:={}
instance:Und tp 177 (.int .u16):={}
instance:Und tp 37 (.slice 177):={}
theorem zat {main T} (hT:zn tp main T) {gm} {j i:Nat} {ps:List (Fin 65536)} (hi:i<=1000) :
  zq tp T gm 42 [.sl j 0 ps.length,intA i] [(j,u16O ps)] (fun r K'=>r=intA (choM ps i)/\K'=[(j,u16O ps)]):=by
 refine zm 18 hT Tryz.func42 fun Y hret=>?_;refine au 932507280111714223542 ?_;constructor<;>intro hc0
 ·have hge:ps.length<=i:=by simp at hc0; omega
  refine au 3542 ?_;refine bB hret [(j,_)] ?_;exact ⟨by unfold choM; rw [lU hge],rfl⟩
 have hlt:i<ps.length:=by simp at hc0; omega
 obtain ⟨x,hx⟩:∃ x,ps[i]? =some x:=⟨_,lA hlt⟩;have hx2:=x.2;refine au 3601142120 ?_;refine bH Z (zk Z Z ze.h mQ (ky (c:=1) (f:=fun x=>[u16A x]) (fun _=>rfl) hx rfl dQ)) ?_;refine bH Z (yP Z Z Und.h Und.h (kO oQ)) ?_;refine au 35 ?_;refine bB hret [(j,_)] ?_;exact ⟨by unfold choM; rw [hx],rfl⟩
theorem zau {main T} (hT:zn tp main T) {gm} {x:RBand} {n:Int} (h : -100<=x.low/\x.low<=x.high/\x.high<=100) (hn:0<=n/\n<65536) :
  zq tp T gm 41 [.agg (bandC x),intA n] [] (fun r K'=>r=intA (chosenM x n)/\K'=[]):=by
 refine zm 16 hT Tryz.func41 fun Y hret=>?_;refine au 0 ?_;have h0:=Int.emod_nonneg n (show x.high - x.low+1≠0 by omega);have h1:=Int.emod_lt_of_pos n (show 0<x.high - x.low+1 by omega);refine au 21042 ?_;intro jx hjx;refine au 235 ?_;refine bL [0,1,2,3,4,5,6,7,8,9,10,11] ?_;refine ad [[3,2],[10,5],[1,1],[3,2],[10,8],[3,2],[10,10],[9,9,11],[8,12]] ?_;refine TD.z [7,13] Z (q_rem Z Z Z oQ oQ) ?_;refine ad [[8,6,14],[13,15],[14]] ?_;refine au 0 ?_;refine bB hret [] ?_;exact ⟨rfl,rfl⟩
theorem zhG {main T} (hT:zn tp main T) {gm} {b:RBk} {s h e j c m:Nat} {st:List Int} {et:TypeId} (hb:ROk b) (hs:StOk b st) (hc:c<b.seams.length) (hm:m<=b.seams.length) :
  zq tp T gm 165 [.agg (zD b s h e),intA c,intA m,.sl j 0 st.length] [(s,zl b),(j,.cells (st.map intA) et false)] (fun r K'=>r=intA (togM b st c m)/\K'=[(s,zl b),(j,.cells (st.map intA) et false)]):=by
 refine zm 35 hT Tryz.func165 fun Y hret=>?_;refine au 0 ?_;have hsl:=hb.sms.len;have hst:=hs.len;refine au 21042 ?_;intro jb hjb;refine au 13035422354235 ?_;refine bA [1,2,3,4,9,10] ?_;refine bC [(s,_),(j,_),(jb,_)] ?_;refine bE (fun n env K=>∃ (i:Nat),n=m - i/\i<=m/\env=.any::intA c::intA m::.sl j 0 st.length::.ptr jb 0::naL 4 (intA (togM b st c i)::intA i::naL 24 [])/\K=[(s,zl b),(j,.cells (st.map intA) et false),(jb,.cells (zD b s h e) 26 true)]) m ⟨0,rfl,mN _,rfl,rfl⟩ fun n env K hI hnext=>?_;obtain ⟨i,rfl,hi,rfl,rfl⟩:=hI;refine bG nQ ?_;refine au 93711422 ?_;constructor<;>intro hc0
 ·have hil:i<m:=by simp at hc0; omega
  have hkl:(c+i) % b.seams.length<b.seams.length:=Nat.mod_lt _ oQ;have htb:=zaY hb hs (c:=c) i;have hwd:=hb.wide hkl;have hsb:=hs.bnd _ hkl;refine au 28069067023011421302120 ?_;refine bH Z (q_rem Z Z Z oQ oQ) ?_;refine au 35 ?_;rw [show ((c:Int)+(i:Int)) % (b.seams.length:Int)=(((c+i) % b.seams.length:Nat):Int) by rw [<- Int.natCast_add,<- Int.natCast_emod]];have htn:togM b st c i+wideM b ((c+i) % b.seams.length) - zL st ((c+i) % b.seams.length)=togM b st c (i+1):=by show _=togM b st c i+(wideM b _ - st.getD _ 0); unfold zL; omega
  have hsb2:0<=zL st ((c+i) % b.seams.length)/\zL st ((c+i) % b.seams.length)<=5:=⟨hsb.1,hsb.2.1⟩;refine bM [0,1,2,5,6,7,8,3,4,9,10] [0,1,2,3,4,5,6,7,8,9,10] ?_;refine ad [[1,9],[12,4],[1,11],[1,3],[1,11],[2,29,30]] ?_;refine bT [31] Z (hq:=zk Z Z ze.h (mC _) (yr (i:=(c+i) % b.seams.length) (yb oQ) Z)) (h:=?_);refine bQ (pend':=[⟨8,[31],[(_,_)]⟩,⟨7,[29,30],[]⟩,⟨6,[11],[]⟩,⟨5,[3],[]⟩,⟨0,[9],[]⟩]) [25,26] Z Z Z Z Z (zdM hT (i:=(c+i) % b.seams.length) hb.rnd hb.sms hkl) (fun r1 K2 h3=>⟨?_,?_⟩)
  ·rcases h3 with ⟨rfl,rfl⟩
   all_goals simp
  obtain ⟨rfl,rfl⟩:=h3;try simp only [cA]
  refine bS tQ ?_;refine ad [[8,24,27],[9,28,32],[13,33],[14]] ?_;refine au 3523014140 ?_;refine bA [1,2,3,4,9,10] ?_;refine bC [(s,_),(j,_),(jb,_)] ?_;exact hnext _ _ _ oQ ⟨i+1,rfl,oQ,by rw [htn]; rfl,rfl⟩
 obtain rfl:i=m:=by simp at hc0; omega
 refine au 35142160 ?_;refine bB hret [(s,_),(j,_)] ?_;exact ⟨rfl,rfl⟩
end Go.Vel
end
