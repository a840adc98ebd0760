/- Texts for the statements of chapter 8: what all of them need, part 12. It holds of every program, tape and world that the statements name, as each theorem says. -/
import Derived.Test.YtlmglkmfkcbakaaGreatDoorS7
import Derived.Test.YtlmglkmfkcbakaaGreatDoorS9
import Derived.Test.YtlmglkmfkcbakaaGreatDoorS10
open Go renaming Goroutine -> gG, TypeId -> gT
open Bool renaming true -> tt, false -> ff
section
set_option linter.all false
set_option maxRecDepth 20000
set_option maxHeartbeats 60000000
open Go.Proofs.Tryz renaming prog -> tp
open List renaming getElem?_eq_getElem -> lA, getElem?_eq_some_iff -> lD, getD_eq_getElem?_getD -> lE, length_append -> lF, perm_append_comm -> lH, length_map -> lJ, eq_nil_of_length_eq_zero -> lK, mem_cons_of_mem -> lL, map_append -> lM, mem_of_getElem? -> lN, getElem?_map -> lQ, append_nil -> lR, mem_map -> lY
open List.Mem renaming head -> mC
open Nat renaming zero_le -> mN
open Bool renaming and_eq_true -> mX
open Go.Vel.TK renaming maskL -> bA, rt -> bB, kp -> bC, cl -> bD, loopN -> bE, sp -> bF, na -> bG, a -> bH, newR -> bI, dq -> bL, perm -> bN, appR -> bO, frzRow -> bY
open Go.Vel.TD renaming s -> bR, norm -> bS, y -> bT, z -> bU, cnewR -> bV
namespace Go.Vel
open Go Go.Conc Go.Proofs
theorem RvT.of {b:StpB} {A C l:List Int} {m:Nat} (hb:StpOk b) (h:ReT b b.sks.length A C m l):RvT b.steps b.sks.length (vwR A C m) A C l:=by
 have h4:=hb.ns;have hw:=hb.wr;have hle:=h.le;have hx:∀ i,i<b.sks.length->∃ x,b.sks[i]? =some x/\SkOk b.steps x:=fun i hi=>⟨_,lA hi,hb.sk _ (List.getElem_mem _)⟩;have hg:∀ (L:List Int) (i:Nat),i<L.length->L[i]? =some (L.getD i 0):=fun L i hi=>by rw [lE,lA hi]; rfl
 refine ⟨fun i hi=>?_,fun i hi=>?_,fun i hi=>h.wr.bit i oQ,oQ,hb.st,h4.2⟩
 ·obtain ⟨x,hx,ho⟩:=hx i hi;have h1:=(h.bd i x hi hx).1;have h2:=ho.fr;have e:(vwR A C m).fr.getD i 0=A.getD i 0:=zjp (by rw [h.la]; exact hi) (by rw [h.la]; exact h4.2);rw [e];exact ⟨hg A i (by rw [h.la]; exact hi),oQ,oQ⟩
 ·obtain ⟨x,hx,ho⟩:=hx i hi;have h1:=(h.bd i x hi hx).2;have h2:=ho.se;have e:(vwR A C m).st.getD i 0=C.getD i 0:=zjp (by rw [h.lc]; exact hi) (by rw [h.lc]; exact h4.2);rw [e];exact ⟨hg C i (by rw [h.lc]; exact hi),oQ,oQ⟩
instance:TyZA tp 36 [.v (.slice none 0 0),.v (.slice none 0 0),.v (.slice none 0 0)]:={}
theorem zlq {main T} (hT:zt tp main T) {gm} {st wr:Int} {g:Nat} {Zq:List (Nat×SkT)} {j k3:Nat} {ps:List (Fin 65536)} (hb:StpOk (skB st wr Zq)) (hk:k3<256) :
  zr tp T gm 7 [.agg (stpC st wr g Zq),.sl j 0 ps.length,.v (.int .u8 (k3:Int))] [(g,skO Zq),(j,u16O ps)] (fun r K'=>∃ A C m l ja jc jw,ReT (skB st wr Zq) Zq.length A C m l/\r=.agg [.sl ja 0 A.length,.sl jc 0 C.length,.sl jw 0 l.length]/\K'=[(ja,.cells (A.map za) 3 ff),(jc,.cells (C.map za) 3 ff),(jw,.cells (l.map za) 3 ff),(g,skO Zq),(j,u16O ps)]):=by
 refine zn 69 hT Tryz.func7 fun Y Wz=>?_;refine au 0 ?_;have hzn:=zN hb;have hwr:=hb.wr;refine au 21042 ?_;intro jb hjb;refine au 220 ?_;intro jr hjr;refine au 220423 ?_;intro jz hjz;refine au 223 ?_;refine bC [(jz,.cells [.v (.slice none 0 0),.v (.slice none 0 0),.v (.slice none 0 0)] 36 tt),(jr,_),(jb,_),(g,_),(j,_)] ?_;refine TK.virtAt (i:=0) (e:=3) (size:=1) Z (fun _=>uQ) fun ja0 hjja0=>?_;simp only [List.set];refine bC [(jz,_),(ja0,_),(jr,_),(jb,_),(g,_),(j,_)] ?_;refine TK.virtAt (i:=1) (e:=3) (size:=1) Z (fun _=>uQ) fun jc0 hjjc0=>?_;simp only [List.set];refine bC [(jz,_),(jc0,_),(ja0,_),(jr,_),(jb,_),(g,_),(j,_)] ?_;refine TK.virtAt (i:=2) (e:=3) (size:=1) Z (fun _=>uQ) fun jw0 hjjw0=>?_;simp only [List.set];refine au 130354 ?_;refine bA [1,2,3,6,7,8] ?_;refine bC [(jz,_),(ja0,_),(jc0,_),(jw0,_),(jr,_),(jb,_),(g,_),(j,_)] ?_;refine bE (fun n Wq K=>∃ (i:Nat) (A C:List Int) (m:Nat) (l:List Int) (ja jc jw:Nat),n=Zq.length - i/\i<=Zq.length/\ReT (skB st wr Zq) i A C m l/\Wq=.any::.sl j 0 ps.length::.v (.int .u8 k3)::.ptr jb 0::naL 2 (.ptr jr 0::.ptr jz 0::za i::naL 60 [])/\K=[(jz,.cells [.row ja A.length,.row jc C.length,.row jw l.length] 36 tt),(ja,.row (A.map za) 3 1),(jc,.row (C.map za) 3 1),(jw,.row (l.map za) 3 1),(jr,.cells [.v (.slice none 0 0),.v (.slice none 0 0),.v (.slice none 0 0)] 36 tt),(jb,.cells (stpC st wr g Zq) 29 tt),(g,skO Zq),(j,u16O ps)]) Zq.length ⟨0,[],[],0,[],ja0,jc0,jw0,rfl,mN _,ReT.z hwr.1,rfl,rfl⟩ fun n Wq K hI Wj=>?_;obtain ⟨i,A,C,m,l,ja,jc,jw,rfl,hi,hre,rfl,rfl⟩:=hI;have hla:=hre.la;have hlc:=hre.lc;have hle:=hre.le;have hlw:(skB st wr Zq).wrong=wr:=rfl;have hcb1:=zgC ps (2*i);have hcb2:=zgC ps (2*i+1);refine bG nQ ?_;refine au 9372806906701422 ?_;constructor<;>intro Jz
 ·have Qb:i<Zq.length:=by simp at Jz; omega
  obtain ⟨p,hp⟩:∃ p,Zq[i]? =some p:=⟨_,lA Qb⟩;have hp2:(skB st wr Zq).sks[i]? =some p.2:=by show (Zq.map (·.2))[i]? =_; rw [lQ,hp]; rfl
  have hx:=zOk hb hp;have hfr:=hx.fr;have hse:=hx.se;have hst:=hb.st;have hst2:(skB st wr Zq).steps=st:=rfl;have hch1:=zdy (x:=⟨p.2.flo,p.2.fhi⟩) hfr.2.1 (choM ps (2*i));have hch2:=zdy (x:=⟨p.2.slo,p.2.shi⟩) hse.2.1 (choM ps (2*i+1));refine au 21302120 ?_;refine bL [0,1,2,3,4,5,6,7,8,9,10,11,12,13,14,15,16] ?_;refine ad [[3,7],[10,16],[3,3],[10,18],[1,8],[2,19,20],[3,21]] ?_;refine bT [22] Z (hq:=zS Z Z ze.h (mC _) (zfS (c:=1) (sk_at hp Z) dQ Z Z)) (h:=?_);refine ad [[1,1],[1,8]] ?_;refine bU [25] Z (q_mul Z Z Z oQ) ?_;refine TD.clE (Wx:=[_,_,_,_,_,_,_,_,_]) [24,26] Z Z Z Z Z (zdx hT (i:=2*i) oQ) ?_;refine TD.clE (Wx:=[_,_,_,_,_,_,_,_]) [23,27] Z Z Z Z Z (zdz hT (x:=⟨p.2.flo,p.2.fhi⟩) (by dsimp only; omega) hcb1) ?_;refine bV (Wx:=[_,_,_,_,_,_,_,_]) [28] Z Z Z Z Z (zu (l:=[_]) Z zq.h TyZ.h dQ dQ Z) (fun _=>zx rfl tQ) sQ fun j7 hj7=>?_;refine TD.capp (Wx:=[_,_,_,_,_,_,_]) [17,29] Z Z Z Z Z (a_app Z ApOf.h Z mQ (by rw [lJ,Nat.mul_one]) Z (yq (ln:=[_]) mQ dQ sQ Z) oQ Z (by unfold maxLen; omega) oQ) (fun _=>uQ) (fun _=>zx rfl tQ) (fun _=>sQ) fun ja2=>?_;refine ad [[3,7]] ?_;refine bR (Wx:=[]) [30,31] Z Z (zE Z Z ze.h Z Z mQ Z) ?_;refine ad [[14]] ?_;refine au 2 ?_;refine bL [0,1,2,3,4,5,6,7,8,9,10,11,12,13,14,15,16,17] ?_;refine ad [[3,7],[10,32],[3,3],[10,34],[1,8],[2,35,36],[3,37]] ?_;refine bT [38] Z (hq:=zS Z Z ze.h (mC _) (zfS (c:=4) (sk_at hp Z) dQ Z Z)) (h:=?_);refine ad [[1,1],[1,8]] ?_;refine bU [41] Z (q_mul Z Z Z oQ) ?_;refine ad [[8,42]] ?_;refine TD.clE (Wx:=[_,_,_,_,_,_,_,_,_,_]) [40,43] Z Z Z Z Z (zdx hT (i:=2*i+1) oQ) ?_;refine TD.clE (Wx:=[_,_,_,_,_,_,_,_,_]) [39,44] Z Z Z Z Z (zdz hT (x:=⟨p.2.slo,p.2.shi⟩) (by dsimp only; omega) hcb2) ?_;refine bV (Wx:=[_,_,_,_,_,_,_,_,_]) [45] Z Z Z Z Z (zu (l:=[_]) Z zq.h TyZ.h dQ dQ Z) (fun _=>zx rfl tQ) sQ fun j14 hj14=>?_;refine TD.capp (Wx:=[_,_,_,_,_,_,_,_]) [33,46] Z Z Z Z Z (a_app Z ApOf.h Z mQ (by rw [lJ,Nat.mul_one]) Z (yq (ln:=[_]) mQ dQ sQ Z) oQ Z (by unfold maxLen; omega) oQ) (fun _=>uQ) (fun _=>zx rfl tQ) (fun _=>sQ) fun jc2=>?_;refine ad [[3,7]] ?_;refine bR (Wx:=[]) [47,48] Z Z (zE Z Z ze.h Z Z mQ Z) ?_;refine ad [[14]] ?_;refine au 1142 ?_;refine bH Z (zjy Z Z Z oQ) ?_;refine bH Z (zjv Z Z Z (by have:=Nat.div_le_self k3 (2 ^ i); omega)) ?_;refine au 17 ?_;refine bF 54 (fun g7_6=>?_) (fun g7_6=>?_)
  ·refine au 932607690670280690670 ?_;constructor<;>intro Jx
   ·have Qp:(l.length:Int)<wr:=by simpa using Jx
    refine au 16906704 ?_;refine bI Z Z Z (zu (l:=[_]) Z zq.h TyZ.h dQ dQ Z) (fun _=>zx rfl tQ) fun j15 hj15=>?_;refine bO Z Z Z (a_app Z ApOf.h Z mQ (by rw [lJ,Nat.mul_one]) Z (yq (ln:=[_]) mQ dQ sQ Z) oQ Z (by unfold maxLen; omega) oQ) (fun _=>uQ) (fun _=>zx rfl tQ) fun jw2=>?_;refine au 35230141403170670 ?_;refine bA [1,2,3,6,7,8] ?_;refine bC [(jz,_),(ja2,_),(jc2,_),(jw2,_),(jr,_),(jb,_),(g,_),(j,_)] ?_;exact Wj _ _ _ oQ ⟨i+1,A++[chosenM ⟨p.2.flo,p.2.fhi⟩ (choM ps (2*i))],C++[chosenM ⟨p.2.slo,p.2.shi⟩ (choM ps (2*i+1))],m+2 ^ i,l++[(i:Int)],ja2,jc2,jw2,rfl,oQ,hre.yes hp2 oQ hch1 hch2 oQ,by simp only [lF,List.length_singleton,hre.la,hre.lc] <;> rfl,by simp only [lM,lF] <;> rfl⟩
   refine au 3523014140120 ?_;refine bA [1,2,3,6,7,8] ?_;refine bC [(jz,_),(ja2,_),(jc2,_),(jw,_),(jr,_),(jb,_),(g,_),(j,_)] ?_;exact Wj _ _ _ oQ ⟨i+1,A++[chosenM ⟨p.2.flo,p.2.fhi⟩ (choM ps (2*i))],C++[chosenM ⟨p.2.slo,p.2.shi⟩ (choM ps (2*i+1))],m,l,ja2,jc2,jw,rfl,oQ,hre.no hp2 hch1 hch2,by simp only [lF,List.length_singleton,hre.la,hre.lc] <;> rfl,by simp only [lM,lF] <;> rfl⟩
  refine au 35230141401201903250888888 ?_;refine bA [1,2,3,6,7,8] ?_;refine bC [(jz,_),(ja2,_),(jc2,_),(jw,_),(jr,_),(jb,_),(g,_),(j,_)] ?_;exact Wj _ _ _ oQ ⟨i+1,A++[chosenM ⟨p.2.flo,p.2.fhi⟩ (choM ps (2*i))],C++[chosenM ⟨p.2.slo,p.2.shi⟩ (choM ps (2*i+1))],m,l,ja2,jc2,jw,rfl,oQ,hre.no hp2 hch1 hch2,by simp only [lF,List.length_singleton,hre.la,hre.lc] <;> rfl,by simp only [lM,lF] <;> rfl⟩
 obtain rfl:i=Zq.length:=by simp at Jz; omega
 refine au 2160 ?_;refine TK.unrowAt (c:=jz) (i:=0) (j:=ja) Z mQ uQ ?_;refine bY (j:=ja) ?_;refine TK.unrowAt (c:=jz) (i:=1) (j:=jc) Z mQ uQ ?_;refine bY (j:=jc) ?_;refine TK.unrowAt (c:=jz) (i:=2) (j:=jw) Z mQ uQ ?_;refine bY (j:=jw) ?_;refine au 31706804 ?_;refine bB Wz [(ja,_),(jc,_),(jw,_),(g,_),(j,_)] ?_;exact ⟨A,C,m,l,ja,jc,jw,hre,rfl,rfl⟩
theorem TK.shareX {P:Program} {gm:Nat->Option Nat} {T:gG->Hp->Prop} {Y:KX P gm T} {ds:List Nat} {k k':List Item} {Wq:List AV} {K:KV} {X:Type} {D:X->Prop} {E:X->List AV} {KK:X->KV} (main:(∀ x,D x->TK Y ds k' (E x) (KK x))->TK Y ds k Wq K) (tail:∀ x,D x->TK Y ds k' (E x) (KK x)):TK Y ds k Wq K:=main tail
theorem zjl (A M L R:KV):((A++M)++(L++R)).Perm (L++(A++(M++R))):=by
 have h1:((A++M)++(L++R)).Perm (L++((A++M)++R)):=by
  rw [<- List.append_assoc,<- List.append_assoc L];exact lH.append_right R
 rwa [List.append_assoc A M R] at h1
theorem zfU (L:KV) (Zo:List (Nat×SkT)) (p:Nat×SkT) (R:KV):((p.1,mkO p.2)::(L++(mkK Zo++R))).Perm (L++(mkK (Zo++[p])++R)):=by
 rw [zgU,List.append_assoc,<- List.append_assoc,<- List.append_assoc];exact List.perm_middle.symm
theorem zjH {L:List (Int×Int)} {r:Int×Int} (h:L[0]? =some r) {e:gT} {sz:Nat}:yj (.row (L.flatMap fcC) e sz) ((0:Int).toNat*2) 2=some (fcC r):=by
 have h1:=fl_at (f:=fcC) (c:=2) (e:=e) (rw':=tt) (n:=0) (fun _=>rfl) h rfl dQ;simpa [yj,AObj.look] using h1
theorem zob {st f c:Int} {L:List (Int×Int)} {r:Int×Int} {m:MkR} (h:L[0]? =some r):mvT st f c L m=⟨m.what,(r.1 - f+st) % st,r.2 - c⟩:=by
 cases L with
 | nil=>cases h
 | cons a t=>cases h; rfl
theorem zmH {st f c:Int} {L:List (Int×Int)} {m:MkR} (h:L=[]):mvT st f c L m=m:=by subst h; rfl
theorem zmD (st f c w:Int) (L:List (ByteArray×(Int×Int))) (l:List MkR):(movT st f c L w l).length<=l.length:=by
 unfold movT;refine Nat.le_trans (List.length_filter_le _ _) ?_;rw [lJ];exact Nat.le_refl _
theorem mov_T {st f c w:Int} {L:List (ByteArray×(Int×Int))} {l:List MkR} {q:Nat} {m mm:MkR} (hm:l[q]? =some m) (e:mm=mvT st f c (plT L m.what) m) (hk:keepT w mm=tt):movT st f c L w (l.take (q+1))=movT st f c L w (l.take q)++[mm]:=by
 unfold movT;rw [uh hm,lM,List.filter_append,List.map_singleton,<- e,List.filter_cons_of_pos hk];rfl
theorem mov_F {st f c w:Int} {L:List (ByteArray×(Int×Int))} {l:List MkR} {q:Nat} {m mm:MkR} (hm:l[q]? =some m) (e:mm=mvT st f c (plT L m.what) m) (hk:keepT w mm=ff):movT st f c L w (l.take (q+1))=movT st f c L w (l.take q):=by
 unfold movT;rw [uh hm,lM,List.filter_append,List.map_singleton,<- e,List.filter_cons_of_neg (by rw [hk]; decide)];exact lR _
theorem zny {st:Int} {v:VwT} {i:Nat} {L:List (ByteArray×(Int×Int))} {x:SkT} (h:bitT v.wr i=tt):truX st v i L x=x:=by unfold truX; rw [if_pos h]
theorem zo6 {st:Int} {v:VwT} {i:Nat} {L:List (ByteArray×(Int×Int))} {x:SkT} (h:bitT v.wr i=ff):truX st v i L x={ x with mK:=movT st (v.fr.getD i 0) (v.st.getD i 0) L x.wide x.mK }:=by unfold truX; rw [if_neg (by rw [h]; decide)]
theorem zhd {st:Int} {v:VwT}:∀ {L:List SkT} {i:Nat},(∀ x∈L,SkOk st x)->(∀ k,k<i+L.length -> -3<=v.st.getD k 0/\v.st.getD k 0<=3)->∀ p∈yc st v i L,-12<=p.2.2/\p.2.2<=12
 | [],i,_,_,p,h=>by cases h
 | x::L,i,hs,hv,p,h=>by
  rcases List.mem_append.1 (show p∈seenT st v i x++yc st v (i+1) L from h) with h | h
  ·unfold seenT at h;split at h
   ·cases h
   ·obtain ⟨m,hm,rfl⟩:=lY.1 h;have h1:=(hs x List.mem_cons_self).mks m hm;have h2:=hv i sQ;show -12<=m.row+v.st.getD i 0/\m.row+v.st.getD i 0<=12;omega
  ·exact zhd (fun y hy=>hs y (lL _ hy)) (fun k hk=>hv k (by simp at hk ⊢; omega)) p h
theorem pl_in {L:List (ByteArray×(Int×Int))} {s:ByteArray} {r:Int×Int} (h:r∈plT L s):∃ p∈L,p.2=r:=by
 obtain ⟨p,hp,e⟩:=lY.1 h;exact ⟨p,(List.mem_filter.1 hp).1,e⟩
theorem zoJ {L:List (ByteArray×(Int×Int))} {s:ByteArray}:(plT L s).length<=L.length:=by
 unfold plT;rw [lJ];exact List.length_filter_le _ _
instance:zl tp 102 0 0 ff 1:={}
instance:zl tp 102 1 1 ff 1:={}
theorem zj2 {main T} (hT:zt tp main T) {gm} {st wr:Int} {g ja jc jw:Nat} {Zq:List (Nat×SkT)} {A C l:List Int} {v:VwT} (hb:StpOk (skB st wr Zq)) (hr:RvT st Zq.length v A C l) :
  zr tp T gm 8 [.agg (stpC st wr g Zq),.agg [.sl ja 0 A.length,.sl jc 0 C.length,.sl jw 0 l.length]] ((g,skO Zq)::(ja,.cells (A.map za) 3 ff)::(jc,.cells (C.map za) 3 ff)::(jw,.cells (l.map za) 3 ff)::mkK Zq) (fun r K'=>∃ jo Zo,skB st wr Zo=trueT (skB st wr Zq) v/\r=.agg (stpC st wr jo Zo)/\K'=(jo,skO Zo)::(ja,.cells (A.map za) 3 ff)::(jc,.cells (C.map za) 3 ff)::(jw,.cells (l.map za) 3 ff)::mkK Zo):=by
 refine zn 115 hT Tryz.func8 fun Y Wz=>?_;refine au 0 ?_;have hzn:=zN hb;have hst:=hr.st;have hll:=hr.ll;have hsk:∀ x∈Zq.map (·.2),SkOk st x:=hb.sk;refine au 21042 ?_;intro jb hjb;refine au 210 ?_;intro jz hjz;refine au 220 ?_;intro jr hjr;refine au 220680423 ?_;intro jq hjq;refine au 223170670423170 ?_;refine bC ((jq,.cells [za st,za wr,.v (.slice none 0 0)] 29 tt)::(jr,_)::(jb,_)::(jz,_)::(g,_)::(ja,_)::(jc,_)::(jw,_)::mkK Zq) ?_;refine TK.virtAt (i:=2) (e:=95) (size:=7) Z (fun _=>uQ) fun jo0 hjo0=>?_;simp only [List.set];refine au 130354 ?_;refine bA [2,3,4,5,6] ?_;refine bC ((jq,_)::(jr,_)::(jb,_)::(jz,_)::(g,_)::(jo0,_)::(ja,_)::(jc,_)::(jw,_)::mkK Zq) ?_;refine bE (fun n Wq K=>∃ (i jo:Nat) (Zo:List (Nat×SkT)),n=Zq.length - i/\i<=Zq.length/\Zo.map (·.2)=truA st v (Zq.map (·.2)) i/\Wq=naL 2 (.ptr jb 0::.ptr jz 0::.ptr jr 0::.ptr jq 0::za i::naL 108 [])/\K=(jq,.cells [za st,za wr,.row jo Zo.length] 29 tt)::(jr,.cells [za 0,za 0,.v (.slice none 0 0)] 29 tt)::(jb,.cells (stpC st wr g Zq) 29 tt)::(jz,.cells [.sl ja 0 A.length,.sl jc 0 C.length,.sl jw 0 l.length] 36 tt)::(g,skO Zq)::(jo,.row (Zo.flatMap skC) 95 7)::(ja,.cells (A.map za) 3 ff)::(jc,.cells (C.map za) 3 ff)::(jw,.cells (l.map za) 3 ff)::(mkK Zo++mkK (Zq.drop i))) Zq.length ⟨0,jo0,[],rfl,mN _,rfl,rfl,rfl⟩ fun n Wq K hI Wj=>?_;obtain ⟨i,jo,Zo,rfl,hi,hZm,rfl,rfl⟩:=hI;have hZl:Zo.length=i:=by have:=congrArg List.length hZm; rwa [lJ,uj _ (by rw [lJ]; omega)] at this
 have hri:RvT st Zo.length v A C l:=hr.le oQ;have hso2:∀ x∈Zo.map (·.2),SkOk st x:=fun x hx=>zbz oQ hsk i x (hZm ▸ hx);have hso:∀ p∈Zo,SkOk st p.2:=fun p hp=>hso2 _ (lY.2 ⟨p,hp,rfl⟩);refine bG nQ ?_;refine au 9372806906701422 ?_;constructor<;>intro Jz
 ·have Qb:i<Zq.length:=by simp at Jz; omega
  obtain ⟨p,hp⟩:∃ p,Zq[i]? =some p:=⟨_,lA Qb⟩;have hp2:(Zq.map (·.2))[i]? =some p.2:=by rw [lQ,hp]; rfl
  have hx:=zOk hb hp;have hnm:=hx.nm;have hfr:=hr.fr i Qb;have hse:=hr.se i Qb;have hal:i<A.length:=(lD.1 hfr.1).1;have hcl:i<C.length:=(lD.1 hse.1).1;rw [show mkK (Zq.drop i)=(p.1,mkO p.2)::mkK (Zq.drop (i+1)) by rw [zM hp]; rfl];refine bN (K':=(p.1,_)::(jq,_)::(jr,_)::(jb,_)::(jz,_)::(g,_)::(jo,_)::(ja,_)::(jc,_)::(jw,_)::(mkK Zo++mkK (Zq.drop (i+1)))) (List.perm_middle (l₁:=(jq,_)::(jr,_)::(jb,_)::(jz,_)::(g,_)::(jo,_)::(ja,_)::(jc,_)::(jw,_)::mkK Zo)) ?_;refine au 3601690670421302120 ?_;refine bH Z (zS Z Z ze.h mQ (sk_at hp Z)) ?_;refine au 220 ?_;intro jx hjx;refine au 16906704223170 ?_;refine TK.clE Z Z Z Z (uo hT (l:=l) oQ) ?_;refine au 93 ?_;constructor<;>intro Jx
  ·have hbt:bitT v.wr i=tt:=by rw [hr.dec Qb] at Jx; exact Jx
   refine au 68069067042 ?_;refine bI Z Z Z (zu (l:=[_,_,_,_,_,_,_]) Z zq.h TyZ.h dQ dQ Z) (fun _=>zx rfl tQ) fun j4 hj4=>?_;refine bO Z Z Z (a_app Z ApOf.h Z mQ (by rw [yw skC 7 (fun _=>rfl)]) rfl (yq (ln:=[_,_,_,_,_,_,_]) mQ dQ sQ rfl) oQ rfl (by unfold maxLen; omega) oQ) (fun _=>uQ) (fun _=>zx rfl tQ) fun jo2=>?_;refine au 35230141603170670 ?_;refine bA [2,3,4,5,6] ?_;refine bC (((p.1,_)::(jq,_)::(jr,_)::(jb,_)::(jz,_)::(g,_)::(jo2,_)::(ja,_)::(jc,_)::(jw,_)::(mkK Zo++mkK (Zq.drop (i+1))))) ?_;refine bN (K':=(jq,_)::(jr,_)::(jb,_)::(jz,_)::(g,_)::(jo2,_)::(ja,_)::(jc,_)::(jw,_)::(mkK (Zo++[p])++mkK (Zq.drop (i+1)))) (zfU ((jq,_)::(jr,_)::(jb,_)::(jz,_)::(g,_)::(jo2,_)::(ja,_)::(jc,_)::(jw,_)::[]) Zo p (mkK (Zq.drop (i+1)))) ?_;exact Wj _ _ _ oQ ⟨i+1,jo2,Zo++[p],rfl,oQ,by rw [lM,uZ hp2,zny hbt,hZm]; rfl,rfl,by rw [List.flatMap_append,lF] <;> rfl⟩
  have hbf:bitT v.wr i=ff:=by rw [hr.dec Qb] at Jx; exact Jx
  refine au 22317067042120 ?_;refine bC ((jx,.cells [.v (.string p.2.name),za p.2.flo,za p.2.fhi,za p.2.wide,za p.2.slo,za p.2.shi,.v (.slice none 0 0)] 95 tt)::(p.1,_)::(jq,_)::(jr,_)::(jb,_)::(jz,_)::(g,_)::(jo,_)::(ja,_)::(jc,_)::(jw,_)::(mkK Zo++mkK (Zq.drop (i+1)))) ?_;refine TK.virtAt (i:=6) (e:=98) (size:=3) Z (fun _=>uQ) fun j90 hj90=>?_;simp only [List.set];refine au 130354 ?_;refine bA [2,3,4,5,6,7,8] ?_;refine bC ((jx,_)::(j90,_)::(p.1,_)::(jq,_)::(jr,_)::(jb,_)::(jz,_)::(g,_)::(jo,_)::(ja,_)::(jc,_)::(jw,_)::(mkK Zo++mkK (Zq.drop (i+1)))) ?_;refine bE (fun n Wq K=>∃ (q j9:Nat),n=p.2.mK.length - q/\q<=p.2.mK.length/\Wq=naL 2 (.ptr jb 0::.ptr jz 0::.ptr jr 0::.ptr jq 0::za i::.ptr jx 0::za q::naL 106 [])/\K=(jx,.cells [.v (.string p.2.name),za p.2.flo,za p.2.fhi,za p.2.wide,za p.2.slo,za p.2.shi,.row j9 (movT st (v.fr.getD i 0) (v.st.getD i 0) (yc st v 0 (Zo.map (·.2))) p.2.wide (p.2.mK.take q)).length] 95 tt)::(j9,.row ((movT st (v.fr.getD i 0) (v.st.getD i 0) (yc st v 0 (Zo.map (·.2))) p.2.wide (p.2.mK.take q)).flatMap mkC) 98 3)::(p.1,mkO p.2)::(jq,.cells [za st,za wr,.row jo Zo.length] 29 tt)::(jr,.cells [za 0,za 0,.v (.slice none 0 0)] 29 tt)::(jb,.cells (stpC st wr g Zq) 29 tt)::(jz,.cells [.sl ja 0 A.length,.sl jc 0 C.length,.sl jw 0 l.length] 36 tt)::(g,skO Zq)::(jo,.row (Zo.flatMap skC) 95 7)::(ja,.cells (A.map za) 3 ff)::(jc,.cells (C.map za) 3 ff)::(jw,.cells (l.map za) 3 ff)::(mkK Zo++mkK (Zq.drop (i+1)))) p.2.mK.length ⟨0,j90,rfl,mN _,rfl,rfl⟩ fun n Wq K hI Ww=>?_;obtain ⟨q,j9,rfl,hq,rfl,rfl⟩:=hI;have hml:=zmD st (v.fr.getD i 0) (v.st.getD i 0) p.2.wide (yc st v 0 (Zo.map (·.2))) (p.2.mK.take q);rw [List.length_take] at hml;refine bG nQ ?_;refine au 67036016906701422 ?_;refine bH Z (zj Z Z ze.h mQ (yd (c:=6) (sk_at hp Z) dQ Z)) ?_;refine au 937280 ?_;constructor<;>intro hc2
  ·have hql:q<p.2.mK.length:=by simp at hc2; omega
   obtain ⟨m,hm⟩:∃ m,p.2.mK[q]? =some m:=⟨_,lA hql⟩;obtain ⟨k1,k2,k3,k4,k5⟩:=hx.mks m (lN hm);refine au 6703601690670421302120 ?_;refine bH Z (zj Z Z ze.h mQ (yd (c:=6) (sk_at hp Z) dQ Z)) ?_;refine au 3601 ?_;refine bH Z (zS Z Z ze.h mQ (mk_at hm Z)) ?_;refine au 220 ?_;intro jm hjm;refine au 690670680680423170 ?_;refine bD Z Z Z Z (zib hT (s:=m.what) hri hso) ?_ (hs:=(by repeat (first | exact wY _ _ | (apply Split.rem; repeat (first | exact Rem.head | apply Rem.tail)) | apply Split.right)));rintro r5 K6 ⟨jp,rfl,rfl⟩;refine au 0 ?_;refine bN (K':=(jm,_)::(jx,_)::(j9,_)::(p.1,_)::(jq,_)::(jr,_)::(jb,_)::(jz,_)::(g,_)::(jp,_)::(jo,_)::(ja,_)::(jc,_)::(jw,_)::(mkK Zo++mkK (Zq.drop (i+1)))) (zjl [(jp,_),(jo,_),(ja,_),(jc,_),(jw,_)] (mkK Zo) [(jm,_),(jx,_),(j9,_),(p.1,_),(jq,_),(jr,_),(jb,_),(jz,_),(g,_)] (mkK (Zq.drop (i+1)))) ?_;refine au 37280142235 ?_;obtain ⟨mm,emm⟩:∃ mm,mm=mvT st (v.fr.getD i 0) (v.st.getD i 0) (plT (yc st v 0 (Zo.map (·.2))) m.what) m:=⟨_,rfl⟩;refine' TK.shareX (X:=Unit) (D:=fun _=>True) (E:=fun _=>naL 2 (.ptr jb 0::.ptr jz 0::.ptr jr 0::.ptr jq 0::za i::.ptr jx 0::za q::.ptr jm 0::naL 105 [])) (KK:=fun _=>(jm,.cells (mkC mm) 98 tt)::(jx,.cells [.v (.string p.2.name),za p.2.flo,za p.2.fhi,za p.2.wide,za p.2.slo,za p.2.shi,.row j9 (movT st (v.fr.getD i 0) (v.st.getD i 0) (yc st v 0 (Zo.map (·.2))) p.2.wide (p.2.mK.take q)).length] 95 tt)::(j9,.row ((movT st (v.fr.getD i 0) (v.st.getD i 0) (yc st v 0 (Zo.map (·.2))) p.2.wide (p.2.mK.take q)).flatMap mkC) 98 3)::(p.1,mkO p.2)::(jq,.cells [za st,za wr,.row jo Zo.length] 29 tt)::(jr,.cells [za 0,za 0,.v (.slice none 0 0)] 29 tt)::(jb,.cells (stpC st wr g Zq) 29 tt)::(jz,.cells [.sl ja 0 A.length,.sl jc 0 C.length,.sl jw 0 l.length] 36 tt)::(g,skO Zq)::(jo,.row (Zo.flatMap skC) 95 7)::(ja,.cells (A.map za) 3 ff)::(jc,.cells (C.map za) 3 ff)::(jw,.cells (l.map za) 3 ff)::(mkK Zo++mkK (Zq.drop (i+1)))) (fun H=>?_) ?_;rotate_left
   ·refine au 9 ?_;constructor<;>intro hc3
    ·have hpl0:0<(plT (yc st v 0 (Zo.map (·.2))) m.what).length:=by simp at hc3; omega
     have hpl1:=zoJ (L:=(yc st v 0 (Zo.map (·.2)))) (s:=m.what);have hpl2:=zas (st:=st) (v:=v) (Zo.map (·.2)) 0 fun x hx=>(hso2 x hx).nm;rw [lJ] at hpl2;obtain ⟨r,hr0⟩:∃ r,(plT (yc st v 0 (Zo.map (·.2))) m.what)[0]? =some r:=⟨_,lA (by simp at hc3; omega)⟩;obtain ⟨pr,hpr,epr⟩:=pl_in (lN hr0);have hb1:=za8 oQ pr hpr;have hb2:=zhd hso2 (fun k hk=>(hri.se k (by rw [lJ] at hk; omega)).2) pr hpr;rw [epr] at hb1 hb2;obtain rfl:mm=⟨m.what,(r.1 - v.fr.getD i 0+st) % st,r.2 - v.st.getD i 0⟩:=by rw [emm,zob hr0]
     refine bL [0,1,2,3,4,5,6,7,8,9,10,11,12,13,14,15,26,27,16,17,18,19,20,21,22,23,24,25,28,29] ?_;refine ad [[1,10]] ?_;refine bT [64] Z (hq:=kh Z Z Z zq.h (mC _) oQ oQ) (h:=?_);refine ad [[3,65]] ?_;refine bT [66] Z (hq:=zj Z Z ze.h (mC _) (yd (c:=0) (zjH hr0) dQ Z)) (h:=?_);refine ad [[3,3],[10,68],[1,6],[2,69,70]] ?_;refine bT [71] Z (hq:=zj Z Z ze.h (mC _) (yb hfr.1 Z)) (h:=?_);refine ad [[9,67,72],[3,2],[10,74],[8,73,75],[3,2],[10,77]] ?_;refine bU [76,78] Z (q_rem Z Z Z oQ oQ) ?_;refine ad [[1,10]] ?_;refine bT [80] Z (hq:=kh Z Z Z zq.h (mC _) oQ oQ) (h:=?_);refine ad [[3,81]] ?_;refine bT [82] Z (hq:=zj Z Z ze.h (mC _) (yd (c:=1) (zjH hr0) dQ Z)) (h:=?_);refine ad [[3,3],[10,84],[1,6],[2,85,86]] ?_;refine bT [87] Z (hq:=zj Z Z ze.h (mC _) (yb hse.1 Z)) (h:=?_);refine ad [[9,83,88],[3,9]] ?_;refine bR (Wx:=[_,_,_,_,_,_,_,_,_,_]) [79,90] Z Z (zE Z Z ze.h Z Z mQ Z) ?_;refine ad [[3,9]] ?_;refine bR (Wx:=[]) [89,91] Z Z (zE Z Z ze.h Z Z mQ Z) ?_;refine ad [[14]] ?_;refine bA [2,3,4,5,6,7,8,9] ?_;refine bC ((jm,_)::(jx,_)::(j9,_)::(p.1,_)::(jq,_)::(jr,_)::(jb,_)::(jz,_)::(g,_)::(jo,_)::(ja,_)::(jc,_)::(jw,_)::(mkK Zo++mkK (Zq.drop (i+1)))) ?_;exact H () trivial
    ·obtain rfl:mm=m:=by rw [emm,zmH (lK (by simp at hc3; simpa using hc3))]
     refine au 120 ?_;refine bA [2,3,4,5,6,7,8,9] ?_;refine bC ((jm,_)::(jx,_)::(j9,_)::(p.1,_)::(jq,_)::(jr,_)::(jb,_)::(jz,_)::(g,_)::(jo,_)::(ja,_)::(jc,_)::(jw,_)::(mkK Zo++mkK (Zq.drop (i+1)))) ?_;exact H () trivial
   ·intro _ _;refine bG nQ ?_
    (try dsimp only)
    refine au 1769067069067042 ?_;refine bF 97 (fun g17_6=>?_) (fun g17_6=>?_)
    ·refine au 690670 ?_;refine TK.clE Z Z Z Z (yk hT) ?_;refine au 93260 ?_;constructor<;>intro hc4
     ·have hk:keepT p.2.wide mm=tt:=by simp [keepT]; simp at g17_6; simp [betw] at hc4; omega
      refine au 6806906704 ?_;refine bI Z Z Z (zu (l:=[_,_,_]) Z zq.h TyZ.h dQ dQ Z) (fun _=>zx rfl tQ) fun j11 hj11=>?_;refine bO Z Z Z (a_app Z ApOf.h Z mQ (by rw [yw mkC 3 (fun _=>rfl)]) rfl (yq (ln:=[_,_,_]) mQ dQ sQ rfl) oQ rfl (by unfold maxLen; omega) oQ) (fun _=>uQ) (fun _=>zx rfl tQ) fun j92=>?_;refine au 35230141403170670 ?_;refine bA [2,3,4,5,6,7,8] ?_;refine bC (((jx,_)::(j92,_)::(p.1,_)::(jq,_)::(jr,_)::(jb,_)::(jz,_)::(g,_)::(jo,_)::(ja,_)::(jc,_)::(jw,_)::(mkK Zo++mkK (Zq.drop (i+1))))) ?_;exact Ww _ _ _ oQ ⟨q+1,j92,rfl,oQ,rfl,by rw [mov_T hm emm hk,List.flatMap_append,lF] <;> rfl⟩
     have hk:keepT p.2.wide mm=ff:=Bool.eq_false_iff.2 fun h=>by have:=ze2 h; simp [betw] at hc4; omega
     refine au 3523014140120 ?_;refine bA [2,3,4,5,6,7,8] ?_;refine bC (((jx,_)::(j9,_)::(p.1,_)::(jq,_)::(jr,_)::(jb,_)::(jz,_)::(g,_)::(jo,_)::(ja,_)::(jc,_)::(jw,_)::(mkK Zo++mkK (Zq.drop (i+1))))) ?_;exact Ww _ _ _ oQ ⟨q+1,j9,rfl,oQ,rfl,by rw [mov_F hm emm hk] <;> rfl⟩
    have hk:keepT p.2.wide mm=ff:=Bool.eq_false_iff.2 fun h=>by have:=ze2 h; simp at g17_6; omega
    refine au 35230141401201903250888 ?_;refine bA [2,3,4,5,6,7,8] ?_;refine bC (((jx,_)::(j9,_)::(p.1,_)::(jq,_)::(jr,_)::(jb,_)::(jz,_)::(g,_)::(jo,_)::(ja,_)::(jc,_)::(jw,_)::(mkK Zo++mkK (Zq.drop (i+1))))) ?_;exact Ww _ _ _ oQ ⟨q+1,j9,rfl,oQ,rfl,by rw [mov_F hm emm hk] <;> rfl⟩
  obtain rfl:q=p.2.mK.length:=by simp at hc2; omega
  rw [List.take_length] at hml ⊢;refine au 160 ?_;refine TK.unrowAt (c:=jx) (i:=6) (j:=j9) Z mQ uQ ?_;refine bY (j:=j9) ?_;refine au 6806906704 ?_;refine bI Z Z Z (zu (l:=[_,_,_,_,_,_,_]) Z zq.h TyZ.h dQ dQ Z) (fun _=>zx rfl tQ) fun j12 hj12=>?_;refine bO Z Z Z (a_app Z ApOf.h Z mQ (by rw [yw skC 7 (fun _=>rfl)]) rfl (yq (ln:=[_,_,_,_,_,_,_]) mQ dQ sQ rfl) oQ rfl (by unfold maxLen; omega) oQ) (fun _=>uQ) (fun _=>zx rfl tQ) fun jo2=>?_;refine au 35230141403170670 ?_;refine bA [2,3,4,5,6] ?_;refine bC (((j9,_)::(jq,_)::(jr,_)::(jb,_)::(jz,_)::(g,_)::(jo2,_)::(ja,_)::(jc,_)::(jw,_)::(mkK Zo++mkK (Zq.drop (i+1))))) ?_;refine bN (K':=(jq,_)::(jr,_)::(jb,_)::(jz,_)::(g,_)::(jo2,_)::(ja,_)::(jc,_)::(jw,_)::(mkK (Zo++[(j9,(⟨p.2.name,p.2.flo,p.2.fhi,p.2.wide,p.2.slo,p.2.shi,movT st (v.fr.getD i 0) (v.st.getD i 0) (yc st v 0 (Zo.map (·.2))) p.2.wide p.2.mK⟩:SkT))])++mkK (Zq.drop (i+1)))) (zfU ((jq,_)::(jr,_)::(jb,_)::(jz,_)::(g,_)::(jo2,_)::(ja,_)::(jc,_)::(jw,_)::[]) Zo (j9,(⟨p.2.name,p.2.flo,p.2.fhi,p.2.wide,p.2.slo,p.2.shi,movT st (v.fr.getD i 0) (v.st.getD i 0) (yc st v 0 (Zo.map (·.2))) p.2.wide p.2.mK⟩:SkT)) (mkK (Zq.drop (i+1)))) ?_;exact Wj _ _ _ oQ ⟨i+1,jo2,Zo++[(j9,(⟨p.2.name,p.2.flo,p.2.fhi,p.2.wide,p.2.slo,p.2.shi,movT st (v.fr.getD i 0) (v.st.getD i 0) (yc st v 0 (Zo.map (·.2))) p.2.wide p.2.mK⟩:SkT))],rfl,oQ,by rw [lM,uZ hp2,zo6 hbf,<- hZm]; rfl,rfl,by rw [List.flatMap_append,lF] <;> rfl⟩
 obtain rfl:i=Zq.length:=by simp at Jz; omega
 rw [show mkK (Zq.drop Zq.length)=[] by rw [List.drop_length]; rfl,lR];refine au 2160 ?_;refine TK.unrowAt (c:=jq) (i:=2) (j:=jo) Z mQ uQ ?_;refine bY (j:=jo) ?_;refine au 31706804 ?_;refine bB Wz (((jo,_)::(ja,_)::(jc,_)::(jw,_)::mkK Zo)) ?_;exact ⟨jo,Zo,by show StpB.mk st wr (Zo.map (·.2))=StpB.mk st wr (truA st v (Zq.map (·.2)) (Zq.map (·.2)).length); rw [hZm,lJ],rfl,rfl⟩
theorem zgF {b:RBk}:∀ (l:List Int) (last:Option Int),(∀ n∈l,0<=n/\n<b.sE.length/\∀ k,last=some k->k<n)->l.Pairwise (· < ·)->cutsL b last l=0
 | [],_,_,_=>rfl
 | n::r,last,h,hp=>by
  obtain ⟨h1,h2,h3⟩:=h n sQ;obtain ⟨p1,p2⟩:=List.pairwise_cons.1 hp;have ht:ym b n=0:=by unfold ym; rw [if_pos (by simp [betw]; omega)]
  unfold cutsL;rw [if_neg (by rw [ht]; decide),if_neg]
  ·exact zgF r _ (fun m hm=>⟨(h m (by simp [hm])).1,(h m (by simp [hm])).2.1,fun k hk=>by cases hk; exact p1 m hm⟩) p2
  ·cases last with
   | none=>simp [notAft]
   | some k=>have:=h3 k rfl; simp [notAft]; omega
theorem ziG {b:RBk} {l:List Int} (h:CutsOk b l):cutsM b l=0:=by
 unfold cutsM;have:=h.pos;rw [if_neg oQ];exact zgF l none (fun n hn=>⟨(h.bnd n hn).1,(h.bnd n hn).2,fun k hk=>by cases hk⟩) h.asc
section
variable {main:Bool} {T:gG->Hp->Prop} {b:RBk} {s h e j:Nat} {l:List Int} {et:gT}
end
theorem zcy {Ψ:gG->World->Prop} {b:RBk} {s h e h2:Nat} {sh:List RBand} (hck:zy b=0) (hok:zy (zI b sh b.mE)=0) (hne2:zh (zI b sh b.mE)≠[]) (Qv:∀ s∈zh (zI b sh b.mE),s∈zh b) :
  zr tp (BT tp Ψ) gmR 57 [.agg (zH b s h e),.agg (zH (zI b sh b.mE) s h2 e)] [(0,zB),(s,zp b),(h,zF b),(e,zz b),(h2,zF (zI b sh b.mE))] (fun r K'=>r=zC tt/\K'=[(0,zB),(s,zp b),(h,zF b),(e,zz b),(h2,zF (zI b sh b.mE))]):=by
 have hT:=kE (P:=tp) Ψ;refine zn 123 hT Tryz.func57 fun Y Wz=>?_;refine au 0 ?_;have hbb:=zX hck;have hob:=zX hok;have hl:b.sE.length<=100:=by have:=hbb.sms.len; omega
 have hm:b.mE.length<=100:=by have:=hbb.mes.len; omega
 have hl2:(zI b sh b.mE).sE.length<=100:=hl;have hm2:(zI b sh b.mE).mE.length<=100:=by have:=hob.mes.len; omega
 have hne:zh b≠[]:=fun e=>by
  cases hh:zh (zI b sh b.mE) with
  | nil=>exact hne2 hh
  | cons x r=>have:=Qv x (by rw [hh]; simp); rw [e] at this; cases this
 refine au 21042 ?_;intro jb hjb;refine au 210 ?_;intro jb2 hjb2;refine au 6804235 ?_;refine bD Z Z Z Z ((zbl hl hm).mono (fun _ _ h=>or3 h hck hne)) ?_;rintro r1 K2 h3;rcases h3 with ⟨hno,rfl,rfl⟩ | ⟨c,jc,ec,hp,rfl,rfl⟩
 ·refine au 680423555566661 ?_;refine bD Z Z Z Z ((zbl (b:=(zI b sh b.mE)) (s:=s) (h:=h2) (e:=e) hl2 hm2).mono (fun _ _ h=>or3 h hok hne2)) ?_;rintro r4 K5 h6;rcases h6 with ⟨hno2,rfl,rfl⟩ | ⟨d,jd,ed,hq,rfl,rfl⟩
  ·refine au 0 ?_;refine au 680423555566661 ?_;refine bD Z Z Z Z ((wh hl hm).mono (fun _ _ h=>or3 h hck hne)) ?_;rintro r7 K8 h9;rcases h9 with ⟨hnf,rfl,rfl⟩ | ⟨f,jf,ef,hf,rfl,rfl⟩
   ·refine au 0 ?_;refine au 6804235556661 ?_;refine bD Z Z Z Z ((wh (b:=(zI b sh b.mE)) (s:=s) (h:=h2) (e:=e) hl2 hm2).mono (fun _ _ h=>or3 h hok hne2)) ?_;rintro r10 K11 h12;rcases h12 with ⟨hnf2,rfl,rfl⟩ | ⟨g,jg,eg,hg,rfl,rfl⟩
    ·refine au 0 ?_;refine au 6804235556661 ?_;refine bD Z Z Z Z ((ww hl hm).mono (fun _ _ h=>or3 h hck hne)) ?_;rintro r13 K14 ⟨rfl,rfl⟩;refine au 6804235556661 ?_;refine bD Z Z Z Z ((ww (b:=(zI b sh b.mE)) (s:=s) (h:=h2) (e:=e) hl2 hm2).mono (fun _ _ h=>or3 h hok hne2)) ?_;rintro r16 K17 ⟨rfl,rfl⟩;refine au 0 ?_;rw [zcX];refine au 13001126026088888888130011260260888888130011260711260711260711260711260711714235556661 ?_;refine bF 114 (fun g7_52=>?_) (fun g7_52=>?_)
     ·refine au 35260260888888 ?_;refine bB Wz [(0,_),(s,_),(h,_),(e,_),(h2,_)] ?_;exact ⟨by first | rfl | simp [w2],rfl⟩
     have hws:(widestM b (zh b)).isSome=tt:=by simpa using g7_52
     obtain ⟨w1,w2⟩:=zad hbb hne2 Qv hws;rw [w1];refine au 3526025026071111 ?_;refine bB Wz [(0,_),(s,_),(h,_),(e,_),(h2,_)] ?_;exact ⟨by first | rfl | simp [w2],rfl⟩
    ·exact (vO hg hno2).elim
   ·exact (vO hf hno).elim
  ·refine au 0 ?_;refine au 680423555566661 ?_;refine bD Z Z Z Z ((wh hl hm).mono (fun _ _ h=>or3 h hck hne)) ?_;rintro r19 K20 h21;rcases h21 with ⟨hnf,rfl,rfl⟩ | ⟨f,jf,ef,hf,rfl,rfl⟩
   ·refine au 0 ?_;refine au 6804235556661 ?_;refine bD Z Z Z Z ((wh (b:=(zI b sh b.mE)) (s:=s) (h:=h2) (e:=e) hl2 hm2).mono (fun _ _ h=>or3 h hok hne2)) ?_;rintro r22 K23 h24;rcases h24 with ⟨hnf2,rfl,rfl⟩ | ⟨g,jg,eg,hg,rfl,rfl⟩
    ·exact (vO hq hnf2).elim
    ·refine au 0 ?_;refine au 6804235556661 ?_;refine bD Z Z Z Z ((ww hl hm).mono (fun _ _ h=>or3 h hck hne)) ?_;rintro r25 K26 ⟨rfl,rfl⟩;refine au 6804235556661 ?_;refine bD Z Z Z Z ((ww (b:=(zI b sh b.mE)) (s:=s) (h:=h2) (e:=e) hl2 hm2).mono (fun _ _ h=>or3 h hok hne2)) ?_;rintro r28 K29 ⟨rfl,rfl⟩;refine au 0 ?_;rw [zcX];refine au 13001126026088888888130011260260888888130011260711260711260711260711260711714235556661 ?_;refine bF 114 (fun g7_52=>?_) (fun g7_52=>?_)
     ·refine au 35260260888888 ?_;refine bB Wz [(0,_),(s,_),(h,_),(e,_),(h2,_)] ?_;exact ⟨by first | rfl | simp [w2],rfl⟩
     have hws:(widestM b (zh b)).isSome=tt:=by simpa using g7_52
     obtain ⟨w1,w2⟩:=zad hbb hne2 Qv hws;rw [w1];refine au 3526025026071111 ?_;refine bB Wz [(0,_),(s,_),(h,_),(e,_),(h2,_)] ?_;exact ⟨by first | rfl | simp [w2],rfl⟩
   ·exact (vO hf hno).elim
 ·refine au 680423555566661 ?_;refine bD Z Z Z Z ((zbl (b:=(zI b sh b.mE)) (s:=s) (h:=h2) (e:=e) hl2 hm2).mono (fun _ _ h=>or3 h hok hne2)) ?_;rintro r31 K32 h33;rcases h33 with ⟨hno2,rfl,rfl⟩ | ⟨d,jd,ed,hq,rfl,rfl⟩
  ·exact (zkz hne2 Qv hp (ch_no b sh b.mE hno2)).elim
  ·refine au 0 ?_;have hle:sqHi (zI b sh b.mE) (zh (zI b sh b.mE)) (zw d (zI b sh b.mE).sE.length)<=sqHi b (zh b) (zw c b.sE.length):=by rw [ch_hi]; exact zhP hne2 Qv hp (zgB b sh b.mE hq)
   refine au 680423555566661 ?_;refine bD Z Z Z Z ((wh hl hm).mono (fun _ _ h=>or3 h hck hne)) ?_;rintro r34 K35 h36;rcases h36 with ⟨hnf,rfl,rfl⟩ | ⟨f,jf,ef,hf,rfl,rfl⟩
   ·exact (vO hp hnf).elim
   ·refine au 0 ?_;refine au 6804235556661 ?_;refine bD Z Z Z Z ((wh (b:=(zI b sh b.mE)) (s:=s) (h:=h2) (e:=e) hl2 hm2).mono (fun _ _ h=>or3 h hok hne2)) ?_;rintro r37 K38 h39;rcases h39 with ⟨hnf2,rfl,rfl⟩ | ⟨g,jg,eg,hg,rfl,rfl⟩
    ·exact (vO hq hnf2).elim
    ·refine au 0 ?_;have hfl:(zw g (zI b sh b.mE).sE.length).length<=(zw f b.sE.length).length:=ziM (b:=b) hne2 Qv hf (zgB b sh b.mE hg);refine au 6804235556661 ?_;refine bD Z Z Z Z ((ww hl hm).mono (fun _ _ h=>or3 h hck hne)) ?_;rintro r40 K41 ⟨rfl,rfl⟩;refine au 6804235556661 ?_;refine bD Z Z Z Z ((ww (b:=(zI b sh b.mE)) (s:=s) (h:=h2) (e:=e) hl2 hm2).mono (fun _ _ h=>or3 h hok hne2)) ?_;rintro r43 K44 ⟨rfl,rfl⟩;refine au 0 ?_;rw [zcX];refine au 126025026071111130011260711260711260711260711260711714235556661 ?_;refine bF 97 (fun g7_35=>?_) (fun g7_35=>?_)
     ·refine au 12602502607280128011113001 ?_;refine bF 111 (fun g7_49=>?_) (fun g7_49=>?_)
      ·refine au 13001 ?_;refine bF 114 (fun g7_52=>?_) (fun g7_52=>?_)
       ·refine au 35260260888888 ?_;refine bB Wz [(0,_),(s,_),(h,_),(e,_),(h2,_)] ?_;exact ⟨by first | rfl | simp [w2],rfl⟩
       have hws:(widestM b (zh b)).isSome=tt:=by simpa using g7_52
       obtain ⟨w1,w2⟩:=zad hbb hne2 Qv hws;rw [w1];refine au 3526025026071111 ?_;refine bB Wz [(0,_),(s,_),(h,_),(e,_),(h2,_)] ?_;exact ⟨by first | rfl | simp [w2],rfl⟩
      simp at g7_49; omega
     simp at g7_35; omega
theorem zhY {main T} (hT:zt tp main T) {gm} {j j2:Nat} {l m:List Int} {e1 e2:gT} (Qv:∀ z∈l,z∈m) (hl:l.length<=1000) (hm:m.length<=1000) :
  zr tp T gm 56 [.sl j 0 l.length,.sl j2 0 m.length] [(j,.cells (l.map za) e1 ff),(j2,.cells (m.map za) e2 ff)] (fun r K'=>r=zC tt/\K'=[(j,.cells (l.map za) e1 ff),(j2,.cells (m.map za) e2 ff)]):=by
 refine zn 19 hT Tryz.func56 fun Y Wz=>?_;refine au 130354223542 ?_;refine bA [0,1,5] ?_;refine bC [(j,_),(j2,_)] ?_;refine bE (fun n Wq K=>∃ (i:Nat),n=l.length - i/\i<=l.length/\Wq=.sl j 0 l.length::.sl j2 0 m.length::naL 3 (za i::naL 13 [])/\K=[(j,.cells (l.map za) e1 ff),(j2,.cells (m.map za) e2 ff)]) l.length ⟨0,rfl,mN _,rfl,rfl⟩ fun n Wq K hI Wj=>?_;obtain ⟨i,rfl,hi,rfl,rfl⟩:=hI;refine bG nQ ?_;refine au 93728011422 ?_;constructor<;>intro Jz
 ·have Qb:i<l.length:=by simp at Jz; omega
  obtain ⟨x,hx⟩:∃ x,l[i]? =some x:=⟨_,lA Qb⟩;refine au 360111421302120 ?_;refine bH Z (zj Z Z ze.h mQ (yb hx Z)) ?_;refine TK.clE Z Z Z Z (uo hT (l:=m) hm) ?_;refine au 0 ?_;rw [decide_eq_true (Qv x (lN hx))];refine au 93300 ?_;constructor<;>intro Jx
  ·exact absurd Jx dQ
  refine au 3523014140120 ?_;refine bA [0,1,5] ?_;refine bC [(j,_),(j2,_)] ?_;exact Wj _ _ _ oQ ⟨i+1,rfl,oQ,rfl,rfl⟩
 refine au 3542160 ?_;refine bB Wz [(j,_),(j2,_)] ?_;exact ⟨rfl,rfl⟩
theorem zhA {Ψ:gG->World->Prop} {b:RBk} {s h e h2:Nat} {j i:Nat} {l:List Int} {et:gT} {sh:List RBand} (hck:zy b=0) (hok:zy (zI b sh b.mE)=0) (hne2:zh (zI b sh b.mE)≠[]) (Qv:∀ s∈zh (zI b sh b.mE),s∈zh b) (Wb:(zh (zI b sh b.mE)).length<=(zh b).length) (hi:i<b.sE.length) (hcc:CutsOk b l) :
  zr tp (BT tp Ψ) gmR 17 [.agg (zH b s h e),.agg (zH (zI b sh b.mE) s h2 e),za (i:Int),.sl j 0 l.length] [(0,zB),(s,zp b),(h,zF b),(e,zz b),(h2,zF (zI b sh b.mE)),(j,.cells (l.map za) et ff)] (fun r K'=>r=zC tt/\K'=[(0,zB),(s,zp b),(h,zF b),(e,zz b),(h2,zF (zI b sh b.mE)),(j,.cells (l.map za) et ff)]):=by
 have hT:=kE (P:=tp) Ψ;refine zn 135 hT Tryz.func17 fun Y Wz=>?_;refine au 0 ?_;have hbb:=zX hck;have hob:=zX hok;have hl:b.sE.length<=100:=by have:=hbb.sms.len; omega
 have hm:b.mE.length<=100:=by have:=hbb.mes.len; omega
 have hl2:(zI b sh b.mE).sE.length<=100:=hl;have hm2:(zI b sh b.mE).mE.length<=100:=by have:=hob.mes.len; omega
 have hne:zh b≠[]:=fun e=>by
  cases hh:zh (zI b sh b.mE) with
  | nil=>exact hne2 hh
  | cons x r=>have:=Qv x (by rw [hh]; simp); rw [e] at this; cases this
 have hth:ym b (i:Int)=0:=znu (by simp [betw]; omega);have hbt:bar2 (zy b) (ym b (i:Int))=0:=by rw [kv hck]; exact hth
 have hbt2:bar2 (zy (zI b sh b.mE)) (ym (zI b sh b.mE) (i:Int))=0:=by rw [kv hok]; exact hth
 have hcu:=ziG hcc;have hbc:bar2 (zy b) (cutsM b l)=0:=by rw [kv hck]; exact hcu
 have hbc2:bar2 (zy (zI b sh b.mE)) (cutsM (zI b sh b.mE) l)=0:=by rw [kv hok]; exact ziG (b:=(zI b sh b.mE)) ⟨hcc.pos,hcc.bnd,hcc.asc⟩
 have hll:l.length<=1000:=by have:=hcc.len; have:=hbb.sms.len; omega
 have hnw:=zml hne2 Qv;have hcn:=zmj (l:=l) hne2 Qv;have hsr:=zmm Qv (i:Int);have hs1:=y7 hbb;have hs2:=y7 hob;have hr1:=(zfC ((zh b).map fun s=>zK s (i:Int).toNat));have hr2:=(zfC ((zh (zI b sh b.mE)).map fun s=>zK s (i:Int).toNat));rw [lJ] at hr1 hr2;refine au 21042 ?_;intro jb hjb;refine au 210 ?_;intro jb2 hjb2;refine au 6804235 ?_;refine TK.clE Z Z Z Z (vh hT hl hm) ?_;refine au 0 ?_;rw [hck,if_pos rfl];refine au 68042355661 ?_;refine TK.clE Z Z Z Z (vh hT (b:=(zI b sh b.mE)) (s:=s) (h:=h2) (e:=e) hl2 hm2) ?_;refine au 0 ?_;rw [hok,if_pos rfl];refine au 168042355661 ?_;refine bD Z Z Z Z ((zbN hT hl hm).mono (fun _ _ h=>or3 h hbt hne)) ?_;rintro r7 K8 ⟨j1,z1,rfl,rfl⟩;refine au 0 ?_;rw [lM];refine TK.cutC (j:=j1) ?_;refine au 168042355661 ?_;refine bD Z Z Z Z ((zbN hT (b:=(zI b sh b.mE)) (s:=s) (h:=h2) (e:=e) hl2 hm2).mono (fun _ _ h=>or3 h hbt2 hne2)) ?_;rintro r10 K11 ⟨j3,z3,rfl,rfl⟩;refine au 0 ?_;rw [lM];refine TK.cutC (j:=j3) ?_;refine au 68042355661 ?_;refine bD Z Z Z Z ((zcx hT hl hm).mono (fun _ _ h=>or3 h hck hne)) ?_;rintro r13 K14 ⟨rfl,rfl⟩;refine au 220661 ?_;intro jx hjx;refine au 6804235170 ?_;refine bD Z Z Z Z ((zcx hT (b:=(zI b sh b.mE)) (s:=s) (h:=h2) (e:=e) hl2 hm2).mono (fun _ _ h=>or3 h hok hne2)) ?_;rintro r16 K17 ⟨rfl,rfl⟩;refine au 220661 ?_;intro jy hjy;refine au 16804235170 ?_;refine bD Z Z Z Z ((zaN hT hl hm hll).mono (fun _ _ h=>or3 h hbc hne)) ?_;rintro r19 K20 ⟨rfl,rfl⟩;refine au 168042355661 ?_;refine bD Z Z Z Z ((zaN hT (b:=(zI b sh b.mE)) (s:=s) (h:=h2) (e:=e) hl2 hm2 hll).mono (fun _ _ h=>or3 h hbc2 hne2)) ?_;rintro r22 K23 ⟨rfl,rfl⟩;refine au 9325071125071125071125071125071125071125071171422355661 ?_;constructor<;>intro Jz
 ·exact absurd Jz dQ
 refine au 11422120 ?_;refine TK.clE Z Z Z Z (yk hT) ?_;refine au 0 ?_;rw [zlk (List.length_pos_iff.2 hne2) Wb];refine au 111300 ?_;refine TK.clE Z Z Z Z (zhY hT (l:=shrI (zI b sh b.mE) (i:Int)) (m:=shrI b (i:Int)) hsr (by unfold shrI; omega) (by unfold shrI; omega)) ?_;refine au 125076906706906701250300 ?_;refine bF 116 (fun g11_18=>?_) (fun g11_18=>?_)
 ·simp at g11_18; omega
 refine au 12507690670690670 ?_;refine bF 123 (fun g11_25=>?_) (fun g11_25=>?_)
 ·simp at g11_25; omega
 refine au 171 ?_;refine bF 126 (fun g11_28=>?_) (fun g11_28=>?_)
 ·refine au 93250260711 ?_;constructor<;>intro Jx
  ·rcases hcn with hz | hz
   ·rw [hz] at g11_28; simp at g11_28
   ·rw [hz] at Jx; simp at Jx
  refine au 68068042120 ?_;refine TK.clE Z Z Z Z (zcy hck hok hne2 Qv) ?_;refine au 35 ?_;refine bB Wz [(0,_),(s,_),(h,_),(e,_),(h2,_),(j,_)] ?_;exact ⟨rfl,rfl⟩
 refine au 680680421201903250250888 ?_;refine TK.clE Z Z Z Z (zcy hck hok hne2 Qv) ?_;refine au 35 ?_;refine bB Wz [(0,_),(s,_),(h,_),(e,_),(h2,_),(j,_)] ?_;exact ⟨rfl,rfl⟩
theorem zdE {main T} (hT:zt tp main T) {gm} {b:RBk} {s h e i:Nat} {x:RBand} (hi:i<b.sH.length) (hl:b.sH.length<=100) :
  zr tp T gm 14 [.agg (zH b s h e),za i,.agg (bandC x)] [(h,zF b)] (fun r K'=>∃ h2,r=.agg (zH (z8 b i x) s h2 e)/\K'=[(h2,zF (z8 b i x)),(h,zF b)]):=by
 refine zn 18 hT Tryz.func14 fun Y Wz=>?_;refine au 0 ?_;have hfl:=yw bandC 2 (fun _=>rfl) b.sH;refine au 21042 ?_;intro jb hjb;refine au 210 ?_;intro jx hjx;refine au 220 ?_;intro jr hjr;refine au 423 ?_;refine bI Z Z Z (zu (l:=[]) Z zq.h TyZ.h dQ dQ Z) (fun _=>zx rfl tQ) fun j1 hj1=>?_;refine au 690670 ?_;refine TK.appG (ln:=b.sH.flatMap bandC) Z Z Z ApOf.h Z mQ Z Z Z (fun hp=>wG mQ oQ (kL hfl oQ)) (fun h=>lK oQ) (kN bandC (fun _=>rfl) _) (by unfold maxLen; omega) oQ (fun _=>uQ) (fun _=>zx rfl tQ) fun h2=>?_;simp only [List.nil_append,Nat.zero_add];refine au 3706801690670423170670 ?_;refine TK.st Z Z Z (zE Z Z ze.h Z Z mQ (zfq (x:=x) hi Z)) uQ (putN Z) ?_;refine au 23 ?_;refine TK.unrowAt (c:=jb) (i:=5) (j:=h2) Z mQ uQ ?_;refine bY (j:=h2) ?_;rw [show b.sH.length=(z8 b i x).sH.length by simp [z8]];refine au 31706804 ?_;refine bB Wz [(h2,_),(h,_)] ?_;exact ⟨h2,rfl,rfl⟩
end Go.Vel
namespace Go.Vel
open Go Go.Conc Go.Proofs
def AllM (Q:Nat->Prop):List Nat->Prop
 | []=>True
 | m::M=>Q m/\AllM Q M
theorem AllM.mem {Q:Nat->Prop}:∀ {M:List Nat},AllM Q M->∀ m∈M,Q m
 | [],_,m,h=>by cases h
 | x::M,h,m,hm=>by
  rcases List.mem_cons.1 hm with rfl | hm
  ·exact h.1
  ·exact h.2.mem m hm
def readyL (Qy:Array Oper) (L:List Nat):List Nat:=L.filter fun j => !((edgesOf .any Qy j).any fun e=>L.elem e)
section
variable {P:Program} {gm:Nat->Option Nat} {T:gG->Hp->Prop} {Y:KX P gm T} {ds:List Nat} {k:List Item} {Wq Wk:List AV} {K K':KV} {Qy:Array Oper} {i d:Nat} {L:List Nat} {o:Oper} {r:AV} {Wy Wx:List Pd}
def Nx (Y:KX P gm T) (ds:List Nat) (Qy:Array Oper) (k:List Item) (Wy:List Pd) (L:List Nat) (Wq:List AV) (K:KV) (m:Nat):Prop :=
 ∃ (s:List Nat) (o:Oper) (Wx:List Pd),Qy[m]? =some o/\zL Qy (onl s Wq) o=some tt/\pendOf Qy m Wy=Wx/\(rawOk Qy m s&&dstOk Wx Qy o.dst)=tt/\ExK Y (onl s Wq) K o fun r K'=>(∀ p∈Wx,∀ x∈p.V,x∈K')/\TD Y ds Qy k Wx (L.filter fun j=>j !=m) (zU Wq o.dst r) K'
theorem TD.cA (hM:(readyL Qy L).isEmpty=ff) (h:AllM (Nx Y ds Qy k Wy L Wq K) (readyL Qy L)):TD Y ds Qy k Wy L Wq K :=
 TD.cM (readyL Qy L) (by
  simp only [mX,List.all_eq_true,Bool.or_eq_true,List.elem_eq_mem,decide_eq_true_eq,Bool.not_eq_true'];refine ⟨⟨hM,fun j hj=>(List.mem_filter.1 hj).1⟩,fun j hj=>?_⟩;cases e:(edgesOf .any Qy j).any fun e=>L.elem e with
  | true=>exact .inr (by simpa [List.elem_eq_mem] using e)
  | false=>exact .inl (List.mem_filter.2 ⟨hj,by rw [e]; rfl⟩)) fun m hm=>by
  obtain ⟨s,o,Wx,h1,h2,h3,h4,h5⟩:=h.mem m hm;refine ⟨s,o,Wx,_,h1,h2,h3,?_,h5⟩;rw [h4,Bool.true_and];simp only [mX,List.all_eq_true,List.elem_eq_mem,decide_eq_true_eq,List.mem_filter,Bool.or_eq_true,beq_iff_eq];refine ⟨fun j hj=>hj,fun j hj=>?_⟩;by_cases e:j=m
  ·exact .inl e
  ·exact .inr ⟨hj,by simpa using e⟩
theorem Nx.at (m:Nat) (h:Nx Y ds Qy k Wy L Wq K m):Nx Y ds Qy k Wy L Wq K m:=h
theorem TD.at (i:Nat) (h:TD Y ds Qy k Wy (i::L) Wq K):TD Y ds Qy k Wy (i::L) Wq K:=h
theorem Nx.al (m:Nat) {t:gT} {l:List AV} {envf:Nat->List AV} (ho:Qy[m]? =some o) (hp:pendOf Qy m Wy=Wy) (Qw:o.op=.alloc t) (hz:tyZeroA P t=some l) (he:∀ j,zU Wq o.dst (.ptr j 0)=envf j) (h:∀ j,j∉keys K->TD Y ds Qy k Wy (L.filter fun j=>j !=m) (envf j) ((j,.cells l t tt)::K)) (hv:∀ p∈Wy,∀ x∈p.V,x∈K:=by simp) (hd:yi o.op=ff:=by rfl) (hw:zL Qy (onl [] Wq) o=some tt:=by rfl) (hc:(rawOk Qy m []&&dstOk Wy Qy o.dst)=tt:=by rfl):Nx Y ds Qy k Wy L Wq K m :=
 ⟨[],o,Wy,ho,hw,hp,hc,wg hd (yN Qw hz) he hv h⟩
theorem Nx.cl (m:Nat) {fo:Operand} {ars:Array Operand} {at_:Array gT} {g:FuncId} {fs cp args:List AV} {Kf R:KV} {Post:AV->KV->Prop} (s:List Nat) (ho:Qy[m]? =some o) (hp':pendOf Qy m Wy=Wx) (Qw:o.op=.call { callee:=.value fo,args:=ars,argTypes:=at_ })
  (hf:zo gm (onl s Wq) fo=some (.fn g fs cp)) (Qg:fs++ars.toList.map (zR gm (onl s Wq))++cp=args) (hc:zr P T gm g args Kf Post)
  (h:∀ r K',Post r K'->(∀ p∈Wx,∀ x∈p.V,x∈K'++R)/\TD Y ds Qy k Wx (L.filter fun j=>j !=m) (Wq.set d r) (K'++R)) (hs:Split K Kf R:=by repeat (first | exact Split.none _ | exact Split.all _ | (apply Split.rem; repeat (first | exact Rem.head | apply Rem.tail)) | apply Split.right)) (hw:zL Qy (onl s Wq) o=some tt:=by rfl) (hc':(rawOk Qy m s&&dstOk Wx Qy o.dst)=tt:=by rfl) (hg:yo P g=tt:=by exact Cal.h) (hx:o.dst=some d:=by rfl):Nx Y ds Qy k Wy L Wq K m :=
 ⟨s,o,Wx,ho,hw,hp',hc',kJ Qw hf hg Qg hc hs fun r K' hr=>by rw [hx]; exact h r K' hr⟩
end
theorem zgx:∀ {l:List Int} {lo hi:Int},l.Pairwise (· < ·)->(∀ x∈l,lo<=x/\x<=hi)->(l.length:Int)<=max 0 (hi+1 - lo)
 | [],lo,hi,_,_=>by simp; omega
 | x::l,lo,hi,hp,h=>by
  obtain ⟨h1,h2⟩:=List.pairwise_cons.1 hp;have h3:=h x List.mem_cons_self;have h4:=zgx (lo:=x+1) (hi:=hi) h2 fun y hy=>⟨h1 y hy,(h y (lL _ hy)).2⟩;rw [List.length_cons];omega
theorem zjJ {b:StpB} (hb:StpOk b) {v:VwT} (hv:v∈allT b) {n:Nat} (hn:n<b.sks.length) {c:Int} (hc:v.st.getD n 0=c):∃ l0 ll,((seatsT b n)[0]? =some l0/\(seatsT b n)[(seatsT b n).length - 1]? =some ll)/\(-3<=l0/\l0<=c/\c<=ll/\ll<=3/\ll - l0<3)/\c∈seatsT b n/\(0<(seatsT b n).length/\(seatsT b n).length<=7)/\allT b≠[]/\allT (levelT b n c)≠[]/\seatsT (levelT b n c) n=[c]/\∀ x,b.sks[n]? =some x->x.slo<=c/\c<=x.shi:=by
 subst hc;have hm:v.st.getD n 0∈seatsT b n:=za7.2 ⟨v,hv,rfl⟩;have hp:=List.length_pos_of_mem hm;have hx:=lA hn;have ho:=(hb.sk _ (List.getElem_mem hn)).se;have h0:=lA hp;have h1:=lA (show (seatsT b n).length - 1<(seatsT b n).length by omega);have ha:=zaK (za6 b n) _ hm;have b0:=zb8 hb hx (lN h0);have b1:=zb8 hb hx (lN h1);have e0:(seatsT b n).getD 0 0=(seatsT b n)[0]:=by rw [lE,h0]; rfl
 have e1:(seatsT b n).getD ((seatsT b n).length - 1) 0=(seatsT b n)[(seatsT b n).length - 1]:=by rw [lE,h1]; rfl
 rw [e0,e1] at ha;have ha:(seatsT b n)[0]<=v.st.getD n 0/\v.st.getD n 0<=(seatsT b n)[(seatsT b n).length - 1]:=ha;refine ⟨_,_,⟨h0,h1⟩,⟨by omega,ha.1,ha.2,oQ,oQ⟩,hm,⟨hp,by have h7:=zgx (lo := -3) (hi:=3) (za6 b n) fun y hy=>(by have:=zb8 hb hx hy; omega); omega⟩,List.ne_nil_of_mem hv,List.ne_nil_of_mem (zds hb.ns.2 hv hn),zgg hb.ns.2 hn hv,fun x hx=>zbR hb.ns.2 hv hx⟩
def noMes (b:RBk):RBk:={ b with mE:=[] }
attribute [local irreducible] TD Nx
theorem zek {b:RBk} {s h e:Nat} {st wr:Int} {g j:Nat} {Zq:List (Nat×SkT)} {ps:List (Fin 65536)} {k3 k4 k5 k6:Int} (h3:0<=k3/\k3<256) (h4:0<=k4/\k4<256) (h5:0<=k5/\k5<256) (h6:0<=k6/\k6<256):Top tp gmR 3 [.agg (zH b s h e),.agg (stpC st wr g Zq),.sl j 0 ps.length,.v (.int .u8 k3),.v (.int .u8 k4),.v (.int .u8 k5),.v (.int .u8 k6)] ((0,zB)::(1,spChecksG)::(s,zp b)::(h,zF b)::(e,zz b)::(g,skO Zq)::(j,u16O ps)::mkK Zq) (fun r _=>r=zC tt):=by
 refine topI 175 Tryz.func3 fun R Y Wz=>?_;have hT:=kE (P:=tp) (AtRet tp 3 R);refine au 0 ?_;obtain ⟨k3,rfl⟩:=Int.eq_ofNat_of_zero_le h3.1;obtain ⟨k4,rfl⟩:=Int.eq_ofNat_of_zero_le h4.1;obtain ⟨k5,rfl⟩:=Int.eq_ofNat_of_zero_le h5.1;obtain ⟨k6,rfl⟩:=Int.eq_ofNat_of_zero_le h6.1;refine au 21042 ?_;intro jb hjb;refine au 210 ?_;intro jk hjk;refine au 68042235 ?_;refine TK.clE Z Z Z Z (znV hT) ?_;refine au 1300 ?_;refine bF 29 (fun g1_4=>?_) (fun g1_4=>?_)
 ·refine au 421803260888 ?_;refine TK.clE Z Z Z Z (zbr) ?_;refine au 35 ?_;refine bB Wz [] ?_;rfl
 have hgr:greatM b=ff/\zy b=0:=by cases hq:greatM b <;> simp [hq] at g1_4; exact ⟨rfl,g1_4⟩
 obtain ⟨hgr,hck⟩:=hgr;have hbb:=zX hck;have hl:b.sE.length<=100:=by have:=hbb.sms.len; omega
 have hm:b.mE.length<=100:=by have:=hbb.mes.len; omega
 have hl2:b.sH.length<=100:=by have:=hbb.cls.len; omega
 have hst:=hbb.rnd.steps;refine au 680 ?_;refine bD Z Z Z Z (zkA hT (st:=st) (wr:=wr) (g:=g) (Zq:=Zq)) ?_;rintro r7 K8 ⟨⟨z,rfl,hz⟩,rfl⟩;refine au 0 ?_;refine bN (lH (l₁:=(g,_)::mkK Zq)) ?_;simp only [cA];refine au 93250300 ?_;constructor<;>intro Jz
 ·refine au 42 ?_;refine TK.clE Z Z Z Z (zbr) ?_;refine au 35 ?_;refine bB Wz [] ?_;rfl
 have hb:=hz (by simpa using Jz);refine au 1168042120 ?_;refine bD Z Z Z Z (zlq hT (k3:=k3) hb oQ) ?_;rintro r13 K14 ⟨A,C,m,l,ja,jc,jw,hre,rfl,rfl⟩;refine au 0 ?_;have hzn:=zN hb;have Wb:(skB st wr Zq).sks.length=Zq.length:=z_len Zq;obtain ⟨v,hv⟩:∃ v,v=vwR A C m:=⟨_,rfl⟩;have hre2:ReT (skB st wr Zq) (skB st wr Zq).sks.length A C m l:=by rw [Wb]; exact hre
 have hrv:RvT st Zq.length v A C l:=by have h:=RvT.of hb hre2; rw [Wb] at h; rw [hv]; exact h
 refine au 220 ?_;intro jz hjz;refine au 680680423170 ?_;refine bD Z Z Z Z (zj2 hT (v:=v) hb hrv) ?_;rintro r16 K17 ⟨jo,Zo,hZo,rfl,rfl⟩;refine au 0 ?_;refine bN (lH (l₁:=(jo,_)::(ja,_)::(jc,_)::(jw,_)::mkK Zo)) ?_;simp only [cA];have hbo:StpOk (skB st wr Zo):=by rw [hZo]; exact zo7 v hb
 have hvo:v∈allT (skB st wr Zo):=by rw [hZo,hv]; exact zlr hb hre2
 have hol:Zo.length=Zq.length:=by have h:=zbA (skB st wr Zq) v; rw [<- hZo] at h; exact (z_len Zo).symm.trans (h.trans Wb)
 refine au 23170 ?_;refine bC ((jb,_)::(jk,_)::(jz,_)::(0,_)::(s,_)::(h,_)::(e,_)::(jc,_)::(1,_)::(jo,_)::mkK Zo) ?_;have hsm:=hbb.sms.len;refine bL [0,1,2,3,4,5,8,9,10,12,6,7,11,13] ?_;refine ad [[1,4]] ?_;refine bU [42] Z (yu Z Z Und.h Und.h (kg oQ)) ?_;refine ad [[3,8],[10,44]] ?_;refine bU [45] Z (q_len Z Z Z Und.h) ?_;refine bU [43,46] Z (q_rem Z Z Z oQ oQ) ?_;refine ad [[1,5]] ?_;refine bU [48] Z (yu Z Z Und.h Und.h (kg oQ)) ?_;refine ad [[3,7],[10,50]] ?_;refine bU [51] Z (q_len Z Z Z Und.h) ?_;refine bU [49,52] Z (q_rem Z Z Z oQ oQ) ?_;refine TD.as (Wx:=[_,_,_,_,_,_]) [47] Z Z (zG Z Z) ?_;refine ad [[13,53],[14]] ?_;refine au 2 ?_;obtain ⟨n,en⟩:∃ n:Nat,(n:Int)=(k4:Int) % (Zo.length:Int):=⟨k4 % Zo.length,rfl⟩;obtain ⟨i,ei⟩:∃ i:Nat,(i:Int)=(k5:Int) % (b.sE.length:Int):=⟨k5 % b.sE.length,rfl⟩;rw [<- en,<- ei];have hsm:=hbb.sms.len;have hn:n<Zo.length:=by have:=Int.emod_lt_of_pos (k4:Int) (show (0:Int)<Zo.length by omega); omega
 have hi:i<b.sE.length:=by have:=Int.emod_lt_of_pos (k5:Int) (show (0:Int)<b.sE.length by omega); omega
 have hcse:=hrv.se n oQ;obtain ⟨c,ec⟩:∃ c,v.st.getD n 0=c:=⟨_,rfl⟩;rw [ec] at hcse;have hcl:n<C.length:=(lD.1 hcse.1).1;obtain ⟨l0,ll,⟨hl0,hll⟩,hlb,hcm,⟨hlp,hlq⟩,hne,hne2,hsv,hcx⟩:=zjJ hbo hvo (show n<(skB st wr Zo).sks.length by show n<(Zo.map (·.2)).length; rw [lJ]; exact hn) ec;refine au 16804 ?_;refine bD Z Z Z Z (zcM hT (Zq:=Zo) (i:=n) hbo hn hne) ?_;rintro r19 K20 ⟨jl,zs,rfl,rfl⟩;refine au 0 ?_;refine bN (lH (l₁:=(jl,_)::(1,_)::(jo,_)::mkK Zo)) ?_;simp only [cA];rw [lM];refine TK.cutC (j:=jl) ?_;refine au 2355661 ?_;refine' TK.shareX (X:=Nat×Nat×List (Nat×SkT)) (D:=fun x=>skB st wr x.2.2=levelT (skB st wr Zo) n c/\StpOk (skB st wr x.2.2)/\x.2.2.length=Zo.length) (E:=fun x=>naL 6 (.v (.int .u8 (k6:Int))::.ptr jb 0::naL 7 (.ptr jz 0::za n::za i::.sl jl 0 (seatsT (skB st wr Zo) n).length::za 0::.ptr x.1 0::za 0::naL 153 []))) (KK:=fun x=>(x.1,.cells (stpC st wr x.2.1 x.2.2) 29 tt)::(jb,.cells (zH b s h e) 26 tt)::(jz,.cells [.sl ja 0 A.length,.sl jc 0 C.length,.sl jw 0 l.length] 36 tt)::(0,zB)::(s,zp b)::(h,zF b)::(e,zz b)::(jc,.cells (C.map za) 3 ff)::(jl,.cells ((seatsT (skB st wr Zo) n).map za) 3 ff)::(1,spChecksG)::(x.2.1,skO x.2.2)::mkK x.2.2) (fun H=>?_) ?_;rotate_left
 ·refine bL [0,1,2,3,4,5,6,7,8,9,10,12,13,11,14] ?_;refine ad [[12,8],[1,16],[3,15],[10,63],[1,16],[2,64,65]] ?_;refine bT [66] Z (hq:=zj Z Z ze.h (mC _) (yb hcse.1 Z)) (h:=?_);refine TD.c2 (i1:=7) (i2:=12) (pend1:=[_,_,_,_,_,_]) (pend2:=[_,_,_,_,_,_,_]) (L1:=[8,9,10,11,12,13,14]) (L2:=[7,8,9,10,11,13,14]) [67] [] Z Z Z Z Z Z Z ?_ ?_
  ·refine kJ Z Z Cal.h Z (zcz hT) vQ fun r22 K23 h24=>⟨?_,?_⟩
   ·rcases h24 with ⟨rfl,rfl⟩
    all_goals simp
   obtain ⟨rfl,rfl⟩:=h24;try simp only [cA]
   refine bS (Wk:=[_,_,_,_,_,_,_,_,_,_,_,_,_,_,_,_,_,_,_,_,_,_,_,_,_,_,_,_,_,_,_,_,_,_,_,_,_,_,_,_,_,_,_,_,_,_,_,_,_,_,_,_,_,_,_,_,_,_,_,_,_,_,_,_,_,_,_,_,_,_,_,_,_,_,_,_,_,_,_,_,_,_,_,_,_,_,_,_,_,_,_,_,_,_,_,_,_,_,_,_,_,_,_,_,_,_,_,_,_,_,_,_,_,_,_,_,_,_,_,_,_,_,_,_,_,_,_,_,_,_,_,_,_,_,_,_,_,_,_,_,_,_,_,_,_,_,_,_,_,_,_,_,_,_,_,_,_,_,_,_,_,_,_,_,_,_,_,_,_,_,_,_,_,_,_]) Z ?_;refine TD.c2 (i1:=8) (i2:=12) (pend1:=[_,_,_,_]) (pend2:=[_,_,_,_,_,_]) (L1:=[9,10,11,12,13,14]) (L2:=[8,9,10,11,13,14]) [61,62,68] [] Z Z Z Z Z Z Z ?_ ?_
   ·refine kJ Z Z Cal.h Z (zav hT (Zq:=Zo) (i:=n) (v:=c) hbo hn (fun x hx=>hcx x hx) hne2) vQ fun r25 K26 h27=>⟨?_,?_⟩
    ·rcases h27 with ⟨g2,Y2,rfl,hY1,hY2,hY3,rfl⟩
     all_goals simp
    obtain ⟨g2,Y2,rfl,hY1,hY2,hY3,rfl⟩:=h27;try simp only [cA]
    refine bS (Wk:=[_,_,_,_,_,_,_,_,_,_,_,_,_,_,_,_,_,_,_,_,_,_,_,_,_,_,_,_,_,_,_,_,_,_,_,_,_,_,_,_,_,_,_,_,_,_,_,_,_,_,_,_,_,_,_,_,_,_,_,_,_,_,_,_,_,_,_,_,_,_,_,_,_,_,_,_,_,_,_,_,_,_,_,_,_,_,_,_,_,_,_,_,_,_,_,_,_,_,_,_,_,_,_,_,_,_,_,_,_,_,_,_,_,_,_,_,_,_,_,_,_,_,_,_,_,_,_,_,_,_,_,_,_,_,_,_,_,_,_,_,_,_,_,_,_,_,_,_,_,_,_,_,_,_,_,_,_,_,_,_,_,_,_,_,_,_,_,_,_,_,_,_,_,_,_]) Z ?_;refine TD.perm (lH (l₁:=(1,_)::(g2,_)::(mkK Y2++((jo,_)::mkK Zo)))) ?_;simp only [cA];refine ad [[1,69],[5,60],[5,60]] ?_;refine TD.cnewP (Wx:=[_,_,_,_,_,_,_]) [] Z Z Z Z Z (yN Z TyZA.h) (fun _=>zx rfl tQ) sQ fun jq hjq=>?_;refine bR (Wx:=[_]) [20,70] Z Z (zE Z Z ze.h Z Z mQ Z) ?_;refine ad [[13,71],[14]] ?_;refine bA [6,7,15,16,17,18,19,20,21] ?_;refine bC ((jq,_)::(jb,_)::(jz,_)::(0,_)::(s,_)::(h,_)::(e,_)::(jc,_)::(jl,_)::(1,_)::(g2,_)::mkK Y2) ?_ (hs:=(by repeat (first | exact wY _ _ | exact Split.none _ | exact Split.all _ | (apply Split.rem; repeat (first | exact Rem.head | apply Rem.tail)) | apply Split.right)));exact H (jq,g2,Y2) ⟨hY1,hY2,hY3⟩
   ·refine wg Z (yN Z TyZA.h) (fun _=>zx rfl tQ) sQ fun jq hjq=>?_;refine TD.cl (Wx:=[_,_,_,_]) [61,62,68] Z Z Z Z Z (zav hT (Zq:=Zo) (i:=n) (v:=c) hbo hn (fun x hx=>hcx x hx) hne2) (fun r28 K29 h30=>⟨?_,?_⟩)
    ·rcases h30 with ⟨g2,Y2,rfl,hY1,hY2,hY3,rfl⟩
     all_goals simp
    obtain ⟨g2,Y2,rfl,hY1,hY2,hY3,rfl⟩:=h30;try simp only [cA]
    refine bS tQ ?_;refine TD.perm (lH (l₁:=(1,_)::(g2,_)::(mkK Y2++((jo,_)::mkK Zo)))) ?_;simp only [cA];refine ad [[1,69],[5,60],[5,60]] ?_;refine bR (Wx:=[_]) [20,70] Z Z (zE Z Z ze.h Z Z mQ Z) ?_;refine ad [[13,71],[14]] ?_;refine bA [6,7,15,16,17,18,19,20,21] ?_;refine bC ((jq,_)::(jb,_)::(jz,_)::(0,_)::(s,_)::(h,_)::(e,_)::(jc,_)::(jl,_)::(1,_)::(g2,_)::mkK Y2) ?_ (hs:=(by repeat (first | exact wY _ _ | exact Split.none _ | exact Split.all _ | (apply Split.rem; repeat (first | exact Rem.head | apply Rem.tail)) | apply Split.right)));exact H (jq,g2,Y2) ⟨hY1,hY2,hY3⟩
  ·refine wg Z (yN Z TyZA.h) (fun _=>zx rfl tQ) sQ fun jq hjq=>?_;refine TD.clE (Wx:=[_,_,_,_,_,_]) [67] Z Z Z Z Z (zcz hT) ?_;refine TD.cl (Wx:=[_,_,_,_]) [61,62,68] Z Z Z Z Z (zav hT (Zq:=Zo) (i:=n) (v:=c) hbo hn (fun x hx=>hcx x hx) hne2) (fun r34 K35 h36=>⟨?_,?_⟩)
   ·rcases h36 with ⟨g2,Y2,rfl,hY1,hY2,hY3,rfl⟩
    all_goals simp
   obtain ⟨g2,Y2,rfl,hY1,hY2,hY3,rfl⟩:=h36;try simp only [cA]
   refine bS tQ ?_;refine TD.perm (lH (l₁:=(1,_)::(g2,_)::(mkK Y2++((jo,_)::mkK Zo)))) ?_;simp only [cA];refine ad [[1,69],[5,60],[5,60]] ?_;refine bR (Wx:=[_]) [20,70] Z Z (zE Z Z ze.h Z Z mQ Z) ?_;refine ad [[13,71],[14]] ?_;refine bA [6,7,15,16,17,18,19,20,21] ?_;refine bC ((jq,_)::(jb,_)::(jz,_)::(0,_)::(s,_)::(h,_)::(e,_)::(jc,_)::(jl,_)::(1,_)::(g2,_)::mkK Y2) ?_ (hs:=(by repeat (first | exact wY _ _ | exact Split.none _ | exact Split.all _ | (apply Split.rem; repeat (first | exact Rem.head | apply Rem.tail)) | apply Split.right)));exact H (jq,g2,Y2) ⟨hY1,hY2,hY3⟩
 ·rintro ⟨jq,g2,Y2⟩ ⟨hY1,hY2,hY3⟩;refine bG nQ ?_;dsimp only at hY1 hY2 hY3 ⊢;refine au 168042 ?_;refine bD Z Z Z Z (zcM hT (Zq:=Y2) (i:=n) hY2 oQ (by rw [hY1]; exact hne2)) ?_;rintro r37 K38 ⟨jm,z2,rfl,rfl⟩;refine au 0 ?_;refine bN (lH (l₁:=(jm,_)::(1,_)::(g2,_)::mkK Y2)) ?_;simp only [cA];rw [hY1,hsv];refine au 22355661 ?_;refine bL [0,1,2,3,4,5,6,7,8,9,10,11,12,13,14,15,16,17,18,19,20,21,22,23,24,25,26,27,28,29,30,31,32,33,34,35,36,37,38,39,40,41,42,43,44,45,46,47,48,49,50,51,52,53,54,55,56,57,58] ?_;refine ad [[1,19],[4,78],[1,79],[1,21,80],[4,80,81],[6,80,82],[1,83],[1,23,84],[4,84,85],[6,84,86],[1,87],[1,18,88],[3,15,88],[10,88,90],[1,16,88],[2,88,91,92]] ?_;refine bT [88,93] Z (hq:=zj Z Z ze.h (mC _) (yb hcse.1 Z)) (h:=?_);refine TD.clE (Wx:=[_,_,_,_,_,_,_,_,_,_,_,_,_,_]) [88,89,94] Z Z Z Z Z (uo hT (l:=seatsT (skB st wr Zo) n) oQ) ?_;rw [decide_eq_true hcm];refine bU [88,95] Z (q_not Z Z) ?_;refine ad [[6,88,96],[1,97],[1,22,98],[3,15,98],[10,98,100],[1,16,98],[2,98,101,102]] ?_;refine bT [98,103] Z (hq:=zj Z Z ze.h (mC _) (yb hcse.1 Z)) (h:=?_);refine bV (Wx:=[_,_,_,_,_,_,_,_,_,_,_,_,_,_,_,_,_,_,_,_,_]) [98,104] Z Z Z Z Z (zu (l:=[_]) Z zq.h TyZ.h dQ dQ Z) (fun _=>zx rfl tQ) sQ fun j43 hj43=>?_;refine TD.cl (Wx:=[_,_,_,_,_,_,_,_,_,_,_,_,_,_,_,_,_,_,_,_]) [98,99,105] Z Z Z Z Z ((wV hT (j:=jm) (off:=0) (xs:=[c]) (ys:=[c]) (ob:=.cells (([c]++z2).map za) 3 ff) (fun i x hx=>zah hx) (by show 1<=1000; decide)).mono (fun _ _ h=>trT h rfl)) (fun r44 K45 h46=>⟨?_,?_⟩)
  ·rcases h46 with ⟨rfl,rfl⟩
   all_goals simp
  obtain ⟨rfl,rfl⟩:=h46;try simp only [cA]
  refine bS tQ ?_;refine bU [98,106] Z (q_not Z Z) ?_;refine ad [[6,98,107],[1,108],[1,18,109],[2,109,110]] ?_;refine bT [109,111] Z (hq:=zj Z Z ze.h (mC _) (yb hl0 Z)) (h:=?_);refine ad [[4,109,112],[6,109,113],[1,114]] ?_;refine TD.sp 115 (fun g9_38=>?_) (fun g9_38=>?_)
  ·simp at g9_38; omega
  refine ad [[1,18,115],[1,18,115]] ?_;refine bU [115,117] Z (q_len Z Z Z Und.h) ?_;refine ad [[9,115,118],[2,115,116,119]] ?_;refine bT [115,120] Z (hq:=zj Z Z ze.h (mC _) (yb hll oQ)) (h:=?_);refine ad [[4,115,121],[6,115,122],[1,123]] ?_;refine TD.sp 124 (fun g9_47=>?_) (fun g9_47=>?_)
  ·simp at g9_47; omega
  refine ad [[1,18,124],[1,18,124]] ?_;refine bU [124,126] Z (q_len Z Z Z Und.h) ?_;refine ad [[9,124,127],[2,124,125,128]] ?_;refine bT [124,129] Z (hq:=zj Z Z ze.h (mC _) (yb hll oQ)) (h:=?_);refine ad [[1,18,124],[2,124,131]] ?_;refine bT [124,132] Z (hq:=zj Z Z ze.h (mC _) (yb hl0 Z)) (h:=?_);refine ad [[9,124,130,133],[4,124,134],[6,124,135],[14]] ?_;refine au 9 ?_;constructor<;>intro Jx
  ·simp at Jx; omega
  refine au 2317067042120 ?_;refine bC ((jb,.cells [za b.steps,za b.round,za b.roll,za b.rolls,.sl s 0 b.sE.length,.sl h 0 b.sH.length,.v (.slice none 0 0)] 26 tt)::(0,_)::(s,_)::(h,_)::(jl,_)::[(jm,_)]) ?_;refine TK.virtAt (i:=6) (e:=88) (size:=4) Z (fun _=>uQ) fun e0 he0=>?_;simp only [List.set];refine TK.unrowAt (c:=jb) (i:=6) (j:=e0) Z mQ uQ ?_;refine bY (j:=e0) ?_;obtain ⟨b0,hb0⟩:∃ b0,b0=noMes b:=⟨_,rfl⟩;have hs0:b0.sE.length=b.sE.length:=by rw [hb0]; rfl
  have hh0:b0.sH.length=b.sH.length:=by rw [hb0]; rfl
  have hm0:b0.mE=[]:=by rw [hb0]; rfl
  have hcl5:=hbb.cls.len;refine bC [(jb,.cells (zH (noMes b) s h e0) 26 tt),(0,_),(s,zp (noMes b)),(h,zF (noMes b)),(e0,zz (noMes b)),(jl,_),(jm,_)] ?_;rw [<- hb0];refine' TK.shareX (X:=Nat×Nat×Nat×Nat) (D:=fun _=>True) (E:=fun x=>naL 6 (.v (.int .u8 (k6:Int))::.ptr jb 0::naL 9 (za i::naL 6 (.ptr x.1 0::.ptr x.2.1 0::naL 149 [])))) (KK:=fun x=>[(x.1,.cells (zH (z8 b0 i ⟨2+l0,2+ll⟩) s x.2.2.1 e0) 26 tt),(x.2.1,.cells (zH (z8 b0 i ⟨2+c,2+c⟩) s x.2.2.2 e0) 26 tt),(x.2.2.1,zF (z8 b0 i ⟨2+l0,2+ll⟩)),(x.2.2.2,zF (z8 b0 i ⟨2+c,2+c⟩)),(jb,.cells (zH b0 s h e0) 26 tt),(0,zB),(s,zp b0),(h,zF b0),(e0,zz b0)]) (fun H=>?_) ?_;rotate_left
  ·refine TK.dr [0,1,2,3,4,5,6,7,8,9,10,11,12,15,16,17,18,19,20,13,14,21,22,23,24,25,26] [0,1,2,3,4,5,6,7,8,9,10,11,12,13,14,15,16,17,18,19,20,21,22,23,24,25,26] ?_;refine ad [[12,7],[1,17],[1,18],[2,140]] ?_;refine bT [141] Z (hq:=zj Z Z ze.h (mC _) (yb hl0 Z)) (h:=?_);refine ad [[8,142],[1,18],[1,18]] ?_;refine bU [145] Z (q_len Z Z Z Und.h) ?_;refine ad [[9,146],[2,144,147]] ?_;refine bT [148] Z (hq:=zj Z Z ze.h (mC _) (yb hll oQ)) (h:=?_);refine ad [[8,149],[12,7],[1,17],[1,22],[2,155]] ?_;refine bT [156] Z (hq:=zj Z Z ze.h (mC _) (zah (xs:=[c]) (i:=0) Z)) (h:=?_);refine ad [[8,157]] ?_
   repeat' first
    | exact True.intro
    | refine And.intro ?_ ?_
    | (refine Nx.at 23 ?_; refine Nx.al 23 rfl rfl rfl TyZA.h (fun _=>zx rfl tQ) fun jw1 hjw1=>?_)
    | (refine Nx.at 24 ?_; refine Nx.al 24 rfl rfl rfl TyZA.h (fun _=>zx rfl tQ) fun jn1 hjn1=>?_)
    | (refine Nx.at 13 ?_; refine Nx.cl 13 (Wx:=[_,_,_,_,_,_,_,_,_,_,_,_,_,_,_,_,_]) [143,150] Z Z Z Z Z (to_ok hT) (fun r K' hh=>⟨?_,?_⟩); (focus (rcases hh with ⟨rfl,rfl⟩; all_goals simp)); obtain ⟨rfl,rfl⟩:=hh;(try simp only [cA]); refine bS tQ ?_)
    | (refine Nx.at 14 ?_; refine Nx.cl 14 (Wx:=[_,_,_,_,_,_,_,_,_,_,_,_,_,_,_]) [138,139,151] Z Z Z Z Z (zdE hT (b:=b0) (s:=s) (h:=h) (e:=e0) (i:=i) (x:=⟨2+l0,2+ll⟩) oQ oQ) (fun r K' hh=>⟨?_,?_⟩); (focus (rcases hh with ⟨h2,rfl,rfl⟩; all_goals simp)); obtain ⟨h2,rfl,rfl⟩:=hh;(try simp only [cA]); refine bS tQ ?_)
    | (refine Nx.at 21 ?_; refine Nx.cl 21 (Wx:=[_,_,_,_,_,_,_,_,_,_,_,_,_,_]) [158] Z Z Z Z Z (zcz hT) (fun r K' hh=>⟨?_,?_⟩); (focus (rcases hh with ⟨rfl,rfl⟩; all_goals simp)); obtain ⟨rfl,rfl⟩:=hh;(try simp only [cA]); refine bS tQ ?_)
    | (refine Nx.at 22 ?_; refine Nx.cl 22 (Wx:=[_,_,_,_,_,_,_,_,_,_,_,_]) [153,154,159] Z Z Z Z Z (zdE hT (b:=b0) (s:=s) (h:=h) (e:=e0) (i:=i) (x:=⟨2+c,2+c⟩) oQ oQ) (fun r K' hh=>⟨?_,?_⟩); (focus (rcases hh with ⟨h3,rfl,rfl⟩; all_goals simp)); obtain ⟨h3,rfl,rfl⟩:=hh;(try simp only [cA]); refine bS tQ ?_)
    | (refine Go.Vel.TD.fin ?_; refine bA [6,7,17,24,25] ?_;refine bC [(jw1,_),(jn1,_),(h2,_),(h3,_),(jb,_),(0,_),(s,_),(h,_),(e0,_)] ?_;exact H (jw1,jn1,h2,h3) trivial)
    | (refine TD.at 25 ?_; refine bR (Wx:=[_,_,_]) [24,152] rfl rfl (zE rfl rfl ze.h rfl rfl mQ rfl) ?_)
    | (refine TD.at 26 ?_; refine bR (Wx:=[]) [25,160] rfl rfl (zE rfl rfl ze.h rfl rfl mQ rfl) ?_)
    | refine TD.cA rfl ?_
  ·rintro ⟨jw1,jn1,h2,h3⟩ _;refine bG nQ ?_
   (try dsimp only)
   refine au 680422 ?_;refine TK.clE Z Z Z Z (zdw hT (b:=(z8 b0 i ⟨2+l0,2+ll⟩)) (s:=s) (h:=h2) (e:=e0) (show b0.sE.length<=100 by omega) (show b0.mE.length<=100 by rw [hm0]; decide)) ?_;refine au 937 ?_;constructor<;>intro hc2
   ·refine au 42 ?_;refine TK.clE Z Z Z Z (zbr) ?_;refine au 35 ?_;refine bB Wz [] ?_;rfl
   have hcw:zy (z8 b0 i ⟨2+l0,2+ll⟩)=0:=by simpa using hc2
   obtain ⟨hcn,hn2,Qv,hlen2⟩:=zif hm0 oQ hcw (show 2+l0<=2+c by omega) (show 2+c<=2+ll by omega);have hbw:=zX hcw;rw [<- vt b0 i ⟨2+l0,2+ll⟩ ⟨2+c,2+c⟩,vW] at hcn hn2 Qv hlen2;rw [<- vt b0 i ⟨2+l0,2+ll⟩ ⟨2+c,2+c⟩,vW];refine au 2120 ?_;refine bL [0,1,2,3,4,5,6,7,8,9,10] ?_;refine ad [[12,24],[12,25],[1,17],[12,7],[1,6]] ?_;refine TD.cl (Wx:=[_,_,_]) [168,169] Z Z Z Z Z (zmb hT (show 1<=b0.sE.length/\b0.sE.length<=5 by omega) (show k6<256 by omega)) (fun r245 K246 h247=>⟨?_,?_⟩)
   ·rcases h247 with ⟨jo2,eo,rfl,rfl⟩
    all_goals simp
   obtain ⟨jo2,eo,rfl,rfl⟩:=h247;try simp only [cA]
   refine bS tQ ?_;obtain ⟨d,hd0,hd1,hdo⟩:=zh9 (c:=k6) (n:=b0.sE.length) oQ oQ;have hcc:CutsOk (z8 b0 i ⟨2+l0,2+ll⟩) (otherM k6 b0.sE.length):=hdo ▸ zdu hbw hd0 hd1;generalize otherM k6 b0.sE.length=lo at hcc ⊢;refine TD.clE (Wx:=[]) [165,166,167,170] Z Z Z Z Z (zhA (b:=(z8 b0 i ⟨2+l0,2+ll⟩)) (sh:=(z8 b0 i ⟨2+l0,2+ll⟩).sH.set i ⟨2+c,2+c⟩) (h:=h2) (h2:=h3) (i:=i) (l:=lo) (et:=eo) hcw hcn hn2 Qv hlen2 (show i<b0.sE.length by omega) hcc) ?_;refine ad [[1,171]] ?_;refine TD.clE (Wx:=[]) [172] Z Z Z Z Z (zbr) ?_;refine ad [[7,172,173],[13,174],[14]] ?_;refine au 0 ?_;refine bB Wz [] ?_;rfl
end Go.Vel
end
