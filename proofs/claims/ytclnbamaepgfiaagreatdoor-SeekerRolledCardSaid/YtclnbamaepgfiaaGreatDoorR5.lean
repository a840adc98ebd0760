/- Texts for the law SeekerRolled (chapters 8 and 9), part 6. It holds of every program, tape and world that the statements name, as each theorem says. -/
import Derived.Test.YtclnbamaepgfiaaGreatDoorProg
import Derived.Test.YtclnbamaepgfiaaGreatDoorR1
import Derived.Test.YtclnbamaepgfiaaGreatDoorR3
import Derived.Test.YtclnbamaepgfiaaGreatDoorR4
open Go renaming Goroutine -> gG, TypeId -> gT, Program -> gP, FuncId -> gF
open Bool renaming true -> tt, false -> ff
section
set_option linter.all false
set_option maxRecDepth 20000
set_option maxHeartbeats 60000000
open Go.Proofs.Tryz renaming prog -> tp
open List renaming getElem?_eq_getElem -> lA, getElem?_eq_some_iff -> lD, getD_eq_getElem?_getD -> lE, length_append -> lF, getElem?_append_left -> lG, perm_append_comm -> lH, mem_cons -> lI, map_append -> lM, mem_of_getElem? -> lN, getElem?_set_ne -> lP, getElem?_map -> lQ, append_nil -> lR, mem_singleton -> lS, getElem?_eq_none -> lU, take_length -> lW, getElem?_set -> lX, length_cons -> lZ, replicate -> mB
open Array renaming getElem?_eq_getElem -> mD
open Nat renaming le_refl -> mL, zero_le -> mN, zero_add -> mO, le_trans -> mT
open Bool renaming not_eq_true' -> mV, not_eq_false' -> mW
open Int renaming toNat_natCast -> mZ
open Go.Vel.TK renaming maskL -> bA, rt -> bB, kp -> bC, cl -> bD, loopN -> bE, sp -> bF, a -> bH, dq -> bL, perm -> bN
open Go.Vel.TD renaming z -> bU
namespace Go.Vel
open Go Go.Conc
section
variable {φ:Nat->Loc3}{A:List AObj}{H:Hp}
theorem zeq{n:Nat}{loc:Loc3}{w:AObj}(h:RelO φ n loc H w)(hl:w.live=tt)(hs:sol loc w):∃ x,H loc.blk=some x:=by
 cases w with
 | cells l e rw'=>obtain⟨r,cur,q,h1,_⟩:=h hs;exact⟨_,h1⟩
 | row l e size=>obtain⟨_,_,hc⟩:=h;obtain⟨cur,h1,_⟩:=hc hs;exact⟨_,h1⟩
 | raw o=>exact⟨_,h⟩
 | loop f Wq ps x y st pj=>obtain⟨ts,d,h1,_⟩:=h;exact⟨_,h1⟩
 | gone=>cases hl
 | ro o=>obtain⟨r,h⟩:=h;exact⟨_,h⟩
theorem zkd{n:Nat}{loc:Loc3}{w:AObj}(h:RelO φ n loc H w)(he:w.excl=tt)(hs:sol loc w):∃ o,H loc.blk=some (tt,o):=by
 cases w with
 | cells l e rw' =>
  obtain⟨r,cur,q,h1,h2,_⟩:=h hs;have hr:rw'=tt:=he;rw[(h2 hr).1.1]at h1;exact⟨_,h1⟩
 | row l e size=>obtain⟨_,_,hc⟩:=h;obtain⟨cur,h1,_⟩:=hc hs;exact⟨_,h1⟩
 | raw o=>exact⟨_,h⟩
 | loop f Wq ps x y st pj=>obtain⟨ts,d,h1,_⟩:=h;exact⟨_,h1⟩
 | gone=>cases he
 | ro o=>cases he
theorem zhw(h:RelH φ A nF H){j:Nat}(hj:A[j]? =some .gone){o:AObj}(ho:RelO φ A.length (φ j) H o)(hd:∀ t w,A[t]? =some w->t≠j->w.live=tt->sol (φ t) w->(φ t).blk≠(φ j).blk):RelH φ (A.set j o) nF H:=by
 have hg:∀ t w,(A.set j o)[t]? =some w->(t=j/\w=o)\/(t≠j/\A[t]? =some w):=fun t w ht=>by
  rw[lX]at ht;split at ht
  ·rename_i e';split at ht
   ·cases ht;exact .inl ⟨e'.symm,rfl⟩
   ·cases ht
  ·rename_i e';exact .inr ⟨fun h=>e' h.symm,ht⟩
 refine⟨fun t w ht=>?_,fun t t' w w' ht ht' hn he hl s1 s2=>?_,h.fr,fun t w ht he hs=>rfl⟩
 ·rw[List.length_set];rcases hg t w ht with⟨rfl,rfl⟩|⟨_,h2⟩
  ·exact ho
  ·exact h.obj t w h2
 ·have lv:∀{z:AObj},z.excl=tt->z.live=tt:=fun {z} hz=>by cases z <;> first|rfl|cases hz
  rcases hg t w ht with⟨rfl,rfl⟩|⟨hne,h2⟩
  ·rcases hg t' w' ht' with⟨rfl,rfl⟩|⟨hne',h2'⟩
   ·exact absurd rfl hn
   ·exact fun e=>hd t' w' h2' hne' hl s2 e.symm
  ·rcases hg t' w' ht' with⟨rfl,rfl⟩|⟨_,h2'⟩
   ·exact hd t w h2 hne (lv he) s1
   ·exact h.apart t t' w w' h2 h2' hn he hl s1 s2
theorem znU(h:RelH φ A nF H){loc:Loc3}{l:List AV}{e:gT}(ho:RelO (yc φ A.length loc) (A.length+1) loc H (.cells l e ff))(hd:∀ t w,A[t]? =some w->w.excl=tt->sol (φ t) w->(φ t).blk≠loc.blk):RelH (yc φ A.length loc) (A++[.cells l e ff]) nF H:=by
 have hu:∀ t,t<A.length->yc φ A.length loc t=φ t:=fun t ht=>yn φ A.length loc t ht;have hu':yc φ A.length loc A.length=loc:=by simp[yc]
 have hg:∀ t w,(A++[AObj.cells l e ff])[t]? =some w->(t=A.length/\w=.cells l e ff)\/(t<A.length/\A[t]? =some w):=fun t w ht=>by
  rcases Nat.lt_trichotomy t A.length with Qp|heq|hgt
  ·rw[lG Qp]at ht;exact .inr ⟨Qp,ht⟩
  ·subst heq;rw[List.getElem?_append_right (mL _),Nat.sub_self]at ht;cases ht;exact .inl ⟨rfl,rfl⟩
  ·rw[lU (by simp;omega)]at ht;cases ht
 have Wb:(A++[AObj.cells l e ff]).length=A.length+1:=by simp
 refine⟨fun t w ht=>?_,fun t t' w w' ht ht' hn he hl s1 s2=>?_,h.fr,fun t w ht he hs=>rfl⟩
 ·rw[Wb];rcases hg t w ht with⟨rfl,rfl⟩|⟨Qp,h2⟩
  ·rw[hu'];exact ho
  ·rw[hu t Qp];exact(h.obj t w h2).mono (yn _ _ _) oQ (fun _ _=>rfl)
 ·rcases hg t w ht with⟨rfl,rfl⟩|⟨Qp,h2⟩
  ·cases he
  ·rw[hu t Qp]at s1 ⊢;rcases hg t' w' ht' with⟨rfl,rfl⟩|⟨hlt',h2'⟩
   ·rw[hu'];exact hd t w h2 he s1
   ·rw[hu t' hlt']at s2 ⊢;exact h.apart t t' w w' h2 h2' hn he hl s1 s2
abbrev z9:List Value:=[.slice none 0 0,.int .i64 0,.bool ff]
def GIb(lo:Loc3)(tO:gT):Option (List Int×Int)->Hp->Prop
 | none,L=>L=oneB lo.blk (tt,.cells #[.slice none 0 0,.int .i64 0,.bool ff] tO (0,0))
 | some (cs,cost),L=>∃ rb rbase cap cur q,rb≠lo.blk/\cs≠[]/\cs.length<=cap/\(∀(j:Nat)(a:Int),cs[j]? =some a->cur[rbase+j]? =some (.int .i64 a)) /\
   L=fun c=>if c=lo.blk then some (tt,.cells #[.slice (some ⟨rb,rbase,none⟩) cs.length cap,.int .i64 cost,.bool tt] tO (0,0))else if c=rb then some (ff,.cells cur (q:gT×Nat×Nat).1 q.2)else none
def PLb(jo:Nat)(tO:gT):Option (List Int×Int)->KV->Prop
 | none,K=>K=[(jo,.cells (z9.map AV.v) tO tt)]
 | some (cs,cost),K=>∃ jr e,K=[(jr,.cells (cs.map fun a=>.v (.int .i64 a)) e ff),(jo,.cells [.sl jr 0 cs.length,.v (.int .i64 cost),.v (.bool tt)] tO tt)]
theorem zlv(H L:Hp):H.ext (H.join L):=fun b x hb=>by
 show(H b).or (L b)=some x;rw[hb];rfl
theorem zjp{lo:Nat×Loc3}{tO:gT}{b:Option (List Int×Int)}{L:Hp}(hG:GIb lo.2 tO b L)(hb0:lo.2.base=0)(Qp:lo.1<A.length)(hφ:φ lo.1=lo.2)(hv:zU [(lo.1,.gone)] A)(hH:RelH φ A nF H)(hD:H.Dis L)(hA:Agrees H L) :
  ∃ φ' A' K',Agr φ φ' A.length/\A.length<=A'.length/\Kstep [(lo.1,.gone)] A K' A'/\PLb lo.1 tO b K'/\RelH φ' A' nF (H.join L):=by
 have hgone:=hv _ (lS.2 rfl);have hJ:=hH.ext (zlv H L);have hk1:(keys [(lo.1,AObj.gone)]).Nodup:=by simp[keys]
 cases b with
 | none =>
  have hL:L=oneB lo.2.blk (tt,.cells #[.slice none 0 0,.int .i64 0,.bool ff] tO (0,0)):=hG;have hLo:L lo.2.blk=some (tt,.cells #[.slice none 0 0,.int .i64 0,.bool ff] tO (0,0)):=by rw[hL];simp[oneB]
  have hHo:H lo.2.blk=none:=hD.2 _ _ hLo;have hJo:(H.join L) lo.2.blk=some (tt,.cells #[.slice none 0 0,.int .i64 0,.bool ff] tO (0,0)):=by show(H _).or (L _)=_;rw[hHo,hLo];rfl
  refine⟨φ,A.set lo.1 (.cells (z9.map AV.v) tO tt),_,Agr.refl _ _,by simp,.set hv hk1 .head,rfl,zhw hJ hgone ?_ ?_⟩
  ·rw[hφ];intro _;refine⟨tt,_,(tO,0,0),hJo,fun _=>⟨⟨rfl,rfl⟩,hb0,rfl⟩,fun j a ha=>?_⟩;rw[hb0,mO];rcases j with _|_|_|j <;> simp at ha <;> subst ha <;> exact⟨_,rfl,.v _⟩
  ·intro t w ht hne hl hs e;rw[hφ]at e;obtain⟨x,hx⟩:=zeq (hH.obj t w ht) hl hs;rw[e,hHo]at hx;cases hx
 | some z =>
  obtain⟨cs,cost⟩:=z;obtain⟨rb,rbase,cap,cur,q,hrb,hcs,hcap,hcur,hL⟩:=hG;have hLo:L lo.2.blk=some (tt,.cells #[.slice (some ⟨rb,rbase,none⟩) cs.length cap,.int .i64 cost,.bool tt] tO (0,0)):=by rw[hL];simp
  have hLr:L rb=some (ff,.cells cur q.1 q.2):=by rw[hL];simp[hrb]
  have hHo:H lo.2.blk=none:=hD.2 _ _ hLo;have hJo:(H.join L) lo.2.blk=some (tt,.cells #[.slice (some ⟨rb,rbase,none⟩) cs.length cap,.int .i64 cost,.bool tt] tO (0,0)):=by show(H _).or (L _)=_;rw[hHo,hLo];rfl
  have hJr:∃ r,(H.join L) rb=some (r,.cells cur q.1 q.2):=by
   cases e:H rb with
   | none=>exact⟨ff,by show(H _).or (L _)=_;rw[e,hLr];rfl⟩
   | some x =>
    obtain⟨r,o⟩:=x;exact⟨r,by show(H _).or (L _)=_;rw[e,hA rb r o _ _ e hLr];rfl⟩
  obtain⟨r,hJr⟩:=hJr;have hR1:RelH (yc φ A.length ⟨rb,rbase,cap⟩) (A++[.cells (cs.map fun a=>.v (.int .i64 a)) 0 ff]) nF (H.join L):=by
   refine znU hJ (fun _=>⟨r,cur,q,hJr,(fun h=>by cases h),fun j a ha=>?_⟩) fun t w ht he hs e=>?_
   ·rw[lQ]at ha;cases e:cs[j]? with
    | none=>rw[e]at ha;cases ha
    | some z =>
     rw[e]at ha;cases ha;exact⟨_,hcur j z e,.v _⟩
   ·obtain⟨o,hx⟩:=zkd (hH.obj t w ht) he hs;have e':(φ t).blk=rb:=e;have:=hD.1 _ _ hx;rw[e',hLr]at this;cases this
  have hu:yc φ A.length ⟨rb,rbase,cap⟩ lo.1=φ lo.1:=yn _ _ _ _ Qp;have hu':yc φ A.length ⟨rb,rbase,cap⟩ A.length=⟨rb,rbase,cap⟩:=by simp[yc]
  have hv1:zU ((A.length,.cells (cs.map fun a=>.v (.int .i64 a)) 0 ff)::[(lo.1,.gone)]) (A++[.cells (cs.map fun a=>.v (.int .i64 a)) 0 ff]):=(Kstep.push hv hk1 _).view;have hgone1:(A++[AObj.cells (cs.map fun a=>.v (.int .i64 a)) 0 ff])[lo.1]? =some .gone:=by rw[lG Qp];exact hgone
  refine⟨_,(A++[AObj.cells (cs.map fun a=>.v (.int .i64 a)) 0 ff]).set lo.1 (.cells [.sl A.length 0 cs.length,.v (.int .i64 cost),.v (.bool tt)] tO tt),_,yn φ A.length ⟨rb,rbase,cap⟩,by simp,?_,⟨A.length,0,rfl⟩,zhw hR1 hgone1 ?_ ?_⟩
  ·have s1:=Kstep.push hv hk1 (.cells (cs.map fun a=>.v (.int .i64 a)) 0 ff);have s2:=Kstep.set (o':=.cells [.sl A.length 0 cs.length,.v (.int .i64 cost),.v (.bool tt)] tO tt) s1.view s1.nd (.tail (.head (i:=lo.1)));refine⟨s2.view,s2.nd,fun i hi=>?_,fun t ht hn=>?_,mT s1.len s2.len⟩
   ·rcases s2.own i hi with h'|h'
    ·exact s1.own i h'
    ·exact .inr (mT s1.len h')
   ·rw[s2.kept t (Nat.lt_of_lt_of_le ht s1.len) (fun hm=>?_)]
    ·exact s1.kept t ht hn
    ·rcases s1.own t hm with h'|h'
     ·exact hn h'
     ·omega
  ·rw[hu,hφ];intro _;refine⟨tt,_,(tO,0,0),hJo,fun _=>⟨⟨rfl,rfl⟩,hb0,rfl⟩,fun j a ha=>?_⟩;rw[hb0,mO];rcases j with _|_|_|j <;> simp at ha <;> subst ha
   ·refine⟨_,rfl,.sl sQ hcap fun _=>?_⟩;rw[hu',Nat.add_zero]
   ·exact⟨_,rfl,.v _⟩
   ·exact⟨_,rfl,.v _⟩
  ·intro t w ht hne hl hs e;rw[hu,hφ]at e;rcases Nat.lt_or_ge t A.length with hlt'|hge
   ·rw[lG hlt']at ht;rw[yn _ _ _ _ hlt']at e hs;obtain⟨x,hx⟩:=zeq (hH.obj t w ht) hl hs;rw[e,hHo]at hx;cases hx
   ·have:t=A.length:=by
     have:=(lD.1 ht).1;simp at this;omega
    subst this;rw[hu']at e;exact hrb e
theorem zm8{lo:Nat×Loc3}{tO e:gT}{jr:Nat}{cs:List Int}{cost:Int}{K:KV}(hcs:cs≠[])(hr:(jr,AObj.cells (cs.map fun a=>.v (.int .i64 a)) e ff)∈K)(ho:(lo.1,AObj.cells [.sl jr 0 cs.length,.v (.int .i64 cost),.v (.bool tt)] tO tt)∈K)(hφ:φ lo.1=lo.2)(hv:zU K A)(hH:RelH φ A nF H) :
  ∃ L,L.Sub H/\GIb lo.2 tO (some (cs,cost)) L:=by
 have ar:=hv _ hr;have ao:=hv _ ho;have hne:lo.1≠jr:=fun h=>by
  have ar':A[jr]? =some (AObj.cells (cs.map fun a=>.v (.int .i64 a)) e ff):=ar;have ao':A[lo.1]? =some (AObj.cells [.sl jr 0 cs.length,.v (.int .i64 cost),.v (.bool tt)] tO tt):=ao;rw[h,ar']at ao';have hx:=congrArg AObj.excl (Option.some.inj ao');simp[AObj.excl]at hx
 obtain⟨r,cur,q,h1,_,h3⟩:=hH.obj jr _ ar (by simpa using hcs);obtain⟨r',cur',q',g1,g2,g3⟩:=hH.obj lo.1 _ ao sQ;obtain⟨⟨rfl,rfl⟩,gb,gs⟩:=g2 rfl;have hblk:(φ lo.1).blk≠(φ jr).blk:=hH.apart lo.1 jr _ _ ao ar hne rfl rfl (by simp[sol]) (by simpa[sol]using hcs);obtain⟨y0,hy0,r0⟩:=g3 0 _ rfl;obtain⟨y1,hy1,r1⟩:=g3 1 _ rfl;obtain⟨y2,hy2,r2⟩:=g3 2 _ rfl;rw[gb,mO]at hy0 hy1 hy2;rw[inv_v r1]at hy1;rw[inv_v r2]at hy2;have Qx:0<cs.length:=List.length_pos_iff.2 hcs;have hsl:∃ cap,cs.length<=cap/\y0=.slice (some ⟨(φ jr).blk,(φ jr).base,none⟩) cs.length cap:=by
  cases r0 with
  | @sl _ _ _ cap b hi hle hb =>
   refine⟨cap,hle,?_⟩;rw[hb Qx,Nat.add_zero]
 obtain⟨cap,hcap,rfl⟩:=hsl;have hc3:cur'=#[.slice (some ⟨(φ jr).blk,(φ jr).base,none⟩) cs.length cap,.int .i64 cost,.bool tt]:=by
  refine Array.ext (by simpa using gs) fun j h1' h2'=>?_;have hj:j=0\/j=1\/j=2:=by
   have:cur'.size=3:=gs;omega
  rcases hj with rfl|rfl|rfl
  ·rw[mD h1']at hy0;exact Option.some.inj hy0
  ·rw[mD h1']at hy1;exact Option.some.inj hy1
  ·rw[mD h1']at hy2;exact Option.some.inj hy2
 subst hc3;refine⟨fun c=>if c=lo.2.blk then some (tt,.cells #[.slice (some ⟨(φ jr).blk,(φ jr).base,none⟩) cs.length cap,.int .i64 cost,.bool tt] tO (0,0))else if c=(φ jr).blk then some (ff,.cells cur q.1 q.2)else none,fun b rw' o hb=>?_,(φ jr).blk,(φ jr).base,cap,cur,q,?_,hcs,hcap,fun j a ha=>?_,rfl⟩
 ·dsimp only at hb;split at hb
  ·rename_i e;subst e;cases hb;rw[hφ]at g1;exact⟨tt,g1,id⟩
  ·split at hb
   ·rename_i e;subst e;cases hb;exact⟨r,h1,fun h=>by cases h⟩
   ·cases hb
 ·rw[<- hφ];exact hblk.symm
 ·obtain⟨y,hy,hr'⟩:=h3 j (.v (.int .i64 a)) (by rw[lQ,ha];rfl);rw[inv_v hr']at hy;exact hy
end
section
variable {α:Type}(lkr:Nat->Bool)(off:Nat->α)(bt:α->α->Bool)
def IsBest(x:Nat->Bool):Option α->Prop
 | none=>∀ i,lkr i=tt->x i=ff
 | some p=>(∃ i,lkr i=tt/\x i=tt/\off i=p)/\∀ i,lkr i=tt->x i=tt->off i=p\/bt p (off i)=tt
variable {lkr off bt}{x:Nat->Bool}
def keepB(bt:α->α->Bool)(p:α):Option α->α
 | none=>p
 | some q=>if bt p q=tt then p else q
theorem ziU{i:Nat}{b:Option α}(h:IsBest lkr off bt x b)(hi:lkr i=tt)(htr:∀ p q r,bt p q=tt->bt q r=tt->bt p r=tt)(htot:∀ i j,lkr i=tt->lkr j=tt->off i=off j\/bt (off i) (off j)=tt\/bt (off j) (off i)=tt) :
  IsBest lkr off bt (Go.ConcN.upd x i tt) (some (keepB bt (off i) b)):=by
 have hx:∀ j,Go.ConcN.upd x i tt j=tt->j=i\/x j=tt:=fun j hj=>by
  by_cases e:j=i
  ·exact .inl e
  ·rw[Go.ConcN.upd_ne _ _ e]at hj;exact .inr hj
 have hxi:Go.ConcN.upd x i tt i=tt:=Go.ConcN.upd_same ..;have hup:∀ j,x j=tt->Go.ConcN.upd x i tt j=tt:=fun j hj=>by
  by_cases e:j=i
  ·rw[e];exact hxi
  ·rw[Go.ConcN.upd_ne _ _ e];exact hj
 cases b with
 | none =>
  refine⟨⟨i,hi,hxi,rfl⟩,fun j hj hxj=>?_⟩;rcases hx j hxj with rfl|hxj
  ·exact .inl rfl
  ·rw[h j hj]at hxj;cases hxj
 | some q =>
  obtain⟨⟨i0,h1,h2,h3⟩,h4⟩:=h;by_cases hb:bt (off i) q=tt
  ·have e:keepB bt (off i) (some q)=off i:=if_pos hb;rw[e];refine⟨⟨i,hi,hxi,rfl⟩,fun j hj hxj=>?_⟩;rcases hx j hxj with rfl|hxj
   ·exact .inl rfl
   ·rcases h4 j hj hxj with e|e
    ·right;rw[e];exact hb
    ·right;exact htr _ _ _ hb e
  ·have e:keepB bt (off i) (some q)=q:=if_neg hb;rw[e];refine⟨⟨i0,h1,hup _ h2,h3⟩,fun j hj hxj=>?_⟩;rcases hx j hxj with rfl|hxj
   ·rcases htot j i0 hj h1 with e|e|e
    ·left;rw[e,h3]
    ·rw[h3]at e;exact absurd e hb
    ·right;rw[<- h3];exact e
   ·exact h4 j hj hxj
end
section
variable {P:gP}{lkr:Nat->Bool}{off:Nat->List Int×Int}{bt:List Int×Int->List Int×Int->Bool}{tO:gT}
def GIo(lkr:Nat->Bool)(off:Nat->List Int×Int)(bt:List Int×Int->List Int×Int->Bool)(tO:gT)(lo:Loc3)(x:Nat->Bool)(L:Hp):Prop:=∃ b,IsBest lkr off bt x b/\GIb lo tO b L
def PLo(lkr:Nat->Bool)(off:Nat->List Int×Int)(bt:List Int×Int->List Int×Int->Bool)(tO:gT)(jo:Nat)(x:Nat->Bool)(K:KV):Prop:=∃ b,IsBest lkr off bt x b/\PLb jo tO b K
theorem zli(lo:Loc3):GIo lkr off bt tO lo (fun _=>ff) (oneB lo.blk (tt,.cells z9.toArray tO (0,0))):=⟨none,fun _ _=>rfl,rfl⟩
theorem zow{y:Sy P}{lo:Nat×Loc3}(hy:y.GI=GIo lkr off bt tO lo.2)(hb:lo.2.base=0)(i:Nat):GIn y lo i (PLo lkr off bt tO lo.1):=by
 intro x' L A φ H hG hx Qp hφ hv hn hH hD hA;rw[hy]at hG;obtain⟨b,h1,h2⟩:=hG;obtain⟨φ',A',K',a,b',c,d,e⟩:=zjp h2 hb Qp hφ hv hH hD hA;exact⟨φ',A',K',a,b',c,⟨b,h1,d⟩,e⟩
theorem zox{y:Sy P}{lo:Nat×Loc3}(hy:y.GI=GIo lkr off bt tO lo.2)(hb:lo.2.base=0){x:Nat->Bool}:∀ L A φ H,y.GI x L->lo.1<A.length->φ lo.1=lo.2->zU [(lo.1,.gone)] A->(keys [(lo.1,AObj.gone)]).Nodup->RelH φ A nF H->H.Dis L->Agrees H L->∃ φ' A' K',Agr φ φ' A.length/\A.length<=A'.length/\Kstep [(lo.1,.gone)] A K' A'/\PLo lkr off bt tO lo.1 x K'/\RelH φ' A' nF (H.join L):=by
 intro L A φ H hG Qp hφ hv hn hH hD hA;rw[hy]at hG;obtain⟨b,h1,h2⟩:=hG;obtain⟨φ',A',K',a,b',c,d,e⟩:=zjp h2 hb Qp hφ hv hH hD hA;exact⟨φ',A',K',a,b',c,⟨b,h1,d⟩,e⟩
theorem zds{y:Sy P}{lo:Nat×Loc3}(hy:y.GI=GIo lkr off bt tO lo.2){x:Nat->Bool}{i:Nat}{cs:List Int}{cost:Int}{jr:Nat}{e:gT}{K:KV}(hcs:cs≠[])(hbest:IsBest lkr off bt (Go.ConcN.upd x i tt) (some (cs,cost)))
  (hr:(jr,AObj.cells (cs.map fun a=>.v (.int .i64 a)) e ff)∈K) (ho:(lo.1,AObj.cells [.sl jr 0 cs.length,.v (.int .i64 cost),.v (.bool tt)] tO tt)∈K) :
  ∀ A φ H,lo.1<A.length->φ lo.1=lo.2->zU K A->(keys K).Nodup->RelH φ A nF H->∃ L',L'.Sub H/\y.GI (Go.ConcN.upd x i tt) L':=by
 intro A φ H Qp hφ hv hn hH;obtain⟨L,h1,h2⟩:=zm8 hcs hr ho hφ hv hH;exact⟨L,h1,by rw[hy];exact⟨_,hbest,h2⟩⟩
end
end Go.Vel
namespace Go.Vel
open Go Go.Conc Go.Proofs
open Go.ConcN (sumTo upd upd_ne upd_same)
open Go.ConcM (OsLater MuAt muA msA)
open Go.ConcR (KK wgBlock WgAt stA smA mk rd wr)
open Mx (TT Th Mn S4 auto Mv4 ok4 bl4 kd dl MPc Pc okW okM Mv nx4 cnt newOf)
instance:zm tp 163 0 0 tt 2:={}
instance:zm tp 163 1 2 ff 1:={}
instance:ze tp 4 ff 1:={}
instance:ze tp 95 tt 2:={}
instance:BlOf tp 95 [(0,1),(1,1)]:={}
instance:zm tp 23 1 1 ff 1:={}
instance:ze tp 23 tt 2:={}
instance:ze tp 3 ff 1:={}
instance:ze tp 41 ff 1:={}
instance:ze tp 91 tt 8:={}
instance:ze tp 98 ff 1:={}
instance:TyZ tp 95 [.slice none 0 0,.int .i64 0]:={}
instance:TyZA tp 23 [.v (.int .i64 0),.v (.int .i64 0)]:={}
structure RunQ(l:List Nat)(G:Prop):Prop where
 go:G
theorem Qc(c:Nat){l:List Nat}{G:Prop}(h:RunQ l G):RunQ (c::l) G:=⟨h.go⟩
theorem RunQ.s{l:List Nat}{A B:Prop}(f:A->B)(h:RunQ l A):RunQ l B:=⟨f h.go⟩
theorem aq(l:List Nat){G G':Prop}(h:G') (hs:Hide G'->RunQ l G:=by
 intro hid;repeat (first
  | (refine Qc 1 ?_;refine RunQ.s (fun h=>TQ.a (by first|exact yf _|exact yd _) zZ rfl (zpd rfl rfl) h) ?_)
  | (refine Qc 2 ?_;refine RunQ.s (fun h=>TQ.seq (by first|exact yf _|exact yd _) h) ?_)
  | (refine Qc 3 ?_;refine RunQ.s (fun h=>TQ.end (by first|exact yf _|exact yd _) h) ?_)
  | (refine Qc 4 ?_;refine RunQ.s (fun h=>TQ.rgn (by first|exact yf _|exact yd _) RgL.h h) ?_)
  | (refine Qc 5 ?_;refine RunQ.s (fun h=>TQ.unwanted (by first|exact yf _|exact yd _) rfl rfl (zD rfl tQ) h) ?_)
  | (refine Qc 6 ?_;refine RunQ.s (fun h=>TQ.a (by first|exact yf _|exact yd _) zZ rfl (p_cmp rfl rfl rfl rfl) h) ?_)
  | (refine Qc 7 ?_;refine RunQ.s (fun h=>TQ.skip (by first|exact yf _|exact yd _) h) ?_)
  | (refine Qc 8 ?_;refine RunQ.s (fun h=>TQ.condF (by first|exact yf _|exact yd _) rfl h) ?_)
  | (refine Qc 9 ?_;refine RunQ.s (fun h=>TQ.a (by first|exact yf _|exact yd _) zZ rfl (zl2 rfl rfl) h) ?_)
  | (refine Qc 10 ?_;refine RunQ.s (fun h=>TQ.a (by first|exact yf _|exact yd _) zZ rfl (znF rfl rfl rfl) h) ?_)
  | (refine Qc 11 ?_;refine RunQ.s (fun h=>TQ.a (by first|exact yf _|exact yd _) zZ rfl (zpe rfl rfl) h) ?_)
  | (refine Qc 12 ?_;refine RunQ.s (fun h=>TQ.a (by first|exact yf _|exact yd _) zZ rfl (zl3 rfl rfl zm.h dQ) h) ?_)
  | (refine Qc 13 ?_;refine RunQ.s (fun h=>TQ.a (by first|exact yf _|exact yd _) zZ rfl (znG rfl rfl rfl) h) ?_)
  | (refine Qc 14 ?_;refine RunQ.s (fun h=>TQ.condT (by first|exact yf _|exact yd _) rfl h) ?_)
  | (refine Qc 15 ?_;refine RunQ.s (fun h=>TQ.block (by first|exact yf _|exact yd _) h) ?_))
 exact RunQ.mk (l:=[]) hid.out):G:=(hs ⟨h⟩).go
theorem znb{Ch:Nat->gG->Hp->Prop}(y:Sy tp){k i:Nat}{x:Nat->Bool} :
  CallQ tp (y.Sq2 Ch k i (.w { pc:=.d1 }) x) 129 [.pointer (some ⟨y.Wg,0,none⟩),.int .u64 18446744069414584320] (fun r T'=>(∃ v wt:Nat,v<64/\wt<=1/\¬ (v=0/\wt=1)/\r=.int .u64 ((v*4294967296+wt:Nat):Int)/\T'=Tq tp 1)\/(r=.int .u64 1/\∃ k',k'<k/\T'=y.Sq2 Ch k' i (.w { pc:=.d2 }) x)):=by
 refine zb6 10 Tryz.func129 fun c0 cs Wz=>?_;refine TQ.norm (Wk:=[.v (.pointer (some ⟨y.Wg,0,none⟩)),.v (.int .u64 18446744069414584320),.any,.any,.any,.any,.any,.any,.any,.any]) Z ?_;refine aq [2,4,9,3,2,4,1,11,12,1] ?_;refine TQ.gAdd zZ 18446744069414584320 Z Z Z Z (fun s v h1 h2 h3=>zlm h1 h2 h3) (fun k1 hk1=>?_) (fun v wt hv hwt hne=>?_)
 ·refine TQ.norm (zD Z tQ) ?_;refine aq [9,3] ?_;refine TQ.ret qqQ Tryz.func129 (zcm Z) (Wz _ _ ?_);exact .inr ⟨rfl,k1,hk1,rfl⟩
 ·refine TQ.norm (zD Z tQ) ?_;refine aq [9,3] ?_;refine TQ.ret qqQ Tryz.func129 (zcm Z) (Wz _ _ ?_);exact .inl ⟨v,wt,hv,hwt,hne,congrArg (Value.int .u64) (zfs v wt),rfl⟩
theorem zd3{Ch:Nat->gG->Hp->Prop}(y:Sy tp){k i:Nat}{x:Nat->Bool} :
  CallQ tp (y.Sq2 Ch k i (.w { pc:=.d2 }) x) 131 [.pointer (some ⟨y.Wg,0,none⟩)] (fun r T'=>r=.int .u64 1/\∃ k',k'<k/\T'=y.Sq2 Ch k' i (.w { pc:=.d3 }) x):=by
 refine zb6 7 Tryz.func131 fun c0 cs Wz=>?_;refine TQ.norm (Wk:=[.v (.pointer (some ⟨y.Wg,0,none⟩)),.any,.any,.any,.any,.any,.any]) Z ?_;refine aq [2,4,9,3,2,4,1,11,12] ?_;refine TQ.gLoad zZ Z Z Z (fun k1 hk1=>?_);refine TQ.norm (zD Z tQ) ?_;refine aq [9,3] ?_;refine TQ.ret qqQ Tryz.func131 (zcm Z) (Wz _ _ ?_);exact⟨rfl,k1,hk1,rfl⟩
theorem zcN{Ch:Nat->gG->Hp->Prop}(y:Sy tp){k i:Nat}{x:Nat->Bool} :
  CallQ tp (y.Sq2 Ch k i (.w { pc:=.d3 }) x) 132 [.pointer (some ⟨y.Wg,0,none⟩),.int .u64 0] (fun r T'=>∃ k',k'<k/\T'=y.Sq2 Ch k' i (.w { pc:=.d4 }) x):=by
 refine zb6 9 Tryz.func132 fun c0 cs Wz=>?_;refine TQ.norm (Wk:=[.v (.pointer (some ⟨y.Wg,0,none⟩)),.v (.int .u64 0),.any,.any,.any,.any,.any,.any,.any]) Z ?_;refine aq [4,1,11,12,1] ?_;refine TQ.gStore zZ Z Z Z Z (fun k1 hk1=>?_);refine aq [3] ?_;refine TQ.ret0 qqQ Tryz.func132 (wH Z) (Wz _ _ ?_);exact⟨k1,hk1,rfl⟩
theorem zmz{Ch:Nat->gG->Hp->Prop}(y:Sy tp){k i:Nat}{x:Nat->Bool} :
  CallZ tp (y.Sf ff Ch k i (.w { pc:=.wr }) x) 94 [.pointer (some ⟨y.Wg,0,none⟩),.int .i64 (-1)] (fun T'=>T'=fun g _=>Tq tp 0 g):=by
 refine ze6 117 (y.shutF _ _ _ _ _ _) Tryz.func94 fun φ0 c0 cs Wz=>?_;refine TK.nrm (Wk:=[.v (.pointer (some ⟨y.Wg,0,none⟩)),.v (.int .i64 (-1)),.any,.any,.any,.any,.any,.any,.any,.any,.any,.any,.any,.any,.any,.any,.any,.any,.any,.any,.any,.any,.any,.any,.any,.any,.any,.any,.any,.any,.any,.any,.any,.any,.any,.any,.any,.any,.any,.any,.any,.any,.any,.any,.any,.any,.any,.any,.any,.any,.any,.any,.any,.any,.any,.any,.any,.any,.any,.any,.any,.any,.any,.any,.any,.any,.any,.any,.any,.any,.any,.any,.any,.any,.any,.any,.any,.any,.any,.any,.any,.any,.any,.any,.any,.any,.any,.any,.any,.any,.any,.any,.any,.any,.any,.any,.any,.any,.any,.any,.any,.any,.any,.any,.any,.any,.any,.any,.any,.any,.any,.any,.any,.any,.any,.any,.any]) ?_ Z rfl;refine au 141803714221802 ?_;refine TK.sConv Z Z Z uP217 uP219 z201 (fun w s h=>⟨_,h.2.cellSt⟩) ?_;refine au 0 ?_;refine TK.relW (φ0:=φ0) zZ Z Z Z (fun k1 hk1=>?_);refine aq [3,2,4] ?_;refine TQ.sMark zZ (.w { pc:=.d1 }) .disable sQ Z Z (fun s _=>mx0 (.wk rfl)) (zad 0) rfl (fun k2 hk2=>?_);refine aq [3,4] ?_;refine TQ.defer qqQ zZ Z Z ?_;refine aq [3,2,4,9,3,2,2,4] ?_;refine TQ.pure qqQ zZ Z Z ?_;refine aq [3,8,7,2,4,1,11,12,1] ?_;refine TQ.a qqQ zZ Z (vT Z Z Und.h Und.h (m:=18446744073709551615) dQ) ?_;refine TQ.a qqQ zZ Z (p_shL Z Z Z dQ (r:=18446744069414584320) dQ) ?_;refine TQ.call qqQ zZ Z Z Z (znb y) ?_;rintro r2 T2 (⟨v,wt,hv,hwt,hne,rfl,rfl⟩|⟨rfl,k3,hk3,rfl⟩)
 ·refine aq [9,3,2,2,4,1] ?_;refine TQ.a qqQ zZ Z (zcZ Z Z Z (.inl Z) (bU3 v hv wt oQ)) ?_;refine aq [6,1,5,5,10,3,8,7,2,4,1] ?_;refine TQ.a qqQ zZ Z (p_sh Z Z Z dQ (r:=((v:Nat):Int)) (by show((v*4294967296+wt:Nat):Int) / 4294967296=_;omega)) ?_;refine TQ.a qqQ zZ Z (vT Z Z Und.h Und.h (m:=((v:Nat):Int)) (w32 oQ)) ?_;refine aq [9,3,2,4,1] ?_;refine TQ.a qqQ zZ Z (zcZ Z Z Z (.inl Z) (bU4 v hv wt oQ)) ?_;refine TQ.a qqQ zZ Z (vT Z Z Und.h Und.h (m:=((wt:Nat):Int)) (wu32 oQ)) ?_;refine aq [9,3,2,2,4,1,1,6,13,1,5,5,5,5,10,3,8,7,2,2,4,1,6,3] ?_;refine TQ.cond qqQ Z ?_;apply aI<;>intro hc9
  ·exfalso;simp at hc9 <;> omega
  refine aq [7,2,2,4,1,6,1] ?_;refine TQ.sp 78 (fun g24_3=>?_) (fun g24_3=>?_)
  ·refine aq [1,6,13,1,5,5,5,5,10,3,8,7,2,2,4,1,6,1] ?_;refine TQ.sp 91 (fun g26_3=>?_) (fun g26_3=>?_)
   ·refine aq [5,5,13,3,14] ?_;refine TQ.retQ Tryz.func94 (wH Z) (Wz _ _ (fun _=>none) rfl);skip
   refine aq [1,6,10,3] ?_;refine TQ.cond qqQ Z ?_;apply aI<;>intro hc11
   ·refine TQ.retQ Tryz.func94 (wH Z) (Wz _ _ (fun _=>none) rfl);skip
   exfalso;simp at g26_3 hc11;omega
  refine aq [5,5,10,1,5,5,5,5,10,3,8,7,2,2,4,1,6,1] ?_;refine TQ.sp 91 (fun g26_3=>?_) (fun g26_3=>?_)
  ·refine aq [5,5,13,3,14] ?_;refine TQ.retQ Tryz.func94 (wH Z) (Wz _ _ (fun _=>none) rfl);skip
  refine aq [1,6,10,3] ?_;refine TQ.cond qqQ Z ?_;apply aI<;>intro hc11
  ·refine TQ.retQ Tryz.func94 (wH Z) (Wz _ _ (fun _=>none) rfl);skip
  exfalso;simp at g26_3 hc11;omega
 ·refine aq [9,3,2,2,4,1] ?_;refine TQ.a qqQ zZ Z (zcZ Z Z Z (.inl Z) (r:=0) dQ) ?_;refine aq [6,1,5,5,10,3,8,7,2,4,1] ?_;refine TQ.a qqQ zZ Z (p_sh Z Z Z dQ (r:=((0:Nat):Int)) dQ) ?_;refine TQ.a qqQ zZ Z (vT Z Z Und.h Und.h (m:=((0:Nat):Int)) Z) ?_;refine aq [9,3,2,4,1] ?_;refine TQ.a qqQ zZ Z (zcZ Z Z Z (.inl Z) (r:=1) dQ) ?_;refine TQ.a qqQ zZ Z (vT Z Z Und.h Und.h (m:=1) dQ) ?_;refine aq [9,3,2,2,4,1,1,6,13,1,5,5,5,5,10,3,8,7,2,2,4,1,6,3] ?_;refine TQ.cond qqQ Z ?_;apply aI<;>intro hc9
  ·exfalso;simp at hc9 <;> omega
  refine aq [7,2,2,4,1,6,1] ?_;refine TQ.sp 78 (fun g24_3=>?_) (fun g24_3=>?_)
  ·refine aq [1,6,13,1,5,5,5,5,10,3,8,7,2,2,4,1,6,1] ?_;refine TQ.sp 91 (fun g26_3=>?_) (fun g26_3=>?_)
   ·exfalso;simp at g26_3
   refine aq [1,6,10,3] ?_;refine TQ.cond qqQ Z ?_;apply aI<;>intro hc11
   ·exfalso;simp at hc11
   refine aq [7,2,2,4,1,11,12] ?_;refine TQ.call qqQ zZ Z Z Z (zd3 y) ?_;rintro r2 T2 ⟨rfl,k4,hk4,rfl⟩;refine aq [1,6,3,8,7,2,4,1,11,12] ?_;refine TQ.call qqQ zZ Z Z Z (zcN y) ?_;rintro r2 T2 ⟨k5,hk5,rfl⟩;refine aq [3,2,2,4,1,3,8,7,15] ?_;refine TQ.loop qqQ ?_;refine aq [2,2,4,1,6,3,14,7,2,15,4,1,11,12] ?_;refine TQ.gRel zZ Z Z (fun c hc=>by simp at hc;subst hc;rfl) rfl ?_;refine aq [3] ?_;refine TQ.inBlock qqQ ?_;refine aq [4,1] ?_;refine TQ.a qqQ zZ Z (zjT Z Z Z (r:=0) (.inr ⟨rfl,by decide⟩)) ?_;refine aq [9,3] ?_;refine TQ.inLoop qqQ ?_;refine aq [2,2,4,1,6,3,8] ?_;refine TQ.exit qqQ Z ?_;refine TQ.retQ0 Tryz.func94 (wH Z) (Wz _ _ (fun _=>none) rfl);skip
  refine aq [5,5,10,1,5,5,5,5,10,3,8,7,2,2,4,1,6,1] ?_;refine TQ.sp 91 (fun g26_3=>?_) (fun g26_3=>?_)
  ·exfalso;simp at g26_3
  refine aq [1,6,10,3] ?_;refine TQ.cond qqQ Z ?_;apply aI<;>intro hc11
  ·exfalso;simp at hc11
  refine aq [7,2,2,4,1,11,12] ?_;refine TQ.call qqQ zZ Z Z Z (zd3 y) ?_;rintro r2 T2 ⟨rfl,k4,hk4,rfl⟩;refine aq [1,6,3,8,7,2,4,1,11,12] ?_;refine TQ.call qqQ zZ Z Z Z (zcN y) ?_;rintro r2 T2 ⟨k5,hk5,rfl⟩;refine aq [3,2,2,4,1,3,8,7,15] ?_;refine TQ.loop qqQ ?_;refine aq [2,2,4,1,6,3,14,7,2,15,4,1,11,12] ?_;refine TQ.gRel zZ Z Z (fun c hc=>by simp at hc;subst hc;rfl) rfl ?_;refine aq [3] ?_;refine TQ.inBlock qqQ ?_;refine aq [4,1] ?_;refine TQ.a qqQ zZ Z (zjT Z Z Z (r:=0) (.inr ⟨rfl,by decide⟩)) ?_;refine aq [9,3] ?_;refine TQ.inLoop qqQ ?_;refine aq [2,2,4,1,6,3,8] ?_;refine TQ.exit qqQ Z ?_;refine TQ.retQ0 Tryz.func94 (wH Z) (Wz _ _ (fun _=>none) rfl);skip
theorem zmV{Ch:Nat->gG->Hp->Prop}(y:Sy tp){k i:Nat}{x:Nat->Bool}{c0:Frame}{cs:List Frame}{H:Hp}(hc:c0.mode=.returning)(hq:Tq tp 0 (G c0 cs)) :
  y.Sf ff Ch k i (.w { pc:=.wr }) x (G (fr .deferred 96 none (#[.pointer (some ⟨y.Wg,0,none⟩)]++Array.replicate (Tryz.f96.ntmps - (#[.pointer (some ⟨y.Wg,0,none⟩)]:Array Value).size) undef) [] [.code (Tryz.f96.body.getD .skip)]) (c0::cs)) H:=by
 have key:TK (YU (y.shutF ff Ch k i (.w { pc:=.wr }) x) gN (fun _=>⟨0,0,0⟩) .deferred (fun h=>by cases h) 96 (c0::cs) [] [] []) [] [.code (Tryz.f96.body.getD .skip)] [.v (.pointer (some ⟨y.Wg,0,none⟩)),.any,.any,.any] []:=by
  refine TK.nrm (Wk:=[.v (.pointer (some ⟨y.Wg,0,none⟩)),.any,.any,.any]) ?_ Z rfl;refine au 14 ?_;refine TK.callZq (φ0:=fun _=>⟨0,0,0⟩) (vs:=[.pointer (some ⟨y.Wg,0,none⟩),.int .i64 (-1)]) rfl rfl rfl rfl (zmz y) (fun v=>?_);refine TQ.end qqQ ?_;refine TQ.endD Tryz.func96 Z hc hq
 have hl:=key [] ⟨fun x hx=>(by cases hx),List.nodup_nil,fun i hi=>(by cases hi),fun _ _ _=>rfl,mL _⟩ (fun _=>⟨0,0,0⟩) H (#[.pointer (some ⟨y.Wg,0,none⟩)]++Array.replicate (Tryz.f96.ntmps - (#[.pointer (some ⟨y.Wg,0,none⟩)]:Array Value).size) undef) (Agr.refl _ _) (mL _) (kG _ _) (fun d hd=>by cases hd) (uA _ _) (ke (zga _ _ [.pointer (some ⟨y.Wg,0,none⟩)]) 4);exact hl
theorem zcD{Ch:Nat->gG->Hp->Prop}(y:Sy tp){k i:Nat}{x:Nat->Bool}{gm:Nat->Option Nat}{φ0:Nat->Loc3}{A0:List AObj}{K0:List Nat}{Wq:List AV}{K:KV}{f:gF}{fn:Func}(hf:tp.funcs[f]? =some fn)(hr:fn.results=#[]) :
  TK (YT y ff Ch k i (.w { pc:=.wr }) x gm φ0 .deferred (fun h=>by cases h) f [bot tp] [dcall 96 #[.pointer (some ⟨y.Wg,0,none⟩)]] A0 K0) [] [] Wq K :=
 TK.bye hf hr Tryz.func96 (by kernel_rfl) (c:=Tryz.f96.body.getD .skip) rfl fun c0 cs H hc hq=>zmV y hc hq
theorem zjN{main T}(hT:zo tp main T){gm}{jo jr:Nat}{cs:List Int}{cost:Int}{e:gT}{f:AV} :
  zl tp T gm 99 [.ptr jo 0,.agg [.sl jr 0 cs.length,.v (.int .i64 cost)],f] [(jo,.cells (z9.map AV.v) 163 tt),(jr,.cells (cs.map fun a=>.v (.int .i64 a)) e ff)] (fun r K'=>K'=[(jo,.cells [.sl jr 0 cs.length,.v (.int .i64 cost),.v (.bool tt)] 163 tt),(jr,.cells (cs.map fun a=>.v (.int .i64 a)) e ff)]):=by
 refine zh 27 hT Tryz.func99 fun Y Wz=>?_;refine au 21042 ?_;intro jb hjb;refine au 23 ?_;refine bL [0,1,2,3,4,5,6,7,8,9,10,11,12,13] ?_;refine ad [[1,0]] ?_;refine bU [6] Z (kc Z Z) ?_;refine ad [[3,7],[10,8]] ?_;refine bU [9] Z (q_not Z Z) ?_;refine ad [[1,10]] ?_;refine TD.sp 11 (fun g1_6=>?_) (fun g1_6=>?_)
 ·refine ad [[11,2,11],[11,4,11],[11,0,11],[11,11,14],[11,11,15],[11,11,16],[11,11,12,13,17],[7,11,18],[14]] ?_;refine au 680114180 ?_;refine bH Z (kc Z Z) ?_;refine au 170670 ?_;refine bH Z (kc Z Z) ?_;refine au 3170670 ?_;refine TK.rt0 Wz [(jo,_),(jr,_)] ?_;exact rfl
 simp at g1_6
theorem zjO{main T}(hT:zo tp main T){gm}{jo jr j0:Nat}{cs cs0:List Int}{cost cost0:Int}{e e0:gT}{f:AV}{t:Bool}
  (hbt:CallFK tp T gm f [.agg [.sl jr 0 cs.length,.v (.int .i64 cost)],.agg [.sl j0 0 cs0.length,.v (.int .i64 cost0)]] [(jr,.cells (cs.map fun a=>.v (.int .i64 a)) e ff),(j0,.cells (cs0.map fun a=>.v (.int .i64 a)) e0 ff)] (fun r K'=>r=.v (.bool t)/\K'=[(jr,.cells (cs.map fun a=>.v (.int .i64 a)) e ff),(j0,.cells (cs0.map fun a=>.v (.int .i64 a)) e0 ff)])) :
  zl tp T gm 99 [.ptr jo 0,.agg [.sl jr 0 cs.length,.v (.int .i64 cost)],f] [(jo,.cells [.sl j0 0 cs0.length,.v (.int .i64 cost0),.v (.bool tt)] 163 tt),(j0,.cells (cs0.map fun a=>.v (.int .i64 a)) e0 ff),(jr,.cells (cs.map fun a=>.v (.int .i64 a)) e ff)] (fun r K'=>(t=tt/\K'=[(jo,.cells [.sl jr 0 cs.length,.v (.int .i64 cost),.v (.bool tt)] 163 tt),(jr,.cells (cs.map fun a=>.v (.int .i64 a)) e ff)])\/(t=ff/\K'=[(jo,.cells [.sl j0 0 cs0.length,.v (.int .i64 cost0),.v (.bool tt)] 163 tt),(j0,.cells (cs0.map fun a=>.v (.int .i64 a)) e0 ff)])):=by
 refine zh 27 hT Tryz.func99 fun Y Wz=>?_;refine au 21042 ?_;intro jb hjb;refine au 23 ?_;refine bL [0,1,2,3,4,5,6,7,8,9,10,11,12,13] ?_;refine ad [[1,0]] ?_;refine bU [6] Z (kc Z Z) ?_;refine ad [[3,7],[10,8]] ?_;refine bU [9] Z (q_not Z Z) ?_;refine ad [[1,10]] ?_;refine TD.sp 11 (fun g1_6=>?_) (fun g1_6=>?_)
 ·simp at g1_6
 refine ad [[1,2,11],[12,4,11],[1,0,11]] ?_;refine bU [11,14] Z (kc Z Z) ?_;refine ad [[3,11,15],[12,11,16]] ?_;refine TD.callF' (Wx:=[_,_,_,_,_,_,_,_]) [11,12,13,17] Z Z Z Z Z Z Z (hbt) vQ fun r1 K2 h3=>⟨?_,?_⟩
 ·rcases h3 with⟨rfl,rfl⟩
  all_goals simp
 obtain⟨rfl,rfl⟩:=h3;try simp only[cA]
 refine TD.norm (zD Z tQ) ?_;refine ad [[6,11,18],[14]] ?_;refine au 9 ?_;apply aI<;>intro Jz
 ·refine au 680114 ?_;refine bH Z (kc Z Z) ?_;refine au 170670 ?_;refine bH Z (kc Z Z) ?_;refine au 3170670 ?_;refine TK.rt0 Wz [(jo,_),(jr,_)] ?_;exact .inl ⟨Jz,rfl⟩
 refine au 120 ?_;refine TK.rt0 Wz [(jo,_),(j0,_)] ?_;exact .inr ⟨Jz,rfl⟩
section
variable {P:gP}{gm:Nat->Option Nat}{T:gG->Hp->Prop}
theorem Kstep.permR{K K' K2:KV}{A A':List AObj}(h:Kstep K A K' A')(hp:K'.Perm K2):Kstep K A K2 A' :=
 ⟨h.view.sub fun x hx=>hp.symm.subset hx,(zW hp).nodup_iff.1 h.nd,fun i hi=>h.own i ((zW hp).symm.subset hi),h.kept,h.len⟩
theorem Kstep.permL{K K' K2:KV}{A A':List AObj}(h:Kstep K A K' A')(hp:K.Perm K2):Kstep K2 A K' A' :=
 ⟨h.view,h.nd,fun i hi=>(h.own i hi).imp (fun h=>(zW hp).subset h) id,fun j hj hn=>h.kept j hj fun hm=>hn ((zW hp).subset hm),h.len⟩
theorem zl.frameP{g:gF}{args:List AV}{K Kb R:KV}{Q:AV->Prop}(h:zl P T gm g args K (fun r K'=>Q r/\K'=K))(hp:Kb.Perm (K++R)):zl P T gm g args Kb (fun r K'=>Q r/\K'=Kb):=by
 intro A hv hn;have hv2:zU (K++R) A:=hv.sub fun x hx=>hp.symm.subset hx;have hn2:=(zW hp).nodup_iff.1 hn;have hn3:=hn2;rw[yz]at hn3;refine(h A (hv2.sub fun x hx=>List.mem_append_left _ hx) (List.nodup_append.1 hn3).1).mono ?_;rintro r A' ⟨K',hk,hq,rfl⟩;refine⟨Kb,?_,hq,rfl⟩;have hs:Split (K'++R) K' R:=by
  have key:∀(K:KV),Split (K++R) K R:=fun K=>by
   induction K with
   | nil=>exact .none _
   | cons x K ih=>exact .left ih
  exact key K'
 exact((hk.frame hs hv2 hn2).permR hp.symm).permL hp.symm
end
theorem zkJ(y:Sy tp){gm:Nat->Option Nat}{lo:Nat×Loc3}{off:Nat->List Int×Int}{bt:List Int×Int->List Int×Int->Bool}{jk jc jr jf:Nat}{a0 a1 a2 a3 a4 a5 a6 a7:AV}{cs:List Int}{a cost:Int}{e:gT}{gF:gF}{Sq:KV}{i:Nat}
  (hy:y.GI=GIo y.lkr off bt 163 lo.2) (hb0:lo.2.base=0) (hoff:y.lkr i=tt->off i=(cs,cost)) (hnee:∀ i,y.lkr i=tt->(off i).1≠[])
  (htr:∀ p q r,bt p q=tt->bt q r=tt->bt p r=tt) (htot:∀ i j,y.lkr i=tt->y.lkr j=tt->off i=off j\/bt (off i) (off j)=tt\/bt (off j) (off i)=tt)
  (hsq:∀{T:gG->Hp->Prop},zo tp ff T->zl tp T gm 97 [.agg [a0,a1,a2,a3,a4,a5,a6,a7],.sl jr 0 cs.length] ((jr,.cells (cs.map fun a=>.v (.int .i64 a)) e ff)::Sq) (fun r K'=>r=.tup [.agg [.v (.int .i64 a),.v (.int .i64 cost)],.v (.bool (y.lkr i))]/\K'=(jr,.cells (cs.map fun a=>.v (.int .i64 a)) e ff)::Sq))
  (hbt:∀{T:gG->Hp->Prop},zo tp ff T->∀(cs0:List Int)(cost0:Int)(j0:Nat)(e0:gT),CallFK tp T gm (.fn gF [] []) [.agg [.sl jr 0 cs.length,.v (.int .i64 cost)],.agg [.sl j0 0 cs0.length,.v (.int .i64 cost0)]] [(jr,.cells (cs.map fun a=>.v (.int .i64 a)) e ff),(j0,.cells (cs0.map fun a=>.v (.int .i64 a)) e0 ff)] (fun r K'=>r=.v (.bool (bt (cs,cost) (cs0,cost0)))/\K'=[(jr,.cells (cs.map fun a=>.v (.int .i64 a)) e ff),(j0,.cells (cs0.map fun a=>.v (.int .i64 a)) e0 ff)]))
  {k:Nat} {x:Nat->Bool} {φ:Nat->Loc3} {A:List AObj} {Hc:Hp} {vs:Array Value} (hv:zU ((lo.1,.gone)::(jk,.cells [a0,a1,a2,a3,a4,a5,a6,a7] 91 ff)::(jc,.cells [.sl jr 0 cs.length] 41 ff)::(jr,.cells (cs.map fun a=>.v (.int .i64 a)) e ff)::(jf,.cells [.fn gF [] []] 98 ff)::Sq) A) (hnd:(keys ((lo.1,AObj.gone)::(jk,.cells [a0,a1,a2,a3,a4,a5,a6,a7] 91 ff)::(jc,.cells [.sl jr 0 cs.length] 41 ff)::(jr,.cells (cs.map fun a=>.v (.int .i64 a)) e ff)::(jf,.cells [.fn gF [] []] 98 ff)::Sq)).Nodup) (hl1:lo.1<A.length) (hl2:φ lo.1=lo.2) (hg:RelG gm φ A.length) (hH:RelH φ A nF Hc) (hvs:zN φ A.length [.v (.pointer (some ⟨y.Wg,0,none⟩)),.ptr jk 0,.ptr jc 0,.v (.pointer (some ⟨y.Mu,0,none⟩)),.ptr lo.1 0,.ptr jf 0] vs) :
  y.Sf ff (fun _ _ _=>False) k i (y.A.st i) x (G (Frame.enter tp 95 vs .deferred) [bot tp]) Hc:=by
 rw[enter_atD (c:=Tryz.f95.body.getD .skip) vs Tryz.func95 rfl];refine(?_:TK (YT y ff (fun _ _ _=>False) k i (y.A.st i) x gm φ .deferred (fun h=>by cases h) 95 [bot tp] [] A (keys ((lo.1,AObj.gone)::(jk,.cells [a0,a1,a2,a3,a4,a5,a6,a7] 91 ff)::(jc,.cells [.sl jr 0 cs.length] 41 ff)::(jr,.cells (cs.map fun a=>.v (.int .i64 a)) e ff)::(jf,.cells [.fn gF [] []] 98 ff)::Sq))) [] [.code (Tryz.f95.body.getD .skip)] ([.v (.pointer (some ⟨y.Wg,0,none⟩)),.ptr jk 0,.ptr jc 0,.v (.pointer (some ⟨y.Mu,0,none⟩)),.ptr lo.1 0,.ptr jf 0]++mB 17 .any) ((lo.1,.gone)::(jk,.cells [a0,a1,a2,a3,a4,a5,a6,a7] 91 ff)::(jc,.cells [.sl jr 0 cs.length] 41 ff)::(jr,.cells (cs.map fun a=>.v (.int .i64 a)) e ff)::(jf,.cells [.fn gF [] []] 98 ff)::Sq)) A ⟨hv,hnd,fun i hi=>.inl hi,fun _ _ _=>rfl,mL _⟩ φ Hc _ (Agr.refl _ _) (mL _) hg (fun d hd=>by cases hd) hH (ke hvs 23);refine au 42 ?_;refine TK.sDefer (vs:=[.pointer (some ⟨y.Wg,0,none⟩)]) Z Z Z ?_;refine au 690680423 ?_;refine bD Z Z Z Z ((hsq (y.shutF _ _ _ _ _ _)).frameP (R:=[_,_,_,_]) (((List.Perm.swap _ _ _).cons _ |>.cons _ |>.cons _).trans (lH (l₁:=[_,_,_,_])))) ?_ (hs:=(.all _));rintro r1 K2 ⟨rfl,rfl⟩;refine au 220661 ?_;intro j6 hj6;refine au 9314235170 ?_;apply aI<;>intro Jz
 ·refine TK.castT (T':=.w { pc:=.ld }) Z (by show TT.w { pc:=if y.lkr i=tt then .ld else .wr }=_;rw[if_pos Jz]) ?_;refine au 42 ?_;refine TK.callS Z Z Z Z (znj y (zow hy hb0 i)) hl1 hl2 ?_;rintro r2 K2 T2 ⟨rfl,k2,x2,hk2,hx2,⟨b,hbest,hpl⟩,rfl⟩;refine⟨y.shutF _ _ _ _ _ _,?_⟩;have hst:=fun b (h:IsBest y.lkr off bt x2 b)=>ziU (i:=i) h Jz htr htot;rw[hoff Jz]at hst;rcases b with _|⟨cs0,cost0⟩
  ·have hpl:K2=[(lo.1,.cells (z9.map AV.v) 163 tt)]:=hpl;subst hpl;refine au 690390690670690423 ?_;refine bD Z Z Z Z (zjN (y.shutF _ _ _ _ _ _)) ?_;rintro r4 K5 rfl;refine au 43 ?_;refine TK.callE Z Z Z Z (zbt y (zds (cs:=cs) (cost:=cost) (jr:=jr) (e:=e) hy (by have:=hnee i Jz;rw[hoff Jz]at this;exact this) (hst none hbest) sQ sQ)) hl1 hl2 ?_;rintro T4 r4 ⟨k4,hk4,rfl⟩;refine⟨y.shutF _ _ _ _ _ _,?_⟩;refine au 3 ?_;exact zcD y Tryz.func95 rfl;skip
  ·obtain⟨j0,e0,rfl⟩:=hpl;refine au 690390690670690423 ?_;refine bD Z Z Z Z (zjO (y.shutF _ _ _ _ _ _) (hbt (y.shutF _ _ _ _ _ _) cs0 cost0 j0 e0)) ?_;rintro r7 K8 h9;rcases h9 with⟨ht,rfl⟩|⟨ht,rfl⟩
   ·refine au 43 ?_;refine TK.callE Z Z Z Z (zbt y (zds (cs:=cs) (cost:=cost) (jr:=jr) (e:=e) hy (by have:=hnee i Jz;rw[hoff Jz]at this;exact this) (by have:=hst _ hbest;rw[show keepB bt (cs,cost) (some (cs0,cost0))=(cs,cost) from if_pos ht]at this;exact this) sQ sQ)) hl1 hl2 ?_;rintro T4 r4 ⟨k4,hk4,rfl⟩;refine⟨y.shutF _ _ _ _ _ _,?_⟩;refine au 3 ?_;exact zcD y Tryz.func95 rfl;skip
   ·refine au 43 ?_;refine TK.callE Z Z Z Z (zbt y (zds (cs:=cs0) (cost:=cost0) (jr:=j0) (e:=e0) hy (by obtain⟨⟨i0,h1,_,h3⟩,_⟩:=hbest;have:=hnee i0 h1;rw[h3]at this;exact this) (by have:=hst _ hbest;rw[show keepB bt (cs,cost) (some (cs0,cost0))=(cs0,cost0) from if_neg (by rw[ht];decide)]at this;exact this) sQ sQ)) hl1 hl2 ?_;rintro T4 r4 ⟨k4,hk4,rfl⟩;refine⟨y.shutF _ _ _ _ _ _,?_⟩;refine au 3 ?_;exact zcD y Tryz.func95 rfl;skip
 refine TK.castT (T':=.w { pc:=.wr }) Z (by show TT.w { pc:=if y.lkr i=tt then .ld else .wr }=_;rw[if_neg (by rw[Jz];decide)]) ?_;refine au 120 ?_;exact zcD y Tryz.func95 rfl;skip
instance:ApOf tp 41 3 1 8:={}
instance:zm tp 32 4 4 ff 1:={}
instance:zm tp 81 0 0 tt 7:={}
instance:zm tp 91 0 0 tt 7:={}
instance:zp tp 41 3 1:={}
instance:ze tp 28 ff 1:={}
instance:TyZ tp 3 [.int .i64 0]:={}
instance:TyZA tp 163 [.v (.slice none 0 0),.v (.int .i64 0),.v (.bool ff)]:={}
instance:TyZA tp 170 [.v (.int .i32 0),.v (.int .u32 0)]:={}
instance:TyZA tp 177 [.v (.int .u64 0),.v (.int .u32 0)]:={}
instance:TyZA tp 41 [.v (.slice none 0 0)]:={}
instance:TyZA tp 95 [.v (.slice none 0 0),.v (.int .i64 0)]:={}
instance:Und tp 28 (.slice 183):={}
instance:Und tp 41 (.slice 3):={}
end Go.Vel
namespace Go.Vel
open Go Go.Conc
open Mx (TT Th Mn S4 auto Mv4 ok4 bl4 kd dl MPc Pc okW okM Mv nx4 cnt)
section
variable {P:gP}{gm:Nat->Option Nat}{y:Sy P}{main:Bool}{Ch:Nat->gG->Hp->Prop}{k i:Nat}{T:TT}{x:Nat->Bool}
variable {φ0:Nat->Loc3}{Qq:CallKind}{hkd:Qq≠.early}{f:gF}{cs:List Frame}{de:List Deferred}{A0:List AObj}{K0:List Nat}{ds:List Nat}{kk:List Item}{Wq:List AV}{K:KV}
theorem TK.loopR{c:Code}{ι:Type}(Tf:ι->TT)(I:Nat->ι->List AV->KV->Prop)(r0:Nat)(b0:ι)(h0:I r0 b0 Wq K)(e0:T=Tf b0)
  (round:∀ r k b Wq K,I r b Wq K->(∀ r' k' b' Wk K',r'<r->I r' b' Wk K'->TK ((YT y main Ch) k' i (Tf b') x gm φ0 Qq hkd f cs de A0 K0) ds (.inLoop c::kk) Wk K')->TK ((YT y main Ch) k i (Tf b) x gm φ0 Qq hkd f cs de A0 K0) ds (.code c::.inLoop c::kk) Wq K) :
  TK ((YT y main Ch) k i T x gm φ0 Qq hkd f cs de A0 K0) ds (.code (.loop c)::kk) Wq K:=by
 subst e0;have key:∀ r k b Wq K,I r b Wq K->TK ((YT y main Ch) k i (Tf b) x gm φ0 Qq hkd f cs de A0 K0) ds (.code c::.inLoop c::kk) Wq K:=by
  intro r
  induction r using Nat.strongRecOn with
  | _ r ih =>
   intro k b Wq K hI;exact round r k b Wq K hI fun r' k' b' Wk K' Qp hI'=>TK.inLoop (ih r' Qp k' b' Wk K' hI')
 exact fun A hA=>TA.loop (key r0 k b0 Wq K h0 A hA)
end
end Go.Vel
namespace Go.Vel
open Go Go.Conc
section
variable {P:gP}{gm:Nat->Option Nat}{T:gG->Hp->Prop}{Y:KX P gm T}{ds:List Nat}{k:List Item}{Wq:List AV}{K K':KV}
theorem TK.virtAt{l:List AV}{i:Nat}{t e:gT}{rw':Bool}{x:Option Addr}{size j:Nat}{K':Nat->KV}(hi:l[i]? =some (.v (.slice x 0 0)))(hu:∀ j',Upd K j (.cells l t rw') j (.cells (l.set i (.row j' 0)) t rw') (K' j'))(h:∀ j',j'∉keys K->TK Y ds k Wq ((j',.row [] e size)::K' j')):TK Y ds k Wq K:=fun A hA φ H ts h1 h2 h3 h4 h5 h6=>by
 have hk:A.length∉keys K:=fun hm=>absurd (hA.view.lt hm) (Nat.lt_irrefl _);have hH:=h5.virt e size;have hag:=yn φ A.length ⟨0,0,0⟩;have Wb:(A++[AObj.row [] e size]).length=A.length+1:=by simp
 have hds:dsC (yc φ A.length ⟨0,0,0⟩) ds=dsC φ ds:=by
  unfold dsC;exact List.map_congr_left fun d hd'=>by rw[hag d (h4 d hd')]
 have hj:=hA.view.get (hu A.length).mem;have hjl:j<A.length:=(lD.1 hj).1;have hj2:(A++[AObj.row [] e size])[j]? =some (.cells l t rw'):=by rw[lG hjl];exact hj
 have hstep:=hA.step (.push hA.view hA.nd (.row [] e size));have hstep2:=hstep.step (.set hstep.view hstep.nd (Upd.tail (hu A.length)));have Qb:i<l.length:=(lD.1 hi).1;have hne:l≠[]:=fun e=>by rw[e]at Qb;exact absurd Qb (Nat.not_lt_zero _)
 rw[<- hds];refine h _ hk _ hstep2 _ H ts (h1.trans hag h2) (by simp;omega) (by simpa using h3.mono hag oQ) (fun d hd=>by have:=h4 d hd;simp;omega) (hH.turn hj2 (fun ho hl=>?_) (fun h=>h) (fun _=>rfl) (fun hs=>by simpa[sol]using hne)) (by simpa using h6.mono hag oQ);obtain⟨rw2,cur,fz,q1,q2,q3⟩:=ho hne;refine⟨rw2,cur,fz,q1,fun h=>⟨(q2 h).1,(q2 h).2.1,by rw[List.length_set];exact(q2 h).2.2⟩,fun t' a ha=>?_⟩;by_cases e:t'=i
 ·subst e;rw[List.getElem?_set_self Qb]at ha;cases ha;obtain⟨y,hy,hr⟩:=q3 t' _ hi;refine⟨y,hy,?_⟩;rw[inv_v hr];refine .row oQ sQ ?_;unfold rowV;simp[yc]
 ·rw[lP (fun h=>e h.symm)]at ha;exact q3 t' a ha
theorem TK.unrowAt{c i j n:Nat}{l l1:List AV}{t e1:gT}{s1:Nat}{rw':Bool}(hi:l[i]? =some (.row j n))(hm:(j,.row l1 e1 s1)∈K)(hu:Upd K c (.cells l t rw') c (.cells (l.set i (.sl j 0 n)) t rw') K')(h:TK Y ds k Wq K'):TK Y ds k Wq K:=fun A hA φ H ts h1 h2 h3 h4 h5 h6=>by
 have hj:=hA.view.get hu.mem;have hb:(φ j).base=0:=(h5.obj j _ (hA.view.get hm)).2.1;have Qb:i<l.length:=(lD.1 hi).1;have hne:l≠[]:=fun e=>by rw[e]at Qb;exact absurd Qb (Nat.not_lt_zero _)
 refine h _ (hA.step (.set hA.view hA.nd hu)) φ H ts h1 (by simpa using h2) (by simpa using h3) (by simpa using h4) (h5.turn hj (fun ho hl=>?_) (fun h=>h) (fun _=>rfl) (fun hs=>by simpa[sol]using hne)) (by simpa using h6);obtain⟨rw2,cur,fz,q1,q2,q3⟩:=ho hne;refine⟨rw2,cur,fz,q1,fun h=>⟨(q2 h).1,(q2 h).2.1,by rw[List.length_set];exact(q2 h).2.2⟩,fun t' a ha=>?_⟩;by_cases e:t'=i
 ·subst e;rw[List.getElem?_set_self Qb]at ha;cases ha;obtain⟨y,hy,hr⟩:=q3 t' _ hi;exact⟨y,hy,by have:=wJ (j:=j) hb hr;simpa[unrow]using this⟩
 ·rw[lP (fun h=>e h.symm)]at ha;exact q3 t' a ha
theorem zgP{φ:Nat->Loc3}{A:List AObj}{F H:Hp}(h:RelH φ A F H){j:Nat}{l:List AV}{e:gT}{sz:Nat}(hj:A[j]? =some (.row l e sz)):RelH φ (A.set j (.cells l e ff)) F H:=by
 have hg:∀ t w,(A.set j (.cells l e ff))[t]? =some w->(t=j/\w=.cells l e ff)\/(t≠j/\A[t]? =some w):=fun t w ht=>by
  rw[lX]at ht;split at ht
  ·rename_i e';split at ht
   ·cases ht;exact .inl ⟨e'.symm,rfl⟩
   ·cases ht
  ·rename_i e';exact .inr ⟨fun h=>e' h.symm,ht⟩
 have hcap:l≠[]->0<(φ j).cap:=fun hl=>by
  rcases Nat.eq_zero_or_pos (φ j).cap with e|e
  ·exact absurd ((h.obj j _ hj).1 e) hl
  ·exact e
 refine⟨fun t w ht=>?_,fun t t' w w' ht ht' hn he hl s1 s2=>?_,h.fr,fun t w ht he hs=>?_⟩
 ·rw[List.length_set];rcases hg t w ht with⟨rfl,rfl⟩|⟨_,h2⟩
  ·intro hl;obtain⟨_,hb,hc⟩:=h.obj t _ hj;obtain⟨cur,h1,_,_,_,h3⟩:=hc (hcap hl);exact⟨tt,cur,(e,0,0),h1,(fun h=>by cases h),fun i a ha=>by rw[hb,mO];exact h3 i a ha⟩
  ·exact h.obj t w h2
 ·rcases hg t w ht with⟨rfl,rfl⟩|⟨_,h2⟩
  ·cases he
  ·rcases hg t' w' ht' with⟨rfl,rfl⟩|⟨_,h2'⟩
   ·exact h.apart t t' w _ h2 hj hn he rfl s1 (hcap s2)
   ·exact h.apart t t' w w' h2 h2' hn he hl s1 s2
 ·rcases hg t w ht with⟨rfl,rfl⟩|⟨_,h2⟩
  ·cases he
  ·exact h.frx t w h2 he hs
theorem TK.frzRow{j:Nat}{l:List AV}{e:gT}{sz:Nat}(h:TK Y ds k Wq K')(hu:Upd K j (.row l e sz) j (.cells l e ff) K':=by repeat (first|exact Upd.head|apply Upd.tail)):TK Y ds k Wq K:=fun A hA φ H ts h1 h2 h3 h4 h5 h6=>by
 have hj:=hA.view.get hu.mem;have hl:(A.set j (.cells l e ff)).length=A.length:=by simp
 exact h _ (hA.step (.set hA.view hA.nd hu)) φ H ts h1 (by rw[hl];exact h2) (by rw[hl];exact h3) (by rw[hl];exact h4) (zgP h5 hj) (by rw[hl];exact h6)
end
end Go.Vel
namespace Go.Vel
open Go Go.Conc Go.Proofs
open Go.ConcN (sumTo upd upd_ne upd_same)
open Go.ConcM (OsLater MuAt muA msA)
open Go.ConcR (KK wgBlock WgAt stA smA mk rd wr)
open Mx (TT Th Mn S4 auto Mv4 ok4 bl4 kd dl MPc Pc okW okM Mv nx4 cnt newOf)
section
variable {P:gP}{gm:Nat->Option Nat}{T:gG->Hp->Prop}{Y:KX P gm T}{ds:List Nat}{k:List Item}{Wq:List AV}{K:KV}
theorem TK.nd(h:(keys K).Nodup->TK Y ds k Wq K):TK Y ds k Wq K:=fun A hA=>h hA.nd A hA
end
def zE(b:Nat):Nat->List Int
 | 0=>[]
 | i+1=>zE b i++(if b / 2 ^ i % 2=1 then [(i:Int)]else [])
theorem zb3(b:Nat):∀ i,(zE b i).length<=i
 | 0=>mL _
 | i+1=>by
  have:=zb3 b i;unfold zE;rw[lF];split <;> simp <;> omega
theorem uE{m b:Nat}(hm:m<=5)(hb:b<2 ^ m)(h:zE b m=[]):b=0:=by
 have key:∀ m,m<=5->∀ b,b<32->b<2 ^ m->zE b m=[]->b=0:=by decide +kernel
 have:2 ^ m<=2 ^ 5:=Nat.pow_le_pow_right dQ hm;exact key m hm b oQ hb h
def PlanR(Sq:KV)(m:Nat)(bt:List Int×Int->List Int×Int->Bool)(hi:Nat->Int)(ok:Nat->Bool)(r:AV)(K':KV):Prop :=
 (r=.tup [.agg [.v (.slice none 0 0),.v (.int .i64 0)],.v (.bool ff)]/\K'=Sq/\∀ b,0<b->b<2 ^ m->ok b=ff) \/
 ∃ b j e,0<b/\b<2 ^ m/\ok b=tt/\(∀ c,0<c->c<2 ^ m->ok c=tt->(zE c m,hi c)=(zE b m,hi b)\/bt (zE b m,hi b) (zE c m,hi c)=tt) /\
  r=.tup [.agg [.sl j 0 (zE b m).length,.v (.int .i64 (hi b))],.v (.bool tt)]/\K'=(j,.cells ((zE b m).map fun a=>.v (.int .i64 a)) e ff)::Sq
theorem ziV(m:Nat):zE 0 m=[]:=by
 induction m with
 | zero=>rfl
 | succ m ih=>unfold zE;rw[ih,Nat.zero_div,if_neg dQ];rfl
theorem zpp(b i:Nat):((b:Nat):Int) / 2 ^ ((i:Nat):Int).toNat=((b / 2 ^ i:Nat):Int):=by
 rw[mZ];simp
theorem znL{Ψ:gG->World->Prop}{gm:Nat->Option Nat}{m s:Nat}{a0 a1 a2 a3 a5 a6 a7:AV}{gF:gF}{Sq:KV}{bt:List Int×Int->List Int×Int->Bool}{lw hi:Nat->Int}{ok:Nat->Bool}(hm:1<=m/\m<=5)(hSq:∀ z∈Sq,∃ l e,l≠[]/\z.2=.cells l e ff)
  (htr:∀ p q r,bt p q=tt->bt q r=tt->bt p r=tt) (htot:∀ b c,0<b->b<2 ^ m->0<c->c<2 ^ m->ok b=tt->ok c=tt->(zE b m,hi b)=(zE c m,hi c)\/bt (zE b m,hi b) (zE c m,hi c)=tt\/bt (zE c m,hi c) (zE b m,hi b)=tt)
  (hsq:∀ b,0<b->b<2 ^ m->∀(jr:Nat){T:gG->Hp->Prop},zo tp ff T->zl tp T gm 97 [.agg [a0,a1,a2,a3,.sl s 0 m,a5,a6,a7],.sl jr 0 (zE b m).length] ((jr,.cells ((zE b m).map fun a=>.v (.int .i64 a)) 3 ff)::Sq) (fun r K'=>r=.tup [.agg [.v (.int .i64 (lw b)),.v (.int .i64 (hi b))],.v (.bool (ok b))]/\K'=(jr,.cells ((zE b m).map fun a=>.v (.int .i64 a)) 3 ff)::Sq))
  (hbt:∀{T:gG->Hp->Prop},zo tp ff T->∀(jr:Nat)(cs:List Int)(cost:Int)(cs0:List Int)(cost0:Int)(j0:Nat)(e0:gT),cs.length<=5->CallFK tp T gm (.fn gF [] []) [.agg [.sl jr 0 cs.length,.v (.int .i64 cost)],.agg [.sl j0 0 cs0.length,.v (.int .i64 cost0)]] [(jr,.cells (cs.map fun a=>.v (.int .i64 a)) 3 ff),(j0,.cells (cs0.map fun a=>.v (.int .i64 a)) e0 ff)] (fun r K'=>r=.v (.bool (bt (cs,cost) (cs0,cost0)))/\K'=[(jr,.cells (cs.map fun a=>.v (.int .i64 a)) 3 ff),(j0,.cells (cs0.map fun a=>.v (.int .i64 a)) e0 ff)])) :
  zl tp (BT tp Ψ) gm 42 [.agg [a0,a1,a2,a3,.sl s 0 m,a5,a6,a7],.fn gF [] []] Sq (fun r K'=>PlanR Sq m bt hi ok r K'):=by
 obtain⟨n,hn⟩:∃ n,n=2 ^ m - 1:=⟨_,rfl⟩;obtain⟨lkr,hlk⟩:∃ lkr:Nat->Bool,lkr=fun i=>decide (i<2 ^ m - 1)&&ok (i+1):=⟨_,rfl⟩;obtain⟨off,hof⟩:∃ off:Nat->List Int×Int,off=fun i=>(zE (i+1) m,hi (i+1)):=⟨_,rfl⟩;refine vc 50 (kI Ψ) Tryz.func42 fun Y hro hret3=>?_;have Wz:RetK Y Tryz.f42.results.toList (fun r K'=>PlanR Sq m bt hi ok r K'):=fun j Wq K' K'' D r hj hs hres hp A' hA'=>hret3 j [] Wq K' K' K'' [] D r hj (.all _) List.nodup_nil sQ hs hres hp A' hA';have hn1:1<=n/\n<=31:=by
  obtain⟨h1,h2⟩:=hm;have:m=1\/m=2\/m=3\/m=4\/m=5:=by omega
  rcases this with rfl|rfl|rfl|rfl|rfl <;> subst hn <;> decide
 have hsh:IntKind.i64.wrap (1*2 ^ ((m:Nat):Int).toNat)=((2 ^ m:Nat):Int):=by
  obtain⟨h1,h2⟩:=hm;have:m=1\/m=2\/m=3\/m=4\/m=5:=by omega
  rcases this with rfl|rfl|rfl|rfl|rfl <;> decide
 have hm2:2 ^ m<=32:=by omega
 have hlk1:∀ i,lkr i=tt->i+1<2 ^ m/\ok (i+1)=tt:=fun i h=>by
  rw[hlk]at h;simp only[Bool.and_eq_true,dT_]at h;exact⟨by omega,h.2⟩
 have hnee:∀ i,lkr i=tt->(off i).1≠[]:=fun i h=>by
  rw[hof];exact fun e=>by have:=uE hm.2 (hlk1 i h).1 e;omega
 refine au 21042 ?_;intro jk hjk;refine au 210 ?_;intro jf hjf;refine au 220 ?_;intro jres hjres;refine au 2204235 ?_;intro jo hjo;refine au 220423 ?_;intro jm hjm;refine au 220423 ?_;intro jw hjw;refine au 223 ?_;refine bC ((jm,_)::(jw,_)::(jo,_)::(jk,_)::(jf,_)::(jres,_)::Sq) ?_;refine TK.into (n:=n) (lkr:=lkr) (tM:=170) (tW:=177) (tO:=163) (d7:=7) (d8:=8) (vs9:=z9) (GIo lkr off bt 163) hn1 hro Z Z dQ sQ (fun lo hlo=>zli lo) ?_;intro y φ0 A0 hyn hyl hyS hyG hyb hjo hback k;refine TK.frz (j:=jk) ?_;refine TK.frz (j:=jf) ?_;refine au 2806906706706704 ?_;refine bH Z (q_shL Z Z Z ⟨by omega,by show((m:Nat):Int)<=64;omega⟩ (r:=((2 ^ m:Nat):Int)) hsh) ?_;refine au 13031 ?_;refine bA [2,3,4,5,6,7,8,17,18] ?_;refine TK.loopR (ι:=Nat) (fun b=>.m { pc:=if b - 1<n then .a0 else .w0,j:=b - 1 }) (fun r b Wq K=>b<=2 ^ m/\r=2 ^ m - b/\K=(jo,AObj.gone)::(jk,AObj.cells [a0,a1,a2,a3,.sl s 0 m,a5,a6,a7] 91 ff)::(jf,AObj.cells [.fn gF [] []] 98 ff)::(jres,AObj.cells [.v (.slice none 0 0),.v (.int .i64 0)] 95 tt)::Sq/\Wq=[.any,.any,.ptr jk 0,.ptr jf 0,.ptr jres 0,.v (.bool ff),.ptr jo 0,.v (.pointer (some ⟨y.Mu,0,none⟩)),.v (.pointer (some ⟨y.Wg,0,none⟩)),.any,.any,.any,.any,.any,.any,.any,.any,.v (.int .i64 ((2 ^ m:Nat):Int)),.v (.int .i64 ((b:Nat):Int)),.any,.any,.any,.any,.any,.any,.any,.any,.any,.any,.any,.any,.any,.any,.any,.any,.any,.any,.any,.any,.any,.any,.any,.any,.any,.any,.any,.any,.any,.any,.any]) (2 ^ m) 0 ⟨mN _,rfl,rfl,rfl⟩ (by rw[if_pos oQ]) ?_;rintro r k b Wq K ⟨hb,hr,rfl,rfl⟩ ih;refine au 923742 ?_;apply aI<;>intro Jz
 ·have hbn:b<2 ^ m:=Int.ofNat_lt.1 (oT_ Jz);refine au 22042351421302120 ?_;intro jc hjc;refine TK.virtAt (i:=0) (e:=3) (size:=1) Z (fun _=>uQ) fun jn0 hjn0=>?_;refine au 130312806906706706704223 ?_;refine bA [2,3,4,5,6,7,8,9,10,17,18,25,26] ?_;refine bC ((jc,_)::(jn0,_)::(jo,AObj.gone)::(jk,AObj.cells [a0,a1,a2,a3,.sl s 0 m,a5,a6,a7] 91 ff)::(jf,AObj.cells [.fn gF [] []] 98 ff)::(jres,AObj.cells [.v (.slice none 0 0),.v (.int .i64 0)] 95 tt)::Sq) ?_;refine bE (fun n1 Wq K=>∃(i jr:Nat),n1=m - i/\i<=m/\Wq=naL 2 (.ptr jk 0::.ptr jf 0::.ptr jres 0::.v (.bool ff)::.ptr jo 0::.v (.pointer (some ⟨y.Mu,0,none⟩))::.v (.pointer (some ⟨y.Wg,0,none⟩))::.v (.int .i64 ((b:Nat):Int))::.ptr jc 0::naL 6 (.v (.int .i64 ((2 ^ m:Nat):Int))::.v (.int .i64 ((b:Nat):Int))::naL 6 (.v (.int .i64 ((m:Nat):Int))::.v (.int .i64 ((i:Nat):Int))::naL 23 [])))/\K=(jc,AObj.cells [.row jr (zE b i).length] 41 tt)::(jr,AObj.row ((zE b i).map fun a=>.v (.int .i64 a)) 3 1)::(jo,AObj.gone)::(jk,AObj.cells [a0,a1,a2,a3,.sl s 0 m,a5,a6,a7] 91 ff)::(jf,AObj.cells [.fn gF [] []] 98 ff)::(jres,AObj.cells [.v (.slice none 0 0),.v (.int .i64 0)] 95 tt)::Sq) m ⟨0,jn0,rfl,mN _,rfl,rfl⟩ fun n1 Wq K hI Wj=>?_;obtain⟨i,jr,rfl,him,rfl,rfl⟩:=hI;have hbl:=zb3 b i;refine TK.na nQ ?_;refine au 923742 ?_;apply aI<;>intro Jx
  ·have Qp:i<m:=by simp at Jx;omega
   refine au 1142351421302120 ?_;refine bH Z (q_sh Z Z Z ⟨by omega,by show((i:Nat):Int)<=64;omega⟩ (zpp b i)) ?_;refine bH Z (zf8 Z Z Z (by have:=Nat.div_le_self b (2 ^ i);omega)) ?_;refine au 937 ?_;apply aI<;>intro hc2
   ·have hbit:b / 2 ^ i % 2=1:=by have h:=eq_of_beq hc2;omega
    refine au 16904 ?_;refine TK.newR Z Z Z (zH (l:=[_]) Z zp.h TyZ.h dQ dQ Z) (fun _=>zD rfl tQ) fun j1 hj1=>?_;refine TK.appR Z Z Z (a_app Z ApOf.h Z mQ sQ Z (yO (ln:=[_]) mQ dQ sQ Z) oQ Z (by unfold maxLen;omega) oQ) (fun _=>uQ) (fun _=>zD rfl tQ) fun jr2=>?_;refine au 3123041403170 ?_;refine bA [2,3,4,5,6,7,8,9,10,17,18,25,26] ?_;refine bC ((jc,_)::(jr2,_)::(jo,AObj.gone)::(jk,AObj.cells [a0,a1,a2,a3,.sl s 0 m,a5,a6,a7] 91 ff)::(jf,AObj.cells [.fn gF [] []] 98 ff)::(jres,AObj.cells [.v (.slice none 0 0),.v (.int .i64 0)] 95 tt)::Sq) ?_;have hk:zE b (i+1)=zE b i++[(i:Int)]:=by show zE b i++_=_;rw[if_pos hbit]
    have hl:(zE b (i+1)).length=(zE b i).length+1:=by rw[hk];simp
    exact Wj (m - (i+1)) _ _ oQ ⟨i+1,jr2,rfl,oQ,rfl,by rw[hl,hk,lM];rfl⟩
   have hbit:¬ b / 2 ^ i % 2=1:=fun h=>by rw[h]at hc2;simp at hc2
   refine au 312304140120 ?_;refine bA [2,3,4,5,6,7,8,9,10,17,18,25,26] ?_;exact Wj (m - (i+1)) _ _ oQ ⟨i+1,jr,rfl,oQ,rfl,by rw[show zE b (i+1)=zE b i from by show zE b i++_=_;rw[if_neg hbit,lR]]⟩
  obtain rfl:m=i:=by simp at Jx;omega
  refine au 937280690422160 ?_;apply aI<;>intro hc3
  ·have hb0:b=0:=uE hm.2 hbn (List.length_eq_zero_iff.1 (by have:=eq_of_beq hc3;omega));refine au 312304160 ?_;refine bA [2,3,4,5,6,7,8,17,18] ?_;refine bC ((jo,AObj.gone)::(jk,AObj.cells [a0,a1,a2,a3,.sl s 0 m,a5,a6,a7] 91 ff)::(jf,AObj.cells [.fn gF [] []] 98 ff)::(jres,AObj.cells [.v (.slice none 0 0),.v (.int .i64 0)] 95 tt)::Sq) ?_;refine TK.castT (T':=.m { pc:=if b+1 - 1<n then .a0 else .w0,j:=b+1 - 1 }) Z (by subst hb0;rfl) ?_;exact ih (2 ^ m - (b+1)) _ (b+1) _ _ oQ ⟨by omega,rfl,rfl,rfl⟩
  have hb1:0<b:=Nat.pos_of_ne_zero fun e=>by subst e;rw[ziV]at hc3;simp at hc3
  refine au 42120 ?_;refine TK.castT (T':=.m { pc:=.a0,j:=b - 1 }) Z (by show TT.m { pc:=if b - 1<n then .a0 else .w0,j:=b - 1 }=_;rw[if_pos oQ]) ?_;refine TK.callS Z Z Z Z (zmy (lo:=(jo,φ0 jo)) y) hjo Z ?_;rintro r2 K2 T2 ⟨rfl,rfl,k2,hk2,rfl⟩;refine⟨y.shutF _ _ _ _ _ _,?_⟩;refine au 3 ?_;refine bC ((jc,_)::(jr,_)::(jo,AObj.gone)::(jk,AObj.cells [a0,a1,a2,a3,.sl s 0 m,a5,a6,a7] 91 ff)::(jf,AObj.cells [.fn gF [] []] 98 ff)::(jres,AObj.cells [.v (.slice none 0 0),.v (.int .i64 0)] 95 tt)::Sq) ?_;refine TK.unrowAt (c:=jc) (i:=0) (j:=jr) Z mQ uQ ?_;refine TK.frz (j:=jc) ?_;refine TK.frzRow (j:=jr) ?_;refine TK.nd fun hnd=>?_;refine au 3204 ?_;have hlb:lkr (b - 1)=ok b:=by rw[hlk];show(decide (b - 1<2 ^ m - 1)&&ok (b - 1+1))=ok b;rw[show b - 1+1=b by omega,decide_eq_true oQ,Bool.true_and]
  have hob:off (b - 1)=(zE b m,hi b):=by rw[hof];show(zE (b - 1+1) m,hi (b - 1+1))=_;rw[show b - 1+1=b by omega]
  have hnd:(jc::jr::jo::jk::jf::jres::keys Sq).Nodup:=hnd;simp only[List.nodup_cons,lI,not_or]at hnd;refine TK.fork (S:=(jk,AObj.cells [a0,a1,a2,a3,.sl s 0 m,a5,a6,a7] 91 ff)::(jc,AObj.cells [.sl jr 0 (zE b m).length] 41 ff)::(jr,AObj.cells ((zE b m).map fun a=>.v (.int .i64 a)) 3 ff)::(jf,AObj.cells [.fn gF [] []] 98 ff)::Sq) (lo:=(jo,φ0 jo)) rfl rfl rfl rfl rfl (by kernel_rfl) (fun z hz=>by
   simp only[lI]at hz;rcases hz with rfl|rfl|rfl|rfl|hz
   ·exact⟨by simp,_,_,List.cons_ne_nil _ _,rfl⟩
   ·exact⟨by simp,_,_,List.cons_ne_nil _ _,rfl⟩
   ·exact⟨by simp,_,_,fun e=>by rw[List.map_eq_nil_iff]at e;have:=uE hm.2 hbn e;omega,rfl⟩
   ·exact⟨by simp,_,_,List.cons_ne_nil _ _,rfl⟩
   ·exact⟨by simp[hz],hSq z hz⟩)
   (by show(jk::jc::jr::jf::keys Sq).Nodup;simp only[List.nodup_cons,lI,not_or];grind)
   hjo rfl (by show jo∉jk::jc::jr::jf::keys Sq;simp only[lI,not_or];grind)
   (fun k3 x3 φ3 A3 Hc3 vs3 hv3 hd3 hl3 hl4 hg3 hH3 hvs3=>zkJ (lo:=(jo,φ0 jo)) (i:=b - 1) (cs:=zE b m) (a:=lw b) (cost:=hi b) (off:=off) (bt:=bt) y (by rw[hyl];exact hyG) hyb (fun _=>hob) (by rw[hyl];exact hnee) htr
    (by rw[hyl];intro i1 i2 h1 h2;rw[hof];exact htot (i1+1) (i2+1) oQ (hlk1 i1 h1).1 oQ (hlk1 i2 h2).1 (hlk1 i1 h1).2 (hlk1 i2 h2).2)
    (fun hT=>by rw[hyl,hlb];exact hsq b hb1 hbn jr hT) (fun hT cs0 cost0 j0 e0=>hbt hT jr _ _ cs0 cost0 j0 e0 (by have:=zb3 b m;omega)) hv3 hd3 hl3 hl4 hg3 hH3 hvs3) (fun k3 hk3=>?_)
  refine au 3123041403 ?_;refine bA [2,3,4,5,6,7,8,17,18] ?_;refine bC ((jo,AObj.gone)::(jk,AObj.cells [a0,a1,a2,a3,.sl s 0 m,a5,a6,a7] 91 ff)::(jf,AObj.cells [.fn gF [] []] 98 ff)::(jres,AObj.cells [.v (.slice none 0 0),.v (.int .i64 0)] 95 tt)::Sq) ?_;refine TK.castT (T':=.m { pc:=if b+1 - 1<n then .a0 else .w0,j:=b+1 - 1 }) Z (by show TT.m { pc:=if b - 1+1<y.n then .a0 else .w0,j:=b - 1+1 }=_;rw[hyn,show b - 1+1=b by omega,Nat.add_sub_cancel]) ?_;exact ih (2 ^ m - (b+1)) _ (b+1) _ _ oQ ⟨by omega,rfl,rfl,rfl⟩
 have hbn:¬ b<2 ^ m:=fun h=>oF_ Jz (Int.ofNat_lt.2 h);obtain rfl:b=2 ^ m:=by omega
 refine au 42160 ?_;refine TK.castT (T':=.m { pc:=.w0,j:=2 ^ m - 1 }) Z (by show TT.m { pc:=if 2 ^ m - 1<n then .a0 else .w0,j:=2 ^ m - 1 }=_;rw[if_neg oQ]) ?_;refine TK.callS Z Z Z Z (zkI (lo:=(jo,φ0 jo)) (PW:=PLo lkr off bt 163 jo y.all) y (hyS ▸ kI Ψ) (zox hyG hyb)) hjo Z ?_;rintro r2 K2 T2 ⟨rfl,⟨best,hbest,hpl⟩,hT2⟩;obtain rfl:T2=BT tp Ψ:=hT2.trans hyS;refine⟨kI Ψ,?_⟩;refine hback ?_;have hall:∀ c,0<c->c<2 ^ m->ok c=tt->lkr (c - 1)=tt/\y.all (c - 1)=tt/\off (c - 1)=(zE c m,hi c):=fun c h1 h2 h3=>by
  have e:lkr (c - 1)=tt:=by rw[hlk];show(decide (c - 1<2 ^ m - 1)&&ok (c - 1+1))=tt;rw[show c - 1+1=c by omega,decide_eq_true oQ,h3];rfl
  refine⟨e,?_,?_⟩
  ·show(y.lkr (c - 1)&&decide (c - 1<y.n))=tt;rw[hyl,e,hyn,decide_eq_true oQ];rfl
  ·rw[hof];show(zE (c - 1+1) m,hi (c - 1+1))=_;rw[show c - 1+1=c by omega]
 rcases best with _|⟨cs0,cost0⟩
 ·have hpl:K2=[(jo,.cells (z9.map AV.v) 163 tt)]:=hpl;subst hpl;refine au 23 ?_;refine bL [0,1,4,2,3,5] ?_;refine ad [[3,6],[12,46],[3,6],[10,48]] ?_;refine TD.s (Wx:=[_,_]) [4,47] Z Z (zz Z Z ze.h Z Z mQ Z) ?_;refine ad [[13,49],[14]] ?_;refine au 0 ?_;refine bB Wz (Sq) ?_;refine .inl ⟨rfl,rfl,fun c h1 h2=>?_⟩;cases h3:ok c with
  | false=>rfl
  | true =>
   obtain⟨q1,q2,q3⟩:=hall c h1 h2 h3;have:=hbest (c - 1) q1;rw[q2]at this;cases this
 ·obtain⟨j0,e0,rfl⟩:=hpl;refine au 23 ?_;refine bL [0,1,4,2,3,5] ?_;refine ad [[3,6],[12,46],[3,6],[10,48]] ?_;refine TD.s (Wx:=[_,_]) [4,47] Z Z (zz Z Z ze.h Z Z mQ Z) ?_;refine ad [[13,49],[14]] ?_;refine au 0 ?_;refine bB Wz ((j0,_)::Sq) ?_;obtain⟨⟨i0,h1,h2,h3⟩,h4⟩:=hbest;obtain⟨q1,q2⟩:=hlk1 i0 h1;rw[hof]at h3;cases h3;refine .inr ⟨i0+1,j0,e0,oQ,q1,q2,fun c g1 g2 g3=>?_,rfl,rfl⟩;obtain⟨p1,p2,p3⟩:=hall c g1 g2 g3;have:=h4 (c - 1) p1 p2;rw[p3]at this;exact this
end Go.Vel
namespace Go.Vel
open Go Go.Conc
structure CutsOk(b:RBk)(l:List Int):Prop where
 pos:0<l.length
 bnd:∀ n∈l,0<=n/\n<b.sE.length
 asc:l.Pairwise (· < ·)
theorem zjZ:∀(l:List Int)(a m:Int),(∀ n∈l,a<=n/\n<m)->l.Pairwise (· < ·)->a+l.length<=m\/l=[]
 | [],_,_,_,_=>.inr rfl
 | x::r,a,m,h,hp=>by
  left;obtain⟨h1,h2⟩:=List.pairwise_cons.1 hp;have hx:=h x sQ;rcases zjZ r (x+1) m (fun n hn=>⟨by have:=h1 n hn;omega,(h n (by simp[hn])).2⟩) h2 with h3|rfl
  ·simp only[lZ];omega
  ·simp;omega
theorem CutsOk.len{b:RBk}{l:List Int}(h:CutsOk b l):l.length<=b.sE.length:=by
 rcases zjZ l 0 b.sE.length (fun n hn=>h.bnd n hn) h.asc with h1|h1
 ·omega
 ·subst h1;simp
def cutN(l:List Int)(k:Nat):Int:=l.getD k 0
theorem yx{l:List Int}{k:Nat}(h:k<l.length):l[k]? =some (cutN l k):=by
 unfold cutN;rw[lE,lA h];rfl
theorem zmU{l:List Int}{k:Nat}(h:k<l.length):cutN l k∈l:=lN (yx h)
def cutS(b:RBk)(l:List Int)(k:Nat):RSeam:=sm b (cutN l k).toNat
theorem CutsOk.lt{b:RBk}{l:List Int}(h:CutsOk b l){k:Nat}(hk:k<l.length):0<=cutN l k/\cutN l k<b.sE.length/\(cutN l k).toNat<b.sE.length:=by
 have:=h.bnd _ (zmU hk);omega
structure StOk(b:RBk)(s:List Int):Prop where
 len:s.length=b.sE.length
 bnd:∀ i,i<b.sE.length->0<=s.getD i 0/\s.getD i 0<=5/\s.getD i 0<wideM b i
def endM(b:RBk)(l:List Int)(k:Nat):Int:=if k+1<l.length then(cutS b l (k+1)).step else(cutS b l 0).step+b.sP
def stripM(b:RBk)(l:List Int)(k:Nat):Int×Int:=(cutN l k,endM b l k - (cutS b l k).step)
def stripsM(b:RBk)(l:List Int):List (Int×Int):=(List.range l.length).map (stripM b l)
def pairC(x:Int×Int):List AV:=[za x.1,za x.2]
def fitsM(b:RBk)(l:List Int):Bool:=decide ((l.length:Int)<=b.rolls)&&(List.range l.length).all fun k => !(cutS b l k).whole&&decide ((stripM b l k).2<=b.roll)
section
variable {α:Type}(lt:α->α->Bool)
def insJ(x:α)(S:List α):Nat->List α
 | 0=>x::S
 | j+1=>match S[j]? with
  | some y=>if lt x y=tt then insJ x S j else S.take (j+1)++x::S.drop (j+1)
  | none=>S++[x]
def insR(x:α)(S:List α):List α:=insJ lt x S S.length
def sortN(l:List α):Nat->List α
 | 0=>[]
 | i+1=>match l[i]? with
  | some x=>insR lt x (sortN l i)
  | none=>sortN l i
def sortR(l:List α):List α:=sortN lt l l.length
variable {lt}
theorem zfC(x:α)(S:List α):∀ j,(insJ lt x S j).length=S.length+1
 | 0=>rfl
 | j+1=>by
  unfold insJ;split
  ·rename_i y hy;split
   ·exact zfC x S j
   ·have:=(lD.1 hy).1;simp;omega
  ·simp
theorem zbp(l:List α):∀ i,i<=l.length->(sortN lt l i).length=i
 | 0,_=>rfl
 | i+1,h=>by
  unfold sortN;rw[lA oQ];dsimp only;unfold insR;rw[zfC,zbp l i oQ]
end
def freshM(b:RBk)(s:List Int):Int:=b.round - b.sP+(s.getD 0 0+s.getD 1 0+s.getD 2 0+s.getD 3 0+s.getD 4 0)
theorem StOk.slot{b:RBk}{s:List Int}(hb:ROk b)(h:StOk b s)(i:Nat):0<=s.getD i 0/\s.getD i 0<=5:=by
 by_cases hi:i<b.sE.length
 ·have:=h.bnd i hi;omega
 ·rw[lE,lU (by have:=h.len;omega)];exact⟨Int.le_refl _,by decide⟩
theorem zle{b:RBk}(hb:ROk b){s:List Int}(h:StOk b s):0<=freshM b s/\freshM b s<=65:=by
 have h0:=h.slot hb 0;have h1:=h.slot hb 1;have h2:=h.slot hb 2;have h3:=h.slot hb 3;have h4:=h.slot hb 4;have:=hb.rnd.round;have:=hb.rnd.sP;unfold freshM;omega
def busyLt(b:RBk)(l:List Int)(x y:Int):Bool:=decide ((cutS b l x.toNat).busy<(cutS b l y.toNat).busy)||(decide ((cutS b l x.toNat).busy=(cutS b l y.toNat).busy)&&decide (y<x))
def idxM(n:Nat):List Int:=(List.range n).map fun(k:Nat)=>(k:Int)
def ordM(b:RBk)(l:List Int):List Int:=sortR (busyLt b l) (idxM l.length)
def spoilM(b:RBk)(l:List Int):Nat->Int
 | 0=>0
 | k+1=>spoilM b l k+(cutS b l k).spoil
structure Alloc where
 sP:List Int
 squares:Int
 left:Int
def allocM(b:RBk)(l:List Int)(z:Alloc)(k:Int):Alloc :=
 let n:=min z.left (cutS b l k.toNat).most
 ⟨z.sP.set k.toNat n,z.squares+n*(cutS b l k.toNat).busy,z.left - n⟩
def alloc0(b:RBk)(l:List Int)(n:Int):Alloc:=⟨mB l.length 0,spoilM b l l.length,n⟩
def allocA(b:RBk)(l:List Int)(n:Int):Alloc:=(ordM b l).foldl (allocM b l) (alloc0 b l n)
def hangM(b:RBk)(l s:List Int):Option (List Int×Int) :=
 if fitsM b l=ff then none else
 let z:=allocA b l (freshM b s)
 if 0<z.left then none else some (z.sP,z.squares)
def nowM(b:RBk)(s:List Int)(i:Nat):Int:=wideM b i - s.getD i 0
def togM(b:RBk)(s:List Int)(c:Nat):Nat->Int
 | 0=>0
 | k+1=>togM b s c k+nowM b s ((c+k) % b.sE.length)
def rightM(b:RBk)(s:List Int):Bool:=b.mE.all fun m=>decide (togM b s m.cloth.toNat m.many.toNat=m.wide)
def numsF(n:Int):Nat->List Int
 | 0=>[]
 | k+1=>n::numsF (n+1) k
def numsM(x:RBand):List Int:=numsF x.low (x.high+1 - x.low).toNat
def fromM(b:RBk):List Int->List RBand->List (List Int)
 | p,[]=>if rightM b p=tt then [p]else []
 | p,x::r=>(numsM x).flatMap fun n=>fromM b (p++[n]) r
def z8(b:RBk):List (List Int):=fromM b [] b.sH
theorem zgr{b:RBk}(hb:ROk b){s:List Int}(hs:StOk b s){c:Nat}:∀ k,0<=togM b s c k/\togM b s c k<=24*k
 | 0=>by simp[togM]
 | k+1=>by
  have:=zgr hb hs (c:=c) k;have hi:(c+k) % b.sE.length<b.sE.length:=Nat.mod_lt _ (by have:=hb.sms.len;omega);have h1:=hb.wide hi;have h2:=hs.bnd _ hi;unfold togM nowM;omega
theorem zeg:∀(k:Nat)(n x:Int),x∈numsF n k↔n<=x/\x<n+k
 | 0,n,x=>by simp[numsF]
 | k+1,n,x=>by
  unfold numsF;rw[lI,zeg k];omega
theorem zfN{x:RBand}(h:x.low<=x.high){n:Int}:n∈numsM x↔x.low<=n/\n<=x.high:=by
 unfold numsM;rw[zeg];omega
def InB(b:RBk)(s:List Int):Prop:=s.length=b.sH.length/\∀ i,i<b.sH.length->(bd b i).low<=s.getD i 0/\s.getD i 0<=(bd b i).high
theorem zfy{b:RBk}(hb:ROk b){s:List Int}(h:InB b s):StOk b s:=by
 have hl:=hb.cls.len;refine⟨by rw[h.1,hl],fun i hi=>?_⟩;have h1:=h.2 i oQ;have h2:=hb.cls.bnd i hi;omega
def PreB(b:RBk)(p:List Int):Prop:=p.length<=b.sH.length/\∀ i,i<p.length->(bd b i).low<=p.getD i 0/\p.getD i 0<=(bd b i).high
theorem zdw(b:RBk):PreB b []:=⟨mN _,fun i hi=>by simp at hi⟩
theorem zh3{p:List Int}{n:Int}{i:Nat}(h:i<p.length):(p++[n]).getD i 0=p.getD i 0:=by
 rw[lE,lE,lG h]
theorem zgF{p:List Int}{n:Int}:(p++[n]).getD p.length 0=n:=by
 rw[lE];simp
theorem zck{b:RBk}{p:List Int}{n:Int}(h:PreB b p)(hl:p.length<b.sH.length)(h1:(bd b p.length).low<=n)(h2:n<=(bd b p.length).high):PreB b (p++[n]):=by
 refine⟨by simp;omega,fun i hi=>?_⟩;rw[lF,List.length_singleton]at hi;by_cases e:i<p.length
 ·rw[zh3 e];exact h.2 i e
 ·have:i=p.length:=by omega
  subst this;rw[zgF];exact⟨h1,h2⟩
theorem zfn{b:RBk}(hb:ROk b):∀(r:List RBand)(p:List Int),PreB b p->r=b.sH.drop p.length->∀ s∈fromM b p r,InB b s/\rightM b s=tt
 | [],p,hp,hr,s,hs=>by
  unfold fromM at hs;split at hs
  ·rename_i h1;rw[lS.1 hs];have:p.length=b.sH.length:=by
    have:=congrArg List.length hr;simp at this;have:=hp.1;omega
   exact⟨⟨this,fun i hi=>hp.2 i oQ⟩,h1⟩
  ·cases hs
 | x::r,p,hp,hr,s,hs=>by
  unfold fromM at hs;obtain⟨n,hn,hs1⟩:=List.mem_flatMap.1 hs;have Qp:p.length<b.sH.length:=by
   have:=congrArg List.length hr;simp at this;omega
  have hx:b.sH.drop p.length=bd b p.length::b.sH.drop (p.length+1):=zY (kJ Qp);rw[hx]at hr;cases hr;have hb2:=hb.cls.bnd p.length (by have:=hb.cls.len;omega);rw[zfN oQ]at hn;exact zfn hb _ (p++[n]) (zck hp Qp hn.1 hn.2) sQ s hs1
theorem ziF{b:RBk}(hb:ROk b){s:List Int}(h:s∈z8 b):StOk b s/\rightM b s=tt:=by
 obtain⟨h1,h2⟩:=zfn hb _ [] (zdw b) rfl s h;exact⟨zfy hb h1,h2⟩
def okAll(b:RBk)(all:List (List Int)):Prop:=∀ s∈all,StOk b s
def spreadM:List Int->Int×Int
 | []=>(0,0)
 | x::r=>(r.foldl min x,r.foldl max x)
def waysM(b:RBk)(all:List (List Int))(l:List Int):List (List Int×Int):=all.filterMap (hangM b l)
def squaresM(b:RBk)(all:List (List Int))(l:List Int):Option (Int×Int) :=
 if (waysM b all l).length<all.length then none else some (spreadM ((waysM b all l).map (·.2)))
def lexM:List Int->List Int->Int
 | [],[]=>0
 | [],_::_ => -1
 | _::_,[]=>1
 | x::r,y::t=>if x<y then -1 else if y<x then 1 else lexM r t
def smallerM(x y:List Int):Bool:=decide (x.length<y.length)||(decide (x.length=y.length)&&decide (lexM x y<0))
def shorterM(x y:List Int×Int):Bool:=smallerM x.1 y.1
end Go.Vel
namespace Go.Vel
open Go Go.Conc Go.Proofs
instance:zm tp 108 0 0 ff 1:={}
instance:zm tp 108 1 1 ff 1:={}
instance:zm tp 108 2 2 ff 1:={}
instance:zm tp 183 0 0 ff 1:={}
instance:zm tp 183 1 1 ff 1:={}
instance:zm tp 183 2 2 ff 1:={}
instance:zm tp 183 3 3 ff 1:={}
instance:zm tp 23 0 0 ff 1:={}
instance:zm tp 32 0 0 ff 1:={}
instance:zm tp 32 1 1 ff 1:={}
instance:zm tp 32 2 2 ff 1:={}
instance:zm tp 32 3 3 ff 1:={}
instance:zm tp 32 5 5 ff 1:={}
instance:zm tp 32 6 6 ff 1:={}
instance:zp tp 28 183 5:={}
instance:zp tp 29 23 2:={}
instance:zp tp 30 108 3:={}
instance:ze tp 108 tt 3:={}
instance:ze tp 183 tt 5:={}
instance:ze tp 29 ff 1:={}
instance:ze tp 30 ff 1:={}
instance:ze tp 81 tt 7:={}
instance:TyZA tp 108 [.v (.int .i64 0),.v (.int .i64 0),.v (.int .i64 0)]:={}
instance:TyZA tp 183 [.v (.int .i64 0),.v (.int .i64 0),.v (.int .i64 0),.v (.int .i64 0),.v (.bool ff)]:={}
instance:Und tp 29 (.slice 23):={}
instance:Und tp 30 (.slice 108):={}
theorem yX{main T}(hT:zo tp main T){gm}{n lo hi:Int} :
  zl tp T gm 90 [za n,za lo,za hi] [] (fun r K'=>r=zr (betw n lo hi)/\K'=[]):=by
 refine zh 15 hT Tryz.func90 fun Y Wz=>?_;refine au 1711423542 ?_;refine bF 10 (fun g1_4=>?_) (fun g1_4=>?_)
 ·refine au 35260711 ?_;refine TK.rta Wz ?_;exact⟨by simp[zr,betw,g1_4],rfl⟩
 refine au 35250888 ?_;refine TK.rta Wz ?_;exact⟨by simp[zr,betw,g1_4],rfl⟩
theorem zd8{main T}(hT:zo tp main T){gm}{x:RBand}{lo hi:Int} :
  zl tp T gm 38 [.agg (bandC x),za lo,za hi] [] (fun r K'=>r=zr (isBd x lo hi)/\K'=[]):=by
 refine zh 24 hT Tryz.func38 fun Y Wz=>?_;refine au 21042 ?_;intro j1 hj1;refine au 1769067014235 ?_;refine bF 11 (fun g1_5=>?_) (fun g1_5=>?_)
 ·refine au 12607690670690670 ?_;refine bF 18 (fun g1_12=>?_) (fun g1_12=>?_)
  ·refine au 3526071690670 ?_;refine bB Wz [] ?_;exact⟨by simp_all[isBd,bandC] <;> (intros;omega),rfl⟩
  refine au 352508888 ?_;refine bB Wz [] ?_;exact⟨by simp_all[isBd,bandC] <;> (intros;omega),rfl⟩
 refine au 352508888125088888 ?_;refine bB Wz [] ?_;exact⟨by simp_all[isBd,bandC] <;> (intros;omega),rfl⟩
theorem zhJ{main T}(hT:zo tp main T){gm}{b:RBk}{s h e i:Nat}(hr:RndOk b)(hs:SmOk b)(hi:i<b.sE.length) :
  zl tp T gm 195 [.agg (zP b s h e),za i] [(s,zt b)] (fun r K'=>r=za (wideM b i)/\K'=[(s,zt b)]):=by
 refine zh 40 hT Tryz.func195 fun Y Wz=>?_;refine au 0 ?_;have h5:=hs.len;have hst:=hr.sP;have f0:=hs.fld 0 oQ;have fi:=hs.fld i hi;refine au 21042 ?_;intro jb hjb;refine au 235 ?_;refine bL [0,1,2,3,4,5,6,7,8,9,10] ?_;refine ad [[3,2],[3,6],[10,7],[2,8],[3,9]] ?_;refine TD.y [10] Z (hq:=zg Z Z ze.h (List.Mem.head _) (yB (c:=0) (sm_at (i:=0) b oQ Z) dQ Z)) (h:=?_);refine ad [[3,2],[3,12],[10,13],[8,11,14],[13,15],[14]] ?_;refine au 9372806906706702301422 ?_;apply aI<;>intro Jz
 ·have Qp:i+1<b.sE.length:=by simp at Jz;omega
  have fn:=hs.fld (i+1) Qp;refine au 67036023016906706704 ?_;refine bH Z (zg Z Z ze.h mQ (yB (c:=0) (sm_at (i:=i+1) b Qp Z) dQ Z)) ?_;refine au 670360169067067014235 ?_;refine bH Z (zg Z Z ze.h mQ (yB (c:=0) (sm_at (i:=i) b hi Z) dQ Z)) ?_;refine au 35240 ?_;refine bB Wz [(s,_)] ?_;exact⟨by unfold wideM;rw[if_pos Qp],rfl⟩
 have Qp:¬ i+1<b.sE.length:=by simp at Jz;omega
 refine au 6703601690670670142120 ?_;refine bH Z (zg Z Z ze.h mQ (yB (c:=0) (sm_at (i:=i) b hi Z) dQ Z)) ?_;refine au 35240 ?_;refine bB Wz [(s,_)] ?_;exact⟨by unfold wideM;rw[if_neg Qp],rfl⟩
theorem zgo{main T}(hT:zo tp main T){gm}{b:RBk}{s h e:Nat}{n:Int}(hs:b.sE.length<=5) :
  zl tp T gm 37 [za n,.agg (zP b s h e)] [] (fun r K'=>r=za (thereM b n)/\K'=[]):=by
 refine zh 13 hT Tryz.func37 fun Y Wz=>?_;refine au 21042 ?_;intro j1 hj1;refine au 240280690670670142235 ?_;refine TK.clE Z Z Z Z (yX hT) ?_;refine au 93300 ?_;apply aI<;>intro Jz
 ·refine au 3542 ?_;refine bB Wz [] ?_;exact⟨by simp at Jz;simp[thereM,Jz],rfl⟩
 refine au 3542120 ?_;refine bB Wz [] ?_;exact⟨by simp at Jz;simp[thereM,Jz],rfl⟩
theorem zko{main T}(hT:zo tp main T){gm}{b:RBk}{s h e:Nat} :
  zl tp T gm 239 [.agg (zP b s h e)] [] (fun r K'=>r=za (roundsM b)/\K'=[]):=by
 refine zh 32 hT Tryz.func239 fun Y Wz=>?_;refine au 21042 ?_;intro j1 hj1;refine au 69067067042235 ?_;refine TK.clE Z Z Z Z (yX hT) ?_;refine au 1300 ?_;refine bF 8 (fun g1_6=>?_) (fun g1_6=>?_)
 ·refine au 3542180326088888126088888126088888888 ?_;refine bB Wz [] ?_;simp only[mV,mW]at g1_6;exact⟨by simp[roundsM,g1_6],rfl⟩
 refine au 690670670690670670 ?_;refine TK.clE Z Z Z Z (yX hT) ?_;refine au 1250300 ?_;refine bF 18 (fun g1_16=>?_) (fun g1_16=>?_)
 ·refine au 3542180326088888126088888 ?_;refine bB Wz [] ?_;simp only[mV,mW]at g1_6 g1_16;exact⟨by simp[roundsM,g1_6,g1_16],rfl⟩
 refine au 690670670 ?_;refine TK.clE Z Z Z Z (yX hT) ?_;refine au 1250300 ?_;refine bF 25 (fun g1_23=>?_) (fun g1_23=>?_)
 ·refine au 3542180326088888 ?_;refine bB Wz [] ?_;simp only[mV,mW]at g1_6 g1_16 g1_23;exact⟨by simp[roundsM,g1_6,g1_16,g1_23],rfl⟩
 refine au 690670670 ?_;refine TK.clE Z Z Z Z (yX hT) ?_;refine au 93250300 ?_;apply aI<;>intro Jz
 ·refine au 3542 ?_;refine bB Wz [] ?_;simp only[mV,mW]at g1_6 g1_16 g1_23 Jz;exact⟨by simp[roundsM,g1_6,g1_16,g1_23,Jz],rfl⟩
 refine au 3542120 ?_;refine bB Wz [] ?_;simp only[mV,mW]at g1_6 g1_16 g1_23 Jz;exact⟨by simp[roundsM,g1_6,g1_16,g1_23,Jz],rfl⟩
theorem zml{main T}(hT:zo tp main T){gm}{b:RBk}{s h e:Nat}(hr:RndOk b)(hl:b.sE.length<=100) :
  zl tp T gm 240 [.agg (zP b s h e)] [(s,zt b)] (fun r K'=>r=za (seamsM b)/\K'=[(s,zt b)]):=by
 refine zh 49 hT Tryz.func240 fun Y Wz=>?_;refine au 0 ?_;have hst:=hr.sP;refine au 21042 ?_;intro jb hjb;refine au 28069067067042235 ?_;refine TK.clE Z Z Z Z (yX hT) ?_;refine au 93300 ?_;apply aI<;>intro Jz
 ·refine au 3542 ?_;refine bB Wz [(s,_)] ?_;simp only[mV,mW]at Jz;exact⟨by simp[seamsM,Jz],rfl⟩
 simp only[mV,mW]at Jz;have hl5:=zcC Jz;refine au 130312806906706704223542120 ?_;refine bA [1,2,3,14,15,16] ?_;refine bE (fun n Wq K=>∃(i:Nat)(last:Int),n=b.sE.length - i/\i<=b.sE.length/\seamsL b last (b.sE.drop i)=seamsM b/\Wq=.any::.ptr jb 0::za 0::za last::naL 10 (.sl s 0 b.sE.length::za b.sE.length::za i::naL 32 [])/\K=[(jb,.cells (zP b s h e) 81 tt),(s,zt b)]) b.sE.length ⟨0,-1,rfl,mN _,by unfold seamsM;rw[if_neg (by rw[Jz];decide)];rfl,rfl,rfl⟩ fun n Wq K hI Wj=>?_;obtain⟨i,last,rfl,hi,Qz,rfl,rfl⟩:=hI;refine TK.na nQ ?_;refine au 923742 ?_;apply aI<;>intro Jx
 ·have Qb:i<b.sE.length:=by simp at Jx;omega
  refine au 360421302120 ?_;refine bH Z (zK Z Z ze.h mQ (sm_at (i:=i) b Qb Z)) ?_;refine au 220 ?_;intro jx hjx;refine au 24069067067069067042213023170 ?_;refine TK.clE Z Z Z Z (yX hT) ?_;refine au 935300 ?_;apply aI<;>intro hc2
  ·refine au 9120 ?_;apply aI<;>intro hc5
   ·refine au 3542 ?_;refine bB Wz [(s,_)] ?_;exact⟨by rw[<- Qz,zY (kv Qb),seamsL,if_pos (by simp only[mV,mW]at hc2;simp[seamB,hc2])],rfl⟩
   exact absurd hc2 (by rw[hc5];decide)
  refine au 69067042 ?_;refine TK.clE Z Z Z Z (yX hT) ?_;refine au 935300 ?_;apply aI<;>intro hc3
  ·refine au 9120 ?_;apply aI<;>intro hc5
   ·refine au 3542 ?_;refine bB Wz [(s,_)] ?_;exact⟨by rw[<- Qz,zY (kv Qb),seamsL,if_pos (by simp only[mV,mW]at hc2 hc3;simp[seamB,hc2,hc3])],rfl⟩
   exact absurd hc3 (by rw[hc5];decide)
  refine au 69067042 ?_;refine TK.clE Z Z Z Z (yX hT) ?_;refine au 935300 ?_;apply aI<;>intro hc4
  ·refine au 9120 ?_;apply aI<;>intro hc5
   ·refine au 3542 ?_;refine bB Wz [(s,_)] ?_;exact⟨by rw[<- Qz,zY (kv Qb),seamsL,if_pos (by simp only[mV,mW]at hc2 hc3 hc4;simp[seamB,hc2,hc3,hc4])],rfl⟩
   exact absurd hc4 (by rw[hc5];decide)
  refine au 6906704 ?_;refine TK.clE Z Z Z Z (yX hT) ?_;refine au 935300 ?_;apply aI<;>intro hc5
  ·refine au 3542 ?_;refine bB Wz [(s,_)] ?_;exact⟨by rw[<- Qz,zY (kv Qb),seamsL,if_pos (by simp only[mV,mW]at hc2 hc3 hc4 hc5;simp[seamB,hc2,hc3,hc4,hc5])],rfl⟩
  have hsb:seamB b (sm b i)=tt:=by simp only[mV,mW]at hc2 hc3 hc4 hc5;simp[seamB,hc2,hc3,hc4,hc5]
  refine au 9357169067042 ?_;apply aI<;>intro hc6
  ·refine au 3542 ?_;refine bB Wz [(s,_)] ?_;exact⟨by rw[<- Qz,zY (kv Qb),seamsL,if_neg (by rw[hsb];decide),if_pos (oT_ hc6)],rfl⟩
  refine au 312304140356906704140120 ?_;refine bA [1,2,3,14,15,16] ?_;refine bC [(jb,_),(s,_)] ?_;exact Wj _ _ _ oQ ⟨i+1,(sm b i).step,rfl,oQ,by rw[<- Qz,zY (kv Qb),seamsL,if_neg (by rw[hsb];decide),if_neg (oF_ hc6)],rfl,rfl⟩
 obtain rfl:i=b.sE.length:=by simp at Jx;omega
 refine au 3542160 ?_;refine bB Wz [(s,_)] ?_;exact⟨by rw[<- Qz,List.drop_length];rfl,rfl⟩
theorem zi4{main T}(hT:zo tp main T){gm}{b:RBk}{s h e:Nat}(hr:RndOk b)(hs:SmOk b) :
  zl tp T gm 241 [.agg (zP b s h e)] [(s,zt b),(h,zX b)] (fun r K'=>r=za (clothsM b)/\K'=[(s,zt b),(h,zX b)]):=by
 refine zh 41 hT Tryz.func241 fun Y Wz=>?_;refine au 0 ?_;have hst:=hr.sP;have hl5:=hs.len;refine au 21042 ?_;intro jb hjb;refine au 93728069067067028069067067042235 ?_;apply aI<;>intro Jz
 ·refine au 3542 ?_;refine bB Wz [(s,_),(h,_)] ?_;exact⟨by unfold clothsM;rw[if_pos (by simp at Jz;omega)],rfl⟩
 have hle:b.sH.length=b.sE.length:=by simp at Jz;omega
 refine au 13031280690670670422120 ?_;refine bA [1,2,16,17,18] ?_;refine bE (fun n Wq K=>∃(i:Nat),n=b.sH.length - i/\i<=b.sH.length/\clothsL b i (b.sH.drop i)=clothsM b/\Wq=.any::.ptr jb 0::za 0::naL 13 (.sl h 0 b.sH.length::za b.sH.length::za i::naL 22 [])/\K=[(jb,.cells (zP b s h e) 81 tt),(s,zt b),(h,zX b)]) b.sH.length ⟨0,rfl,mN _,by unfold clothsM;rw[if_neg (by simpa using hle)];rfl,rfl,rfl⟩ fun n Wq K hI Wj=>?_;obtain⟨i,rfl,hi,Qz,rfl,rfl⟩:=hI;refine TK.na nQ ?_;refine au 923742 ?_;apply aI<;>intro Jx
 ·have Qb:i<b.sH.length:=by simp at Jx;omega
  refine au 3601421302120 ?_;refine bH Z (zK Z Z ze.h mQ (bd_at (i:=i) b Qb Z)) ?_;refine au 220 ?_;intro jx hjx;refine au 68042213031705 ?_;refine TK.clE Z Z Z Z (zd8 hT) ?_;refine au 935300 ?_;apply aI<;>intro hc2
  ·refine au 9120 ?_;apply aI<;>intro hc3
   ·refine au 3542 ?_;refine bB Wz [(s,_),(h,_)] ?_;exact⟨by rw[<- Qz,zY (kJ Qb),clothsL,if_pos (by simp at hc2;simp[bandB,hc2] <;> omega)],rfl⟩
   exact absurd hc2 (by rw[hc3];decide)
  have hbd:0<=(bd b i).low/\(bd b i).low<=(bd b i).high/\(bd b i).high<=5:=by simp[isBd]at hc2;omega
  refine au 93572406906706906704 ?_;apply aI<;>intro hc3
  ·refine au 3542 ?_;refine bB Wz [(s,_),(h,_)] ?_;exact⟨by rw[<- Qz,zY (kJ Qb),clothsL,if_pos (by simp at hc2 hc3;simp[bandB,hc2] <;> omega)],rfl⟩
  have hbb:bandB (bd b i)=tt:=by simp only[mV,mW]at hc2;have:=oF_ hc3;simp[bandB,hc2];omega
  refine au 2 ?_;refine bL [0,1,2,3,4,5,6] ?_;refine ad [[3,4],[10,34],[12,1],[1,3]] ?_;refine TD.clE (Wx:=[_,_]) [36,37] Z Z Z Z Z (zhJ hT (i:=i) hr hs oQ) ?_;refine ad [[4,35,38]] ?_;refine TD.as (Wx:=[_,_]) [39] Z Z (zI Z Z) ?_;refine ad [[14]] ?_;refine au 9 ?_;apply aI<;>intro hc4
  ·refine au 3542 ?_;refine bB Wz [(s,_),(h,_)] ?_;exact⟨by rw[<- Qz,zY (kJ Qb),clothsL,if_neg (by rw[hbb];decide),if_pos (oT_ hc4)],rfl⟩
  refine au 312304140140120 ?_;refine bA [1,2,16,17,18] ?_;refine bC [(jb,_),(s,_),(h,_)] ?_;exact Wj _ _ _ oQ ⟨i+1,rfl,oQ,by rw[<- Qz,zY (kJ Qb),clothsL,if_neg (by rw[hbb];decide),if_neg (oF_ hc4)],rfl,rfl⟩
 obtain rfl:i=b.sH.length:=by simp at Jx;omega
 refine au 3542160 ?_;refine bB Wz [(s,_),(h,_)] ?_;exact⟨by rw[<- Qz,List.drop_length];rfl,rfl⟩
theorem zgL{main T}(hT:zo tp main T){gm}{b:RBk}{s h e:Nat}(hs:SmOk b)(hl:b.mE.length<=100) :
  zl tp T gm 242 [.agg (zP b s h e)] [(e,zG b)] (fun r K'=>r=za (measM b)/\K'=[(e,zG b)]):=by
 refine zh 41 hT Tryz.func242 fun Y Wz=>?_;refine au 0 ?_;have hl5:=hs.len;refine au 21042 ?_;intro jb hjb;refine au 93728069067067042235 ?_;apply aI<;>intro Jz
 ·refine au 3542 ?_;refine bB Wz [(e,_)] ?_;exact⟨by unfold measM;rw[if_pos (by simp at Jz;omega)],rfl⟩
 refine au 13031280690670670422120 ?_;refine bA [1,2,13,14,15] ?_;refine bE (fun n Wq K=>∃(i:Nat),n=b.mE.length - i/\i<=b.mE.length/\measL b (b.mE.drop i)=measM b/\Wq=.any::.ptr jb 0::za 0::naL 10 (.sl e 0 b.mE.length::za b.mE.length::za i::naL 25 [])/\K=[(jb,.cells (zP b s h e) 81 tt),(e,zG b)]) b.mE.length ⟨0,rfl,mN _,by unfold measM;rw[if_neg (by simp at Jz;omega)];rfl,rfl,rfl⟩ fun n Wq K hI Wj=>?_;obtain⟨i,rfl,hi,Qz,rfl,rfl⟩:=hI;refine TK.na nQ ?_;refine au 923742 ?_;apply aI<;>intro Jx
 ·have Qb:i<b.mE.length:=by simp at Jx;omega
  obtain⟨x,hg⟩:∃ x,b.mE[i]? =some x:=⟨_,lA Qb⟩;refine au 360421302120 ?_;refine bH Z (zK Z Z ze.h mQ (zaf (c:=3) (f:=measC) (fun _=>rfl) hg rfl dQ)) ?_;refine au 220 ?_;intro jx hjx;refine au 6806906704223170 ?_;refine TK.clE Z Z Z Z (zgo hT oQ) ?_;refine au 93714235 ?_;apply aI<;>intro hc2
  ·refine au 35142 ?_;refine bB Wz [(e,_)] ?_;exact⟨by rw[<- Qz,zY hg,measL,if_pos (by simpa using hc2)],rfl⟩
  refine au 28069067067069067042120 ?_;refine TK.clE Z Z Z Z (yX hT) ?_;refine au 1300 ?_;refine bF 34 (fun g9_9=>?_) (fun g9_9=>?_)
  ·refine au 354218032608888 ?_;refine bB Wz [(e,_)] ?_;exact⟨by rw[<- Qz,zY hg,measL,if_neg (by simpa using hc2),if_pos (by simp only[mV,mW]at g9_9;simp[measB,g9_9])],rfl⟩
  refine au 690670 ?_;refine TK.clE Z Z Z Z (yX hT) ?_;refine au 93250300 ?_;apply aI<;>intro hc3
  ·refine au 3542 ?_;refine bB Wz [(e,_)] ?_;exact⟨by rw[<- Qz,zY hg,measL,if_neg (by simpa using hc2),if_pos (by simp only[mV,mW]at g9_9 hc3;simp[measB,g9_9,hc3])],rfl⟩
  refine au 312304140120 ?_;refine bA [1,2,13,14,15] ?_;refine bC [(jb,_),(e,_)] ?_;exact Wj _ _ _ oQ ⟨i+1,rfl,oQ,by rw[<- Qz,zY hg,measL,if_neg (by simpa using hc2),if_neg (by simp only[mV,mW]at g9_9 hc3;simp[measB,g9_9,hc3])],rfl,rfl⟩
 obtain rfl:i=b.mE.length:=by simp at Jx;omega
 refine au 3542160 ?_;refine bB Wz [(e,_)] ?_;exact⟨by rw[<- Qz,List.drop_length];rfl,rfl⟩
end Go.Vel
namespace Go.Vel
open Go Go.Conc
section
variable {P:gP}{gm:Nat->Option Nat}{Wq:List AV}{A A':List AObj}{o:Oper}{V:KV}
end
end Go.Vel
namespace Go.Vel
open Go Go.Conc Go.Proofs
def gmR:Nat->Option Nat
 | 0=>some 1
 | 1=>some 0
 | 2=>some 2
 | _=>none
def checksG:AObj:=.cells [.fn 239 [] [],.fn 240 [] [],.fn 241 [] [],.fn 242 [] []] 200 ff
def z7R:List AV:=[za 0,za 0,za 0,za 0,.v (.slice none 0 0),.v (.slice none 0 0),.v (.slice none 0 0)]
def bar2(x y:Int):Int:=if x≠0 then x else y
def OpenR(b:RBk)(s h e:Nat)(bar:Int)(r:AV):Prop:=(bar=0/\r=.tup [.agg (zP b s h e),za 0])\/(bar≠0/\r=.tup [.agg z7R,za bar])
theorem ziT{x y:Int}(h:x≠0):bar2 x y=x:=if_pos h
theorem zcB{x y:Int}(h:x=0):bar2 x y=y:=if_neg (fun e=>e h)
theorem zel(b:RBk)(l:List Int)(i:Nat):((List.range (i+1)).map (stripM b l)).flatMap pairC=((List.range i).map (stripM b l)).flatMap pairC++pairC (stripM b l i):=by
 rw[List.range_succ,lM,List.flatMap_append];simp
theorem zl4(b:RBk)(l:List Int)(i:Nat):(((List.range i).map (stripM b l)).flatMap pairC).length=i*2:=by
 rw[kz pairC 2 (fun _=>rfl)];simp
theorem zcM{b:RBk}{l:List Int}{k:Nat}(hk:k<l.length)(h:(cutS b l k).whole=tt\/b.roll<(stripM b l k).2):fitsM b l=ff:=by
 unfold fitsM;rw[Bool.and_eq_false_iff];right;rw[List.all_eq_false];refine⟨k,List.mem_range.2 hk,?_⟩;rcases h with h|h
 ·simp[h]
 ·simp;intro _;omega
theorem zkC{b:RBk}{l:List Int}{i:Nat}(h:i<l.length):((List.range l.length).map (stripM b l))[i]? =some (stripM b l i):=by
 rw[lQ,List.getElem?_range h];rfl
theorem zhx{α:Type}{f:α->List AV}{c:Nat}(hc:∀ x,(f x).length=c){xs:List α}{x:α}{i:Nat}{n:Int}{e:gT}{sz:Nat}(h:xs[i]? =some x)(hn:n=(i:Int))(h0:0<c):z6 (.row (xs.flatMap f) e sz) (n.toNat*c) c=some (f x):=by
 subst hn;obtain⟨h1,h2⟩:=lD.1 h;have hle:(i+1)*c<=xs.length*c:=Nat.mul_le_mul_right _ h1;have:(i+1)*c=i*c+c:=Nat.succ_mul ..;simp only[z6,AObj.look,mZ];rw[if_pos ⟨by omega,by rw[kz f c hc];omega⟩,za8 f c hc _ _ h1,h2]
theorem znJ{a b c d e f g h:Nat×AObj}{R:KV}:((f::R)++[a,b,c,d,e,g,h]).Perm (a::b::f::c::d::e::g::h::R):=by
 have q:((f::R)++[a,b,c,d,e,g,h]).Perm ([a,b,c,d,e,g,h]++(f::R)):=lH;refine q.trans ?_;have q2:([c,d,e,g,h]++f::R).Perm (f::([c,d,e,g,h]++R)):=List.perm_middle;exact(q2.cons b).cons a
instance:ArEl tp 160 5 3 ff 1:={}
instance:ArEl tp 200 4 84 ff 1:={}
instance:BlOf tp 81 [(0,7)]:={}
instance:zp tp 156 84 1:={}
instance:ze tp 160 tt 5:={}
instance:ze tp 200 tt 4:={}
instance:ze tp 32 tt 7:={}
instance:ze tp 84 ff 1:={}
instance:TyZ tp 81 [.int .i64 0,.int .i64 0,.int .i64 0,.int .i64 0,.slice none 0 0,.slice none 0 0,.slice none 0 0]:={}
instance:TyZA tp 81 [.v (.int .i64 0),.v (.int .i64 0),.v (.int .i64 0),.v (.int .i64 0),.v (.slice none 0 0),.v (.slice none 0 0),.v (.slice none 0 0)]:={}
instance:Und tp 156 (.slice 84):={}
theorem ze9{main:Bool}{T:gG->Hp->Prop}(hT:zo tp main T){b:RBk}{s h e:Nat}(hl:b.sE.length<=100)(hm:b.mE.length<=100) :
  zl tp T gmR 89 [.agg (zP b s h e)] [(2,checksG),(s,zt b),(h,zX b),(e,zG b)] (fun r K'=>r=za (checkM b)/\K'=[(2,checksG),(s,zt b),(h,zX b),(e,zG b)]):=by
 refine zh 18 hT Tryz.func89 fun Y Wz=>?_;refine au 21042 ?_;intro jb hjb;refine au 1303168042235 ?_;refine TK.loop ?_;refine au 923742 ?_;apply aI<;>intro Jz
 ·
  refine au 421302120 ?_;refine bH Z (kP Z Z Z ArEl.h oQ oQ Z) ?_;refine au 44068014235 ?_;refine TK.clE Z Z Z Z (zko hT) ?_;refine au 93714235 ?_;apply aI<;>intro Jx
  ·refine au 35142 ?_;refine bB Wz [(2,_),(s,_),(h,_),(e,_)] ?_;exact⟨by unfold checkM;rw[if_pos (by simpa using Jx)],rfl⟩
  have q1:roundsM b=0:=by simpa using Jx
  have hr:=zaO q1;refine au 312304140120 ?_;refine TK.inLoop ?_;refine au 923742 ?_;apply aI<;>intro Jz
  ·
   refine au 421302120 ?_;refine bH Z (kP Z Z Z ArEl.h oQ oQ Z) ?_;refine au 44068014235 ?_;refine TK.clE Z Z Z Z (zml hT hr hl) ?_;refine au 93714235 ?_;apply aI<;>intro Jx
   ·refine au 35142 ?_;refine bB Wz [(2,_),(s,_),(h,_),(e,_)] ?_;exact⟨by unfold checkM;rw[if_neg (by simpa using q1),if_pos (by simpa using Jx)],rfl⟩
   have q2:seamsM b=0:=by simpa using Jx
   have hs:=zbm q2;refine au 312304140120 ?_;refine TK.inLoop ?_;refine au 923742 ?_;apply aI<;>intro Jz
   ·
    refine au 421302120 ?_;refine bH Z (kP Z Z Z ArEl.h oQ oQ Z) ?_;refine au 44068014235 ?_;refine TK.clE Z Z Z Z (zi4 hT hr hs) ?_;refine au 93714235 ?_;apply aI<;>intro Jx
    ·refine au 35142 ?_;refine bB Wz [(2,_),(s,_),(h,_),(e,_)] ?_;exact⟨by unfold checkM;rw[if_neg (by simpa using q1),if_neg (by simpa using q2),if_pos (by simpa using Jx)],rfl⟩
    have q3:clothsM b=0:=by simpa using Jx
    refine au 312304140120 ?_;refine TK.inLoop ?_;refine au 923742 ?_;apply aI<;>intro Jz
    ·
     refine au 421302120 ?_;refine bH Z (kP Z Z Z ArEl.h oQ oQ Z) ?_;refine au 44068014235 ?_;refine TK.clE Z Z Z Z (zgL hT hs hm) ?_;refine au 93714235 ?_;apply aI<;>intro Jx
     ·refine au 35142 ?_;refine bB Wz [(2,_),(s,_),(h,_),(e,_)] ?_;exact⟨by unfold checkM;rw[if_neg (by simpa using q1),if_neg (by simpa using q2),if_neg (by simpa using q3)],rfl⟩
     refine au 312304140120 ?_;refine TK.inLoop ?_;refine au 923742 ?_;apply aI<;>intro Jz
     ·exact absurd Jz dQ
     refine au 3542160 ?_;refine bB Wz [(2,_),(s,_),(h,_),(e,_)] ?_;exact⟨by unfold checkM;rw[if_neg (by simpa using q1),if_neg (by simpa using q2),if_neg (by simpa using q3),show measM b=0 by simpa using Jx],rfl⟩
    exact absurd Jz dQ
   exact absurd Jz dQ
  exact absurd Jz dQ
 exact absurd Jz dQ
theorem ziq{main:Bool}{T:gG->Hp->Prop}(hT:zo tp main T){b:RBk}{s h e:Nat}{Kx:KV}(hl:b.sE.length<=100)(hm:b.mE.length<=100)  :
  zl tp T gmR 36 [.agg (zP b s h e),.v (.slice none 0 0)] ((2,checksG)::(s,zt b)::(h,zX b)::(e,zG b)::Kx) (fun r K'=>OpenR b s h e (checkM b) r/\K'=(2,checksG)::(s,zt b)::(h,zX b)::(e,zG b)::Kx):=by
 refine zh 34 hT Tryz.func36 fun Y Wz=>?_;refine au 21042 ?_;intro jb hjb;refine au 220 ?_;intro jr hjr;refine au 68042235 ?_;refine bD Z Z Z Z (ze9 hT hl hm) ?_ (hs:=(.right (.right (.left (.left (.left (.left (.none _))))))));rintro r1 K2 ⟨rfl,rfl⟩;refine au 93714235 ?_;apply aI<;>intro Jz
 ·refine au 35170144042 ?_;refine bB Wz ((2,_)::(s,_)::(h,_)::(e,_)::Kx) ?_;exact⟨.inr ⟨by exact(by simpa using Jz),by rfl⟩,rfl⟩
 have q0:checkM b=0:=by simpa using Jz
 refine au 22044068042120 ?_;intro jx hjx;refine au 1303128014223170 ?_;refine TK.loop ?_;refine au 923742 ?_;apply aI<;>intro Jx
 ·exact absurd Jx dQ
 refine au 3517068042160 ?_;refine bB Wz ((2,_)::(s,_)::(h,_)::(e,_)::Kx) ?_;exact⟨.inl ⟨q0,rfl⟩,rfl⟩
theorem zir{main:Bool}{T:gG->Hp->Prop}(hT:zo tp main T){b:RBk}{s h e ja:Nat}{Kx:KV}{f1:AV}{p1:Int}(hl:b.sE.length<=100)(hm:b.mE.length<=100)(hf1:checkM b=0->CallFK tp T gmR f1 [.agg (zP b s h e)] ((s,zt b)::Kx) (fun r K'=>r=za p1/\K'=(s,zt b)::Kx)) :
  zl tp T gmR 36 [.agg (zP b s h e),.row ja 1] ((ja,.row [f1] 84 1)::(2,checksG)::(s,zt b)::(h,zX b)::(e,zG b)::Kx) (fun r K'=>OpenR b s h e (bar2 (checkM b) p1) r/\K'=(ja,.row [f1] 84 1)::(2,checksG)::(s,zt b)::(h,zX b)::(e,zG b)::Kx):=by
 refine zh 34 hT Tryz.func36 fun Y Wz=>?_;refine au 21042 ?_;intro jb hjb;refine au 220 ?_;intro jr hjr;refine au 68042235 ?_;refine bD Z Z Z Z (ze9 hT hl hm) ?_ (hs:=(.right (.right (.right (.left (.left (.left (.left (.none _)))))))));rintro r1 K2 ⟨rfl,rfl⟩;refine au 93714235 ?_;apply aI<;>intro Jz
 ·refine au 35170144042 ?_;refine bB Wz ((ja,_)::(2,_)::(s,_)::(h,_)::(e,_)::Kx) ?_;exact⟨.inr ⟨by rw[ziT (by simpa using Jz)];exact(by simpa using Jz),by rw[ziT (by simpa using Jz)];rfl⟩,rfl⟩
 have q0:checkM b=0:=by simpa using Jz
 refine au 22044068042120 ?_;intro jx hjx;refine au 1303128014223170 ?_;refine TK.loop ?_;refine au 923742 ?_;apply aI<;>intro Jx
 ·
  refine au 68014235690370421302120 ?_;refine TK.callF' Z Z Z Z Z (hf1 q0) (.right (.right (.left (.right (.right (.right (.right (.right (.all _))))))))) fun r4 K5 h6=>?_;obtain⟨rfl,rfl⟩:=h6;refine au 0 ?_;refine bN (K':=(jx,_)::(2,_)::(s,_)::(h,_)::(e,_)::(jr,_)::(jb,_)::(ja,_)::Kx) znJ ?_;refine au 93714235 ?_;apply aI<;>intro hc2
  ·refine au 35170144042 ?_;refine bB Wz ((ja,_)::(2,_)::(s,_)::(h,_)::(e,_)::Kx) ?_;exact⟨.inr ⟨by rw[zcB q0];simpa using hc2,by rw[zcB q0];rfl⟩,rfl⟩
  have q1:p1=0:=by simpa using hc2
  refine au 312304140120 ?_;refine TK.inLoop ?_;refine au 923742 ?_;apply aI<;>intro Jx
  ·exact absurd Jx dQ
  refine au 3517068042160 ?_;refine bB Wz ((ja,_)::(2,_)::(s,_)::(h,_)::(e,_)::Kx) ?_;exact⟨.inl ⟨by rw[zcB q0];exact q1,rfl⟩,rfl⟩
 exact absurd Jx dQ
theorem zlf{main T}(hT:zo tp main T){gm}{b:RBk}{s h e:Nat}{l:List Int}(hb:ROk b)(hl:StOk b l) :
  zl tp T gm 185 [.agg (zP b s h e),.agg (stC l)] [] (fun r K'=>r=za (freshM b l)/\K'=[]):=by
 refine zh 24 hT Tryz.func185 fun Y Wz=>?_;refine au 0 ?_;have f0:=hl.slot hb 0;have f1:=hl.slot hb 1;have f2:=hl.slot hb 2;have f3:=hl.slot hb 3;have f4:=hl.slot hb 4;have hst:=hb.rnd.sP;have hrd:=hb.rnd.round;refine au 21042 ?_;intro jb hjb;refine au 210 ?_;intro js hjs;refine au 13031680422352406906706706906706704235 ?_;refine TK.loop ?_;refine au 923742 ?_;apply aI<;>intro Jz
 ·
  refine au 421302120 ?_;refine bH Z (kP Z Z Z ArEl.h oQ oQ Z) ?_;refine au 3123041403523011435 ?_;refine TK.inLoop ?_;refine au 923742 ?_;apply aI<;>intro Jz
  ·
   refine au 421302120 ?_;refine bH Z (kP Z Z Z ArEl.h oQ oQ Z) ?_;refine au 3123041403523011435 ?_;refine TK.inLoop ?_;refine au 923742 ?_;apply aI<;>intro Jz
   ·
    refine au 421302120 ?_;refine bH Z (kP Z Z Z ArEl.h oQ oQ Z) ?_;refine au 3123041403523011435 ?_;refine TK.inLoop ?_;refine au 923742 ?_;apply aI<;>intro Jz
    ·
     refine au 421302120 ?_;refine bH Z (kP Z Z Z ArEl.h oQ oQ Z) ?_;refine au 3123041403523011435 ?_;refine TK.inLoop ?_;refine au 923742 ?_;apply aI<;>intro Jz
     ·
      refine au 421302120 ?_;refine bH Z (kP Z Z Z ArEl.h oQ oQ Z) ?_;refine au 3123041403523011435 ?_;refine TK.inLoop ?_;refine au 923742 ?_;apply aI<;>intro Jz
      ·exact absurd Jz dQ
      refine au 35142160 ?_;refine bB Wz [] ?_;exact⟨by show za _=za _;unfold freshM;congr 1;omega,rfl⟩
     exact absurd Jz dQ
    exact absurd Jz dQ
   exact absurd Jz dQ
  exact absurd Jz dQ
 exact absurd Jz dQ
instance:ApOf tp 121 114 4 32:={}
instance:ApOf tp 138 137 2 16:={}
instance:ApOf tp 142 147 2 32:={}
instance:ApOf tp 24 78 5 48:={}
instance:ApOf tp 25 105 2 16:={}
instance:ApOf tp 35 41 1 24:={}
instance:ApOf tp 41 3 1 8:={}
instance:ArEl tp 112 3 3 ff 1:={}
instance:ArEl tp 189 3 188 ff 1:={}
instance:ArEl tp 194 3 193 ff 1:={}
instance:BlOf tp 105 [(0,1),(1,1)]:={}
instance:BlOf tp 110 [(0,6)]:={}
instance:BlOf tp 114 [(0,1),(1,3)]:={}
instance:BlOf tp 125 [(0,6),(6,1),(7,1)]:={}
instance:BlOf tp 137 [(0,1),(1,1)]:={}
instance:BlOf tp 147 [(0,1),(1,1)]:={}
instance:BlOf tp 23 [(0,1),(1,1)]:={}
instance:BlOf tp 27 [(0,1),(1,1),(2,2),(4,1),(5,1)]:={}
instance:BlOf tp 78 [(0,1),(1,1),(2,1),(3,1),(4,1)]:={}
instance:EqG tp 23:={}
instance:FlatF tp 23 [(3,0),(3,1)]:={}
instance:zm tp 105 0 0 ff 1:={}
instance:zm tp 105 1 1 ff 1:={}
instance:zm tp 110 0 0 tt 6:={}
instance:zm tp 114 0 0 ff 1:={}
instance:zm tp 114 1 1 tt 3:={}
instance:zm tp 125 0 0 tt 6:={}
instance:zm tp 125 1 6 ff 1:={}
instance:zm tp 125 2 7 ff 1:={}
instance:zm tp 137 0 0 ff 1:={}
instance:zm tp 137 1 1 ff 1:={}
instance:zm tp 147 0 0 ff 1:={}
instance:zm tp 147 1 1 ff 1:={}
instance:zm tp 23 0 0 ff 1:={}
instance:zm tp 23 1 1 ff 1:={}
instance:zm tp 27 0 0 ff 1:={}
instance:zm tp 27 1 1 ff 1:={}
instance:zm tp 27 2 2 tt 2:={}
instance:zm tp 27 3 4 ff 1:={}
instance:zm tp 27 4 5 ff 1:={}
instance:zm tp 78 0 0 ff 1:={}
instance:zm tp 78 1 1 ff 1:={}
instance:zm tp 78 2 2 ff 1:={}
instance:zm tp 78 3 3 ff 1:={}
instance:zm tp 78 4 4 ff 1:={}
instance:InfO tp 114 Tryz.t114:={}
instance:InfO tp 137 Tryz.t137:={}
instance:InfO tp 3 Tryz.t3:={}
instance:InfO tp 4 Tryz.t4:={}
instance {a0 a1 a2 a3 a4 a5 a6 a7 a8 a9 a10 a11 a12 a13 a14 a15 a16 a17 a18 a19 a20 a21 a22 a23 a24 a25 a26 a27 a28 a29 a30 a31 a32 a33 a34 a35 a36 a37 a38 a39 a40 a41 a42 a43 a44 a45 a46 a47 a48 a49 a50 a51 a52 a53 a54 a55 a56 a57 a58 a59 a60 a61:Oper}:RgL #[a0,a1,a2,a3,a4,a5,a6,a7,a8,a9,a10,a11,a12,a13,a14,a15,a16,a17,a18,a19,a20,a21,a22,a23,a24,a25,a26,a27,a28,a29,a30,a31,a32,a33,a34,a35,a36,a37,a38,a39,a40,a41,a42,a43,a44,a45,a46,a47,a48,a49,a50,a51,a52,a53,a54,a55,a56,a57,a58,a59,a60,a61] [0,1,2,3,4,5,6,7,8,9,10,11,12,13,14,15,16,17,18,19,20,21,22,23,24,25,26,27,28,29,30,31,32,33,34,35,36,37,38,39,40,41,42,43,44,45,46,47,48,49,50,51,52,53,54,55,56,57,58,59,60,61]:=⟨rfl⟩
instance {a0 a1 a2 a3 a4 a5 a6 a7 a8 a9 a10 a11 a12 a13 a14 a15 a16 a17 a18 a19 a20 a21 a22 a23 a24 a25 a26 a27 a28 a29 a30 a31 a32 a33 a34 a35 a36 a37 a38 a39 a40 a41 a42 a43 a44 a45 a46 a47 a48 a49 a50 a51 a52 a53 a54 a55 a56 a57 a58 a59 a60 a61 a62 a63 a64 a65 a66 a67 a68 a69 a70 a71 a72 a73:Oper}:RgL (List.toArray (List.append [a0,a1,a2,a3,a4,a5,a6,a7,a8,a9,a10,a11,a12,a13,a14,a15,a16,a17,a18,a19,a20,a21,a22,a23,a24,a25,a26,a27,a28,a29,a30,a31,a32,a33,a34,a35,a36] [a37,a38,a39,a40,a41,a42,a43,a44,a45,a46,a47,a48,a49,a50,a51,a52,a53,a54,a55,a56,a57,a58,a59,a60,a61,a62,a63,a64,a65,a66,a67,a68,a69,a70,a71,a72,a73])) (0::1::2::3::4::5::6::7::8::9::10::11::12::13::14::15::16::17::18::19::20::21::22::23::24::25::26::27::28::29::30::31::32::33::34::35::36::37::38::39::40::41::42::43::44::45::46::47::48::49::50::51::52::53::54::55::56::57::58::59::60::61::62::63::64::65::66::67::68::69::70::71::72::73::[]):=⟨rfl⟩
instance:zp tp 121 114 4:={}
instance:zp tp 138 137 2:={}
instance:zp tp 142 147 2:={}
instance:zp tp 24 78 5:={}
instance:zp tp 25 105 2:={}
instance:zp tp 304 5 1:={}
instance:zp tp 35 41 1:={}
instance:zp tp 41 3 1:={}
instance:ze tp 105 tt 2:={}
instance:ze tp 110 tt 6:={}
instance:ze tp 112 tt 3:={}
instance:ze tp 114 tt 4:={}
instance:ze tp 118 ff 1:={}
instance:ze tp 120 ff 1:={}
instance:ze tp 121 ff 1:={}
instance:ze tp 123 ff 1:={}
instance:ze tp 125 tt 8:={}
instance:ze tp 134 ff 1:={}
instance:ze tp 135 ff 1:={}
instance:ze tp 137 tt 2:={}
instance:ze tp 142 ff 1:={}
instance:ze tp 147 tt 2:={}
instance:ze tp 188 ff 1:={}
instance:ze tp 194 tt 3:={}
instance:ze tp 23 tt 2:={}
instance:ze tp 24 ff 1:={}
instance:ze tp 25 ff 1:={}
instance:ze tp 27 tt 6:={}
instance:ze tp 3 ff 1:={}
instance:ze tp 38 ff 1:={}
instance:ze tp 4 ff 1:={}
instance:ze tp 41 ff 1:={}
instance:ze tp 5 ff 1:={}
instance:ze tp 76 ff 1:={}
instance:ze tp 78 tt 5:={}
instance:ze tp 9 ff 1:={}
instance:TyZ tp 105 [.int .i64 0,.bool ff]:={}
instance:TyZ tp 110 [.int .i64 0,.int .i64 0,.int .i64 0,.int .i64 0,.slice none 0 0,.slice none 0 0]:={}
instance:TyZ tp 114 [.int .i64 0,.int .i64 0,.int .i64 0,.int .i64 0]:={}
instance:TyZ tp 125 [.int .i64 0,.int .i64 0,.int .i64 0,.int .i64 0,.slice none 0 0,.slice none 0 0,.slice none 0 0,.map none]:={}
instance:TyZ tp 137 [.int .i64 0,.int .i64 0]:={}
instance:TyZ tp 147 [.slice none 0 0,.int .i64 0]:={}
instance:TyZ tp 23 [.int .i64 0,.int .i64 0]:={}
instance:TyZ tp 27 [.int .i64 0,.int .i64 0,.int .i64 0,.int .i64 0,.slice none 0 0,.slice none 0 0]:={}
instance:TyZ tp 3 [.int .i64 0]:={}
instance:TyZ tp 41 [.slice none 0 0]:={}
instance:TyZ tp 78 [.string ⟨#[]⟩,.int .i64 0,.int .i64 0,.int .i64 0,.bool ff]:={}
instance:TyZA tp 110 [.v (.int .i64 0),.v (.int .i64 0),.v (.int .i64 0),.v (.int .i64 0),.v (.slice none 0 0),.v (.slice none 0 0)]:={}
instance:TyZA tp 114 [.v (.int .i64 0),.v (.int .i64 0),.v (.int .i64 0),.v (.int .i64 0)]:={}
instance:TyZA tp 118 [.v (.nilFunc)]:={}
instance:TyZA tp 121 [.v (.slice none 0 0)]:={}
instance:TyZA tp 125 [.v (.int .i64 0),.v (.int .i64 0),.v (.int .i64 0),.v (.int .i64 0),.v (.slice none 0 0),.v (.slice none 0 0),.v (.slice none 0 0),.v (.map none)]:={}
instance:TyZA tp 134 [.v (.chan none)]:={}
instance:TyZA tp 135 [.v (.chan none)]:={}
instance:TyZA tp 137 [.v (.int .i64 0),.v (.int .i64 0)]:={}
instance:TyZA tp 142 [.v (.slice none 0 0)]:={}
instance:TyZA tp 147 [.v (.slice none 0 0),.v (.int .i64 0)]:={}
instance:TyZA tp 23 [.v (.int .i64 0),.v (.int .i64 0)]:={}
instance:TyZA tp 27 [.v (.int .i64 0),.v (.int .i64 0),.v (.int .i64 0),.v (.int .i64 0),.v (.slice none 0 0),.v (.slice none 0 0)]:={}
instance:TyZA tp 3 [.v (.int .i64 0)]:={}
instance:TyZA tp 38 [.v (.int .i64 0)]:={}
instance:TyZA tp 4 [.v (.bool ff)]:={}
instance:TyZA tp 78 [.v (.string ⟨#[]⟩),.v (.int .i64 0),.v (.int .i64 0),.v (.int .i64 0),.v (.bool ff)]:={}
instance:Und tp 121 (.slice 114):={}
instance:Und tp 123 (.map 3 3):={}
instance:Und tp 134 (.chan .both 137):={}
instance:Und tp 135 (.chan .both 4):={}
instance:Und tp 138 (.slice 137):={}
instance:Und tp 142 (.slice 147):={}
instance:Und tp 24 (.slice 78):={}
instance:Und tp 25 (.slice 105):={}
instance:Und tp 3 (.int .i64):={}
instance:Und tp 304 (.slice 5):={}
instance:Und tp 35 (.slice 41):={}
instance:Und tp 4 .bool:={}
instance:Und tp 41 (.slice 3):={}
instance:Und tp 5 (.int .u8):={}
instance:Und tp 9 .string:={}
structure Says where
 name:ByteArray
 frm:Int
 til:Int
 says:Int
 glass:Bool
structure Seen where
 step:Int
 seam:Bool
structure Bk where
 sP:Int
 wrong:Int
 low:Int
 high:Int
 kE:List Says
 seen:List Seen
instance:Inhabited Says:=⟨⟨ByteArray.empty,0,0,0,ff⟩⟩
instance:Inhabited Seen:=⟨⟨0,ff⟩⟩
def saysC(x:Says):List AV:=[.v (.string x.name),za x.frm,za x.til,za x.says,zr x.glass]
def seenC(x:Seen):List AV:=[za x.step,zr x.seam]
def zA(b:Bk)(s e:Nat):List AV:=[za b.sP,za b.wrong,za b.low,za b.high,.sl s 0 b.kE.length,.sl e 0 b.seen.length]
def zu(b:Bk):AObj:=.cells (b.kE.flatMap saysC) 78 ff
def zw(b:Bk):AObj:=.cells (b.seen.flatMap seenC) 105 ff
def slotS(S:List Int)(i:Nat):AV:=za (((S[i]?).map (· + 1)).getD 0)
def yb(S:List Int):List AV:=[za S.length,slotS S 0,slotS S 1,slotS S 2]
theorem zex{S:List Int}(hS:S.length<=3){i:Nat}(hi:i<S.length){n:Int}{e:gT}{rw:Bool}(h:n=(i:Int)):z6 (.cells (yb S) e rw) (1+n.toNat*1) 1=some [za (S[i]+1)]:=by
 subst h;have:i=0\/i=1\/i=2:=by omega
 rcases this with rfl|rfl|rfl <;> simp[z6,AObj.look,yb,slotS,hi]
theorem zco{xs:List Int}{i:Nat}(hi:i<xs.length){n:Int}{e:gT}{s:Nat}(h:n=(i:Int)):z6 (.row (xs.map za) e s) (n.toNat*1) 1=some [za xs[i]]:=by
 subst h;simp only[z6,AObj.look];rw[if_pos (by simp;omega)];simp[List.take_one,hi]
def inM(b:Bk)(S:List Int)(lo w:Int):Int:=(S.filter fun x=>decide ((x - lo+b.sP) % b.sP<w)).length
theorem zjx(b:Bk)(S:List Int)(lo w:Int):0<=inM b S lo w/\inM b S lo w<=S.length:=⟨Int.natCast_nonneg _,Int.ofNat_le.2 (List.length_filter_le _ _)⟩
theorem zfx{b:Bk}{S:List Int}{lo w:Int}{i:Nat}(h:i<S.length):inM b (S.take (i+1)) lo w=inM b (S.take i) lo w+if (S[i] - lo+b.sP) % b.sP<w then 1 else 0:=by
 unfold inM;rw[List.take_add_one,lA h,List.filter_append,lF];by_cases hc:(S[i] - lo+b.sP) % b.sP<w
 ·rw[if_pos hc];simp only[Option.toList,List.filter_cons,List.filter_nil,decide_eq_true hc,if_true];rfl
 ·rw[if_neg hc];simp only[Option.toList,List.filter_cons,List.filter_nil,decide_eq_false hc,Bool.false_eq_true,if_false];rfl
theorem zbD{main T}(hT:zo tp main T){gm}{S:List Int}(hS:S.length<=3)(hB:∀ x∈S,0<=x/\x<1000) :
  zl tp T gm 77 [.agg (yb S)] [] (fun r K'=>∃ j,r=.row j S.length/\K'=[(j,.row (S.map za) 3 1)]):=by
 refine zh 22 hT Tryz.func77 fun Y Wz=>?_;refine au 21042 ?_;intro js hjs;refine au 54235 ?_;refine TK.virt 3 3 1 Z fun j0 hj0=>?_;refine au 6906706704223 ?_;refine bH Z (zc5 Z Z ArEl.h Z Z oQ oQ Z) ?_;refine au 13031280 ?_;refine bA [3,9,10,11] ?_;refine bE (fun n Wq K=>∃(i j:Nat),n=S.length - i/\i<=S.length/\Wq=ym 22 [(3,.row j i),(9,.sl js 1 S.length),(10,za S.length),(11,za i)]/\K=[(j,.row ((S.take i).map za) 3 1),(js,.cells (yb S) 114 tt)]) S.length ⟨0,j0,rfl,mN _,rfl,rfl⟩ fun n Wq K hI Wj=>?_;obtain⟨i,j,rfl,hi,rfl,rfl⟩:=hI;refine au 923742 ?_;refine⟨fun hc=>?_,fun hc=>?_⟩
 ·simp only[dT_]at hc;have Qb:i<S.length:=by omega
  refine au 360421302120 ?_;refine bH Z (zg Z Z ze.h mQ (zex (i:=i) hS oQ Z)) ?_;refine au 11435 ?_;refine bH Z (q_sub Z Z Z (by have:=hB S[i] (List.getElem_mem _);omega)) ?_;refine TK.newR Z Z Z (zH (l:=[_]) Z zp.h TyZ.h dQ dQ Z) (fun _=>zD rfl tQ) fun j1 hj1=>?_;refine TK.appR Z Z Z (a_app Z ApOf.h Z mQ (by simp <;> omega) Z (yO (ln:=[_]) mQ dQ sQ Z) oQ Z (by unfold maxLen;omega) oQ) (fun _=>uQ) (fun _=>zD rfl tQ) fun j2=>?_;refine au 31230414035 ?_;refine bA [3,9,10,11] ?_;refine bC [(j2,_),(js,_)] ?_;exact Wj _ _ _ oQ ⟨i+1,_,rfl,oQ,rfl,by rw[List.take_add_one (l:=S),lA Qb,lM,Int.add_sub_cancel] <;> rfl⟩
 simp only[dF_]at hc;obtain rfl:i=S.length:=by omega
 refine au 35142160 ?_;refine bB Wz [(j,_)] ?_;exact⟨_,rfl,by rw[lW]⟩
theorem uf{main T}(hT:zo tp main T){gm}{n lo hi:Int} :
  zl tp T gm 107 [za n,za lo,za hi] [] (fun r K'=>r=zr (decide (lo<=n)&&decide (n<=hi))/\K'=[]):=by
 refine zh 15 hT Tryz.func107 fun Y Wz=>?_;refine au 1711423542 ?_;refine bF 10 (fun g1_4=>?_) (fun g1_4=>?_)
 ·refine au 35260711 ?_;refine TK.rta Wz ?_;exact⟨by simp[zr,g1_4],rfl⟩
 refine au 35250888 ?_;refine TK.rta Wz ?_;exact⟨by simp[zr,g1_4],rfl⟩
theorem wc{main T}(hT:zo tp main T){gm}{b:Bk}{s e:Nat}{n:Int}(hs:0<=b.sP/\b.sP<=16) :
  zl tp T gm 65 [.agg (zA b s e),za n] [] (fun r K'=>r=zr (decide (0<=n)&&decide (n<=b.sP - 1))/\K'=[]):=by
 refine zh 11 hT Tryz.func65 fun Y Wz=>?_;refine au 21042 ?_;intro j1 hj1;refine au 24069067067014235 ?_;refine TK.clE Z Z Z Z (uf hT) ?_;refine au 35 ?_;refine bB Wz [] ?_;exact⟨rfl,rfl⟩
theorem zaU{main T}(hT:zo tp main T){gm}{b:Bk}{s e:Nat}{lo hi:Int}(hs:4<=b.sP/\b.sP<=16)(h0:0<=lo/\lo<b.sP)(h1:0<=hi/\hi<b.sP) :
  zl tp T gm 70 [.agg (zA b s e),za lo,za hi] [] (fun r K'=>r=za ((hi - lo+b.sP) % b.sP+1)/\K'=[]):=by
 refine zh 19 hT Tryz.func70 fun Y Wz=>?_;refine au 21042 ?_;intro j1 hj1;refine au 690670670230690670670240114235 ?_;refine bH Z (q_rem Z Z Z oQ oQ) ?_;refine bH Z (q_add Z Z Z (by have:=Int.emod_lt_of_pos (hi - lo+b.sP) (show 0<b.sP by omega);have:=Int.emod_nonneg (hi - lo+b.sP) (show b.sP≠0 by omega);omega)) ?_;refine au 35 ?_;refine bB Wz [] ?_;exact⟨rfl,rfl⟩
theorem in_ok{main T}(hT:zo tp main T){gm}{b:Bk}{s e:Nat}{S:List Int}{lo w:Int}(hs:4<=b.sP/\b.sP<=16)(hS:S.length<=3)(hB:∀ x∈S,0<=x/\x<b.sP)(h0:0<=lo/\lo<b.sP) :
  zl tp T gm 108 [.agg (zA b s e),.agg (yb S),za lo,za w] [] (fun r K'=>r=za (inM b S lo w)/\K'=[]):=by
 refine zh 36 hT Tryz.func108 fun Y Wz=>?_;refine au 21042 ?_;intro jb hjb;refine au 210 ?_;intro js hjs;refine au 680422354235 ?_;refine bD Z Z Z Z (zbD hT hS fun x hx=>⟨(hB x hx).1,by have:=(hB x hx).2;omega⟩) ?_;rintro r1 K2 ⟨jr,rfl,rfl⟩;refine au 13031280 ?_;refine bA [2,3,4,9,13,14,15] ?_;refine bE (fun n Wq K=>∃(i:Nat),n=S.length - i/\i<=S.length/\Wq=ym 36 [(2,za lo),(3,za w),(4,.ptr jb 0),(9,za (inM b (S.take i) lo w)),(13,.row jr S.length),(14,za S.length),(15,za i)]/\K=[(jr,.row (S.map za) 3 1),(js,.cells (yb S) 114 tt),(jb,.cells (zA b s e) 110 tt)]) S.length ⟨0,rfl,mN _,rfl,rfl⟩ fun n Wq K hI Wj=>?_;obtain⟨i,rfl,hi,rfl,rfl⟩:=hI;refine au 923742 ?_;refine⟨fun hc=>?_,fun hc=>?_⟩
 ·simp only[dT_]at hc;have Qb:i<S.length:=by omega
  have hx:=hB S[i] (List.getElem_mem _);have hn:=zjx b (S.take i) lo w;have hn2:(S.take i).length<=3:=by simp;omega
  refine au 370421302120 ?_;refine bH Z (zg Z Z ze.h mQ (zco (i:=i) oQ Z)) ?_;refine au 690670670230690670670240114235 ?_;refine bH Z (q_rem Z Z Z oQ oQ) ?_;refine au 9371 ?_;apply aI<;>intro Jx
  ·simp only[dT_]at Jx;refine au 3123041403523014 ?_;refine bA [2,3,4,9,13,14,15] ?_;exact Wj _ _ _ oQ ⟨i+1,rfl,oQ,by rw[zfx Qb,if_pos Jx] <;> rfl,rfl⟩
  simp only[dF_]at Jx;refine au 312304140120 ?_;refine bA [2,3,4,9,13,14,15] ?_;exact Wj _ _ _ oQ ⟨i+1,rfl,oQ,by rw[zfx Qb,if_neg Jx,Int.add_zero] <;> rfl,rfl⟩
 simp only[dF_]at hc;obtain rfl:i=S.length:=by omega
 refine au 35142160 ?_;refine bB Wz [] ?_;exact⟨by rw[show S.take S.length=S from lW],rfl⟩
def IntsAt(ob:AObj)(off:Nat)(xs:List Int):Prop:=∀(i:Nat)(h:i<xs.length),z6 ob (off+(i:Int).toNat*1) 1=some [za xs[i]]
def SeenAt(ob:AObj)(off:Nat)(xs:List Seen):Prop:=∀(i:Nat)(h:i<xs.length),z6 ob (off+(i:Int).toNat*2) 2=some (seenC xs[i])
theorem zaY{xs:List Int}{v:Int}{i:Nat}(h:i<xs.length)(hn:v∉xs.take i)(he:v≠xs[i]):v∉xs.take (i+1):=by
 rw[List.take_add_one,lA h];simp only[Option.toList,List.mem_append,lS,not_or];exact⟨hn,he⟩
theorem zeJ{xs:List Seen}{p:Seen->Bool}{i:Nat}(h:i<xs.length)(hn:(xs.take i).any p=ff)(he:p xs[i]=ff):(xs.take (i+1)).any p=ff:=by
 rw[List.take_add_one,lA h,List.any_append,hn];simp[he]
theorem zlI{S:List Int}{n:Int}:n+1∈S.map (· + 1)↔n∈S:=by
 rw[List.mem_map];constructor
 ·rintro⟨x,hx,e⟩;obtain rfl:x=n:=by omega
  exact hx
 ·exact fun h=>⟨n,h,rfl⟩
theorem zlt{main T}(hT:zo tp main T){gm}{j off:Nat}{ob:AObj}{xs:List Int}{v:Int}(hI:IntsAt ob off xs)(hl:xs.length<=1000) :
  zl tp T gm 193 [.sl j off xs.length,za v] [(j,ob)] (fun r K'=>(∃ n:Int,r=za n/\decide (n>=0)=decide (v∈xs))/\K'=[(j,ob)]):=by
 refine zh 19 hT Tryz.func193 fun Y Wz=>?_;refine au 1303128014223542 ?_;refine bA [0,1,7,8] ?_;refine bE (fun n Wq K=>∃(i:Nat),n=xs.length - i/\i<=xs.length/\v∉xs.take i/\Wq=ym 19 [(0,.sl j off xs.length),(1,za v),(7,za xs.length),(8,za i)]/\K=[(j,ob)]) xs.length ⟨0,rfl,mN _,by simp,rfl,rfl⟩ fun n Wq K hI' Wj=>?_;obtain⟨i,rfl,hi,hn,rfl,rfl⟩:=hI';refine au 923742 ?_;refine⟨fun hc=>?_,fun hc=>?_⟩
 ·simp only[dT_]at hc;have Qb:i<xs.length:=by omega
  refine au 36011142351421302120 ?_;refine bH Z (zg Z Z ze.h mQ (hI i Qb)) ?_;refine au 937 ?_;apply aI<;>intro Jx
  ·simp only[beq_iff_eq]at Jx;refine au 35142 ?_;refine TK.rta Wz ?_;exact⟨⟨i,rfl,by rw[decide_eq_true (Int.natCast_nonneg i),decide_eq_true (by rw[Jx];exact List.getElem_mem _)]⟩,rfl⟩
  simp only[beq_eq_false_iff_ne]at Jx;refine au 312304140120 ?_;refine bA [0,1,7,8] ?_;exact Wj _ _ _ oQ ⟨i+1,rfl,oQ,zaY Qb hn Jx,rfl,rfl⟩
 simp only[dF_]at hc;obtain rfl:i=xs.length:=by omega
 refine au 3542160 ?_;refine TK.rta Wz ?_;rw[lW]at hn;exact⟨⟨-1,rfl,by rw[decide_eq_false hn] <;> rfl⟩,rfl⟩
theorem zgB{main T}(hT:zo tp main T){gm}{j off:Nat}{ob:AObj}{xs:List Int}{v:Int}(hI:IntsAt ob off xs)(hl:xs.length<=1000) :
  zl tp T gm 174 [.sl j off xs.length,za v] [(j,ob)] (fun r K'=>r=zr (decide (v∈xs))/\K'=[(j,ob)]):=by
 refine zh 9 hT Tryz.func174 fun Y Wz=>?_;refine au 11423542 ?_;refine bD Z Z Z Z (zlt hT hI hl) ?_;rintro r1 K2 ⟨⟨m,rfl,hm⟩,rfl⟩;refine au 357 ?_;refine TK.rta Wz ?_;exact⟨by rw[<- hm] <;> rfl,rfl⟩
theorem zoy{main T}(hT:zo tp main T){gm}{S:List Int}{n:Int}(hS:S.length<=3)(hn : -1000<=n/\n<=1000) :
  zl tp T gm 147 [.agg (yb S),za n] [] (fun r K'=>r=zr (decide (n∈S))/\K'=[]):=by
 refine zh 12 hT Tryz.func147 fun Y Wz=>?_;refine au 21042 ?_;intro js hjs;refine au 6906706704235 ?_;refine bH Z (zc5 Z Z ArEl.h Z Z oQ oQ Z) ?_;refine au 2301 ?_;rw[show S.length=(S.map (· + 1)).length by simp];refine TK.clE Z Z Z Z (zgB hT (off:=1) (ob:=.cells (yb S) 114 tt) (xs:=S.map (· + 1)) (v:=n+1) (fun i h=>by rw[zex (i:=i) hS (by simpa using h) rfl];simp) (by simp;omega)) ?_;refine au 35 ?_;refine bB Wz [] ?_;exact⟨by rw[decide_eq_decide.2 zlI],rfl⟩
theorem zfA{main T}(hT:zo tp main T){gm}{j off:Nat}{ob:AObj}{xs:List Seen}{p:Seen->Bool}{g:gF}{cp:List AV}{Kc:KV}(hg:yk tp g=tt)(hp:∀ x∈xs,zl tp T gm g ([.agg (seenC x)]++cp) Kc (fun r K'=>r=zr (p x)/\K'=Kc))(hI:SeenAt ob off xs)(hl:xs.length<=1000) :
  zl tp T gm 173 [.sl j off xs.length,.fn g [] cp] ((j,ob)::Kc) (fun r K'=>(∃ n:Int,r=za n/\decide (n>=0)=xs.any p)/\K'=(j,ob)::Kc):=by
 refine zh 19 hT Tryz.func173 fun Y Wz=>?_;refine au 1303128014223542 ?_;refine bA [0,1,7,8] ?_;refine bE (fun n Wq K=>∃(i:Nat),n=xs.length - i/\i<=xs.length/\(xs.take i).any p=ff/\Wq=ym 19 [(0,.sl j off xs.length),(1,.fn g [] cp),(7,za xs.length),(8,za i)]/\K=(j,ob)::Kc) xs.length ⟨0,rfl,mN _,by simp,rfl,rfl⟩ fun n Wq K hI' Wj=>?_;obtain⟨i,rfl,hi,hn,rfl,rfl⟩:=hI';refine au 923742 ?_;refine⟨fun hc=>?_,fun hc=>?_⟩
 ·simp only[dT_]at hc;have Qb:i<xs.length:=by omega
  refine au 36011142351421302120 ?_;refine bH Z (zK Z Z ze.h mQ (hI i Qb)) ?_;refine bD Z Z Z Z (hp xs[i] (List.getElem_mem _)) ?_ (hs:=(.right (.all _))) (hg:=hg);rintro r1 K2 ⟨rfl,hK⟩;refine au 0 ?_;rw[hK];refine bN (K':=(j,ob)::Kc) (List.perm_append_singleton _ _) ?_;refine au 93 ?_;apply aI<;>intro Jx
  ·refine au 35142 ?_;refine TK.rta Wz ?_;exact⟨⟨i,rfl,by rw[decide_eq_true (Int.natCast_nonneg i),List.any_eq_true.2 ⟨xs[i],List.getElem_mem _,Jx⟩]⟩,rfl⟩
  refine au 312304140120 ?_;refine bA [0,1,7,8] ?_;exact Wj _ _ _ oQ ⟨i+1,rfl,oQ,zeJ Qb hn Jx,rfl,rfl⟩
 simp only[dF_]at hc;obtain rfl:i=xs.length:=by omega
 refine au 3542160 ?_;refine TK.rta Wz ?_;rw[lW]at hn;exact⟨⟨-1,rfl,by rw[hn] <;> rfl⟩,rfl⟩
theorem kS{α:Type}(f:α->List AV)(c:Nat)(hc:∀ x,(f x).length=c):∀(xs:List α)(i:Nat)(h:i<xs.length),((xs.flatMap f).drop (i*c)).take c=f xs[i]
 | x::xs,0,_=>by
  rw[Nat.zero_mul,List.drop_zero,List.flatMap_cons,List.take_left' (hc x)] <;> rfl
 | x::xs,i+1,h=>by
  rw[List.flatMap_cons,Nat.succ_mul,Nat.add_comm,<- List.drop_drop,List.drop_left' (hc x)];exact kS f c hc xs i (by simpa using h)
theorem yW{α:Type}(f:α->List AV)(c:Nat)(hc:∀ x,(f x).length=c)(xs:List α):(xs.flatMap f).length=xs.length*c:=by
 induction xs with
 | nil=>simp
 | cons x xs ih=>rw[List.flatMap_cons,lF,ih,hc,lZ,Nat.succ_mul,Nat.add_comm]
theorem zdC(b:Bk):SeenAt (zw b) 0 b.seen:=fun i h=>by
 have hle:(i+1)*2<=b.seen.length*2:=Nat.mul_le_mul_right _ h;simp only[z6,AObj.look,zw,mZ,mO];rw[if_pos ⟨by omega,by rw[yW seenC 2 (fun _=>rfl)];omega⟩,kS seenC 2 (fun _=>rfl) _ _ h]
theorem znZ(b:Bk)(i:Nat)(h:i<b.kE.length):z6 (zu b) (0+(i:Int).toNat*5) 5=some (saysC b.kE[i]):=by
 have hle:(i+1)*5<=b.kE.length*5:=Nat.mul_le_mul_right _ h;simp only[z6,AObj.look,zu,mZ,mO];rw[if_pos ⟨by omega,by rw[yW saysC 5 (fun _=>rfl)];omega⟩,kS saysC 5 (fun _=>rfl) _ _ h]
def seenM(b:Bk)(S:List Int):Bool:=(decide (b.low<=S.length)&&decide ((S.length:Int)<=b.high)) && !(b.seen.any fun x=>decide (x.step∈S) !=x.seam)
def wideMz(b:Bk)(x:Says):Int:=(x.til - x.frm+b.sP) % b.sP+1
def saysM(k:Int)(n:Int):Bool:=if k=0 then decide (n>0)else if k=1 then n==0 else n==1
def yh(b:Bk)(S:List Int)(i:Nat):Bool:=match b.kE[i]? with
 | some x=>saysM x.says (inM b S x.frm (wideMz b x))
 | none=>ff
structure BkOk(b:Bk):Prop where
 sP:4<=b.sP/\b.sP<=16
 low:0<=b.low
 high:b.high<=3
 wrong:0<=b.wrong/\b.wrong<=3
 ns:b.kE.length<=5
 ne:b.seen.length<=4
 frm:∀ x∈b.kE,0<=x.frm/\x.frm<b.sP/\0<=x.til/\x.til<b.sP/\0<=x.says/\x.says<=2
 sn:∀ x∈b.seen,0<=x.step/\x.step<b.sP
structure SmOkz(b:Bk)(S:List Int):Prop where
 len:S.length<=3
 mem:∀ x∈S,0<=x/\x<b.sP
theorem uG{main T}(hT:zo tp main T){gm}{j off:Nat}{ob:AObj}{xs:List Seen}{p:Seen->Bool}{g:gF}{cp:List AV}{Kc:KV}(hg:yk tp g=tt)(hp:∀ x∈xs,zl tp T gm g ([.agg (seenC x)]++cp) Kc (fun r K'=>r=zr (p x)/\K'=Kc))(hI:SeenAt ob off xs)(hl:xs.length<=1000) :
  zl tp T gm 145 [.sl j off xs.length,.fn g [] cp] ((j,ob)::Kc) (fun r K'=>r=zr (xs.any p)/\K'=(j,ob)::Kc):=by
 refine zh 9 hT Tryz.func145 fun Y Wz=>?_;refine au 11423542 ?_;refine bD Z Z Z Z (zfA hT hg hp hI hl) ?_ (hs:=(.all _));rintro r1 K2 ⟨⟨m,rfl,hm⟩,hK⟩;refine au 0 ?_;rw[hK,lR];refine au 357 ?_;refine TK.rta Wz ?_;exact⟨by rw[<- hm] <;> rfl,rfl⟩
theorem zmm{main T}(hT:zo tp main T){gm}{S:List Int}{x:Seen}{js:Nat}(hS:S.length<=3)(hx : -1000<=x.step/\x.step<=1000) :
  zl tp T gm 146 [.agg (seenC x),.ptr js 0] [(js,.cells (yb S) 114 tt)] (fun r K'=>r=zr (decide (x.step∈S) !=x.seam)/\K'=[(js,.cells (yb S) 114 tt)]):=by
 refine zh 11 hT Tryz.func146 fun Y Wz=>?_;refine au 21042 ?_;intro j1 hj1;refine au 235 ?_;refine TK.dr [0,1,2,4,5,3,6,7] [0,1,2,3,4,5,6,7] ?_;refine ad [[12,1],[3,2],[10,5],[3,2],[10,8]] ?_;refine TD.clE (Wx:=[_,_,_]) [4,6] Z Z Z Z Z (zoy hT hS hx) ?_;refine bU [7,9] Z (zj1 Z Z Z Und.h Z) ?_;refine ad [[13,10],[14]] ?_;refine au 0 ?_;refine bB Wz [(js,_)] ?_;exact⟨rfl,rfl⟩
theorem zhz{main T}(hT:zo tp main T){gm}{b:Bk}{s e:Nat}{S:List Int}(hb:BkOk b)(hS:S.length<=3) :
  zl tp T gm 110 [.agg (zA b s e),.agg (yb S)] [(e,zw b)] (fun r K'=>r=zr (seenM b S)/\K'=[(e,zw b)]):=by
 refine zh 24 hT Tryz.func110 fun Y Wz=>?_;refine au 21042 ?_;intro jb hjb;refine au 210 ?_;intro js hjs;refine au 6906706706706906706706706906704235 ?_;refine TK.clE Z Z Z Z (uf hT) ?_;refine au 1 ?_;refine bF 16 (fun g1_12=>?_) (fun g1_12=>?_)
 ·refine au 320690670670 ?_;refine bN (K':=[(e,zw b),(js,.cells (yb S) 114 tt),(jb,.cells (zA b s e) 110 tt)]) ?_ ?_
  ·exact(List.Perm.cons _ (List.Perm.swap _ _ _)).trans ((List.Perm.swap _ _ _).trans (List.Perm.cons _ (.refl _)))
  refine TK.clE Z Z Z Z (uG hT (cp:=[.ptr js 0]) (Kc:=[(js,.cells (yb S) 114 tt)]) (p:=fun x=>decide (x.step∈S) !=x.seam) Cal.h (fun x hx=>zmm hT hS (by have:=hb.sn x hx;have:=hb.sP;omega)) (zdC b) (by have:=hb.ne;omega)) ?_;refine au 35260300 ?_;refine bB Wz [(e,_)] ?_;refine⟨?_,rfl⟩;unfold seenM;rw[g1_12];rfl
 refine au 35250888888 ?_;refine bB Wz [(e,_)] ?_;refine⟨?_,rfl⟩;unfold seenM;rw[g1_12];rfl
theorem zn3{main T}(hT:zo tp main T){gm}{n:Int} :
  zl tp T gm 229 [za n] [] (fun r K'=>r=zr (decide (n>0))/\K'=[]):=by
 refine zh 5 hT Tryz.func229 fun Y Wz=>?_;refine au 3571423542 ?_;refine TK.rta Wz ?_;exact⟨rfl,rfl⟩
theorem znw{main T}(hT:zo tp main T){gm}{n:Int} :
  zl tp T gm 226 [za n] [] (fun r K'=>r=zr (n==0)/\K'=[]):=by
 refine zh 5 hT Tryz.func226 fun Y Wz=>?_;refine au 3571423542 ?_;refine TK.rta Wz ?_;exact⟨rfl,rfl⟩
theorem zpc{main T}(hT:zo tp main T){gm}{n:Int} :
  zl tp T gm 230 [za n] [] (fun r K'=>r=zr (n==1)/\K'=[]):=by
 refine zh 5 hT Tryz.func230 fun Y Wz=>?_;refine au 3571423542 ?_;refine TK.rta Wz ?_;exact⟨rfl,rfl⟩
def zC:AObj:=.cells [.fn 229 [] [],.fn 226 [] [],.fn 230 [] []] 189 ff
theorem says_at'(b:Bk){i:Nat}{x:Says}(h:b.kE[i]? =some x):z6 (zu b) (0+(i:Int).toNat*5) 5=some (saysC x):=by
 obtain⟨h1,h2⟩:=lD.1 h;rw[znZ b i h1,h2]
def glassM(b:Bk)(i:Nat):Bool:=match b.kE[i]? with|some x=>x.glass|none=>ff
def wrongL(b:Bk)(S:List Int)(i:Nat):Nat:=((List.range i).filter fun k => !yh b S k).length
def badM(b:Bk)(S:List Int)(i:Nat):Bool:=(List.range i).any fun k => !yh b S k&&glassM b k
theorem zbZ(b:Bk)(S:List Int)(i:Nat):wrongL b S (i+1)=wrongL b S i+if yh b S i=tt then 0 else 1:=by
 unfold wrongL;rw[List.range_succ,List.filter_append,lF];cases h:yh b S i <;> simp[h]
theorem zdM(b:Bk)(S:List Int)(i:Nat):badM b S (i+1)=(badM b S i||(!yh b S i&&glassM b i)):=by
 unfold badM;rw[List.range_succ,List.any_append];simp
theorem zeI(b:Bk)(S:List Int)(i:Nat):wrongL b S i<=i:=by
 have:=List.length_filter_le (fun k => !yh b S k) (List.range i);rw[List.length_range]at this;exact this
theorem zmM{b:Bk}{S:List Int}{i n:Nat}(hi:i<n)(h:yh b S i=ff)(hg:glassM b i=tt):badM b S n=tt:=by
 unfold badM;rw[List.any_eq_true];exact⟨i,List.mem_range.2 hi,by rw[h,hg] <;> rfl⟩
def wrongM(b:Bk)(S:List Int):Int:=if badM b S b.kE.length=tt then 0 else wrongL b S b.kE.length
def canM(b:Bk)(S:List Int):Bool := !badM b S b.kE.length&&decide ((wrongL b S b.kE.length:Int)<=b.wrong)&&seenM b S
theorem zkg{main:Bool}{T:gG->Hp->Prop}(hT:zo tp main T){b:Bk}{s e:Nat}{S:List Int}{i:Nat}{nm:ByteArray}{fr ti:Int}{gl:Bool}(hb:BkOk b)(hS:SmOkz b S)(hx:b.kE[i]? =some ⟨nm,fr,ti,0,gl⟩) :
  zl tp T gmR 55 [.agg (zA b s e),.agg (yb S),za i] [(1,zC),(s,zu b)] (fun r K'=>r=zr (yh b S i)/\K'=[(1,zC),(s,zu b)]):=by
 refine zh 30 hT Tryz.func55 fun Y Wz=>?_;refine au 0 ?_;have hi:=(lD.1 hx).1;have hf:=hb.frm _ (lN hx);dsimp only at hf;refine au 21042 ?_;intro jb hjb;refine au 210 ?_;intro js hjs;refine au 36016906706704235 ?_;refine bH Z (zK Z Z ze.h mQ (says_at' b hx)) ?_;refine au 220 ?_;intro jx hjx;refine au 23170 ?_;refine bL [0,1,2,3,4,5,6,7,8,9,10,11,12,13,14,15,16] ?_;refine ad [[3,7],[10,14]] ?_;refine bU [15] Z (wL Z Z Z ArEl.h (by first|omega|(dsimp only;omega)) (by first|omega|(dsimp only;omega))) ?_;refine ad [[10,16],[12,3],[12,4],[3,7],[10,20],[12,3],[3,7],[10,23],[3,7],[10,25]] ?_;refine TD.clE (Wx:=[_,_,_,_,_,_,_,_,_,_]) [22,24,26] Z Z Z Z Z (zaU hT (b:=b) (s:=s) (e:=e) (lo:=fr) (hi:=ti) hb.sP ⟨by omega,oQ⟩ ⟨by omega,oQ⟩) ?_;refine TD.clE (Wx:=[_,_,_,_,_,_,_]) [18,19,21,27] Z Z Z Z Z (in_ok hT (b:=b) (s:=s) (e:=e) (S:=S) (lo:=fr) (w:=(ti - fr+b.sP) % b.sP+1) hb.sP hS.len hS.mem ⟨by omega,oQ⟩) ?_;refine TD.clE (Wx:=[_,_,_,_,_,_]) [17,28] Z Z Z Z Z (zn3 hT) ?_;refine ad [[13,29],[14]] ?_;refine au 0 ?_;refine bB Wz [(1,_),(s,_)] ?_;exact⟨by unfold yh;rw[hx] <;> rfl,rfl⟩
theorem zkh{main:Bool}{T:gG->Hp->Prop}(hT:zo tp main T){b:Bk}{s e:Nat}{S:List Int}{i:Nat}{nm:ByteArray}{fr ti:Int}{gl:Bool}(hb:BkOk b)(hS:SmOkz b S)(hx:b.kE[i]? =some ⟨nm,fr,ti,1,gl⟩) :
  zl tp T gmR 55 [.agg (zA b s e),.agg (yb S),za i] [(1,zC),(s,zu b)] (fun r K'=>r=zr (yh b S i)/\K'=[(1,zC),(s,zu b)]):=by
 refine zh 30 hT Tryz.func55 fun Y Wz=>?_;refine au 0 ?_;have hi:=(lD.1 hx).1;have hf:=hb.frm _ (lN hx);dsimp only at hf;refine au 21042 ?_;intro jb hjb;refine au 210 ?_;intro js hjs;refine au 36016906706704235 ?_;refine bH Z (zK Z Z ze.h mQ (says_at' b hx)) ?_;refine au 220 ?_;intro jx hjx;refine au 23170 ?_;refine bL [0,1,2,3,4,5,6,7,8,9,10,11,12,13,14,15,16] ?_;refine ad [[3,7],[10,14]] ?_;refine bU [15] Z (wL Z Z Z ArEl.h (by first|omega|(dsimp only;omega)) (by first|omega|(dsimp only;omega))) ?_;refine ad [[10,16],[12,3],[12,4],[3,7],[10,20],[12,3],[3,7],[10,23],[3,7],[10,25]] ?_;refine TD.clE (Wx:=[_,_,_,_,_,_,_,_,_,_]) [22,24,26] Z Z Z Z Z (zaU hT (b:=b) (s:=s) (e:=e) (lo:=fr) (hi:=ti) hb.sP ⟨by omega,oQ⟩ ⟨by omega,oQ⟩) ?_;refine TD.clE (Wx:=[_,_,_,_,_,_,_]) [18,19,21,27] Z Z Z Z Z (in_ok hT (b:=b) (s:=s) (e:=e) (S:=S) (lo:=fr) (w:=(ti - fr+b.sP) % b.sP+1) hb.sP hS.len hS.mem ⟨by omega,oQ⟩) ?_;refine TD.clE (Wx:=[_,_,_,_,_,_]) [17,28] Z Z Z Z Z (znw hT) ?_;refine ad [[13,29],[14]] ?_;refine au 0 ?_;refine bB Wz [(1,_),(s,_)] ?_;exact⟨by unfold yh;rw[hx] <;> rfl,rfl⟩
theorem zki{main:Bool}{T:gG->Hp->Prop}(hT:zo tp main T){b:Bk}{s e:Nat}{S:List Int}{i:Nat}{nm:ByteArray}{fr ti:Int}{gl:Bool}(hb:BkOk b)(hS:SmOkz b S)(hx:b.kE[i]? =some ⟨nm,fr,ti,2,gl⟩) :
  zl tp T gmR 55 [.agg (zA b s e),.agg (yb S),za i] [(1,zC),(s,zu b)] (fun r K'=>r=zr (yh b S i)/\K'=[(1,zC),(s,zu b)]):=by
 refine zh 30 hT Tryz.func55 fun Y Wz=>?_;refine au 0 ?_;have hi:=(lD.1 hx).1;have hf:=hb.frm _ (lN hx);dsimp only at hf;refine au 21042 ?_;intro jb hjb;refine au 210 ?_;intro js hjs;refine au 36016906706704235 ?_;refine bH Z (zK Z Z ze.h mQ (says_at' b hx)) ?_;refine au 220 ?_;intro jx hjx;refine au 23170 ?_;refine bL [0,1,2,3,4,5,6,7,8,9,10,11,12,13,14,15,16] ?_;refine ad [[3,7],[10,14]] ?_;refine bU [15] Z (wL Z Z Z ArEl.h (by first|omega|(dsimp only;omega)) (by first|omega|(dsimp only;omega))) ?_;refine ad [[10,16],[12,3],[12,4],[3,7],[10,20],[12,3],[3,7],[10,23],[3,7],[10,25]] ?_;refine TD.clE (Wx:=[_,_,_,_,_,_,_,_,_,_]) [22,24,26] Z Z Z Z Z (zaU hT (b:=b) (s:=s) (e:=e) (lo:=fr) (hi:=ti) hb.sP ⟨by omega,oQ⟩ ⟨by omega,oQ⟩) ?_;refine TD.clE (Wx:=[_,_,_,_,_,_,_]) [18,19,21,27] Z Z Z Z Z (in_ok hT (b:=b) (s:=s) (e:=e) (S:=S) (lo:=fr) (w:=(ti - fr+b.sP) % b.sP+1) hb.sP hS.len hS.mem ⟨by omega,oQ⟩) ?_;refine TD.clE (Wx:=[_,_,_,_,_,_]) [17,28] Z Z Z Z Z (zpc hT) ?_;refine ad [[13,29],[14]] ?_;refine au 0 ?_;refine bB Wz [(1,_),(s,_)] ?_;exact⟨by unfold yh;rw[hx] <;> rfl,rfl⟩
theorem uN{main:Bool}{T:gG->Hp->Prop}(hT:zo tp main T){b:Bk}{s e:Nat}{S:List Int}{i:Nat}(hb:BkOk b)(hS:SmOkz b S)(hi:i<b.kE.length) :
  zl tp T gmR 55 [.agg (zA b s e),.agg (yb S),za i] [(1,zC),(s,zu b)] (fun r K'=>r=zr (yh b S i)/\K'=[(1,zC),(s,zu b)]):=by
 have hx:=lA hi;have hf:=hb.frm _ (List.getElem_mem hi);generalize b.kE[i]=x at hx hf;obtain⟨nm,fr,ti,sy,gl⟩:=x;dsimp only at hf;have:sy=0\/sy=1\/sy=2:=by omega
 rcases this with rfl|rfl|rfl
 ·exact zkg hT hb hS hx
 ·exact zkh hT hb hS hx
 ·exact zki hT hb hS hx
theorem zgw{main:Bool}{T:gG->Hp->Prop}(hT:zo tp main T){b:Bk}{s e:Nat}{S:List Int}(hb:BkOk b)(hS:SmOkz b S) :
  zl tp T gmR 76 [.agg (zA b s e),.agg (yb S)] [(1,zC),(s,zu b)] (fun r K'=>r=.tup [za (wrongM b S),zr (!badM b S b.kE.length)]/\K'=[(1,zC),(s,zu b)]):=by
 refine zh 28 hT Tryz.func76 fun Y Wz=>?_;refine au 21042 ?_;intro jb hjb;refine au 210 ?_;intro js hjs;refine au 130312806906706704223542355 ?_;refine bA [2,3,6,11,12,13] ?_;refine bE (fun n Wq K=>∃(i:Nat),n=b.kE.length - i/\i<=b.kE.length/\badM b S i=ff/\Wq=ym 28 [(2,.ptr jb 0),(3,.ptr js 0),(6,za (wrongL b S i)),(11,.sl s 0 b.kE.length),(12,za b.kE.length),(13,za i)]/\K=[(js,.cells (yb S) 114 tt),(jb,.cells (zA b s e) 110 tt),(1,zC),(s,zu b)]) b.kE.length ⟨0,rfl,mN _,rfl,rfl,rfl⟩ fun n Wq K hI Wj=>?_;obtain⟨i,rfl,hi,hbd,rfl,rfl⟩:=hI;refine au 923742 ?_;refine⟨fun hc=>?_,fun hc=>?_⟩
 ·simp only[dT_]at hc;have Qb:i<b.kE.length:=by omega
  have hx:=lA Qb;have hwl:=zeI b S i;have hn5:=hb.ns;refine au 3601421302120 ?_;refine bH Z (zK Z Z ze.h mQ (says_at' b hx)) ?_;refine au 220 ?_;intro jx hjx;refine au 168068042231705 ?_;refine TK.clE Z Z Z Z (uN hT (s:=s) (e:=e) hb hS Qb) ?_;refine au 93 ?_;apply aI<;>intro Jx
  ·refine au 312304160 ?_;refine bA [2,3,6,11,12,13] ?_;refine bC [(js,_),(jb,_),(1,_),(s,_)] ?_;exact Wj _ _ _ oQ ⟨i+1,rfl,oQ,by rw[zdM,hbd,Jx] <;> rfl,by rw[zbZ,if_pos Jx] <;> rfl,rfl⟩
  have hcf:=Jx;refine au 93690670422120 ?_;apply aI<;>intro hc2
  ·have hg:glassM b i=tt:=by unfold glassM;rw[hx];exact hc2
   refine au 35542 ?_;refine bB Wz [(1,_),(s,_)] ?_;have hbad:=zmM Qb hcf hg;exact⟨by unfold wrongM;rw[hbad] <;> rfl,rfl⟩
  have hgf:glassM b i=ff:=by unfold glassM;rw[hx];exact hc2
  refine au 3123041403523014120 ?_;refine bA [2,3,6,11,12,13] ?_;refine bC [(js,_),(jb,_),(1,_),(s,_)] ?_;exact Wj _ _ _ oQ ⟨i+1,rfl,oQ,by rw[zdM,hbd,hgf];simp,by rw[zbZ,if_neg (by rw[Jx];decide)] <;> rfl,rfl⟩
 simp only[dF_]at hc;obtain rfl:i=b.kE.length:=by omega
 refine au 355142160 ?_;refine bB Wz [(1,_),(s,_)] ?_;exact⟨by unfold wrongM;rw[hbd] <;> rfl,rfl⟩
theorem zi1{main:Bool}{T:gG->Hp->Prop}(hT:zo tp main T){b:Bk}{s e:Nat}{S:List Int}(hse:s≠e)(hb:BkOk b)(hS:SmOkz b S) :
  zl tp T gmR 57 [.agg (zA b s e),.agg (yb S)] [(1,zC),(s,zu b),(e,zw b)] (fun r K'=>r=zr (canM b S)/\K'=[(1,zC),(s,zu b),(e,zw b)]):=by
 refine zh 26 hT Tryz.func57 fun Y Wz=>?_;refine au 21042 ?_;intro jb hjb;refine au 210 ?_;intro js hjs;refine au 6806804235 ?_;refine TK.clE Z Z Z Z (zgw hT (s:=s) (e:=e) hb hS) ?_;refine au 1142355661 ?_;refine bF 14 (fun g2_2=>?_) (fun g2_2=>?_)
 ·refine au 126076906706701 ?_;refine bF 21 (fun g2_9=>?_) (fun g2_9=>?_)
  ·refine au 680680 ?_;refine TK.clE Z Z Z Z (zhz hT (s:=s) (e:=e) hb hS.len) ?_;refine au 35260 ?_;refine bB Wz [(1,_),(s,_),(e,_)] ?_;refine⟨?_,rfl⟩;have hb2:badM b S b.kE.length=ff:=by simpa using g2_2
   have hw2:wrongM b S=wrongL b S b.kE.length:=by unfold wrongM;rw[hb2] <;> rfl
   rw[hw2]at g2_9;unfold canM;rw[hb2,g2_9];rfl
  refine au 35250888 ?_;refine bB Wz [(1,_),(s,_),(e,_)] ?_;refine⟨?_,rfl⟩;have hb2:badM b S b.kE.length=ff:=by simpa using g2_2
  have hw2:wrongM b S=wrongL b S b.kE.length:=by unfold wrongM;rw[hb2] <;> rfl
  rw[hw2]at g2_9;unfold canM;rw[hb2,g2_9];rfl
 refine au 35250888125088888 ?_;refine bB Wz [(1,_),(s,_),(e,_)] ?_;refine⟨?_,rfl⟩;unfold canM;rw[g2_2];rfl
theorem zmB{S:List Int}{n:Int}{e:gT}(h:S.length<3):putO (.cells (yb S) e tt) (1+(S.length:Int).toNat*1) [za (n+1)]=some (.cells [za S.length,slotS (S++[n]) 0,slotS (S++[n]) 1,slotS (S++[n]) 2] e tt):=by
 rcases S with _|⟨x,_|⟨y,_|⟨z,S⟩⟩⟩
 ·rfl
 ·rfl
 ·rfl
 ·simp at h;omega
def numbersM(b:Bk):Int:=bif !(decide (4<=b.sP)&&decide (b.sP<=16))||(!(decide (0<=b.wrong)&&decide (b.wrong<=3))||(decide (b.low<0)||(decide (b.low>b.high)||decide (b.high>3))))then 1 else 0
def zS(b:Bk)(n:Int):Bool:=decide (0<=n)&&decide (n<=b.sP - 1)
def lookedM(b:Bk):Int:=if b.seen.length>4 then 2 else if (b.seen.any fun x => !zS b x.step)=tt then 6 else 0
theorem zbI{main T}(hT:zo tp main T){gm}{S:List Int}{n:Int}(hS:S.length<3)(hn : -1000<=n/\n<=1000) :
  zl tp T gm 111 [.agg (yb S),za n] [] (fun r K'=>r=.agg (yb (S++[n]))/\K'=[]):=by
 refine zh 16 hT Tryz.func111 fun Y Wz=>?_;refine au 21042 ?_;intro js hjs;refine au 220 ?_;intro jr hjr;refine au 6702301690670423 ?_;refine bH Z (wL Z Z Z ArEl.h oQ oQ) ?_;refine TK.st Z Z Z (zz Z Z ze.h Z Z mQ (zmB hS)) uQ (putN Z) ?_;refine au 3170680423170670230690670423 ?_;refine bB Wz [] ?_;exact⟨by show AV.agg [za (S.length+1),_,_,_]=_;unfold yb;rw[lF] <;> rfl,rfl⟩
theorem zij{main T}(hT:zo tp main T){gm}{b:Bk}{s e:Nat} :
  zl tp T gm 231 [.agg (zA b s e)] [] (fun r K'=>r=za (numbersM b)/\K'=[]):=by
 refine zh 40 hT Tryz.func231 fun Y Wz=>?_;refine au 21042 ?_;intro j1 hj1;refine au 69067067042235 ?_;refine TK.clE Z Z Z Z (uf hT) ?_;refine au 1300 ?_;refine bF 8 (fun g1_6=>?_) (fun g1_6=>?_)
 ·refine au 35421803260888881260888888888126088888126088888 ?_;refine bB Wz [] ?_;exact⟨by unfold numbersM;rw[g1_6] <;> rfl,rfl⟩
 refine au 690670670 ?_;refine TK.clE Z Z Z Z (uf hT) ?_;refine au 1250300 ?_;refine bF 15 (fun g1_13=>?_) (fun g1_13=>?_)
 ·refine au 35421803260888881260888888888126088888 ?_;refine bB Wz [] ?_;exact⟨by unfold numbersM;rw[g1_6,g1_13] <;> rfl,rfl⟩
 refine au 12507690670670670 ?_;refine bF 22 (fun g1_20=>?_) (fun g1_20=>?_)
 ·refine au 35421803260888881260888888888 ?_;refine bB Wz [] ?_;exact⟨by unfold numbersM;rw[g1_6,g1_13,g1_20] <;> rfl,rfl⟩
 refine au 12507690670670670690670670670 ?_;refine bF 33 (fun g1_31=>?_) (fun g1_31=>?_)
 ·refine au 3542180326088888 ?_;refine bB Wz [] ?_;exact⟨by unfold numbersM;rw[g1_6,g1_13,g1_20,g1_31] <;> rfl,rfl⟩
 refine au 932507690670670670 ?_;refine⟨fun k0=>?_,fun k0=>?_⟩
 ·refine au 3542 ?_;refine bB Wz [] ?_;exact⟨by unfold numbersM;rw[g1_6,g1_13,g1_20,g1_31,k0] <;> rfl,rfl⟩
 refine au 3542120 ?_;refine bB Wz [] ?_;exact⟨by unfold numbersM;rw[g1_6,g1_13,g1_20,g1_31,k0] <;> rfl,rfl⟩
theorem zif{main T}(hT:zo tp main T){gm}{b:Bk}{s e jb:Nat}{x:Seen}(hs:0<=b.sP/\b.sP<=16) :
  zl tp T gm 237 [.agg (seenC x),.ptr jb 0] [(jb,.cells (zA b s e) 110 tt)] (fun r K'=>r=zr (!zS b x.step)/\K'=[(jb,.cells (zA b s e) 110 tt)]):=by
 refine zh 9 hT Tryz.func237 fun Y Wz=>?_;refine au 21042 ?_;intro j1 hj1;refine au 6906706804235 ?_;refine TK.clE Z Z Z Z (wc hT (s:=s) (e:=e) hs) ?_;refine au 35300 ?_;refine bB Wz [(jb,_)] ?_;exact⟨rfl,rfl⟩
theorem zjF{main T}(hT:zo tp main T){gm}{b:Bk}{s e:Nat}(hs:0<=b.sP/\b.sP<=16)(hl:b.seen.length<=1000) :
  zl tp T gm 233 [.agg (zA b s e)] [(e,zw b)] (fun r K'=>r=za (lookedM b)/\K'=[(e,zw b)]):=by
 refine zh 13 hT Tryz.func233 fun Y Wz=>?_;refine au 21042 ?_;intro jb hjb;refine au 93728069067067042235 ?_;refine⟨fun k0=>?_,fun k0=>?_⟩
 ·have k0:b.seen.length>4:=by have:=oT_ k0;omega
  refine au 3542 ?_;refine bB Wz [(e,_)] ?_;exact⟨by unfold lookedM;rw[if_pos k0] <;> rfl,rfl⟩
 have k0:¬ b.seen.length>4:=by have:=oF_ k0;omega
 refine au 320690670670422120 ?_;refine TK.clE Z Z Z Z (uG hT (cp:=[.ptr jb 0]) (Kc:=[(jb,.cells (zA b s e) 110 tt)]) (p:=fun x => !zS b x.step) Cal.h (fun x _=>zif hT hs) (zdC b) hl) ?_;refine au 93 ?_;refine⟨fun k1=>?_,fun k1=>?_⟩
 ·refine au 3542 ?_;refine bB Wz [(e,_)] ?_;exact⟨by unfold lookedM;rw[if_neg k0,if_pos k1] <;> rfl,rfl⟩
 have k1:¬ (b.seen.any fun x => !zS b x.step)=tt:=by rw[k1];decide
 refine au 3542120 ?_;refine bB Wz [(e,_)] ?_;exact⟨by unfold lookedM;rw[if_neg k0,if_neg k1] <;> rfl,rfl⟩
def SaysAt(ob:AObj)(off:Nat)(xs:List Says):Prop:=∀(i:Nat)(h:i<xs.length),z6 ob (off+(i:Int).toNat*5) 5=some (saysC xs[i])
theorem zdk{xs:List Says}{p:Says->Bool}{i:Nat}(h:i<xs.length)(hn:(xs.take i).any p=ff)(he:p xs[i]=ff):(xs.take (i+1)).any p=ff:=by
 rw[List.take_add_one,lA h,List.any_append,hn];simp[he]
theorem zfz{main T}(hT:zo tp main T){gm}{j off:Nat}{ob:AObj}{xs:List Says}{p:Says->Bool}{g:gF}{cp:List AV}{Kc:KV}(hg:yk tp g=tt)(hp:∀ x∈xs,zl tp T gm g ([.agg (saysC x)]++cp) Kc (fun r K'=>r=zr (p x)/\K'=Kc))(hI:SaysAt ob off xs)(hl:xs.length<=1000) :
  zl tp T gm 238 [.sl j off xs.length,.fn g [] cp] ((j,ob)::Kc) (fun r K'=>(∃ n:Int,r=za n/\decide (n>=0)=xs.any p)/\K'=(j,ob)::Kc):=by
 refine zh 19 hT Tryz.func238 fun Y Wz=>?_;refine au 1303128014223542 ?_;refine bA [0,1,7,8] ?_;refine bE (fun n Wq K=>∃(i:Nat),n=xs.length - i/\i<=xs.length/\(xs.take i).any p=ff/\Wq=ym 19 [(0,.sl j off xs.length),(1,.fn g [] cp),(7,za xs.length),(8,za i)]/\K=(j,ob)::Kc) xs.length ⟨0,rfl,mN _,by simp,rfl,rfl⟩ fun n Wq K hI' Wj=>?_;obtain⟨i,rfl,hi,hn,rfl,rfl⟩:=hI';refine au 923742 ?_;refine⟨fun hc=>?_,fun hc=>?_⟩
 ·simp only[dT_]at hc;have Qb:i<xs.length:=by omega
  refine au 36011142351421302120 ?_;refine bH Z (zK Z Z ze.h mQ (hI i Qb)) ?_;refine bD Z Z Z Z (hp xs[i] (List.getElem_mem _)) ?_ (hs:=(.right (.all _))) (hg:=hg);rintro r1 K2 ⟨rfl,hK⟩;refine au 0 ?_;rw[hK];refine bN (K':=(j,ob)::Kc) (List.perm_append_singleton _ _) ?_;refine au 93 ?_;apply aI<;>intro Jx
  ·refine au 35142 ?_;refine TK.rta Wz ?_;exact⟨⟨i,rfl,by rw[decide_eq_true (Int.natCast_nonneg i),List.any_eq_true.2 ⟨xs[i],List.getElem_mem _,Jx⟩]⟩,rfl⟩
  refine au 312304140120 ?_;refine bA [0,1,7,8] ?_;exact Wj _ _ _ oQ ⟨i+1,rfl,oQ,zdk Qb hn Jx,rfl,rfl⟩
 simp only[dF_]at hc;obtain rfl:i=xs.length:=by omega
 refine au 3542160 ?_;refine TK.rta Wz ?_;rw[lW]at hn;exact⟨⟨-1,rfl,by rw[hn] <;> rfl⟩,rfl⟩
theorem zcI{main T}(hT:zo tp main T){gm}{j off:Nat}{ob:AObj}{xs:List Says}{p:Says->Bool}{g:gF}{cp:List AV}{Kc:KV}(hg:yk tp g=tt)(hp:∀ x∈xs,zl tp T gm g ([.agg (saysC x)]++cp) Kc (fun r K'=>r=zr (p x)/\K'=Kc))(hI:SaysAt ob off xs)(hl:xs.length<=1000) :
  zl tp T gm 235 [.sl j off xs.length,.fn g [] cp] ((j,ob)::Kc) (fun r K'=>r=zr (xs.any p)/\K'=(j,ob)::Kc):=by
 refine zh 9 hT Tryz.func235 fun Y Wz=>?_;refine au 11423542 ?_;refine bD Z Z Z Z (zfz hT hg hp hI hl) ?_ (hs:=(.all _));rintro r1 K2 ⟨⟨m,rfl,hm⟩,hK⟩;refine au 0 ?_;rw[hK,lR];refine au 357 ?_;refine TK.rta Wz ?_;exact⟨by rw[<- hm] <;> rfl,rfl⟩
theorem zjw{main T}(hT:zo tp main T){gm}{x y:Says}{jy:Nat}{e:gT} :
  zl tp T gm 236 [.agg (saysC x),.ptr jy 0] [(jy,.cells (saysC y) e tt)] (fun r K'=>r=zr (x.name.toList==y.name.toList)/\K'=[(jy,.cells (saysC y) e tt)]):=by
 refine zh 9 hT Tryz.func236 fun Y Wz=>?_;refine au 21042 ?_;intro j1 hj1;refine au 353306906706906704235 ?_;refine bB Wz [(jy,_)] ?_;exact⟨rfl,rfl⟩
def byteOk(i:Nat)(c:Int):Bool:=(decide (97<=c)&&decide (c<=122))||((decide ((i:Int)>0)&&decide (48<=c))&&decide (c<=57))
def bytesOk(s:ByteArray)(n:Nat):Bool:=(List.range n).all fun i=>byteOk i (((s.data[i]?).map fun b=>(b.toNat:Int)).getD 0)
def isNameM(s:ByteArray):Bool:=bytesOk s s.size&&(decide (1<=(s.size:Int))&&decide ((s.size:Int)<=12))
theorem wB{s:ByteArray}{i:Nat}{c:UInt8}(h:s.data[i]? =some c):bytesOk s (i+1)=(bytesOk s i&&byteOk i c.toNat):=by
 unfold bytesOk;rw[List.range_succ,List.all_append];simp[h]
theorem kF{s:ByteArray}{i n:Nat}{c:UInt8}(h:s.data[i]? =some c)(hi:i<n)(hb:byteOk i c.toNat=ff):bytesOk s n=ff:=by
 unfold bytesOk;rw[List.all_eq_false];exact⟨i,List.mem_range.2 hi,by simp[h,hb]⟩
theorem zhT{s:ByteArray}{i:Nat}{c:UInt8}(h:s.data[i]? =some c){e:gT}{rw:Bool}:z6 (.cells (s.data.toList.map byteA) e rw) (0+(i:Int).toNat*1) 1=some [byteA c]:=by
 have Qp:i<s.data.size:=(Array.getElem?_eq_some_iff.1 h).1;simp only[z6,AObj.look,mZ,mO,Nat.mul_one];rw[if_pos ⟨by omega,by rw[List.length_map,Array.length_toList];omega⟩,List.take_one,List.head?_drop,lQ,Array.getElem?_toList,h];rfl
theorem zjB{main T}(hT:zo tp main T){gm}{s:ByteArray}(hl:s.size<=1000) :
  zl tp T gm 234 [.v (.string s)] [] (fun r K'=>r=zr (isNameM s)/\K'=[]):=by
 refine zh 35 hT Tryz.func234 fun Y Wz=>?_;refine au 14223542 ?_;refine TK.newS Z Z Z (zjI Z Z Und.h Und.h Und.h oQ) (fun _=>zD rfl tQ) fun jt hjt=>?_;refine au 13031280 ?_;refine bA [0,6,7,8] ?_;refine bE (fun n Wq K=>∃(i:Nat),n=s.size - i/\i<=s.size/\bytesOk s i=tt/\Wq=ym 35 [(0,.v (.string s)),(6,.sl jt 0 s.size),(7,za s.size),(8,za i)]/\K=[(jt,.cells (s.data.toList.map byteA) 5 ff)]) s.size ⟨0,rfl,mN _,rfl,rfl,rfl⟩ fun n Wq K hI Wj=>?_;obtain⟨i,rfl,hi,hok,rfl,rfl⟩:=hI;refine au 923742 ?_;refine⟨fun hc=>?_,fun hc=>?_⟩
 ·simp only[dT_]at hc;have Qb:i<s.data.size:=by have:s.data.size=s.size:=rfl;omega
  obtain⟨cb,hcb⟩:∃ cb,s.data[i]? =some cb:=⟨_,mD Qb⟩;refine au 3601421302120 ?_;refine bH Z (zg Z Z ze.h mQ (zhT hcb)) ?_;refine au 17142130355 ?_;refine bF 16 (fun g5_3=>?_) (fun g5_3=>?_)
  ·refine au 93526071 ?_;refine⟨fun k1=>?_,fun k1=>?_⟩
   ·refine au 312304140140120 ?_;refine bA [0,6,7,8] ?_;refine bC [(jt,_)] ?_;exact Wj _ _ _ oQ ⟨i+1,rfl,oQ,by rw[wB hcb,hok];unfold byteOk;first|(simp only[*];rfl)|simp only[*],rfl,rfl⟩
   refine au 17142 ?_;refine bF 23 (fun g6_3=>?_) (fun g6_3=>?_)
   ·refine au 126071 ?_;refine bF 27 (fun g6_7=>?_) (fun g6_7=>?_)
    ·refine au 93526071 ?_;refine⟨fun k2=>?_,fun k2=>?_⟩
     ·refine au 312304140140120 ?_;refine bA [0,6,7,8] ?_;refine bC [(jt,_)] ?_;exact Wj _ _ _ oQ ⟨i+1,rfl,oQ,by rw[wB hcb,hok];unfold byteOk;first|(simp only[*];rfl)|simp only[*],rfl,rfl⟩
     refine au 3542 ?_;refine bB Wz [] ?_;exact⟨by unfold isNameM;rw[kF (n:=s.size) hcb Qb (by unfold byteOk;first|(simp only[*];rfl)|simp only[*])] <;> rfl,rfl⟩
    refine au 35421903525088 ?_;refine bB Wz [] ?_;exact⟨by unfold isNameM;rw[kF (n:=s.size) hcb Qb (by unfold byteOk;first|(simp only[*];rfl)|simp only[*])] <;> rfl,rfl⟩
   refine au 35421903525088125088 ?_;refine bB Wz [] ?_;exact⟨by unfold isNameM;rw[kF (n:=s.size) hcb Qb (by unfold byteOk;first|(simp only[*];rfl)|simp only[*])] <;> rfl,rfl⟩
  refine au 171421903525088 ?_;refine bF 23 (fun g6_3=>?_) (fun g6_3=>?_)
  ·refine au 126071 ?_;refine bF 27 (fun g6_7=>?_) (fun g6_7=>?_)
   ·refine au 93526071 ?_;refine⟨fun k2=>?_,fun k2=>?_⟩
    ·refine au 312304140140120 ?_;refine bA [0,6,7,8] ?_;refine bC [(jt,_)] ?_;exact Wj _ _ _ oQ ⟨i+1,rfl,oQ,by rw[wB hcb,hok];unfold byteOk;first|(simp only[*];rfl)|simp only[*],rfl,rfl⟩
    refine au 3542 ?_;refine bB Wz [] ?_;exact⟨by unfold isNameM;rw[kF (n:=s.size) hcb Qb (by unfold byteOk;first|(simp only[*];rfl)|simp only[*])] <;> rfl,rfl⟩
   refine au 35421903525088 ?_;refine bB Wz [] ?_;exact⟨by unfold isNameM;rw[kF (n:=s.size) hcb Qb (by unfold byteOk;first|(simp only[*];rfl)|simp only[*])] <;> rfl,rfl⟩
  refine au 35421903525088125088 ?_;refine bB Wz [] ?_;exact⟨by unfold isNameM;rw[kF (n:=s.size) hcb Qb (by unfold byteOk;first|(simp only[*];rfl)|simp only[*])] <;> rfl,rfl⟩
 simp only[dF_]at hc;obtain rfl:i=s.size:=by omega
 refine au 290142160 ?_;refine TK.clE Z Z Z Z (uf hT) ?_;refine au 35 ?_;refine bB Wz [] ?_;exact⟨by unfold isNameM;rw[hok] <;> rfl,rfl⟩
end Go.Vel
end
