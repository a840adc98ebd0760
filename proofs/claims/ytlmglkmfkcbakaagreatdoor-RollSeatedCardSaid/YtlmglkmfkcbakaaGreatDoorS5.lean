/- Texts for the statements of chapter 8: what all of them need, part 6. It holds of every program, tape and world that the statements name, as each theorem says. -/
import Derived.Test.YtlmglkmfkcbakaaGreatDoorS3
import Derived.Test.YtlmglkmfkcbakaaGreatDoorS4
open Go renaming Goroutine -> gG, TypeId -> gT, Operand -> gO, Program -> gP, FuncId -> gF
open Bool renaming true -> tt, false -> ff
section
set_option linter.all false
set_option maxRecDepth 20000
set_option maxHeartbeats 60000000
open Go.Proofs.Tryz renaming prog -> tp
open List renaming getElem?_eq_getElem -> lA, getElem?_eq_some_iff -> lD, getD_eq_getElem?_getD -> lE, length_append -> lF, getElem?_append_left -> lG, perm_append_comm -> lH, mem_cons -> lI, eq_nil_of_length_eq_zero -> lK, map_append -> lM, getElem?_append_right -> lO, getElem?_set_ne -> lP, getElem?_map -> lQ, append_nil -> lR, mem_singleton -> lS, mem_append -> lT, getElem?_eq_none -> lU, getElem?_set -> lX, mem_map -> lY, length_cons -> lZ, map_congr_left -> mA, replicate -> mB
open List.Mem renaming head -> mC
open Array renaming getElem?_eq_getElem -> mD
open Nat renaming le_refl -> mL, zero_le -> mN, zero_add -> mO, le_trans -> mT
open Bool renaming not_eq_true' -> mV, not_eq_false' -> mW
open Int renaming toNat_natCast -> mZ
open Go.Vel.TK renaming maskL -> bA, rt -> bB, kp -> bC, cl -> bD, loopN -> bE, sp -> bF, na -> bG, a -> bH, dq -> bL
namespace Go.Vel
open Go Go.Conc
section
variable {φ:Nat->Loc3} {A:List AObj} {H:Hp}
theorem zdZ {n:Nat} {loc:Loc3} {w:AObj} (h:RelO φ n loc H w) (hl:w.live=tt) (hs:sol loc w):∃ x,H loc.blk=some x:=by
 cases w with
 | cells l e rw'=>obtain ⟨r,cur,q,h1,_⟩:=h hs; exact ⟨_,h1⟩
 | row l e size=>obtain ⟨_,_,hc⟩:=h; obtain ⟨cur,h1,_⟩:=hc hs; exact ⟨_,h1⟩
 | raw o=>exact ⟨_,h⟩
 | loop f Wq ps x y st pj=>obtain ⟨ts,d,h1,_⟩:=h; exact ⟨_,h1⟩
 | gone=>cases hl
 | ro o=>obtain ⟨r,h⟩:=h; exact ⟨_,h⟩
theorem zjA {n:Nat} {loc:Loc3} {w:AObj} (h:RelO φ n loc H w) (he:w.excl=tt) (hs:sol loc w):∃ o,H loc.blk=some (tt,o):=by
 cases w with
 | cells l e rw' =>
  obtain ⟨r,cur,q,h1,h2,_⟩:=h hs;have hr:rw'=tt:=he;rw [(h2 hr).1.1] at h1;exact ⟨_,h1⟩
 | row l e size=>obtain ⟨_,_,hc⟩:=h; obtain ⟨cur,h1,_⟩:=hc hs; exact ⟨_,h1⟩
 | raw o=>exact ⟨_,h⟩
 | loop f Wq ps x y st pj=>obtain ⟨ts,d,h1,_⟩:=h; exact ⟨_,h1⟩
 | gone=>cases he
 | ro o=>cases he
theorem zg9 (h:RelH φ A nF H) {j:Nat} (hj:A[j]? =some .gone) {o:AObj} (ho:RelO φ A.length (φ j) H o) (hd:∀ t w,A[t]? =some w->t≠j->w.live=tt->sol (φ t) w->(φ t).blk≠(φ j).blk):RelH φ (A.set j o) nF H:=by
 have hg:∀ t w,(A.set j o)[t]? =some w->(t=j/\w=o)\/(t≠j/\A[t]? =some w):=fun t w ht=>by
  rw [lX] at ht;split at ht
  ·rename_i e';split at ht
   ·cases ht; exact .inl ⟨e'.symm,rfl⟩
   ·cases ht
  ·rename_i e';exact .inr ⟨fun h=>e' h.symm,ht⟩
 refine ⟨fun t w ht=>?_,fun t t' w w' ht ht' hn he hl s1 s2=>?_,h.fr,fun t w ht he hs=>rfl⟩
 ·rw [List.length_set];rcases hg t w ht with ⟨rfl,rfl⟩ | ⟨_,h2⟩
  ·exact ho
  ·exact h.obj t w h2
 ·have lv:∀ {z:AObj},z.excl=tt->z.live=tt:=fun {z} hz=>by cases z <;> first | rfl | cases hz
  rcases hg t w ht with ⟨rfl,rfl⟩ | ⟨hne,h2⟩
  ·rcases hg t' w' ht' with ⟨rfl,rfl⟩ | ⟨hne',h2'⟩
   ·exact absurd rfl hn
   ·exact fun e=>hd t' w' h2' hne' hl s2 e.symm
  ·rcases hg t' w' ht' with ⟨rfl,rfl⟩ | ⟨_,h2'⟩
   ·exact hd t w h2 hne (lv he) s1
   ·exact h.apart t t' w w' h2 h2' hn he hl s1 s2
theorem znd (h:RelH φ A nF H) {loc:Loc3} {l:List AV} {e:gT} (ho:RelO (upd3 φ A.length loc) (A.length+1) loc H (.cells l e ff)) (hd:∀ t w,A[t]? =some w->w.excl=tt->sol (φ t) w->(φ t).blk≠loc.blk):RelH (upd3 φ A.length loc) (A++[.cells l e ff]) nF H:=by
 have hu:∀ t,t<A.length->upd3 φ A.length loc t=φ t:=fun t ht=>yF φ A.length loc t ht;have hu':upd3 φ A.length loc A.length=loc:=by simp [upd3]
 have hg:∀ t w,(A++[AObj.cells l e ff])[t]? =some w->(t=A.length/\w=.cells l e ff)\/(t<A.length/\A[t]? =some w):=fun t w ht=>by
  rcases Nat.lt_trichotomy t A.length with Qp | heq | hgt
  ·rw [lG Qp] at ht; exact .inr ⟨Qp,ht⟩
  ·subst heq;rw [lO (mL _),Nat.sub_self] at ht;cases ht;exact .inl ⟨rfl,rfl⟩
  ·rw [lU (by simp; omega)] at ht; cases ht
 have Wb:(A++[AObj.cells l e ff]).length=A.length+1:=by simp
 refine ⟨fun t w ht=>?_,fun t t' w w' ht ht' hn he hl s1 s2=>?_,h.fr,fun t w ht he hs=>rfl⟩
 ·rw [Wb];rcases hg t w ht with ⟨rfl,rfl⟩ | ⟨Qp,h2⟩
  ·rw [hu']; exact ho
  ·rw [hu t Qp];exact (h.obj t w h2).mono (yF _ _ _) oQ (fun _ _=>rfl)
 ·rcases hg t w ht with ⟨rfl,rfl⟩ | ⟨Qp,h2⟩
  ·cases he
  ·rw [hu t Qp] at s1 ⊢;rcases hg t' w' ht' with ⟨rfl,rfl⟩ | ⟨hlt',h2'⟩
   ·rw [hu']; exact hd t w h2 he s1
   ·rw [hu t' hlt'] at s2 ⊢;exact h.apart t t' w w' h2 h2' hn he hl s1 s2
abbrev z9:List Value:=[.slice none 0 0,.int .i64 0,.bool ff]
def GIb (lo:Loc3) (tO:gT):Option (List Int×Int)->Hp->Prop
 | none,L=>L=oneB lo.blk (tt,.cells #[.slice none 0 0,.int .i64 0,.bool ff] tO (0,0))
 | some (cs,cost),L=>∃ rb rbase cap cur q,rb≠lo.blk/\cs≠[]/\cs.length<=cap/\(∀ (j:Nat) (a:Int),cs[j]? =some a->cur[rbase+j]? =some (.int .i64 a)) /\
   L=fun c=>if c=lo.blk then some (tt,.cells #[.slice (some ⟨rb,rbase,none⟩) cs.length cap,.int .i64 cost,.bool tt] tO (0,0)) else if c=rb then some (ff,.cells cur (q:gT×Nat×Nat).1 q.2) else none
def PLb (jo:Nat) (tO:gT):Option (List Int×Int)->KV->Prop
 | none,K=>K=[(jo,.cells (z9.map AV.v) tO tt)]
 | some (cs,cost),K=>∃ jr e,K=[(jr,.cells (cs.map fun a=>.v (.int .i64 a)) e ff),(jo,.cells [.sl jr 0 cs.length,.v (.int .i64 cost),.v (.bool tt)] tO tt)]
theorem zkK (H L:Hp):H.ext (H.join L):=fun b x hb=>by
 show (H b).or (L b)=some x;rw [hb]; rfl
theorem ziS {lo:Nat×Loc3} {tO:gT} {b:Option (List Int×Int)} {L:Hp} (hG:GIb lo.2 tO b L) (hb0:lo.2.base=0) (Qp:lo.1<A.length) (hφ:φ lo.1=lo.2) (hv:zV [(lo.1,.gone)] A) (hH:RelH φ A nF H) (hD:H.Dis L) (hA:Agrees H L) :
  ∃ φ' A' K',Agr φ φ' A.length/\A.length<=A'.length/\Kstep [(lo.1,.gone)] A K' A'/\PLb lo.1 tO b K'/\RelH φ' A' nF (H.join L):=by
 have hgone:=hv _ (lS.2 rfl);have hJ:=hH.ext (zkK H L);have hk1:(keys [(lo.1,AObj.gone)]).Nodup:=by simp [keys]
 cases b with
 | none =>
  have hL:L=oneB lo.2.blk (tt,.cells #[.slice none 0 0,.int .i64 0,.bool ff] tO (0,0)):=hG;have hLo:L lo.2.blk=some (tt,.cells #[.slice none 0 0,.int .i64 0,.bool ff] tO (0,0)):=by rw [hL]; simp [oneB]
  have hHo:H lo.2.blk=none:=hD.2 _ _ hLo;have hJo:(H.join L) lo.2.blk=some (tt,.cells #[.slice none 0 0,.int .i64 0,.bool ff] tO (0,0)):=by show (H _).or (L _)=_; rw [hHo,hLo]; rfl
  refine ⟨φ,A.set lo.1 (.cells (z9.map AV.v) tO tt),_,Agr.refl _ _,by simp,.set hv hk1 .head,rfl,zg9 hJ hgone ?_ ?_⟩
  ·rw [hφ];intro _;refine ⟨tt,_,(tO,0,0),hJo,fun _=>⟨⟨rfl,rfl⟩,hb0,rfl⟩,fun j a ha=>?_⟩;rw [hb0,mO];rcases j with _ | _ | _ | j <;> simp at ha <;> subst ha <;> exact ⟨_,rfl,.v _⟩
  ·intro t w ht hne hl hs e;rw [hφ] at e;obtain ⟨x,hx⟩:=zdZ (hH.obj t w ht) hl hs;rw [e,hHo] at hx;cases hx
 | some z =>
  obtain ⟨cs,cost⟩:=z;obtain ⟨rb,rbase,cap,cur,q,hrb,hcs,hcap,hcur,hL⟩:=hG;have hLo:L lo.2.blk=some (tt,.cells #[.slice (some ⟨rb,rbase,none⟩) cs.length cap,.int .i64 cost,.bool tt] tO (0,0)):=by rw [hL]; simp
  have hLr:L rb=some (ff,.cells cur q.1 q.2):=by rw [hL]; simp [hrb]
  have hHo:H lo.2.blk=none:=hD.2 _ _ hLo;have hJo:(H.join L) lo.2.blk=some (tt,.cells #[.slice (some ⟨rb,rbase,none⟩) cs.length cap,.int .i64 cost,.bool tt] tO (0,0)):=by show (H _).or (L _)=_; rw [hHo,hLo]; rfl
  have hJr:∃ r,(H.join L) rb=some (r,.cells cur q.1 q.2):=by
   cases e:H rb with
   | none=>exact ⟨ff,by show (H _).or (L _)=_; rw [e,hLr]; rfl⟩
   | some x =>
    obtain ⟨r,o⟩:=x;exact ⟨r,by show (H _).or (L _)=_; rw [e,hA rb r o _ _ e hLr]; rfl⟩
  obtain ⟨r,hJr⟩:=hJr;have hR1:RelH (upd3 φ A.length ⟨rb,rbase,cap⟩) (A++[.cells (cs.map fun a=>.v (.int .i64 a)) 0 ff]) nF (H.join L):=by
   refine znd hJ (fun _=>⟨r,cur,q,hJr,(fun h=>by cases h),fun j a ha=>?_⟩) fun t w ht he hs e=>?_
   ·rw [lQ] at ha;cases e:cs[j]? with
    | none=>rw [e] at ha; cases ha
    | some z =>
     rw [e] at ha; cases ha;exact ⟨_,hcur j z e,.v _⟩
   ·obtain ⟨o,hx⟩:=zjA (hH.obj t w ht) he hs;have e':(φ t).blk=rb:=e;have:=hD.1 _ _ hx;rw [e',hLr] at this;cases this
  have hu:upd3 φ A.length ⟨rb,rbase,cap⟩ lo.1=φ lo.1:=yF _ _ _ _ Qp;have hu':upd3 φ A.length ⟨rb,rbase,cap⟩ A.length=⟨rb,rbase,cap⟩:=by simp [upd3]
  have hv1:zV ((A.length,.cells (cs.map fun a=>.v (.int .i64 a)) 0 ff)::[(lo.1,.gone)]) (A++[.cells (cs.map fun a=>.v (.int .i64 a)) 0 ff]):=(Kstep.push hv hk1 _).view;have hgone1:(A++[AObj.cells (cs.map fun a=>.v (.int .i64 a)) 0 ff])[lo.1]? =some .gone:=by rw [lG Qp]; exact hgone
  refine ⟨_,(A++[AObj.cells (cs.map fun a=>.v (.int .i64 a)) 0 ff]).set lo.1 (.cells [.sl A.length 0 cs.length,.v (.int .i64 cost),.v (.bool tt)] tO tt),_,yF φ A.length ⟨rb,rbase,cap⟩,by simp,?_,⟨A.length,0,rfl⟩,zg9 hR1 hgone1 ?_ ?_⟩
  ·have s1:=Kstep.push hv hk1 (.cells (cs.map fun a=>.v (.int .i64 a)) 0 ff);have s2:=Kstep.set (o':=.cells [.sl A.length 0 cs.length,.v (.int .i64 cost),.v (.bool tt)] tO tt) s1.view s1.nd (.tail (.head (i:=lo.1)));refine ⟨s2.view,s2.nd,fun i hi=>?_,fun t ht hn=>?_,mT s1.len s2.len⟩
   ·rcases s2.own i hi with h' | h'
    ·exact s1.own i h'
    ·exact .inr (mT s1.len h')
   ·rw [s2.kept t (Nat.lt_of_lt_of_le ht s1.len) (fun hm=>?_)]
    ·exact s1.kept t ht hn
    ·rcases s1.own t hm with h' | h'
     ·exact hn h'
     ·omega
  ·rw [hu,hφ];intro _;refine ⟨tt,_,(tO,0,0),hJo,fun _=>⟨⟨rfl,rfl⟩,hb0,rfl⟩,fun j a ha=>?_⟩;rw [hb0,mO];rcases j with _ | _ | _ | j <;> simp at ha <;> subst ha
   ·refine ⟨_,rfl,.sl sQ hcap fun _=>?_⟩;rw [hu',Nat.add_zero]
   ·exact ⟨_,rfl,.v _⟩
   ·exact ⟨_,rfl,.v _⟩
  ·intro t w ht hne hl hs e;rw [hu,hφ] at e;rcases Nat.lt_or_ge t A.length with hlt' | hge
   ·rw [lG hlt'] at ht;rw [yF _ _ _ _ hlt'] at e hs;obtain ⟨x,hx⟩:=zdZ (hH.obj t w ht) hl hs;rw [e,hHo] at hx;cases hx
   ·have:t=A.length:=by
     have:=(lD.1 ht).1;simp at this; omega
    subst this;rw [hu'] at e;exact hrb e
theorem zmp {lo:Nat×Loc3} {tO e:gT} {jr:Nat} {cs:List Int} {cost:Int} {K:KV} (hcs:cs≠[]) (hr:(jr,AObj.cells (cs.map fun a=>.v (.int .i64 a)) e ff)∈K) (ho:(lo.1,AObj.cells [.sl jr 0 cs.length,.v (.int .i64 cost),.v (.bool tt)] tO tt)∈K) (hφ:φ lo.1=lo.2) (hv:zV K A) (hH:RelH φ A nF H) :
  ∃ L,L.Sub H/\GIb lo.2 tO (some (cs,cost)) L:=by
 have ar:=hv _ hr;have ao:=hv _ ho;have hne:lo.1≠jr:=fun h=>by
  have ar':A[jr]? =some (AObj.cells (cs.map fun a=>.v (.int .i64 a)) e ff):=ar;have ao':A[lo.1]? =some (AObj.cells [.sl jr 0 cs.length,.v (.int .i64 cost),.v (.bool tt)] tO tt):=ao;rw [h,ar'] at ao';have hx:=congrArg AObj.excl (Option.some.inj ao');simp [AObj.excl] at hx
 obtain ⟨r,cur,q,h1,_,h3⟩:=hH.obj jr _ ar (by simpa using hcs);obtain ⟨r',cur',q',g1,g2,g3⟩:=hH.obj lo.1 _ ao sQ;obtain ⟨⟨rfl,rfl⟩,gb,gs⟩:=g2 rfl;have hblk:(φ lo.1).blk≠(φ jr).blk:=hH.apart lo.1 jr _ _ ao ar hne rfl rfl (by simp [sol]) (by simpa [sol] using hcs);obtain ⟨y0,hy0,r0⟩:=g3 0 _ rfl;obtain ⟨y1,hy1,r1⟩:=g3 1 _ rfl;obtain ⟨y2,hy2,r2⟩:=g3 2 _ rfl;rw [gb,mO] at hy0 hy1 hy2;rw [inv_v r1] at hy1;rw [inv_v r2] at hy2;have Qx:0<cs.length:=List.length_pos_iff.2 hcs;have hsl:∃ cap,cs.length<=cap/\y0=.slice (some ⟨(φ jr).blk,(φ jr).base,none⟩) cs.length cap:=by
  cases r0 with
  | @sl _ _ _ cap b hi hle hb =>
   refine ⟨cap,hle,?_⟩;rw [hb Qx,Nat.add_zero]
 obtain ⟨cap,hcap,rfl⟩:=hsl;have hc3:cur'=#[.slice (some ⟨(φ jr).blk,(φ jr).base,none⟩) cs.length cap,.int .i64 cost,.bool tt]:=by
  refine Array.ext (by simpa using gs) fun j h1' h2'=>?_;have hj:j=0\/j=1\/j=2:=by
   have:cur'.size=3:=gs;omega
  rcases hj with rfl | rfl | rfl
  ·rw [mD h1'] at hy0; exact Option.some.inj hy0
  ·rw [mD h1'] at hy1; exact Option.some.inj hy1
  ·rw [mD h1'] at hy2; exact Option.some.inj hy2
 subst hc3;refine ⟨fun c=>if c=lo.2.blk then some (tt,.cells #[.slice (some ⟨(φ jr).blk,(φ jr).base,none⟩) cs.length cap,.int .i64 cost,.bool tt] tO (0,0)) else if c=(φ jr).blk then some (ff,.cells cur q.1 q.2) else none,fun b rw' o hb=>?_,(φ jr).blk,(φ jr).base,cap,cur,q,?_,hcs,hcap,fun j a ha=>?_,rfl⟩
 ·dsimp only at hb;split at hb
  ·rename_i e; subst e; cases hb;rw [hφ] at g1;exact ⟨tt,g1,id⟩
  ·split at hb
   ·rename_i e; subst e; cases hb;exact ⟨r,h1,fun h=>by cases h⟩
   ·cases hb
 ·rw [<- hφ]; exact hblk.symm
 ·obtain ⟨y,hy,hr'⟩:=h3 j (.v (.int .i64 a)) (by rw [lQ,ha]; rfl);rw [inv_v hr'] at hy;exact hy
end
section
variable {α:Type} (lkr:Nat->Bool) (off:Nat->α) (bt:α->α->Bool)
def IsBest (x:Nat->Bool):Option α->Prop
 | none=>∀ i,lkr i=tt->x i=ff
 | some p=>(∃ i,lkr i=tt/\x i=tt/\off i=p)/\∀ i,lkr i=tt->x i=tt->off i=p\/bt p (off i)=tt
variable {lkr off bt} {x:Nat->Bool}
def keepB (bt:α->α->Bool) (p:α):Option α->α
 | none=>p
 | some q=>if bt p q=tt then p else q
theorem zis {i:Nat} {b:Option α} (h:IsBest lkr off bt x b) (hi:lkr i=tt) (htr:∀ p q r,bt p q=tt->bt q r=tt->bt p r=tt) (htot:∀ i j,lkr i=tt->lkr j=tt->off i=off j\/bt (off i) (off j)=tt\/bt (off j) (off i)=tt) :
  IsBest lkr off bt (Go.ConcN.upd x i tt) (some (keepB bt (off i) b)):=by
 have hx:∀ j,Go.ConcN.upd x i tt j=tt->j=i\/x j=tt:=fun j hj=>by
  by_cases e:j=i
  ·exact .inl e
  ·rw [Go.ConcN.upd_ne _ _ e] at hj; exact .inr hj
 have hxi:Go.ConcN.upd x i tt i=tt:=Go.ConcN.upd_same ..;have hup:∀ j,x j=tt->Go.ConcN.upd x i tt j=tt:=fun j hj=>by
  by_cases e:j=i
  ·rw [e]; exact hxi
  ·rw [Go.ConcN.upd_ne _ _ e]; exact hj
 cases b with
 | none =>
  refine ⟨⟨i,hi,hxi,rfl⟩,fun j hj hxj=>?_⟩;rcases hx j hxj with rfl | hxj
  ·exact .inl rfl
  ·rw [h j hj] at hxj; cases hxj
 | some q =>
  obtain ⟨⟨i0,h1,h2,h3⟩,h4⟩:=h;by_cases hb:bt (off i) q=tt
  ·have e:keepB bt (off i) (some q)=off i:=if_pos hb;rw [e];refine ⟨⟨i,hi,hxi,rfl⟩,fun j hj hxj=>?_⟩;rcases hx j hxj with rfl | hxj
   ·exact .inl rfl
   ·rcases h4 j hj hxj with e | e
    ·right; rw [e]; exact hb
    ·right; exact htr _ _ _ hb e
  ·have e:keepB bt (off i) (some q)=q:=if_neg hb;rw [e];refine ⟨⟨i0,h1,hup _ h2,h3⟩,fun j hj hxj=>?_⟩;rcases hx j hxj with rfl | hxj
   ·rcases htot j i0 hj h1 with e | e | e
    ·left; rw [e,h3]
    ·rw [h3] at e; exact absurd e hb
    ·right; rw [<- h3]; exact e
   ·exact h4 j hj hxj
end
section
variable {P:gP} {lkr:Nat->Bool} {off:Nat->List Int×Int} {bt:List Int×Int->List Int×Int->Bool} {tO:gT}
def GIo (lkr:Nat->Bool) (off:Nat->List Int×Int) (bt:List Int×Int->List Int×Int->Bool) (tO:gT) (lo:Loc3) (x:Nat->Bool) (L:Hp):Prop:=∃ b,IsBest lkr off bt x b/\GIb lo tO b L
def PLo (lkr:Nat->Bool) (off:Nat->List Int×Int) (bt:List Int×Int->List Int×Int->Bool) (tO:gT) (jo:Nat) (x:Nat->Bool) (K:KV):Prop:=∃ b,IsBest lkr off bt x b/\PLb jo tO b K
theorem zkF (lo:Loc3):GIo lkr off bt tO lo (fun _=>ff) (oneB lo.blk (tt,.cells z9.toArray tO (0,0))):=⟨none,fun _ _=>rfl,rfl⟩
theorem znW {y:Sy P} {lo:Nat×Loc3} (hy:y.GI=GIo lkr off bt tO lo.2) (hb:lo.2.base=0) (i:Nat):GIn y lo i (PLo lkr off bt tO lo.1):=by
 intro x' L A φ H hG hx Qp hφ hv hn hH hD hA;rw [hy] at hG;obtain ⟨b,h1,h2⟩:=hG;obtain ⟨φ',A',K',a,b',c,d,e⟩:=ziS h2 hb Qp hφ hv hH hD hA;exact ⟨φ',A',K',a,b',c,⟨b,h1,d⟩,e⟩
theorem znX {y:Sy P} {lo:Nat×Loc3} (hy:y.GI=GIo lkr off bt tO lo.2) (hb:lo.2.base=0) {x:Nat->Bool}:∀ L A φ H,y.GI x L->lo.1<A.length->φ lo.1=lo.2->zV [(lo.1,.gone)] A->(keys [(lo.1,AObj.gone)]).Nodup->RelH φ A nF H->H.Dis L->Agrees H L->∃ φ' A' K',Agr φ φ' A.length/\A.length<=A'.length/\Kstep [(lo.1,.gone)] A K' A'/\PLo lkr off bt tO lo.1 x K'/\RelH φ' A' nF (H.join L):=by
 intro L A φ H hG Qp hφ hv hn hH hD hA;rw [hy] at hG;obtain ⟨b,h1,h2⟩:=hG;obtain ⟨φ',A',K',a,b',c,d,e⟩:=ziS h2 hb Qp hφ hv hH hD hA;exact ⟨φ',A',K',a,b',c,⟨b,h1,d⟩,e⟩
theorem zc4 {y:Sy P} {lo:Nat×Loc3} (hy:y.GI=GIo lkr off bt tO lo.2) {x:Nat->Bool} {i:Nat} {cs:List Int} {cost:Int} {jr:Nat} {e:gT} {K:KV} (hcs:cs≠[]) (hbest:IsBest lkr off bt (Go.ConcN.upd x i tt) (some (cs,cost)))
  (hr:(jr,AObj.cells (cs.map fun a=>.v (.int .i64 a)) e ff)∈K) (ho:(lo.1,AObj.cells [.sl jr 0 cs.length,.v (.int .i64 cost),.v (.bool tt)] tO tt)∈K) :
  ∀ A φ H,lo.1<A.length->φ lo.1=lo.2->zV K A->(keys K).Nodup->RelH φ A nF H->∃ L',L'.Sub H/\y.GI (Go.ConcN.upd x i tt) L':=by
 intro A φ H Qp hφ hv hn hH;obtain ⟨L,h1,h2⟩:=zmp hcs hr ho hφ hv hH;exact ⟨L,h1,by rw [hy]; exact ⟨_,hbest,h2⟩⟩
end
end Go.Vel
namespace Go.Vel
open Go Go.Conc Go.Proofs
open Go.ConcN (sumTo upd upd_ne upd_same)
open Go.ConcM (OsLater MuAt muA msA)
open Go.ConcR (KK wgBlock WgAt stA smA mk rd wr)
open Mx (TT Th Mn S4 auto Mv4 ok4 bl4 kd dl MPc Pc okW okM Mv nx4 cnt newOf)
instance:zl tp 199 0 0 tt 2:={}
instance:zl tp 199 1 2 ff 1:={}
instance:ze tp 168 tt 2:={}
instance:ze tp 4 ff 1:={}
instance:BlOf tp 168 [(0,1),(1,1)]:={}
instance:zl tp 45 1 1 ff 1:={}
instance:ze tp 154 tt 8:={}
instance:ze tp 171 ff 1:={}
instance:ze tp 3 ff 1:={}
instance:ze tp 34 ff 1:={}
instance:ze tp 45 tt 2:={}
instance:TyZ tp 168 [.slice none 0 0,.int .i64 0]:={}
instance:TyZA tp 45 [.v (.int .i64 0),.v (.int .i64 0)]:={}
theorem zmr {Ch:Nat->gG->Hp->Prop} (y:Sy tp) {k i:Nat} {x:Nat->Bool} :
  CallQ tp (y.Sq2 Ch k i (.w { pc:=.d1 }) x) 147 [.pointer (some ⟨y.Wg,0,none⟩),.int .u64 18446744069414584320] (fun r T'=>(∃ v wt:Nat,v<64/\wt<=1/\¬ (v=0/\wt=1)/\r=.int .u64 ((v*4294967296+wt:Nat):Int)/\T'=Tq tp 1)\/(r=.int .u64 1/\∃ k',k'<k/\T'=y.Sq2 Ch k' i (.w { pc:=.d2 }) x)):=by
 refine zbV 10 Tryz.func147 fun c0 cs Wz=>?_;refine TQ.norm (Wk:=[.v (.pointer (some ⟨y.Wg,0,none⟩)),.v (.int .u64 18446744069414584320),.any,.any,.any,.any,.any,.any,.any,.any]) Z ?_;refine TQ.seq qqQ ?_;refine TQ.rgn qqQ RgL.h ?_;refine TQ.a qqQ zk Z (yY Z Z) ?_;refine TQ.end qqQ ?_;refine TQ.seq qqQ ?_;refine TQ.rgn qqQ RgL.h ?_;refine TQ.a qqQ zk Z (zY Z Z) ?_;refine TQ.a qqQ zk Z (wF Z Z) ?_;refine TQ.a qqQ zk Z (kO Z Z zl.h dQ) ?_;refine TQ.a qqQ zk Z (zY Z Z) ?_;refine TQ.gAdd zk 18446744069414584320 Z Z Z Z (fun s v h1 h2 h3=>zkI h1 h2 h3) (fun k1 hk1=>?_) (fun v wt hv hwt hne=>?_)
 ·refine TQ.norm (zx Z tQ) ?_;refine TQ.a qqQ zk Z (yY Z Z) ?_;refine TQ.end qqQ ?_;refine TQ.ret qqQ Tryz.func147 (zb5 Z) (Wz _ _ ?_);exact .inr ⟨rfl,k1,hk1,rfl⟩
 ·refine TQ.norm (zx Z tQ) ?_;refine TQ.a qqQ zk Z (yY Z Z) ?_;refine TQ.end qqQ ?_;refine TQ.ret qqQ Tryz.func147 (zb5 Z) (Wz _ _ ?_);exact .inl ⟨v,wt,hv,hwt,hne,congrArg (Value.int .u64) (zeT v wt),rfl⟩
theorem zdK {Ch:Nat->gG->Hp->Prop} (y:Sy tp) {k i:Nat} {x:Nat->Bool} :
  CallQ tp (y.Sq2 Ch k i (.w { pc:=.d2 }) x) 149 [.pointer (some ⟨y.Wg,0,none⟩)] (fun r T'=>r=.int .u64 1/\∃ k',k'<k/\T'=y.Sq2 Ch k' i (.w { pc:=.d3 }) x):=by
 refine zbV 7 Tryz.func149 fun c0 cs Wz=>?_;refine TQ.norm (Wk:=[.v (.pointer (some ⟨y.Wg,0,none⟩)),.any,.any,.any,.any,.any,.any]) Z ?_;refine TQ.seq qqQ ?_;refine TQ.rgn qqQ RgL.h ?_;refine TQ.a qqQ zk Z (yY Z Z) ?_;refine TQ.end qqQ ?_;refine TQ.seq qqQ ?_;refine TQ.rgn qqQ RgL.h ?_;refine TQ.a qqQ zk Z (zY Z Z) ?_;refine TQ.a qqQ zk Z (wF Z Z) ?_;refine TQ.a qqQ zk Z (kO Z Z zl.h dQ) ?_;refine TQ.gLoad zk Z Z Z (fun k1 hk1=>?_);refine TQ.norm (zx Z tQ) ?_;refine TQ.a qqQ zk Z (yY Z Z) ?_;refine TQ.end qqQ ?_;refine TQ.ret qqQ Tryz.func149 (zb5 Z) (Wz _ _ ?_);exact ⟨rfl,k1,hk1,rfl⟩
theorem zcp {Ch:Nat->gG->Hp->Prop} (y:Sy tp) {k i:Nat} {x:Nat->Bool} :
  CallQ tp (y.Sq2 Ch k i (.w { pc:=.d3 }) x) 150 [.pointer (some ⟨y.Wg,0,none⟩),.int .u64 0] (fun r T'=>∃ k',k'<k/\T'=y.Sq2 Ch k' i (.w { pc:=.d4 }) x):=by
 refine zbV 9 Tryz.func150 fun c0 cs Wz=>?_;refine TQ.norm (Wk:=[.v (.pointer (some ⟨y.Wg,0,none⟩)),.v (.int .u64 0),.any,.any,.any,.any,.any,.any,.any]) Z ?_;refine TQ.rgn qqQ RgL.h ?_;refine TQ.a qqQ zk Z (zY Z Z) ?_;refine TQ.a qqQ zk Z (wF Z Z) ?_;refine TQ.a qqQ zk Z (kO Z Z zl.h dQ) ?_;refine TQ.a qqQ zk Z (zY Z Z) ?_;refine TQ.gStore zk Z Z Z Z (fun k1 hk1=>?_);refine TQ.end qqQ ?_;refine TQ.ret0 qqQ Tryz.func150 (wq Z) (Wz _ _ ?_);exact ⟨k1,hk1,rfl⟩
theorem zlK {Ch:Nat->gG->Hp->Prop} (y:Sy tp) {k i:Nat} {x:Nat->Bool} :
  CallZ tp (y.Sf ff Ch k i (.w { pc:=.wr }) x) 111 [.pointer (some ⟨y.Wg,0,none⟩),.int .i64 (-1)] (fun T'=>T'=fun g _=>Tq tp 0 g):=by
 refine zeC 117 (y.shutF _ _ _ _ _ _) Tryz.func111 fun φ0 c0 cs Wz=>?_;refine TK.nrm (Wk:=[.v (.pointer (some ⟨y.Wg,0,none⟩)),.v (.int .i64 (-1)),.any,.any,.any,.any,.any,.any,.any,.any,.any,.any,.any,.any,.any,.any,.any,.any,.any,.any,.any,.any,.any,.any,.any,.any,.any,.any,.any,.any,.any,.any,.any,.any,.any,.any,.any,.any,.any,.any,.any,.any,.any,.any,.any,.any,.any,.any,.any,.any,.any,.any,.any,.any,.any,.any,.any,.any,.any,.any,.any,.any,.any,.any,.any,.any,.any,.any,.any,.any,.any,.any,.any,.any,.any,.any,.any,.any,.any,.any,.any,.any,.any,.any,.any,.any,.any,.any,.any,.any,.any,.any,.any,.any,.any,.any,.any,.any,.any,.any,.any,.any,.any,.any,.any,.any,.any,.any,.any,.any,.any,.any,.any,.any,.any,.any,.any]) ?_ Z rfl;refine au 141803714221802 ?_;refine TK.sConv Z Z Z uP217 uP219 z201 (fun w s h=>⟨_,h.2.cellSt⟩) ?_;refine au 0 ?_;refine TK.relW (φ0:=φ0) zk Z Z Z (fun k1 hk1=>?_);refine TQ.end qqQ ?_;refine TQ.seq qqQ ?_;refine TQ.rgn qqQ RgL.h ?_;refine TQ.sMark zk (.w { pc:=.d1 }) .disable sQ Z Z (fun s _=>mx0 (.wk rfl)) (uO 0) rfl (fun k2 hk2=>?_);refine TQ.end qqQ ?_;refine TQ.rgn qqQ RgL.h ?_;refine TQ.defer qqQ zk Z Z ?_;refine TQ.end qqQ ?_;refine TQ.seq qqQ ?_;refine TQ.rgn qqQ RgL.h ?_;refine TQ.a qqQ zk Z (yY Z Z) ?_;refine TQ.end qqQ ?_;refine TQ.seq qqQ ?_;refine TQ.seq qqQ ?_;refine TQ.rgn qqQ RgL.h ?_;refine TQ.pure qqQ zk Z Z ?_;refine TQ.end qqQ ?_;refine TQ.condF qqQ Z ?_;refine TQ.skip qqQ ?_;refine TQ.seq qqQ ?_;refine TQ.rgn qqQ RgL.h ?_;refine TQ.a qqQ zk Z (zY Z Z) ?_;refine TQ.a qqQ zk Z (wF Z Z) ?_;refine TQ.a qqQ zk Z (kO Z Z zl.h dQ) ?_;refine TQ.a qqQ zk Z (zY Z Z) ?_;refine TQ.a qqQ zk Z (vz Z Z Und.h Und.h (m:=18446744073709551615) dQ) ?_;refine TQ.a qqQ zk Z (p_shL Z Z Z dQ (r:=18446744069414584320) dQ) ?_;refine TQ.call qqQ zk Z Z Z (zmr y) ?_;rintro r2 T2 (⟨v,wt,hv,hwt,hne,rfl,rfl⟩ | ⟨rfl,k3,hk3,rfl⟩)
 ·refine TQ.a qqQ zk Z (yY Z Z) ?_;refine TQ.end qqQ ?_;refine TQ.seq qqQ ?_;refine TQ.seq qqQ ?_;refine TQ.rgn qqQ RgL.h ?_;refine TQ.a qqQ zk Z (zY Z Z) ?_;refine TQ.a qqQ zk Z (zcB Z Z Z (.inl Z) (bU3 v hv wt oQ)) ?_;refine TQ.a qqQ zk Z (p_cmp Z Z Z Z) ?_;refine TQ.a qqQ zk Z (zY Z Z) ?_;refine TQ.unwanted qqQ Z Z (zx Z tQ) ?_;refine TQ.unwanted qqQ Z Z (zx Z tQ) ?_;refine TQ.a qqQ zk Z (kq Z Z Z) ?_;refine TQ.end qqQ ?_;refine TQ.condF qqQ Z ?_;refine TQ.skip qqQ ?_;refine TQ.seq qqQ ?_;refine TQ.rgn qqQ RgL.h ?_;refine TQ.a qqQ zk Z (zY Z Z) ?_;refine TQ.a qqQ zk Z (p_sh Z Z Z dQ (r:=((v:Nat):Int)) (by show ((v*4294967296+wt:Nat):Int) / 4294967296=_; omega)) ?_;refine TQ.a qqQ zk Z (vz Z Z Und.h Und.h (m:=((v:Nat):Int)) (w32 oQ)) ?_;refine TQ.a qqQ zk Z (yY Z Z) ?_;refine TQ.end qqQ ?_;refine TQ.seq qqQ ?_;refine TQ.rgn qqQ RgL.h ?_;refine TQ.a qqQ zk Z (zY Z Z) ?_;refine TQ.a qqQ zk Z (zcB Z Z Z (.inl Z) (bU4 v hv wt oQ)) ?_;refine TQ.a qqQ zk Z (vz Z Z Und.h Und.h (m:=((wt:Nat):Int)) (wu32 oQ)) ?_;refine TQ.a qqQ zk Z (yY Z Z) ?_;refine TQ.end qqQ ?_;refine TQ.seq qqQ ?_;refine TQ.seq qqQ ?_;refine TQ.rgn qqQ RgL.h ?_;refine TQ.a qqQ zk Z (zY Z Z) ?_;refine TQ.a qqQ zk Z (zY Z Z) ?_;refine TQ.a qqQ zk Z (p_cmp Z Z Z Z) ?_;refine TQ.a qqQ zk Z (vN Z Z Z) ?_;refine TQ.a qqQ zk Z (zY Z Z) ?_;refine TQ.unwanted qqQ Z Z (zx Z tQ) ?_;refine TQ.unwanted qqQ Z Z (zx Z tQ) ?_;refine TQ.unwanted qqQ Z Z (zx Z tQ) ?_;refine TQ.unwanted qqQ Z Z (zx Z tQ) ?_;refine TQ.a qqQ zk Z (kq Z Z Z) ?_;refine TQ.end qqQ ?_;refine TQ.condF qqQ Z ?_;refine TQ.skip qqQ ?_;refine TQ.seq qqQ ?_;refine TQ.seq qqQ ?_;refine TQ.rgn qqQ RgL.h ?_;refine TQ.a qqQ zk Z (zY Z Z) ?_;refine TQ.a qqQ zk Z (p_cmp Z Z Z Z) ?_;refine TQ.end qqQ ?_;refine TQ.cond qqQ Z ?_;constructor<;>intro hc9
  ·exfalso;simp at hc9 <;> omega
  refine TQ.skip qqQ ?_;refine TQ.seq qqQ ?_;refine TQ.seq qqQ ?_;refine TQ.rgn qqQ RgL.h ?_;refine TQ.a qqQ zk Z (zY Z Z) ?_;refine TQ.a qqQ zk Z (p_cmp Z Z Z Z) ?_;refine TQ.a qqQ zk Z (zY Z Z) ?_;refine TQ.sp 78 (fun g24_3=>?_) (fun g24_3=>?_)
  ·refine TQ.a qqQ zk Z (zY Z Z) ?_;refine TQ.a qqQ zk Z (p_cmp Z Z Z Z) ?_;refine TQ.a qqQ zk Z (vN Z Z Z) ?_;refine TQ.a qqQ zk Z (zY Z Z) ?_;refine TQ.unwanted qqQ Z Z (zx Z tQ) ?_;refine TQ.unwanted qqQ Z Z (zx Z tQ) ?_;refine TQ.unwanted qqQ Z Z (zx Z tQ) ?_;refine TQ.unwanted qqQ Z Z (zx Z tQ) ?_;refine TQ.a qqQ zk Z (kq Z Z Z) ?_;refine TQ.end qqQ ?_;refine TQ.condF qqQ Z ?_;refine TQ.skip qqQ ?_;refine TQ.seq qqQ ?_;refine TQ.seq qqQ ?_;refine TQ.rgn qqQ RgL.h ?_;refine TQ.a qqQ zk Z (zY Z Z) ?_;refine TQ.a qqQ zk Z (p_cmp Z Z Z Z) ?_;refine TQ.a qqQ zk Z (zY Z Z) ?_;refine TQ.sp 91 (fun g26_3=>?_) (fun g26_3=>?_)
   ·refine TQ.unwanted qqQ Z Z (zx Z tQ) ?_;refine TQ.unwanted qqQ Z Z (zx Z tQ) ?_;refine TQ.a qqQ zk Z (vN Z Z Z) ?_;refine TQ.end qqQ ?_;refine TQ.condT qqQ Z ?_;refine TQ.retQ Tryz.func111 (wq Z) (Wz _ _ (fun _=>none) rfl);skip
   refine TQ.a qqQ zk Z (zY Z Z) ?_;refine TQ.a qqQ zk Z (p_cmp Z Z Z Z) ?_;refine TQ.a qqQ zk Z (kq Z Z Z) ?_;refine TQ.end qqQ ?_;refine TQ.cond qqQ Z ?_;constructor<;>intro hc11
   ·refine TQ.retQ Tryz.func111 (wq Z) (Wz _ _ (fun _=>none) rfl);skip
   exfalso;simp at g26_3 hc11;omega
  refine TQ.unwanted qqQ Z Z (zx Z tQ) ?_;refine TQ.unwanted qqQ Z Z (zx Z tQ) ?_;refine TQ.a qqQ zk Z (kq Z Z Z) ?_;refine TQ.a qqQ zk Z (zY Z Z) ?_;refine TQ.unwanted qqQ Z Z (zx Z tQ) ?_;refine TQ.unwanted qqQ Z Z (zx Z tQ) ?_;refine TQ.unwanted qqQ Z Z (zx Z tQ) ?_;refine TQ.unwanted qqQ Z Z (zx Z tQ) ?_;refine TQ.a qqQ zk Z (kq Z Z Z) ?_;refine TQ.end qqQ ?_;refine TQ.condF qqQ Z ?_;refine TQ.skip qqQ ?_;refine TQ.seq qqQ ?_;refine TQ.seq qqQ ?_;refine TQ.rgn qqQ RgL.h ?_;refine TQ.a qqQ zk Z (zY Z Z) ?_;refine TQ.a qqQ zk Z (p_cmp Z Z Z Z) ?_;refine TQ.a qqQ zk Z (zY Z Z) ?_;refine TQ.sp 91 (fun g26_3=>?_) (fun g26_3=>?_)
  ·refine TQ.unwanted qqQ Z Z (zx Z tQ) ?_;refine TQ.unwanted qqQ Z Z (zx Z tQ) ?_;refine TQ.a qqQ zk Z (vN Z Z Z) ?_;refine TQ.end qqQ ?_;refine TQ.condT qqQ Z ?_;refine TQ.retQ Tryz.func111 (wq Z) (Wz _ _ (fun _=>none) rfl);skip
  refine TQ.a qqQ zk Z (zY Z Z) ?_;refine TQ.a qqQ zk Z (p_cmp Z Z Z Z) ?_;refine TQ.a qqQ zk Z (kq Z Z Z) ?_;refine TQ.end qqQ ?_;refine TQ.cond qqQ Z ?_;constructor<;>intro hc11
  ·refine TQ.retQ Tryz.func111 (wq Z) (Wz _ _ (fun _=>none) rfl);skip
  exfalso;simp at g26_3 hc11;omega
 ·refine TQ.a qqQ zk Z (yY Z Z) ?_;refine TQ.end qqQ ?_;refine TQ.seq qqQ ?_;refine TQ.seq qqQ ?_;refine TQ.rgn qqQ RgL.h ?_;refine TQ.a qqQ zk Z (zY Z Z) ?_;refine TQ.a qqQ zk Z (zcB Z Z Z (.inl Z) (r:=0) dQ) ?_;refine TQ.a qqQ zk Z (p_cmp Z Z Z Z) ?_;refine TQ.a qqQ zk Z (zY Z Z) ?_;refine TQ.unwanted qqQ Z Z (zx Z tQ) ?_;refine TQ.unwanted qqQ Z Z (zx Z tQ) ?_;refine TQ.a qqQ zk Z (kq Z Z Z) ?_;refine TQ.end qqQ ?_;refine TQ.condF qqQ Z ?_;refine TQ.skip qqQ ?_;refine TQ.seq qqQ ?_;refine TQ.rgn qqQ RgL.h ?_;refine TQ.a qqQ zk Z (zY Z Z) ?_;refine TQ.a qqQ zk Z (p_sh Z Z Z dQ (r:=((0:Nat):Int)) dQ) ?_;refine TQ.a qqQ zk Z (vz Z Z Und.h Und.h (m:=((0:Nat):Int)) Z) ?_;refine TQ.a qqQ zk Z (yY Z Z) ?_;refine TQ.end qqQ ?_;refine TQ.seq qqQ ?_;refine TQ.rgn qqQ RgL.h ?_;refine TQ.a qqQ zk Z (zY Z Z) ?_;refine TQ.a qqQ zk Z (zcB Z Z Z (.inl Z) (r:=1) dQ) ?_;refine TQ.a qqQ zk Z (vz Z Z Und.h Und.h (m:=1) dQ) ?_;refine TQ.a qqQ zk Z (yY Z Z) ?_;refine TQ.end qqQ ?_;refine TQ.seq qqQ ?_;refine TQ.seq qqQ ?_;refine TQ.rgn qqQ RgL.h ?_;refine TQ.a qqQ zk Z (zY Z Z) ?_;refine TQ.a qqQ zk Z (zY Z Z) ?_;refine TQ.a qqQ zk Z (p_cmp Z Z Z Z) ?_;refine TQ.a qqQ zk Z (vN Z Z Z) ?_;refine TQ.a qqQ zk Z (zY Z Z) ?_;refine TQ.unwanted qqQ Z Z (zx Z tQ) ?_;refine TQ.unwanted qqQ Z Z (zx Z tQ) ?_;refine TQ.unwanted qqQ Z Z (zx Z tQ) ?_;refine TQ.unwanted qqQ Z Z (zx Z tQ) ?_;refine TQ.a qqQ zk Z (kq Z Z Z) ?_;refine TQ.end qqQ ?_;refine TQ.condF qqQ Z ?_;refine TQ.skip qqQ ?_;refine TQ.seq qqQ ?_;refine TQ.seq qqQ ?_;refine TQ.rgn qqQ RgL.h ?_;refine TQ.a qqQ zk Z (zY Z Z) ?_;refine TQ.a qqQ zk Z (p_cmp Z Z Z Z) ?_;refine TQ.end qqQ ?_;refine TQ.cond qqQ Z ?_;constructor<;>intro hc9
  ·exfalso;simp at hc9 <;> omega
  refine TQ.skip qqQ ?_;refine TQ.seq qqQ ?_;refine TQ.seq qqQ ?_;refine TQ.rgn qqQ RgL.h ?_;refine TQ.a qqQ zk Z (zY Z Z) ?_;refine TQ.a qqQ zk Z (p_cmp Z Z Z Z) ?_;refine TQ.a qqQ zk Z (zY Z Z) ?_;refine TQ.sp 78 (fun g24_3=>?_) (fun g24_3=>?_)
  ·refine TQ.a qqQ zk Z (zY Z Z) ?_;refine TQ.a qqQ zk Z (p_cmp Z Z Z Z) ?_;refine TQ.a qqQ zk Z (vN Z Z Z) ?_;refine TQ.a qqQ zk Z (zY Z Z) ?_;refine TQ.unwanted qqQ Z Z (zx Z tQ) ?_;refine TQ.unwanted qqQ Z Z (zx Z tQ) ?_;refine TQ.unwanted qqQ Z Z (zx Z tQ) ?_;refine TQ.unwanted qqQ Z Z (zx Z tQ) ?_;refine TQ.a qqQ zk Z (kq Z Z Z) ?_;refine TQ.end qqQ ?_;refine TQ.condF qqQ Z ?_;refine TQ.skip qqQ ?_;refine TQ.seq qqQ ?_;refine TQ.seq qqQ ?_;refine TQ.rgn qqQ RgL.h ?_;refine TQ.a qqQ zk Z (zY Z Z) ?_;refine TQ.a qqQ zk Z (p_cmp Z Z Z Z) ?_;refine TQ.a qqQ zk Z (zY Z Z) ?_;refine TQ.sp 91 (fun g26_3=>?_) (fun g26_3=>?_)
   ·exfalso;simp at g26_3
   refine TQ.a qqQ zk Z (zY Z Z) ?_;refine TQ.a qqQ zk Z (p_cmp Z Z Z Z) ?_;refine TQ.a qqQ zk Z (kq Z Z Z) ?_;refine TQ.end qqQ ?_;refine TQ.cond qqQ Z ?_;constructor<;>intro hc11
   ·exfalso;simp at hc11
   refine TQ.skip qqQ ?_;refine TQ.seq qqQ ?_;refine TQ.seq qqQ ?_;refine TQ.rgn qqQ RgL.h ?_;refine TQ.a qqQ zk Z (zY Z Z) ?_;refine TQ.a qqQ zk Z (wF Z Z) ?_;refine TQ.a qqQ zk Z (kO Z Z zl.h dQ) ?_;refine TQ.call qqQ zk Z Z Z (zdK y) ?_;rintro r2 T2 ⟨rfl,k4,hk4,rfl⟩;refine TQ.a qqQ zk Z (zY Z Z) ?_;refine TQ.a qqQ zk Z (p_cmp Z Z Z Z) ?_;refine TQ.end qqQ ?_;refine TQ.condF qqQ Z ?_;refine TQ.skip qqQ ?_;refine TQ.seq qqQ ?_;refine TQ.rgn qqQ RgL.h ?_;refine TQ.a qqQ zk Z (zY Z Z) ?_;refine TQ.a qqQ zk Z (wF Z Z) ?_;refine TQ.a qqQ zk Z (kO Z Z zl.h dQ) ?_;refine TQ.call qqQ zk Z Z Z (zcp y) ?_;rintro r2 T2 ⟨k5,hk5,rfl⟩;refine TQ.end qqQ ?_;refine TQ.seq qqQ ?_;refine TQ.seq qqQ ?_;refine TQ.rgn qqQ RgL.h ?_;refine TQ.a qqQ zk Z (zY Z Z) ?_;refine TQ.end qqQ ?_;refine TQ.condF qqQ Z ?_;refine TQ.skip qqQ ?_;refine TQ.block qqQ ?_;refine TQ.loop qqQ ?_;refine TQ.seq qqQ ?_;refine TQ.seq qqQ ?_;refine TQ.rgn qqQ RgL.h ?_;refine TQ.a qqQ zk Z (zY Z Z) ?_;refine TQ.a qqQ zk Z (p_cmp Z Z Z Z) ?_;refine TQ.end qqQ ?_;refine TQ.condT qqQ Z ?_;refine TQ.skip qqQ ?_;refine TQ.seq qqQ ?_;refine TQ.block qqQ ?_;refine TQ.rgn qqQ RgL.h ?_;refine TQ.a qqQ zk Z (zY Z Z) ?_;refine TQ.a qqQ zk Z (wF Z Z) ?_;refine TQ.a qqQ zk Z (kO Z Z zl.h dQ) ?_;refine TQ.gRel zk Z Z (fun c hc=>by simp at hc; subst hc; rfl) rfl ?_;refine TQ.end qqQ ?_;refine TQ.inBlock qqQ ?_;refine TQ.rgn qqQ RgL.h ?_;refine TQ.a qqQ zk Z (zY Z Z) ?_;refine TQ.a qqQ zk Z (zji Z Z Z (r:=0) (.inr ⟨rfl,by decide⟩)) ?_;refine TQ.a qqQ zk Z (yY Z Z) ?_;refine TQ.end qqQ ?_;refine TQ.inLoop qqQ ?_;refine TQ.seq qqQ ?_;refine TQ.seq qqQ ?_;refine TQ.rgn qqQ RgL.h ?_;refine TQ.a qqQ zk Z (zY Z Z) ?_;refine TQ.a qqQ zk Z (p_cmp Z Z Z Z) ?_;refine TQ.end qqQ ?_;refine TQ.condF qqQ Z ?_;refine TQ.exit qqQ Z ?_;refine TQ.retQ0 Tryz.func111 (wq Z) (Wz _ _ (fun _=>none) rfl);skip
  refine TQ.unwanted qqQ Z Z (zx Z tQ) ?_;refine TQ.unwanted qqQ Z Z (zx Z tQ) ?_;refine TQ.a qqQ zk Z (kq Z Z Z) ?_;refine TQ.a qqQ zk Z (zY Z Z) ?_;refine TQ.unwanted qqQ Z Z (zx Z tQ) ?_;refine TQ.unwanted qqQ Z Z (zx Z tQ) ?_;refine TQ.unwanted qqQ Z Z (zx Z tQ) ?_;refine TQ.unwanted qqQ Z Z (zx Z tQ) ?_;refine TQ.a qqQ zk Z (kq Z Z Z) ?_;refine TQ.end qqQ ?_;refine TQ.condF qqQ Z ?_;refine TQ.skip qqQ ?_;refine TQ.seq qqQ ?_;refine TQ.seq qqQ ?_;refine TQ.rgn qqQ RgL.h ?_;refine TQ.a qqQ zk Z (zY Z Z) ?_;refine TQ.a qqQ zk Z (p_cmp Z Z Z Z) ?_;refine TQ.a qqQ zk Z (zY Z Z) ?_;refine TQ.sp 91 (fun g26_3=>?_) (fun g26_3=>?_)
  ·exfalso;simp at g26_3
  refine TQ.a qqQ zk Z (zY Z Z) ?_;refine TQ.a qqQ zk Z (p_cmp Z Z Z Z) ?_;refine TQ.a qqQ zk Z (kq Z Z Z) ?_;refine TQ.end qqQ ?_;refine TQ.cond qqQ Z ?_;constructor<;>intro hc11
  ·exfalso;simp at hc11
  refine TQ.skip qqQ ?_;refine TQ.seq qqQ ?_;refine TQ.seq qqQ ?_;refine TQ.rgn qqQ RgL.h ?_;refine TQ.a qqQ zk Z (zY Z Z) ?_;refine TQ.a qqQ zk Z (wF Z Z) ?_;refine TQ.a qqQ zk Z (kO Z Z zl.h dQ) ?_;refine TQ.call qqQ zk Z Z Z (zdK y) ?_;rintro r2 T2 ⟨rfl,k4,hk4,rfl⟩;refine TQ.a qqQ zk Z (zY Z Z) ?_;refine TQ.a qqQ zk Z (p_cmp Z Z Z Z) ?_;refine TQ.end qqQ ?_;refine TQ.condF qqQ Z ?_;refine TQ.skip qqQ ?_;refine TQ.seq qqQ ?_;refine TQ.rgn qqQ RgL.h ?_;refine TQ.a qqQ zk Z (zY Z Z) ?_;refine TQ.a qqQ zk Z (wF Z Z) ?_;refine TQ.a qqQ zk Z (kO Z Z zl.h dQ) ?_;refine TQ.call qqQ zk Z Z Z (zcp y) ?_;rintro r2 T2 ⟨k5,hk5,rfl⟩;refine TQ.end qqQ ?_;refine TQ.seq qqQ ?_;refine TQ.seq qqQ ?_;refine TQ.rgn qqQ RgL.h ?_;refine TQ.a qqQ zk Z (zY Z Z) ?_;refine TQ.end qqQ ?_;refine TQ.condF qqQ Z ?_;refine TQ.skip qqQ ?_;refine TQ.block qqQ ?_;refine TQ.loop qqQ ?_;refine TQ.seq qqQ ?_;refine TQ.seq qqQ ?_;refine TQ.rgn qqQ RgL.h ?_;refine TQ.a qqQ zk Z (zY Z Z) ?_;refine TQ.a qqQ zk Z (p_cmp Z Z Z Z) ?_;refine TQ.end qqQ ?_;refine TQ.condT qqQ Z ?_;refine TQ.skip qqQ ?_;refine TQ.seq qqQ ?_;refine TQ.block qqQ ?_;refine TQ.rgn qqQ RgL.h ?_;refine TQ.a qqQ zk Z (zY Z Z) ?_;refine TQ.a qqQ zk Z (wF Z Z) ?_;refine TQ.a qqQ zk Z (kO Z Z zl.h dQ) ?_;refine TQ.gRel zk Z Z (fun c hc=>by simp at hc; subst hc; rfl) rfl ?_;refine TQ.end qqQ ?_;refine TQ.inBlock qqQ ?_;refine TQ.rgn qqQ RgL.h ?_;refine TQ.a qqQ zk Z (zY Z Z) ?_;refine TQ.a qqQ zk Z (zji Z Z Z (r:=0) (.inr ⟨rfl,by decide⟩)) ?_;refine TQ.a qqQ zk Z (yY Z Z) ?_;refine TQ.end qqQ ?_;refine TQ.inLoop qqQ ?_;refine TQ.seq qqQ ?_;refine TQ.seq qqQ ?_;refine TQ.rgn qqQ RgL.h ?_;refine TQ.a qqQ zk Z (zY Z Z) ?_;refine TQ.a qqQ zk Z (p_cmp Z Z Z Z) ?_;refine TQ.end qqQ ?_;refine TQ.condF qqQ Z ?_;refine TQ.exit qqQ Z ?_;refine TQ.retQ0 Tryz.func111 (wq Z) (Wz _ _ (fun _=>none) rfl);skip
theorem zmd {Ch:Nat->gG->Hp->Prop} (y:Sy tp) {k i:Nat} {x:Nat->Bool} {c0:Frame} {cs:List Frame} {H:Hp} (hc:c0.mode=.returning) (hq:Tq tp 0 (G c0 cs)) :
  y.Sf ff Ch k i (.w { pc:=.wr }) x (G (fr .deferred 113 none (#[.pointer (some ⟨y.Wg,0,none⟩)]++Array.replicate (Tryz.f113.ntmps - (#[.pointer (some ⟨y.Wg,0,none⟩)]:Array Value).size) undef) [] [.code (Tryz.f113.body.getD .skip)]) (c0::cs)) H:=by
 have key:TK (YU (y.shutF ff Ch k i (.w { pc:=.wr }) x) gN (fun _=>⟨0,0,0⟩) .deferred (fun h=>by cases h) 113 (c0::cs) [] [] []) [] [.code (Tryz.f113.body.getD .skip)] [.v (.pointer (some ⟨y.Wg,0,none⟩)),.any,.any,.any] []:=by
  refine TK.nrm (Wk:=[.v (.pointer (some ⟨y.Wg,0,none⟩)),.any,.any,.any]) ?_ Z rfl;refine au 14 ?_;refine TK.callZq (φ0:=fun _=>⟨0,0,0⟩) (vs:=[.pointer (some ⟨y.Wg,0,none⟩),.int .i64 (-1)]) rfl rfl rfl rfl (zlK y) (fun v=>?_);refine TQ.end qqQ ?_;refine TQ.endD Tryz.func113 Z hc hq
 have hl:=key [] ⟨fun x hx=>(by cases hx),List.nodup_nil,fun i hi=>(by cases hi),fun _ _ _=>rfl,mL _⟩ (fun _=>⟨0,0,0⟩) H (#[.pointer (some ⟨y.Wg,0,none⟩)]++Array.replicate (Tryz.f113.ntmps - (#[.pointer (some ⟨y.Wg,0,none⟩)]:Array Value).size) undef) (Agr.refl _ _) (mL _) (kA _ _) (fun d hd=>by cases hd) (uf _ _) (ki (zfv _ _ [.pointer (some ⟨y.Wg,0,none⟩)]) 4);exact hl
theorem zci {Ch:Nat->gG->Hp->Prop} (y:Sy tp) {k i:Nat} {x:Nat->Bool} {gm:Nat->Option Nat} {φ0:Nat->Loc3} {A0:List AObj} {K0:List Nat} {Wq:List AV} {K:KV} {f:gF} {fn:Func} (hf:tp.funcs[f]? =some fn) (hr:fn.results=#[]) :
  TK (YT y ff Ch k i (.w { pc:=.wr }) x gm φ0 .deferred (fun h=>by cases h) f [bot tp] [dcall 113 #[.pointer (some ⟨y.Wg,0,none⟩)]] A0 K0) [] [] Wq K :=
 TK.bye hf hr Tryz.func113 (by kernel_rfl) (c:=Tryz.f113.body.getD .skip) rfl fun c0 cs H hc hq=>zmd y hc hq
theorem zi9 {main T} (hT:zt tp main T) {gm} {jo jr:Nat} {cs:List Int} {cost:Int} {e:gT} {f:AV} :
  zr tp T gm 115 [.ptr jo 0,.agg [.sl jr 0 cs.length,.v (.int .i64 cost)],f] [(jo,.cells (z9.map AV.v) 199 tt),(jr,.cells (cs.map fun a=>.v (.int .i64 a)) e ff)] (fun r K'=>K'=[(jo,.cells [.sl jr 0 cs.length,.v (.int .i64 cost),.v (.bool tt)] 199 tt),(jr,.cells (cs.map fun a=>.v (.int .i64 a)) e ff)]):=by
 refine zn 27 hT Tryz.func115 fun Y Wz=>?_;refine au 21042 ?_;intro jb hjb;refine au 23 ?_;refine bL [0,1,2,3,4,5,6,7,8,9,10,11,12,13] ?_;refine ad [[1,0]] ?_;refine TD.z [6] Z (yD Z Z) ?_;refine ad [[3,7],[10,8]] ?_;refine TD.z [9] Z (q_not Z Z) ?_;refine ad [[1,10]] ?_;refine TD.sp 11 (fun g1_6=>?_) (fun g1_6=>?_)
 ·refine ad [[11,2,11],[11,4,11],[11,0,11],[11,11,14],[11,11,15],[11,11,16],[11,11,12,13,17],[7,11,18],[14]] ?_;refine au 680114180 ?_;refine bH Z (yD Z Z) ?_;refine au 170670 ?_;refine bH Z (yD Z Z) ?_;refine au 3170670 ?_;refine TK.rt0 Wz [(jo,_),(jr,_)] ?_;exact rfl
 simp at g1_6
theorem zja {main T} (hT:zt tp main T) {gm} {jo jr j0:Nat} {cs cs0:List Int} {cost cost0:Int} {e e0:gT} {f:AV} {t:Bool}
  (hbt:CallFK tp T gm f [.agg [.sl jr 0 cs.length,.v (.int .i64 cost)],.agg [.sl j0 0 cs0.length,.v (.int .i64 cost0)]] [(jr,.cells (cs.map fun a=>.v (.int .i64 a)) e ff),(j0,.cells (cs0.map fun a=>.v (.int .i64 a)) e0 ff)] (fun r K'=>r=.v (.bool t)/\K'=[(jr,.cells (cs.map fun a=>.v (.int .i64 a)) e ff),(j0,.cells (cs0.map fun a=>.v (.int .i64 a)) e0 ff)])) :
  zr tp T gm 115 [.ptr jo 0,.agg [.sl jr 0 cs.length,.v (.int .i64 cost)],f] [(jo,.cells [.sl j0 0 cs0.length,.v (.int .i64 cost0),.v (.bool tt)] 199 tt),(j0,.cells (cs0.map fun a=>.v (.int .i64 a)) e0 ff),(jr,.cells (cs.map fun a=>.v (.int .i64 a)) e ff)] (fun r K'=>(t=tt/\K'=[(jo,.cells [.sl jr 0 cs.length,.v (.int .i64 cost),.v (.bool tt)] 199 tt),(jr,.cells (cs.map fun a=>.v (.int .i64 a)) e ff)])\/(t=ff/\K'=[(jo,.cells [.sl j0 0 cs0.length,.v (.int .i64 cost0),.v (.bool tt)] 199 tt),(j0,.cells (cs0.map fun a=>.v (.int .i64 a)) e0 ff)])):=by
 refine zn 27 hT Tryz.func115 fun Y Wz=>?_;refine au 21042 ?_;intro jb hjb;refine au 23 ?_;refine bL [0,1,2,3,4,5,6,7,8,9,10,11,12,13] ?_;refine ad [[1,0]] ?_;refine TD.z [6] Z (yD Z Z) ?_;refine ad [[3,7],[10,8]] ?_;refine TD.z [9] Z (q_not Z Z) ?_;refine ad [[1,10]] ?_;refine TD.sp 11 (fun g1_6=>?_) (fun g1_6=>?_)
 ·simp at g1_6
 refine ad [[1,2,11],[12,4,11],[1,0,11]] ?_;refine TD.z [11,14] Z (yD Z Z) ?_;refine ad [[3,11,15],[12,11,16]] ?_;refine TD.callF' (Wx:=[_,_,_,_,_,_,_,_]) [11,12,13,17] Z Z Z Z Z Z Z (hbt) vQ fun r1 K2 h3=>⟨?_,?_⟩
 ·rcases h3 with ⟨rfl,rfl⟩
  all_goals simp
 obtain ⟨rfl,rfl⟩:=h3;try simp only [cA]
 refine TD.norm (zx Z tQ) ?_;refine ad [[6,11,18],[14]] ?_;refine au 9 ?_;constructor<;>intro Jz
 ·refine au 680114 ?_;refine bH Z (yD Z Z) ?_;refine au 170670 ?_;refine bH Z (yD Z Z) ?_;refine au 3170670 ?_;refine TK.rt0 Wz [(jo,_),(jr,_)] ?_;exact .inl ⟨Jz,rfl⟩
 refine au 120 ?_;refine TK.rt0 Wz [(jo,_),(j0,_)] ?_;exact .inr ⟨Jz,rfl⟩
section
variable {P:gP} {gm:Nat->Option Nat} {T:gG->Hp->Prop}
theorem Kstep.permR {K K' K2:KV} {A A':List AObj} (h:Kstep K A K' A') (hp:K'.Perm K2):Kstep K A K2 A' :=
 ⟨h.view.sub fun x hx=>hp.symm.subset hx,(z7 hp).nodup_iff.1 h.nd,fun i hi=>h.own i ((z7 hp).symm.subset hi),h.kept,h.len⟩
theorem Kstep.permL {K K' K2:KV} {A A':List AObj} (h:Kstep K A K' A') (hp:K.Perm K2):Kstep K2 A K' A' :=
 ⟨h.view,h.nd,fun i hi=>(h.own i hi).imp (fun h=>(z7 hp).subset h) id,fun j hj hn=>h.kept j hj fun hm=>hn ((z7 hp).subset hm),h.len⟩
theorem zr.frameP {g:gF} {args:List AV} {K Kb R:KV} {Q:AV->Prop} (h:zr P T gm g args K (fun r K'=>Q r/\K'=K)) (hp:Kb.Perm (K++R)):zr P T gm g args Kb (fun r K'=>Q r/\K'=Kb):=by
 intro A hv hn;have hv2:zV (K++R) A:=hv.sub fun x hx=>hp.symm.subset hx;have hn2:=(z7 hp).nodup_iff.1 hn;have hn3:=hn2;rw [yA] at hn3;refine (h A (hv2.sub fun x hx=>List.mem_append_left _ hx) (List.nodup_append.1 hn3).1).mono ?_;rintro r A' ⟨K',hk,hq,rfl⟩;refine ⟨Kb,?_,hq,rfl⟩;have hs:Split (K'++R) K' R:=by
  have key:∀ (K:KV),Split (K++R) K R:=fun K=>by
   induction K with
   | nil=>exact .none _
   | cons x K ih=>exact .left ih
  exact key K'
 exact ((hk.frame hs hv2 hn2).permR hp.symm).permL hp.symm
end
theorem zj8 (y:Sy tp) {gm:Nat->Option Nat} {lo:Nat×Loc3} {off:Nat->List Int×Int} {bt:List Int×Int->List Int×Int->Bool} {jk jc jr jf:Nat} {a0 a1 a2 a3 a4 a5 a6 a7:AV} {cs:List Int} {a cost:Int} {e:gT} {gF:gF} {Sq:KV} {i:Nat}
  (hy:y.GI=GIo y.lkr off bt 199 lo.2) (hb0:lo.2.base=0) (hoff:y.lkr i=tt->off i=(cs,cost)) (hnee:∀ i,y.lkr i=tt->(off i).1≠[])
  (htr:∀ p q r,bt p q=tt->bt q r=tt->bt p r=tt) (htot:∀ i j,y.lkr i=tt->y.lkr j=tt->off i=off j\/bt (off i) (off j)=tt\/bt (off j) (off i)=tt)
  (hsq:∀ {T:gG->Hp->Prop},zt tp ff T->zr tp T gm 82 [.agg [a0,a1,a2,a3,a4,a5,a6,a7],.sl jr 0 cs.length] ((jr,.cells (cs.map fun a=>.v (.int .i64 a)) e ff)::Sq) (fun r K'=>r=.tup [.agg [.v (.int .i64 a),.v (.int .i64 cost)],.v (.bool (y.lkr i))]/\K'=(jr,.cells (cs.map fun a=>.v (.int .i64 a)) e ff)::Sq))
  (hbt:∀ {T:gG->Hp->Prop},zt tp ff T->∀ (cs0:List Int) (cost0:Int) (j0:Nat) (e0:gT),CallFK tp T gm (.fn gF [] []) [.agg [.sl jr 0 cs.length,.v (.int .i64 cost)],.agg [.sl j0 0 cs0.length,.v (.int .i64 cost0)]] [(jr,.cells (cs.map fun a=>.v (.int .i64 a)) e ff),(j0,.cells (cs0.map fun a=>.v (.int .i64 a)) e0 ff)] (fun r K'=>r=.v (.bool (bt (cs,cost) (cs0,cost0)))/\K'=[(jr,.cells (cs.map fun a=>.v (.int .i64 a)) e ff),(j0,.cells (cs0.map fun a=>.v (.int .i64 a)) e0 ff)]))
  {k:Nat} {x:Nat->Bool} {φ:Nat->Loc3} {A:List AObj} {Hc:Hp} {vs:Array Value} (hv:zV ((lo.1,.gone)::(jk,.cells [a0,a1,a2,a3,a4,a5,a6,a7] 154 ff)::(jc,.cells [.sl jr 0 cs.length] 34 ff)::(jr,.cells (cs.map fun a=>.v (.int .i64 a)) e ff)::(jf,.cells [.fn gF [] []] 171 ff)::Sq) A) (hnd:(keys ((lo.1,AObj.gone)::(jk,.cells [a0,a1,a2,a3,a4,a5,a6,a7] 154 ff)::(jc,.cells [.sl jr 0 cs.length] 34 ff)::(jr,.cells (cs.map fun a=>.v (.int .i64 a)) e ff)::(jf,.cells [.fn gF [] []] 171 ff)::Sq)).Nodup) (hl1:lo.1<A.length) (hl2:φ lo.1=lo.2) (hg:RelG gm φ A.length) (hH:RelH φ A nF Hc) (hvs:zQ φ A.length [.v (.pointer (some ⟨y.Wg,0,none⟩)),.ptr jk 0,.ptr jc 0,.v (.pointer (some ⟨y.Mu,0,none⟩)),.ptr lo.1 0,.ptr jf 0] vs) :
  y.Sf ff (fun _ _ _=>False) k i (y.A.st i) x (G (Frame.enter tp 112 vs .deferred) [bot tp]) Hc:=by
 rw [enter_atD (c:=Tryz.f112.body.getD .skip) vs Tryz.func112 rfl];refine (?_:TK (YT y ff (fun _ _ _=>False) k i (y.A.st i) x gm φ .deferred (fun h=>by cases h) 112 [bot tp] [] A (keys ((lo.1,AObj.gone)::(jk,.cells [a0,a1,a2,a3,a4,a5,a6,a7] 154 ff)::(jc,.cells [.sl jr 0 cs.length] 34 ff)::(jr,.cells (cs.map fun a=>.v (.int .i64 a)) e ff)::(jf,.cells [.fn gF [] []] 171 ff)::Sq))) [] [.code (Tryz.f112.body.getD .skip)] ([.v (.pointer (some ⟨y.Wg,0,none⟩)),.ptr jk 0,.ptr jc 0,.v (.pointer (some ⟨y.Mu,0,none⟩)),.ptr lo.1 0,.ptr jf 0]++mB 17 .any) ((lo.1,.gone)::(jk,.cells [a0,a1,a2,a3,a4,a5,a6,a7] 154 ff)::(jc,.cells [.sl jr 0 cs.length] 34 ff)::(jr,.cells (cs.map fun a=>.v (.int .i64 a)) e ff)::(jf,.cells [.fn gF [] []] 171 ff)::Sq)) A ⟨hv,hnd,fun i hi=>.inl hi,fun _ _ _=>rfl,mL _⟩ φ Hc _ (Agr.refl _ _) (mL _) hg (fun d hd=>by cases hd) hH (ki hvs 23);refine au 42 ?_;refine TK.sDefer (vs:=[.pointer (some ⟨y.Wg,0,none⟩)]) Z Z Z ?_;refine au 690680423 ?_;refine bD Z Z Z Z ((hsq (y.shutF _ _ _ _ _ _)).frameP (R:=[_,_,_,_]) (((List.Perm.swap _ _ _).cons _ |>.cons _ |>.cons _).trans (lH (l₁:=[_,_,_,_])))) ?_ (hs:=(.all _));rintro r1 K2 ⟨rfl,rfl⟩;refine au 220661 ?_;intro j6 hj6;refine au 9314235170 ?_;constructor<;>intro Jz
 ·refine TK.castT (T':=.w { pc:=.ld }) Z (by show TT.w { pc:=if y.lkr i=tt then .ld else .wr }=_; rw [if_pos Jz]) ?_;refine au 42 ?_;refine TK.callS Z Z Z Z (zmx y (znW hy hb0 i)) hl1 hl2 ?_;rintro r2 K2 T2 ⟨rfl,k2,x2,hk2,hx2,⟨b,hbest,hpl⟩,rfl⟩;refine ⟨y.shutF _ _ _ _ _ _,?_⟩;have hst:=fun b (h:IsBest y.lkr off bt x2 b)=>zis (i:=i) h Jz htr htot;rw [hoff Jz] at hst;rcases b with _ | ⟨cs0,cost0⟩
  ·have hpl:K2=[(lo.1,.cells (z9.map AV.v) 199 tt)]:=hpl;subst hpl;refine au 690390690670690423 ?_;refine bD Z Z Z Z (zi9 (y.shutF _ _ _ _ _ _)) ?_;rintro r4 K5 rfl;refine au 43 ?_;refine TK.callE Z Z Z Z (zbe y (zc4 (cs:=cs) (cost:=cost) (jr:=jr) (e:=e) hy (by have:=hnee i Jz; rw [hoff Jz] at this; exact this) (hst none hbest) sQ sQ)) hl1 hl2 ?_;rintro T4 r4 ⟨k4,hk4,rfl⟩;refine ⟨y.shutF _ _ _ _ _ _,?_⟩;refine au 3 ?_;exact zci y Tryz.func112 rfl;skip
  ·obtain ⟨j0,e0,rfl⟩:=hpl;refine au 690390690670690423 ?_;refine bD Z Z Z Z (zja (y.shutF _ _ _ _ _ _) (hbt (y.shutF _ _ _ _ _ _) cs0 cost0 j0 e0)) ?_;rintro r7 K8 h9;rcases h9 with ⟨ht,rfl⟩ | ⟨ht,rfl⟩
   ·refine au 43 ?_;refine TK.callE Z Z Z Z (zbe y (zc4 (cs:=cs) (cost:=cost) (jr:=jr) (e:=e) hy (by have:=hnee i Jz; rw [hoff Jz] at this; exact this) (by have:=hst _ hbest; rw [show keepB bt (cs,cost) (some (cs0,cost0))=(cs,cost) from if_pos ht] at this; exact this) sQ sQ)) hl1 hl2 ?_;rintro T4 r4 ⟨k4,hk4,rfl⟩;refine ⟨y.shutF _ _ _ _ _ _,?_⟩;refine au 3 ?_;exact zci y Tryz.func112 rfl;skip
   ·refine au 43 ?_;refine TK.callE Z Z Z Z (zbe y (zc4 (cs:=cs0) (cost:=cost0) (jr:=j0) (e:=e0) hy (by obtain ⟨⟨i0,h1,_,h3⟩,_⟩:=hbest; have:=hnee i0 h1; rw [h3] at this; exact this) (by have:=hst _ hbest; rw [show keepB bt (cs,cost) (some (cs0,cost0))=(cs0,cost0) from if_neg (by rw [ht]; decide)] at this; exact this) sQ sQ)) hl1 hl2 ?_;rintro T4 r4 ⟨k4,hk4,rfl⟩;refine ⟨y.shutF _ _ _ _ _ _,?_⟩;refine au 3 ?_;exact zci y Tryz.func112 rfl;skip
 refine TK.castT (T':=.w { pc:=.wr }) Z (by show TT.w { pc:=if y.lkr i=tt then .ld else .wr }=_; rw [if_neg (by rw [Jz]; decide)]) ?_;refine au 120 ?_;exact zci y Tryz.func112 rfl;skip
instance:ApOf tp 34 3 1 8:={}
instance:zl tp 134 0 0 tt 7:={}
instance:zl tp 154 0 0 tt 7:={}
instance:zl tp 26 4 4 ff 1:={}
instance:zq tp 34 3 1:={}
instance:ze tp 22 ff 1:={}
instance:TyZ tp 3 [.int .i64 0]:={}
instance:TyZA tp 168 [.v (.slice none 0 0),.v (.int .i64 0)]:={}
instance:TyZA tp 199 [.v (.slice none 0 0),.v (.int .i64 0),.v (.bool ff)]:={}
instance:TyZA tp 206 [.v (.int .i32 0),.v (.int .u32 0)]:={}
instance:TyZA tp 213 [.v (.int .u64 0),.v (.int .u32 0)]:={}
instance:TyZA tp 34 [.v (.slice none 0 0)]:={}
instance:Und tp 22 (.slice 132):={}
instance:Und tp 34 (.slice 3):={}
end Go.Vel
namespace Go.Vel
open Go Go.Conc
open Mx (TT Th Mn S4 auto Mv4 ok4 bl4 kd dl MPc Pc okW okM Mv nx4 cnt)
section
variable {P:gP} {gm:Nat->Option Nat} {y:Sy P} {main:Bool} {Ch:Nat->gG->Hp->Prop} {k i:Nat} {T:TT} {x:Nat->Bool}
variable {φ0:Nat->Loc3} {Qq:CallKind} {hkd:Qq≠.early} {f:gF} {cs:List Frame} {de:List Deferred} {A0:List AObj} {K0:List Nat} {ds:List Nat} {kk:List Item} {Wq:List AV} {K:KV}
theorem TK.loopR {c:Code} {ι:Type} (Tf:ι->TT) (I:Nat->ι->List AV->KV->Prop) (r0:Nat) (b0:ι) (h0:I r0 b0 Wq K) (e0:T=Tf b0)
  (round:∀ r k b Wq K,I r b Wq K->(∀ r' k' b' Wk K',r'<r->I r' b' Wk K'->TK ((YT y main Ch) k' i (Tf b') x gm φ0 Qq hkd f cs de A0 K0) ds (.inLoop c::kk) Wk K')->TK ((YT y main Ch) k i (Tf b) x gm φ0 Qq hkd f cs de A0 K0) ds (.code c::.inLoop c::kk) Wq K) :
  TK ((YT y main Ch) k i T x gm φ0 Qq hkd f cs de A0 K0) ds (.code (.loop c)::kk) Wq K:=by
 subst e0;have key:∀ r k b Wq K,I r b Wq K->TK ((YT y main Ch) k i (Tf b) x gm φ0 Qq hkd f cs de A0 K0) ds (.code c::.inLoop c::kk) Wq K:=by
  intro r
  induction r using Nat.strongRecOn with
  | _ r ih =>
   intro k b Wq K hI;exact round r k b Wq K hI fun r' k' b' Wk K' Qp hI'=>TK.inLoop (ih r' Qp k' b' Wk K' hI')
 exact fun A hA=>TA.loop (key r0 k b0 Wq K h0 A hA)
end
end Go.Vel
namespace Go.Vel
open Go Go.Conc
section
variable {P:gP} {gm:Nat->Option Nat} {T:gG->Hp->Prop} {Y:KX P gm T} {ds:List Nat} {k:List Item} {Wq:List AV} {K K':KV}
theorem TK.virtAt {l:List AV} {i:Nat} {t e:gT} {rw':Bool} {x:Option Addr} {size j:Nat} {K':Nat->KV} (hi:l[i]? =some (.v (.slice x 0 0))) (hu:∀ j',Upd K j (.cells l t rw') j (.cells (l.set i (.row j' 0)) t rw') (K' j')) (h:∀ j',j'∉keys K->TK Y ds k Wq ((j',.row [] e size)::K' j')):TK Y ds k Wq K:=fun A hA φ H ts h1 h2 h3 h4 h5 h6=>by
 have hk:A.length∉keys K:=fun hm=>absurd (hA.view.lt hm) (Nat.lt_irrefl _);have hH:=h5.virt e size;have hag:=yF φ A.length ⟨0,0,0⟩;have Wb:(A++[AObj.row [] e size]).length=A.length+1:=by simp
 have hds:dsC (upd3 φ A.length ⟨0,0,0⟩) ds=dsC φ ds:=by
  unfold dsC;exact mA fun d hd'=>by rw [hag d (h4 d hd')]
 have hj:=hA.view.get (hu A.length).mem;have hjl:j<A.length:=(lD.1 hj).1;have hj2:(A++[AObj.row [] e size])[j]? =some (.cells l t rw'):=by rw [lG hjl]; exact hj
 have hstep:=hA.step (.push hA.view hA.nd (.row [] e size));have hstep2:=hstep.step (.set hstep.view hstep.nd (Upd.tail (hu A.length)));have Qb:i<l.length:=(lD.1 hi).1;have hne:l≠[]:=fun e=>by rw [e] at Qb; exact absurd Qb (Nat.not_lt_zero _)
 rw [<- hds];refine h _ hk _ hstep2 _ H ts (h1.trans hag h2) (by simp; omega) (by simpa using h3.mono hag oQ) (fun d hd=>by have:=h4 d hd; simp; omega) (hH.turn hj2 (fun ho hl=>?_) (fun h=>h) (fun _=>rfl) (fun hs=>by simpa [sol] using hne)) (by simpa using h6.mono hag oQ);obtain ⟨rw2,cur,fz,q1,q2,q3⟩:=ho hne;refine ⟨rw2,cur,fz,q1,fun h=>⟨(q2 h).1,(q2 h).2.1,by rw [List.length_set]; exact (q2 h).2.2⟩,fun t' a ha=>?_⟩;by_cases e:t'=i
 ·subst e;rw [List.getElem?_set_self Qb] at ha;cases ha;obtain ⟨y,hy,hr⟩:=q3 t' _ hi;refine ⟨y,hy,?_⟩;rw [inv_v hr];refine .row oQ sQ ?_;unfold rowV;simp [upd3]
 ·rw [lP (fun h=>e h.symm)] at ha;exact q3 t' a ha
theorem TK.unrowAt {c i j n:Nat} {l l1:List AV} {t e1:gT} {s1:Nat} {rw':Bool} (hi:l[i]? =some (.row j n)) (hm:(j,.row l1 e1 s1)∈K) (hu:Upd K c (.cells l t rw') c (.cells (l.set i (.sl j 0 n)) t rw') K') (h:TK Y ds k Wq K'):TK Y ds k Wq K:=fun A hA φ H ts h1 h2 h3 h4 h5 h6=>by
 have hj:=hA.view.get hu.mem;have hb:(φ j).base=0:=(h5.obj j _ (hA.view.get hm)).2.1;have Qb:i<l.length:=(lD.1 hi).1;have hne:l≠[]:=fun e=>by rw [e] at Qb; exact absurd Qb (Nat.not_lt_zero _)
 refine h _ (hA.step (.set hA.view hA.nd hu)) φ H ts h1 (by simpa using h2) (by simpa using h3) (by simpa using h4) (h5.turn hj (fun ho hl=>?_) (fun h=>h) (fun _=>rfl) (fun hs=>by simpa [sol] using hne)) (by simpa using h6);obtain ⟨rw2,cur,fz,q1,q2,q3⟩:=ho hne;refine ⟨rw2,cur,fz,q1,fun h=>⟨(q2 h).1,(q2 h).2.1,by rw [List.length_set]; exact (q2 h).2.2⟩,fun t' a ha=>?_⟩;by_cases e:t'=i
 ·subst e;rw [List.getElem?_set_self Qb] at ha;cases ha;obtain ⟨y,hy,hr⟩:=q3 t' _ hi;exact ⟨y,hy,by have:=zbf (j:=j) hb hr; simpa [unrow] using this⟩
 ·rw [lP (fun h=>e h.symm)] at ha;exact q3 t' a ha
theorem zge {φ:Nat->Loc3} {A:List AObj} {F H:Hp} (h:RelH φ A F H) {j:Nat} {l:List AV} {e:gT} {sz:Nat} (hj:A[j]? =some (.row l e sz)):RelH φ (A.set j (.cells l e ff)) F H:=by
 have hg:∀ t w,(A.set j (.cells l e ff))[t]? =some w->(t=j/\w=.cells l e ff)\/(t≠j/\A[t]? =some w):=fun t w ht=>by
  rw [lX] at ht;split at ht
  ·rename_i e';split at ht
   ·cases ht; exact .inl ⟨e'.symm,rfl⟩
   ·cases ht
  ·rename_i e';exact .inr ⟨fun h=>e' h.symm,ht⟩
 have hcap:l≠[]->0<(φ j).cap:=fun hl=>by
  rcases Nat.eq_zero_or_pos (φ j).cap with e | e
  ·exact absurd ((h.obj j _ hj).1 e) hl
  ·exact e
 refine ⟨fun t w ht=>?_,fun t t' w w' ht ht' hn he hl s1 s2=>?_,h.fr,fun t w ht he hs=>?_⟩
 ·rw [List.length_set];rcases hg t w ht with ⟨rfl,rfl⟩ | ⟨_,h2⟩
  ·intro hl;obtain ⟨_,hb,hc⟩:=h.obj t _ hj;obtain ⟨cur,h1,_,_,_,h3⟩:=hc (hcap hl);exact ⟨tt,cur,(e,0,0),h1,(fun h=>by cases h),fun i a ha=>by rw [hb,mO]; exact h3 i a ha⟩
  ·exact h.obj t w h2
 ·rcases hg t w ht with ⟨rfl,rfl⟩ | ⟨_,h2⟩
  ·cases he
  ·rcases hg t' w' ht' with ⟨rfl,rfl⟩ | ⟨_,h2'⟩
   ·exact h.apart t t' w _ h2 hj hn he rfl s1 (hcap s2)
   ·exact h.apart t t' w w' h2 h2' hn he hl s1 s2
 ·rcases hg t w ht with ⟨rfl,rfl⟩ | ⟨_,h2⟩
  ·cases he
  ·exact h.frx t w h2 he hs
theorem TK.frzRow {j:Nat} {l:List AV} {e:gT} {sz:Nat} (h:TK Y ds k Wq K') (hu:Upd K j (.row l e sz) j (.cells l e ff) K':=by repeat (first | exact Upd.head | apply Upd.tail)):TK Y ds k Wq K:=fun A hA φ H ts h1 h2 h3 h4 h5 h6=>by
 have hj:=hA.view.get hu.mem;have hl:(A.set j (.cells l e ff)).length=A.length:=by simp
 exact h _ (hA.step (.set hA.view hA.nd hu)) φ H ts h1 (by rw [hl]; exact h2) (by rw [hl]; exact h3) (by rw [hl]; exact h4) (zge h5 hj) (by rw [hl]; exact h6)
end
end Go.Vel
namespace Go.Vel
open Go Go.Conc Go.Proofs
open Go.ConcN (sumTo upd upd_ne upd_same)
open Go.ConcM (OsLater MuAt muA msA)
open Go.ConcR (KK wgBlock WgAt stA smA mk rd wr)
open Mx (TT Th Mn S4 auto Mv4 ok4 bl4 kd dl MPc Pc okW okM Mv nx4 cnt newOf)
section
variable {P:gP} {gm:Nat->Option Nat} {T:gG->Hp->Prop} {Y:KX P gm T} {ds:List Nat} {k:List Item} {Wq:List AV} {K:KV}
theorem TK.nd (h:(keys K).Nodup->TK Y ds k Wq K):TK Y ds k Wq K:=fun A hA=>h hA.nd A hA
end
def zw (b:Nat):Nat->List Int
 | 0=>[]
 | i+1=>zw b i++(if b / 2 ^ i % 2=1 then [(i:Int)] else [])
theorem wJ (b:Nat):∀ i,(zw b i).length<=i
 | 0=>mL _
 | i+1=>by
  have:=wJ b i;unfold zw;rw [lF];split <;> simp <;> omega
theorem ul {m b:Nat} (hm:m<=5) (hb:b<2 ^ m) (h:zw b m=[]):b=0:=by
 have key:∀ m,m<=5->∀ b,b<32->b<2 ^ m->zw b m=[]->b=0:=by decide +kernel
 have:2 ^ m<=2 ^ 5:=Nat.pow_le_pow_right dQ hm;exact key m hm b oQ hb h
def PlanR (Sq:KV) (m:Nat) (bt:List Int×Int->List Int×Int->Bool) (hi:Nat->Int) (ok:Nat->Bool) (r:AV) (K':KV):Prop :=
 (r=.tup [.agg [.v (.slice none 0 0),.v (.int .i64 0)],.v (.bool ff)]/\K'=Sq/\∀ b,0<b->b<2 ^ m->ok b=ff) \/
 ∃ b j e,0<b/\b<2 ^ m/\ok b=tt/\(∀ c,0<c->c<2 ^ m->ok c=tt->(zw c m,hi c)=(zw b m,hi b)\/bt (zw b m,hi b) (zw c m,hi c)=tt) /\
  r=.tup [.agg [.sl j 0 (zw b m).length,.v (.int .i64 (hi b))],.v (.bool tt)]/\K'=(j,.cells ((zw b m).map fun a=>.v (.int .i64 a)) e ff)::Sq
theorem ziw (m:Nat):zw 0 m=[]:=by
 induction m with
 | zero=>rfl
 | succ m ih=>unfold zw; rw [ih,Nat.zero_div,if_neg dQ]; rfl
theorem zjM (b i:Nat):((b:Nat):Int) / 2 ^ ((i:Nat):Int).toNat=((b / 2 ^ i:Nat):Int):=by
 rw [mZ];simp
theorem zm4 {Ψ:gG->World->Prop} {gm:Nat->Option Nat} {m s:Nat} {a0 a1 a2 a3 a5 a6 a7:AV} {gF:gF} {Sq:KV} {bt:List Int×Int->List Int×Int->Bool} {lw hi:Nat->Int} {ok:Nat->Bool} (hm:1<=m/\m<=5) (hSq:∀ z∈Sq,∃ l e,l≠[]/\z.2=.cells l e ff)
  (htr:∀ p q r,bt p q=tt->bt q r=tt->bt p r=tt) (htot:∀ b c,0<b->b<2 ^ m->0<c->c<2 ^ m->ok b=tt->ok c=tt->(zw b m,hi b)=(zw c m,hi c)\/bt (zw b m,hi b) (zw c m,hi c)=tt\/bt (zw c m,hi c) (zw b m,hi b)=tt)
  (hsq:∀ b,0<b->b<2 ^ m->∀ (jr:Nat) {T:gG->Hp->Prop},zt tp ff T->zr tp T gm 82 [.agg [a0,a1,a2,a3,.sl s 0 m,a5,a6,a7],.sl jr 0 (zw b m).length] ((jr,.cells ((zw b m).map fun a=>.v (.int .i64 a)) 3 ff)::Sq) (fun r K'=>r=.tup [.agg [.v (.int .i64 (lw b)),.v (.int .i64 (hi b))],.v (.bool (ok b))]/\K'=(jr,.cells ((zw b m).map fun a=>.v (.int .i64 a)) 3 ff)::Sq))
  (hbt:∀ {T:gG->Hp->Prop},zt tp ff T->∀ (jr:Nat) (cs:List Int) (cost:Int) (cs0:List Int) (cost0:Int) (j0:Nat) (e0:gT),cs.length<=5->CallFK tp T gm (.fn gF [] []) [.agg [.sl jr 0 cs.length,.v (.int .i64 cost)],.agg [.sl j0 0 cs0.length,.v (.int .i64 cost0)]] [(jr,.cells (cs.map fun a=>.v (.int .i64 a)) 3 ff),(j0,.cells (cs0.map fun a=>.v (.int .i64 a)) e0 ff)] (fun r K'=>r=.v (.bool (bt (cs,cost) (cs0,cost0)))/\K'=[(jr,.cells (cs.map fun a=>.v (.int .i64 a)) 3 ff),(j0,.cells (cs0.map fun a=>.v (.int .i64 a)) e0 ff)])) :
  zr tp (BT tp Ψ) gm 83 [.agg [a0,a1,a2,a3,.sl s 0 m,a5,a6,a7],.fn gF [] []] Sq (fun r K'=>PlanR Sq m bt hi ok r K'):=by
 obtain ⟨n,hn⟩:∃ n,n=2 ^ m - 1:=⟨_,rfl⟩;obtain ⟨lkr,hlk⟩:∃ lkr:Nat->Bool,lkr=fun i=>decide (i<2 ^ m - 1)&&ok (i+1):=⟨_,rfl⟩;obtain ⟨off,hof⟩:∃ off:Nat->List Int×Int,off=fun i=>(zw (i+1) m,hi (i+1)):=⟨_,rfl⟩;refine vx 50 (kE Ψ) Tryz.func83 fun Y hro hret3=>?_;have Wz:RetK Y Tryz.f83.results.toList (fun r K'=>PlanR Sq m bt hi ok r K'):=fun j Wq K' K'' D r hj hs hres hp A' hA'=>hret3 j [] Wq K' K' K'' [] D r hj (.all _) List.nodup_nil sQ hs hres hp A' hA';have hn1:1<=n/\n<=31:=by
  obtain ⟨h1,h2⟩:=hm;have:m=1\/m=2\/m=3\/m=4\/m=5:=by omega
  rcases this with rfl | rfl | rfl | rfl | rfl <;> subst hn <;> decide
 have hsh:IntKind.i64.wrap (1*2 ^ ((m:Nat):Int).toNat)=((2 ^ m:Nat):Int):=by
  obtain ⟨h1,h2⟩:=hm;have:m=1\/m=2\/m=3\/m=4\/m=5:=by omega
  rcases this with rfl | rfl | rfl | rfl | rfl <;> decide
 have hm2:2 ^ m<=32:=by omega
 have hlk1:∀ i,lkr i=tt->i+1<2 ^ m/\ok (i+1)=tt:=fun i h=>by
  rw [hlk] at h;simp only [Bool.and_eq_true,decide_eq_true_eq] at h;exact ⟨by omega,h.2⟩
 have hnee:∀ i,lkr i=tt->(off i).1≠[]:=fun i h=>by
  rw [hof];exact fun e=>by have:=ul hm.2 (hlk1 i h).1 e; omega
 refine au 21042 ?_;intro jk hjk;refine au 210 ?_;intro jf hjf;refine au 220 ?_;intro jres hjres;refine au 2204235 ?_;intro jo hjo;refine au 220423 ?_;intro jm hjm;refine au 220423 ?_;intro jw hjw;refine au 223 ?_;refine bC ((jm,_)::(jw,_)::(jo,_)::(jk,_)::(jf,_)::(jres,_)::Sq) ?_;refine TK.into (n:=n) (lkr:=lkr) (tM:=206) (tW:=213) (tO:=199) (d7:=7) (d8:=8) (vs9:=z9) (GIo lkr off bt 199) hn1 hro Z Z dQ sQ (fun lo hlo=>zkF lo) ?_;intro y φ0 A0 hyn hyl hyS hyG hyb hjo hback k;refine TK.frz (j:=jk) ?_;refine TK.frz (j:=jf) ?_;refine au 2806906706706704 ?_;refine bH Z (q_shL Z Z Z ⟨by omega,by show ((m:Nat):Int)<=64; omega⟩ (r:=((2 ^ m:Nat):Int)) hsh) ?_;refine au 13031 ?_;refine bA [2,3,4,5,6,7,8,17,18] ?_;refine TK.loopR (ι:=Nat) (fun b=>.m { pc:=if b - 1<n then .a0 else .w0,j:=b - 1 }) (fun r b Wq K=>b<=2 ^ m/\r=2 ^ m - b/\K=(jo,AObj.gone)::(jk,AObj.cells [a0,a1,a2,a3,.sl s 0 m,a5,a6,a7] 154 ff)::(jf,AObj.cells [.fn gF [] []] 171 ff)::(jres,AObj.cells [.v (.slice none 0 0),.v (.int .i64 0)] 168 tt)::Sq/\Wq=[.any,.any,.ptr jk 0,.ptr jf 0,.ptr jres 0,.v (.bool ff),.ptr jo 0,.v (.pointer (some ⟨y.Mu,0,none⟩)),.v (.pointer (some ⟨y.Wg,0,none⟩)),.any,.any,.any,.any,.any,.any,.any,.any,.v (.int .i64 ((2 ^ m:Nat):Int)),.v (.int .i64 ((b:Nat):Int)),.any,.any,.any,.any,.any,.any,.any,.any,.any,.any,.any,.any,.any,.any,.any,.any,.any,.any,.any,.any,.any,.any,.any,.any,.any,.any,.any,.any,.any,.any,.any]) (2 ^ m) 0 ⟨mN _,rfl,rfl,rfl⟩ (by rw [if_pos oQ]) ?_;rintro r k b Wq K ⟨hb,hr,rfl,rfl⟩ ih;refine au 923742 ?_;constructor<;>intro Jz
 ·have hbn:b<2 ^ m:=Int.ofNat_lt.1 (of_decide_eq_true Jz);refine au 22042351421302120 ?_;intro jc hjc;refine TK.virtAt (i:=0) (e:=3) (size:=1) Z (fun _=>uQ) fun jn0 hjn0=>?_;refine au 130312806906706706704223 ?_;refine bA [2,3,4,5,6,7,8,9,10,17,18,25,26] ?_;refine bC ((jc,_)::(jn0,_)::(jo,AObj.gone)::(jk,AObj.cells [a0,a1,a2,a3,.sl s 0 m,a5,a6,a7] 154 ff)::(jf,AObj.cells [.fn gF [] []] 171 ff)::(jres,AObj.cells [.v (.slice none 0 0),.v (.int .i64 0)] 168 tt)::Sq) ?_;refine bE (fun n1 Wq K=>∃ (i jr:Nat),n1=m - i/\i<=m/\Wq=naL 2 (.ptr jk 0::.ptr jf 0::.ptr jres 0::.v (.bool ff)::.ptr jo 0::.v (.pointer (some ⟨y.Mu,0,none⟩))::.v (.pointer (some ⟨y.Wg,0,none⟩))::.v (.int .i64 ((b:Nat):Int))::.ptr jc 0::naL 6 (.v (.int .i64 ((2 ^ m:Nat):Int))::.v (.int .i64 ((b:Nat):Int))::naL 6 (.v (.int .i64 ((m:Nat):Int))::.v (.int .i64 ((i:Nat):Int))::naL 23 [])))/\K=(jc,AObj.cells [.row jr (zw b i).length] 34 tt)::(jr,AObj.row ((zw b i).map fun a=>.v (.int .i64 a)) 3 1)::(jo,AObj.gone)::(jk,AObj.cells [a0,a1,a2,a3,.sl s 0 m,a5,a6,a7] 154 ff)::(jf,AObj.cells [.fn gF [] []] 171 ff)::(jres,AObj.cells [.v (.slice none 0 0),.v (.int .i64 0)] 168 tt)::Sq) m ⟨0,jn0,rfl,mN _,rfl,rfl⟩ fun n1 Wq K hI Wj=>?_;obtain ⟨i,jr,rfl,him,rfl,rfl⟩:=hI;have hbl:=wJ b i;refine bG nQ ?_;refine au 923742 ?_;constructor<;>intro Jx
  ·have Qp:i<m:=by simp at Jx; omega
   refine au 1142351421302120 ?_;refine bH Z (q_sh Z Z Z ⟨by omega,by show ((i:Nat):Int)<=64; omega⟩ (zjM b i)) ?_;refine bH Z (zju Z Z Z (by have:=Nat.div_le_self b (2 ^ i); omega)) ?_;refine au 937 ?_;constructor<;>intro hc2
   ·have hbit:b / 2 ^ i % 2=1:=by have h:=eq_of_beq hc2; omega
    refine au 16904 ?_;refine TK.newR Z Z Z (zu (l:=[_]) Z zq.h TyZ.h dQ dQ Z) (fun _=>zx rfl tQ) fun j1 hj1=>?_;refine TK.appR Z Z Z (a_app Z ApOf.h Z mQ sQ Z (yq (ln:=[_]) mQ dQ sQ Z) oQ Z (by unfold maxLen; omega) oQ) (fun _=>uQ) (fun _=>zx rfl tQ) fun jr2=>?_;refine au 3123041403170 ?_;refine bA [2,3,4,5,6,7,8,9,10,17,18,25,26] ?_;refine bC ((jc,_)::(jr2,_)::(jo,AObj.gone)::(jk,AObj.cells [a0,a1,a2,a3,.sl s 0 m,a5,a6,a7] 154 ff)::(jf,AObj.cells [.fn gF [] []] 171 ff)::(jres,AObj.cells [.v (.slice none 0 0),.v (.int .i64 0)] 168 tt)::Sq) ?_;have hk:zw b (i+1)=zw b i++[(i:Int)]:=by show zw b i++_=_; rw [if_pos hbit]
    have hl:(zw b (i+1)).length=(zw b i).length+1:=by rw [hk]; simp
    exact Wj (m - (i+1)) _ _ oQ ⟨i+1,jr2,rfl,oQ,rfl,by rw [hl,hk,lM]; rfl⟩
   have hbit:¬ b / 2 ^ i % 2=1:=fun h=>by rw [h] at hc2; simp at hc2
   refine au 312304140120 ?_;refine bA [2,3,4,5,6,7,8,9,10,17,18,25,26] ?_;exact Wj (m - (i+1)) _ _ oQ ⟨i+1,jr,rfl,oQ,rfl,by rw [show zw b (i+1)=zw b i from by show zw b i++_=_; rw [if_neg hbit,lR]]⟩
  obtain rfl:m=i:=by simp at Jx; omega
  refine au 937280690422160 ?_;constructor<;>intro hc3
  ·have hb0:b=0:=ul hm.2 hbn (List.length_eq_zero_iff.1 (by have:=eq_of_beq hc3; omega));refine au 312304160 ?_;refine bA [2,3,4,5,6,7,8,17,18] ?_;refine bC ((jo,AObj.gone)::(jk,AObj.cells [a0,a1,a2,a3,.sl s 0 m,a5,a6,a7] 154 ff)::(jf,AObj.cells [.fn gF [] []] 171 ff)::(jres,AObj.cells [.v (.slice none 0 0),.v (.int .i64 0)] 168 tt)::Sq) ?_;refine TK.castT (T':=.m { pc:=if b+1 - 1<n then .a0 else .w0,j:=b+1 - 1 }) Z (by subst hb0; rfl) ?_;exact ih (2 ^ m - (b+1)) _ (b+1) _ _ oQ ⟨by omega,rfl,rfl,rfl⟩
  have hb1:0<b:=Nat.pos_of_ne_zero fun e=>by subst e; rw [ziw] at hc3; simp at hc3
  refine au 42120 ?_;refine TK.castT (T':=.m { pc:=.a0,j:=b - 1 }) Z (by show TT.m { pc:=if b - 1<n then .a0 else .w0,j:=b - 1 }=_; rw [if_pos oQ]) ?_;refine TK.callS Z Z Z Z (zlJ (lo:=(jo,φ0 jo)) y) hjo Z ?_;rintro r2 K2 T2 ⟨rfl,rfl,k2,hk2,rfl⟩;refine ⟨y.shutF _ _ _ _ _ _,?_⟩;refine au 3 ?_;refine bC ((jc,_)::(jr,_)::(jo,AObj.gone)::(jk,AObj.cells [a0,a1,a2,a3,.sl s 0 m,a5,a6,a7] 154 ff)::(jf,AObj.cells [.fn gF [] []] 171 ff)::(jres,AObj.cells [.v (.slice none 0 0),.v (.int .i64 0)] 168 tt)::Sq) ?_;refine TK.unrowAt (c:=jc) (i:=0) (j:=jr) Z mQ uQ ?_;refine TK.frz (j:=jc) ?_;refine TK.frzRow (j:=jr) ?_;refine TK.nd fun hnd=>?_;refine au 3204 ?_;have hlb:lkr (b - 1)=ok b:=by rw [hlk]; show (decide (b - 1<2 ^ m - 1)&&ok (b - 1+1))=ok b; rw [show b - 1+1=b by omega,decide_eq_true oQ,Bool.true_and]
  have hob:off (b - 1)=(zw b m,hi b):=by rw [hof]; show (zw (b - 1+1) m,hi (b - 1+1))=_; rw [show b - 1+1=b by omega]
  have hnd:(jc::jr::jo::jk::jf::jres::keys Sq).Nodup:=hnd;simp only [List.nodup_cons,lI,not_or] at hnd;refine TK.fork (S:=(jk,AObj.cells [a0,a1,a2,a3,.sl s 0 m,a5,a6,a7] 154 ff)::(jc,AObj.cells [.sl jr 0 (zw b m).length] 34 ff)::(jr,AObj.cells ((zw b m).map fun a=>.v (.int .i64 a)) 3 ff)::(jf,AObj.cells [.fn gF [] []] 171 ff)::Sq) (lo:=(jo,φ0 jo)) rfl rfl rfl rfl rfl (by kernel_rfl) (fun z hz=>by
   simp only [lI] at hz;rcases hz with rfl | rfl | rfl | rfl | hz
   ·exact ⟨by simp,_,_,List.cons_ne_nil _ _,rfl⟩
   ·exact ⟨by simp,_,_,List.cons_ne_nil _ _,rfl⟩
   ·exact ⟨by simp,_,_,fun e=>by rw [List.map_eq_nil_iff] at e; have:=ul hm.2 hbn e; omega,rfl⟩
   ·exact ⟨by simp,_,_,List.cons_ne_nil _ _,rfl⟩
   ·exact ⟨by simp [hz],hSq z hz⟩)
   (by show (jk::jc::jr::jf::keys Sq).Nodup; simp only [List.nodup_cons,lI,not_or]; grind)
   hjo rfl (by show jo∉jk::jc::jr::jf::keys Sq; simp only [lI,not_or]; grind)
   (fun k3 x3 φ3 A3 Hc3 vs3 hv3 hd3 hl3 hl4 hg3 hH3 hvs3=>zj8 (lo:=(jo,φ0 jo)) (i:=b - 1) (cs:=zw b m) (a:=lw b) (cost:=hi b) (off:=off) (bt:=bt) y (by rw [hyl]; exact hyG) hyb (fun _=>hob) (by rw [hyl]; exact hnee) htr
    (by rw [hyl]; intro i1 i2 h1 h2; rw [hof]; exact htot (i1+1) (i2+1) oQ (hlk1 i1 h1).1 oQ (hlk1 i2 h2).1 (hlk1 i1 h1).2 (hlk1 i2 h2).2)
    (fun hT=>by rw [hyl,hlb]; exact hsq b hb1 hbn jr hT) (fun hT cs0 cost0 j0 e0=>hbt hT jr _ _ cs0 cost0 j0 e0 (by have:=wJ b m; omega)) hv3 hd3 hl3 hl4 hg3 hH3 hvs3) (fun k3 hk3=>?_)
  refine au 3123041403 ?_;refine bA [2,3,4,5,6,7,8,17,18] ?_;refine bC ((jo,AObj.gone)::(jk,AObj.cells [a0,a1,a2,a3,.sl s 0 m,a5,a6,a7] 154 ff)::(jf,AObj.cells [.fn gF [] []] 171 ff)::(jres,AObj.cells [.v (.slice none 0 0),.v (.int .i64 0)] 168 tt)::Sq) ?_;refine TK.castT (T':=.m { pc:=if b+1 - 1<n then .a0 else .w0,j:=b+1 - 1 }) Z (by show TT.m { pc:=if b - 1+1<y.n then .a0 else .w0,j:=b - 1+1 }=_; rw [hyn,show b - 1+1=b by omega,Nat.add_sub_cancel]) ?_;exact ih (2 ^ m - (b+1)) _ (b+1) _ _ oQ ⟨by omega,rfl,rfl,rfl⟩
 have hbn:¬ b<2 ^ m:=fun h=>of_decide_eq_false Jz (Int.ofNat_lt.2 h);obtain rfl:b=2 ^ m:=by omega
 refine au 42160 ?_;refine TK.castT (T':=.m { pc:=.w0,j:=2 ^ m - 1 }) Z (by show TT.m { pc:=if 2 ^ m - 1<n then .a0 else .w0,j:=2 ^ m - 1 }=_; rw [if_neg oQ]) ?_;refine TK.callS Z Z Z Z (zj5 (lo:=(jo,φ0 jo)) (PW:=PLo lkr off bt 199 jo y.all) y (hyS ▸ kE Ψ) (znX hyG hyb)) hjo Z ?_;rintro r2 K2 T2 ⟨rfl,⟨best,hbest,hpl⟩,hT2⟩;obtain rfl:T2=BT tp Ψ:=hT2.trans hyS;refine ⟨kE Ψ,?_⟩;refine hback ?_;have hall:∀ c,0<c->c<2 ^ m->ok c=tt->lkr (c - 1)=tt/\y.all (c - 1)=tt/\off (c - 1)=(zw c m,hi c):=fun c h1 h2 h3=>by
  have e:lkr (c - 1)=tt:=by rw [hlk]; show (decide (c - 1<2 ^ m - 1)&&ok (c - 1+1))=tt; rw [show c - 1+1=c by omega,decide_eq_true oQ,h3]; rfl
  refine ⟨e,?_,?_⟩
  ·show (y.lkr (c - 1)&&decide (c - 1<y.n))=tt;rw [hyl,e,hyn,decide_eq_true oQ]; rfl
  ·rw [hof]; show (zw (c - 1+1) m,hi (c - 1+1))=_; rw [show c - 1+1=c by omega]
 rcases best with _ | ⟨cs0,cost0⟩
 ·have hpl:K2=[(jo,.cells (z9.map AV.v) 199 tt)]:=hpl;subst hpl;refine au 23 ?_;refine bL [0,1,4,2,3,5] ?_;refine ad [[3,6],[12,46],[3,6],[10,48]] ?_;refine TD.s (Wx:=[_,_]) [4,47] Z Z (zE Z Z ze.h Z Z mQ Z) ?_;refine ad [[13,49],[14]] ?_;refine au 0 ?_;refine bB Wz (Sq) ?_;refine .inl ⟨rfl,rfl,fun c h1 h2=>?_⟩;cases h3:ok c with
  | false=>rfl
  | true =>
   obtain ⟨q1,q2,q3⟩:=hall c h1 h2 h3;have:=hbest (c - 1) q1;rw [q2] at this;cases this
 ·obtain ⟨j0,e0,rfl⟩:=hpl;refine au 23 ?_;refine bL [0,1,4,2,3,5] ?_;refine ad [[3,6],[12,46],[3,6],[10,48]] ?_;refine TD.s (Wx:=[_,_]) [4,47] Z Z (zE Z Z ze.h Z Z mQ Z) ?_;refine ad [[13,49],[14]] ?_;refine au 0 ?_;refine bB Wz ((j0,_)::Sq) ?_;obtain ⟨⟨i0,h1,h2,h3⟩,h4⟩:=hbest;obtain ⟨q1,q2⟩:=hlk1 i0 h1;rw [hof] at h3;cases h3;refine .inr ⟨i0+1,j0,e0,oQ,q1,q2,fun c g1 g2 g3=>?_,rfl,rfl⟩;obtain ⟨p1,p2,p3⟩:=hall c g1 g2 g3;have:=h4 (c - 1) p1 p2;rw [p3] at this;exact this
end Go.Vel
namespace Go.Vel
open Go Go.Conc
def notAft:Option Int->Int->Bool
 | some k,n=>decide (n<=k)
 | none,_=>ff
def cutsL (b:RBk):Option Int->List Int->Int
 | _,[]=>0
 | last,n::r=>if ym b n≠0 then ym b n else if notAft last n=tt then 7 else cutsL b (some n) r
def cutsM (b:RBk) (l:List Int):Int:=if l.length=0 then 2 else cutsL b none l
structure CutsOk (b:RBk) (l:List Int):Prop where
 pos:0<l.length
 bnd:∀ n∈l,0<=n/\n<b.sE.length
 asc:l.Pairwise (· < ·)
theorem zgE {b:RBk}:∀ (l:List Int) (last:Option Int),cutsL b last l=0->(∀ n∈l,0<=n/\n<b.sE.length/\∀ k,last=some k->k<n)/\l.Pairwise (· < ·)
 | [],_,_=>⟨fun n hn=>by simp at hn,.nil⟩
 | n::r,last,h=>by
  unfold cutsL at h;split at h
  ·rename_i h1; exact absurd h h1
  ·rename_i h1;split at h
   ·cases h
   ·rename_i h2;obtain ⟨q1,q2⟩:=zgE r _ h;have ht:=uX (b:=b) (n:=n) (by simpa using h1);have hk:∀ k,last=some k->k<n:=fun k hk=>by subst hk; simp [notAft] at h2; exact h2
    refine ⟨fun t ht'=>?_,.cons (fun t ht'=>(q1 t ht').2.2 n rfl) q2⟩;rcases lI.1 ht' with rfl | ht'
    ·exact ⟨ht.1,ht.2,hk⟩
    ·obtain ⟨a1,a2,a3⟩:=q1 t ht';exact ⟨a1,a2,fun k e=>by have:=hk k e; have:=a3 n rfl; omega⟩
theorem vj {b:RBk} {l:List Int} (h:cutsM b l=0):CutsOk b l:=by
 unfold cutsM at h;split at h
 ·cases h
 ·obtain ⟨q1,q2⟩:=zgE _ _ h;exact ⟨by omega,fun n hn=>⟨(q1 n hn).1,(q1 n hn).2.1⟩,q2⟩
theorem zjs:∀ (l:List Int) (a m:Int),(∀ n∈l,a<=n/\n<m)->l.Pairwise (· < ·)->a+l.length<=m\/l=[]
 | [],_,_,_,_=>.inr rfl
 | x::r,a,m,h,hp=>by
  left;obtain ⟨h1,h2⟩:=List.pairwise_cons.1 hp;have hx:=h x sQ;rcases zjs r (x+1) m (fun n hn=>⟨by have:=h1 n hn; omega,(h n (by simp [hn])).2⟩) h2 with h3 | rfl
  ·simp only [lZ]; omega
  ·simp; omega
theorem CutsOk.len {b:RBk} {l:List Int} (h:CutsOk b l):l.length<=b.sE.length:=by
 rcases zjs l 0 b.sE.length (fun n hn=>h.bnd n hn) h.asc with h1 | h1
 ·omega
 ·subst h1; simp
def zK (l:List Int) (k:Nat):Int:=l.getD k 0
theorem ya {l:List Int} {k:Nat} (h:k<l.length):l[k]? =some (zK l k):=by
 unfold zK;rw [lE,lA h]; rfl
theorem zgD {l:List Int} {k:Nat} (h:k<l.length):zK l k∈l:=List.mem_of_getElem? (ya h)
def cutS (b:RBk) (l:List Int) (k:Nat):RSeam:=sm b (zK l k).toNat
theorem CutsOk.lt {b:RBk} {l:List Int} (h:CutsOk b l) {k:Nat} (hk:k<l.length):0<=zK l k/\zK l k<b.sE.length/\(zK l k).toNat<b.sE.length:=by
 have:=h.bnd _ (zgD hk);omega
def shL (b:RBk):Nat->List Int->Int
 | _,[]=>0
 | i,n::r=>if betw n 0 5=ff then 1 else if wideM b i<=n then 8 else shL b (i+1) r
def shM (b:RBk) (l:List Int):Int:=if l.length≠b.sE.length then 2 else shL b 0 l
structure StOk (b:RBk) (s:List Int):Prop where
 len:s.length=b.sE.length
 bnd:∀ i,i<b.sE.length->0<=s.getD i 0/\s.getD i 0<=5/\s.getD i 0<wideM b i
theorem shL_0 {b:RBk}:∀ (l:List Int) (i:Nat),shL b i l=0->∀ k x,l[k]? =some x->0<=x/\x<=5/\x<wideM b (i+k)
 | [],i,_,k,x,hx=>by simp at hx
 | y::r,i,h,k,x,hx=>by
  unfold shL at h;split at h
  ·cases h
  ·rename_i h1;split at h
   ·cases h
   ·rename_i h2;cases k with
    | zero =>
     simp at hx; subst hx;have h1:betw y 0 5=tt:=by simpa using h1
     have:=uM h1;rw [Nat.add_zero]; omega
    | succ k =>
     have:=shL_0 r (i+1) h k x (by simpa using hx);rw [show i+(k+1)=i+1+k by omega];exact this
theorem zjN {b:RBk} {l:List Int} (h:shM b l=0):StOk b l:=by
 unfold shM at h;split at h
 ·cases h
 ·rename_i h1;have hl:l.length=b.sE.length:=by simpa using h1
  refine ⟨hl,fun i hi=>?_⟩;have hg:l[i]? =some (l.getD i 0):=by rw [lE,lA oQ]; rfl
  have:=shL_0 _ _ h i _ hg;rw [mO] at this;exact this
def endM (b:RBk) (l:List Int) (k:Nat):Int:=if k+1<l.length then (cutS b l (k+1)).step else (cutS b l 0).step+b.steps
def stripM (b:RBk) (l:List Int) (k:Nat):Int×Int:=(zK l k,endM b l k - (cutS b l k).step)
def stripsM (b:RBk) (l:List Int):List (Int×Int):=(List.range l.length).map (stripM b l)
def pairC (x:Int×Int):List AV:=[za x.1,za x.2]
def fitsM (b:RBk) (l:List Int):Bool:=decide ((l.length:Int)<=b.rolls)&&(List.range l.length).all fun k => !(cutS b l k).whole&&decide ((stripM b l k).2<=b.roll)
section
variable {α:Type} (lt:α->α->Bool)
def insJ (x:α) (S:List α):Nat->List α
 | 0=>x::S
 | j+1=>match S[j]? with
  | some y=>if lt x y=tt then insJ x S j else S.take (j+1)++x::S.drop (j+1)
  | none=>S++[x]
def insR (x:α) (S:List α):List α:=insJ lt x S S.length
def sortN (l:List α):Nat->List α
 | 0=>[]
 | i+1=>match l[i]? with
  | some x=>insR lt x (sortN l i)
  | none=>sortN l i
def sortR (l:List α):List α:=sortN lt l l.length
variable {lt}
theorem zeY (x:α) (S:List α):∀ j,(insJ lt x S j).length=S.length+1
 | 0=>rfl
 | j+1=>by
  unfold insJ;split
  ·rename_i y hy;split
   ·exact zeY x S j
   ·have:=(lD.1 hy).1;simp; omega
  ·simp
theorem vD (l:List α):∀ i,i<=l.length->(sortN lt l i).length=i
 | 0,_=>rfl
 | i+1,h=>by
  unfold sortN;rw [lA oQ];dsimp only;unfold insR;rw [zeY,vD l i oQ]
end
def freshM (b:RBk) (s:List Int):Int:=b.round - b.steps+(s.getD 0 0+s.getD 1 0+s.getD 2 0+s.getD 3 0+s.getD 4 0)
theorem StOk.slot {b:RBk} {s:List Int} (hb:ROk b) (h:StOk b s) (i:Nat):0<=s.getD i 0/\s.getD i 0<=5:=by
 by_cases hi:i<b.sE.length
 ·have:=h.bnd i hi; omega
 ·rw [lE,lU (by have:=h.len; omega)];exact ⟨Int.le_refl _,by decide⟩
theorem zeL {b:RBk} (hb:ROk b) {s:List Int} (h:StOk b s):0<=freshM b s/\freshM b s<=65:=by
 have h0:=h.slot hb 0;have h1:=h.slot hb 1;have h2:=h.slot hb 2;have h3:=h.slot hb 3;have h4:=h.slot hb 4;have:=hb.rnd.round;have:=hb.rnd.steps;unfold freshM;omega
def busyLt (b:RBk) (l:List Int) (x y:Int):Bool:=decide ((cutS b l x.toNat).busy<(cutS b l y.toNat).busy)||(decide ((cutS b l x.toNat).busy=(cutS b l y.toNat).busy)&&decide (y<x))
def idxM (n:Nat):List Int:=(List.range n).map fun (k:Nat)=>(k:Int)
def ordM (b:RBk) (l:List Int):List Int:=sortR (busyLt b l) (idxM l.length)
def spoilM (b:RBk) (l:List Int):Nat->Int
 | 0=>0
 | k+1=>spoilM b l k+(cutS b l k).spoil
structure Alloc where
 steps:List Int
 squares:Int
 left:Int
def allocM (b:RBk) (l:List Int) (z:Alloc) (k:Int):Alloc :=
 let n:=min z.left (cutS b l k.toNat).most
 ⟨z.steps.set k.toNat n,z.squares+n*(cutS b l k.toNat).busy,z.left - n⟩
def alloc0 (b:RBk) (l:List Int) (n:Int):Alloc:=⟨mB l.length 0,spoilM b l l.length,n⟩
def allocA (b:RBk) (l:List Int) (n:Int):Alloc:=(ordM b l).foldl (allocM b l) (alloc0 b l n)
def hangM (b:RBk) (l s:List Int):Option (List Int×Int) :=
 if fitsM b l=ff then none else
 let z:=allocA b l (freshM b s)
 if 0<z.left then none else some (z.steps,z.squares)
def nowM (b:RBk) (s:List Int) (i:Nat):Int:=wideM b i - s.getD i 0
def togM (b:RBk) (s:List Int) (c:Nat):Nat->Int
 | 0=>0
 | k+1=>togM b s c k+nowM b s ((c+k) % b.sE.length)
def rightM (b:RBk) (s:List Int):Bool:=b.mE.all fun m=>decide (togM b s m.cloth.toNat m.many.toNat=m.wide)
def numsF (n:Int):Nat->List Int
 | 0=>[]
 | k+1=>n::numsF (n+1) k
def numsM (x:RBand):List Int:=numsF x.low (x.high+1 - x.low).toNat
def fromM (b:RBk):List Int->List RBand->List (List Int)
 | p,[]=>if rightM b p=tt then [p] else []
 | p,x::r=>(numsM x).flatMap fun n=>fromM b (p++[n]) r
def zh (b:RBk):List (List Int):=fromM b [] b.sH
theorem zcQ {b:RBk} (hb:ROk b) {s:List Int} (hs:StOk b s) {c:Nat}:∀ k,0<=togM b s c k/\togM b s c k<=24*k
 | 0=>by simp [togM]
 | k+1=>by
  have:=zcQ hb hs (c:=c) k;have hi:(c+k) % b.sE.length<b.sE.length:=Nat.mod_lt _ (by have:=hb.sms.len; omega);have h1:=hb.wide hi;have h2:=hs.bnd _ hi;unfold togM nowM;omega
theorem za1:∀ (k:Nat) (n x:Int),x∈numsF n k↔n<=x/\x<n+k
 | 0,n,x=>by simp [numsF]
 | k+1,n,x=>by
  unfold numsF;rw [lI,za1 k];omega
theorem zfb {x:RBand} (h:x.low<=x.high) {n:Int}:n∈numsM x↔x.low<=n/\n<=x.high:=by
 unfold numsM;rw [za1];omega
def InB (b:RBk) (s:List Int):Prop:=s.length=b.sH.length/\∀ i,i<b.sH.length->(bd b i).low<=s.getD i 0/\s.getD i 0<=(bd b i).high
theorem ziX {b:RBk} (hb:ROk b) {s:List Int} (h:InB b s):StOk b s:=by
 have hl:=hb.cls.len;refine ⟨by rw [h.1,hl],fun i hi=>?_⟩;have h1:=h.2 i oQ;have h2:=hb.cls.bnd i hi;omega
def PreB (b:RBk) (p:List Int):Prop:=p.length<=b.sH.length/\∀ i,i<p.length->(bd b i).low<=p.getD i 0/\p.getD i 0<=(bd b i).high
theorem zg4 (b:RBk):PreB b []:=⟨mN _,fun i hi=>by simp at hi⟩
theorem zhR {p:List Int} {n:Int} {i:Nat} (h:i<p.length):(p++[n]).getD i 0=p.getD i 0:=by
 rw [lE,lE,lG h]
theorem zf5 {p:List Int} {n:Int}:(p++[n]).getD p.length 0=n:=by
 rw [lE]; simp
theorem zfo {b:RBk} {p:List Int} {n:Int} (h:PreB b p) (hl:p.length<b.sH.length) (h1:(bd b p.length).low<=n) (h2:n<=(bd b p.length).high):PreB b (p++[n]):=by
 refine ⟨by simp; omega,fun i hi=>?_⟩;rw [lF,List.length_singleton] at hi;by_cases e:i<p.length
 ·rw [zhR e]; exact h.2 i e
 ·have:i=p.length:=by omega
  subst this;rw [zf5]; exact ⟨h1,h2⟩
theorem zeO {b:RBk} (hb:ROk b):∀ (r:List RBand) (p:List Int),PreB b p->r=b.sH.drop p.length->∀ s∈fromM b p r,InB b s/\rightM b s=tt
 | [],p,hp,hr,s,hs=>by
  unfold fromM at hs;split at hs
  ·rename_i h1;rw [lS.1 hs];have:p.length=b.sH.length:=by
    have:=congrArg List.length hr;simp at this;have:=hp.1;omega
   exact ⟨⟨this,fun i hi=>hp.2 i oQ⟩,h1⟩
  ·cases hs
 | x::r,p,hp,hr,s,hs=>by
  unfold fromM at hs;obtain ⟨n,hn,hs1⟩:=List.mem_flatMap.1 hs;have Qp:p.length<b.sH.length:=by
   have:=congrArg List.length hr;simp at this;omega
  have hx:b.sH.drop p.length=bd b p.length::b.sH.drop (p.length+1):=zM (yT Qp);rw [hx] at hr;cases hr;have hb2:=hb.cls.bnd p.length (by have:=hb.cls.len; omega);rw [zfb oQ] at hn;exact zeO hb _ (p++[n]) (zfo hp Qp hn.1 hn.2) sQ s hs1
theorem ky {b:RBk} (hb:ROk b) {s:List Int} (h:s∈zh b):StOk b s/\rightM b s=tt:=by
 obtain ⟨h1,h2⟩:=zeO hb _ [] (zg4 b) rfl s h;exact ⟨ziX hb h1,h2⟩
def okAll (b:RBk) (all:List (List Int)):Prop:=∀ s∈all,StOk b s
def spreadM:List Int->Int×Int
 | []=>(0,0)
 | x::r=>(r.foldl min x,r.foldl max x)
def waysM (b:RBk) (all:List (List Int)) (l:List Int):List (List Int×Int):=all.filterMap (hangM b l)
def squaresM (b:RBk) (all:List (List Int)) (l:List Int):Option (Int×Int) :=
 if (waysM b all l).length<all.length then none else some (spreadM ((waysM b all l).map (·.2)))
def lexM:List Int->List Int->Int
 | [],[]=>0
 | [],_::_ => -1
 | _::_,[]=>1
 | x::r,y::t=>if x<y then -1 else if y<x then 1 else lexM r t
def yB (x y:List Int):Bool:=decide (x.length<y.length)||(decide (x.length=y.length)&&decide (lexM x y<0))
def cheaperM (x y:List Int×Int):Bool:=decide (x.2<y.2)||(decide (x.2=y.2)&&yB x.1 y.1)
def shorterM (x y:List Int×Int):Bool:=yB x.1 y.1
end Go.Vel
namespace Go.Vel
open Go Go.Conc Go.Proofs
instance:zl tp 132 0 0 ff 1:={}
instance:zl tp 132 1 1 ff 1:={}
instance:zl tp 132 2 2 ff 1:={}
instance:zl tp 132 3 3 ff 1:={}
instance:zl tp 26 0 0 ff 1:={}
instance:zl tp 26 1 1 ff 1:={}
instance:zl tp 26 2 2 ff 1:={}
instance:zl tp 26 3 3 ff 1:={}
instance:zl tp 26 5 5 ff 1:={}
instance:zl tp 26 6 6 ff 1:={}
instance:zl tp 45 0 0 ff 1:={}
instance:zl tp 88 0 0 ff 1:={}
instance:zl tp 88 1 1 ff 1:={}
instance:zl tp 88 2 2 ff 1:={}
instance:zq tp 22 132 5:={}
instance:zq tp 23 45 2:={}
instance:zq tp 24 88 3:={}
instance:ze tp 132 tt 5:={}
instance:ze tp 134 tt 7:={}
instance:ze tp 23 ff 1:={}
instance:ze tp 24 ff 1:={}
instance:ze tp 88 tt 3:={}
instance:TyZA tp 132 [.v (.int .i64 0),.v (.int .i64 0),.v (.int .i64 0),.v (.int .i64 0),.v (.bool ff)]:={}
instance:TyZA tp 88 [.v (.int .i64 0),.v (.int .i64 0),.v (.int .i64 0)]:={}
instance:Und tp 23 (.slice 45):={}
instance:Und tp 24 (.slice 88):={}
theorem yO {main T} (hT:zt tp main T) {gm} {n lo hi:Int} :
  zr tp T gm 80 [za n,za lo,za hi] [] (fun r K'=>r=zC (betw n lo hi)/\K'=[]):=by
 refine zn 15 hT Tryz.func80 fun Y Wz=>?_;refine au 1711423542 ?_;refine bF 10 (fun g1_4=>?_) (fun g1_4=>?_)
 ·refine au 35260711 ?_;refine TK.rta Wz ?_;exact ⟨by simp [zC,betw,g1_4],rfl⟩
 refine au 35250888 ?_;refine TK.rta Wz ?_;exact ⟨by simp [zC,betw,g1_4],rfl⟩
theorem zdL {main T} (hT:zt tp main T) {gm} {x:RBand} {lo hi:Int} :
  zr tp T gm 88 [.agg (bandC x),za lo,za hi] [] (fun r K'=>r=zC (isBd x lo hi)/\K'=[]):=by
 refine zn 24 hT Tryz.func88 fun Y Wz=>?_;refine au 21042 ?_;intro j1 hj1;refine au 1769067014235 ?_;refine bF 11 (fun g1_5=>?_) (fun g1_5=>?_)
 ·refine au 12607690670690670 ?_;refine bF 18 (fun g1_12=>?_) (fun g1_12=>?_)
  ·refine au 3526071690670 ?_;refine bB Wz [] ?_;exact ⟨by simp_all [isBd,bandC] <;> (intros; omega),rfl⟩
  refine au 352508888 ?_;refine bB Wz [] ?_;exact ⟨by simp_all [isBd,bandC] <;> (intros; omega),rfl⟩
 refine au 352508888125088888 ?_;refine bB Wz [] ?_;exact ⟨by simp_all [isBd,bandC] <;> (intros; omega),rfl⟩
theorem zdo {main T} (hT:zt tp main T) {gm} {b:RBk} {s h e i:Nat} (hr:RndOk b) (hs:SmOk b) (hi:i<b.sE.length) :
  zr tp T gm 101 [.agg (zH b s h e),za i] [(s,zp b)] (fun r K'=>r=za (wideM b i)/\K'=[(s,zp b)]):=by
 refine zn 40 hT Tryz.func101 fun Y Wz=>?_;refine au 0 ?_;have h5:=hs.len;have hst:=hr.steps;have f0:=hs.fld 0 oQ;have fi:=hs.fld i hi;refine au 21042 ?_;intro jb hjb;refine au 235 ?_;refine bL [0,1,2,3,4,5,6,7,8,9,10] ?_;refine ad [[3,2],[3,6],[10,7],[2,8],[3,9]] ?_;refine TD.y [10] Z (hq:=zj Z Z ze.h (mC _) (yd (c:=0) (sm_at (i:=0) b oQ Z) dQ Z)) (h:=?_);refine ad [[3,2],[3,12],[10,13],[8,11,14],[13,15],[14]] ?_;refine au 9372806906706702301422 ?_;constructor<;>intro Jz
 ·have Qp:i+1<b.sE.length:=by simp at Jz; omega
  have fn:=hs.fld (i+1) Qp;refine au 67036023016906706704 ?_;refine bH Z (zj Z Z ze.h mQ (yd (c:=0) (sm_at (i:=i+1) b Qp Z) dQ Z)) ?_;refine au 670360169067067014235 ?_;refine bH Z (zj Z Z ze.h mQ (yd (c:=0) (sm_at (i:=i) b hi Z) dQ Z)) ?_;refine au 35240 ?_;refine bB Wz [(s,_)] ?_;exact ⟨by unfold wideM; rw [if_pos Qp],rfl⟩
 have Qp:¬ i+1<b.sE.length:=by simp at Jz; omega
 refine au 6703601690670670142120 ?_;refine bH Z (zj Z Z ze.h mQ (yd (c:=0) (sm_at (i:=i) b hi Z) dQ Z)) ?_;refine au 35240 ?_;refine bB Wz [(s,_)] ?_;exact ⟨by unfold wideM; rw [if_neg Qp],rfl⟩
theorem ui {main T} (hT:zt tp main T) {gm} {b:RBk} {s h e:Nat} {n:Int} (hs:b.sE.length<=5) :
  zr tp T gm 73 [za n,.agg (zH b s h e)] [] (fun r K'=>r=za (ym b n)/\K'=[]):=by
 refine zn 13 hT Tryz.func73 fun Y Wz=>?_;refine au 21042 ?_;intro j1 hj1;refine au 240280690670670142235 ?_;refine TK.clE Z Z Z Z (yO hT) ?_;refine au 93300 ?_;constructor<;>intro Jz
 ·refine au 3542 ?_;refine bB Wz [] ?_;exact ⟨by simp at Jz; simp [ym,Jz],rfl⟩
 refine au 3542120 ?_;refine bB Wz [] ?_;exact ⟨by simp at Jz; simp [ym,Jz],rfl⟩
theorem zjG {main T} (hT:zt tp main T) {gm} {b:RBk} {s h e:Nat} :
  zr tp T gm 219 [.agg (zH b s h e)] [] (fun r K'=>r=za (roundsM b)/\K'=[]):=by
 refine zn 32 hT Tryz.func219 fun Y Wz=>?_;refine au 21042 ?_;intro j1 hj1;refine au 69067067042235 ?_;refine TK.clE Z Z Z Z (yO hT) ?_;refine au 1300 ?_;refine bF 8 (fun g1_6=>?_) (fun g1_6=>?_)
 ·refine au 3542180326088888126088888126088888888 ?_;refine bB Wz [] ?_;simp only [mV,mW] at g1_6;exact ⟨by simp [roundsM,g1_6],rfl⟩
 refine au 690670670690670670 ?_;refine TK.clE Z Z Z Z (yO hT) ?_;refine au 1250300 ?_;refine bF 18 (fun g1_16=>?_) (fun g1_16=>?_)
 ·refine au 3542180326088888126088888 ?_;refine bB Wz [] ?_;simp only [mV,mW] at g1_6 g1_16;exact ⟨by simp [roundsM,g1_6,g1_16],rfl⟩
 refine au 690670670 ?_;refine TK.clE Z Z Z Z (yO hT) ?_;refine au 1250300 ?_;refine bF 25 (fun g1_23=>?_) (fun g1_23=>?_)
 ·refine au 3542180326088888 ?_;refine bB Wz [] ?_;simp only [mV,mW] at g1_6 g1_16 g1_23;exact ⟨by simp [roundsM,g1_6,g1_16,g1_23],rfl⟩
 refine au 690670670 ?_;refine TK.clE Z Z Z Z (yO hT) ?_;refine au 93250300 ?_;constructor<;>intro Jz
 ·refine au 3542 ?_;refine bB Wz [] ?_;simp only [mV,mW] at g1_6 g1_16 g1_23 Jz;exact ⟨by simp [roundsM,g1_6,g1_16,g1_23,Jz],rfl⟩
 refine au 3542120 ?_;refine bB Wz [] ?_;simp only [mV,mW] at g1_6 g1_16 g1_23 Jz;exact ⟨by simp [roundsM,g1_6,g1_16,g1_23,Jz],rfl⟩
theorem zlA {main T} (hT:zt tp main T) {gm} {b:RBk} {s h e:Nat} (hr:RndOk b) (hl:b.sE.length<=100) :
  zr tp T gm 220 [.agg (zH b s h e)] [(s,zp b)] (fun r K'=>r=za (seamsM b)/\K'=[(s,zp b)]):=by
 refine zn 49 hT Tryz.func220 fun Y Wz=>?_;refine au 0 ?_;have hst:=hr.steps;refine au 21042 ?_;intro jb hjb;refine au 28069067067042235 ?_;refine TK.clE Z Z Z Z (yO hT) ?_;refine au 93300 ?_;constructor<;>intro Jz
 ·refine au 3542 ?_;refine bB Wz [(s,_)] ?_;simp only [mV,mW] at Jz;exact ⟨by simp [seamsM,Jz],rfl⟩
 simp only [mV,mW] at Jz;have hl5:=uM Jz;refine au 130312806906706704223542120 ?_;refine bA [1,2,3,14,15,16] ?_;refine bE (fun n Wq K=>∃ (i:Nat) (last:Int),n=b.sE.length - i/\i<=b.sE.length/\seamsL b last (b.sE.drop i)=seamsM b/\Wq=.any::.ptr jb 0::za 0::za last::naL 10 (.sl s 0 b.sE.length::za b.sE.length::za i::naL 32 [])/\K=[(jb,.cells (zH b s h e) 134 tt),(s,zp b)]) b.sE.length ⟨0,-1,rfl,mN _,by unfold seamsM; rw [if_neg (by rw [Jz]; decide)]; rfl,rfl,rfl⟩ fun n Wq K hI Wj=>?_;obtain ⟨i,last,rfl,hi,Qz,rfl,rfl⟩:=hI;refine bG nQ ?_;refine au 923742 ?_;constructor<;>intro Jx
 ·have Qb:i<b.sE.length:=by simp at Jx; omega
  refine au 360421302120 ?_;refine bH Z (zS Z Z ze.h mQ (sm_at (i:=i) b Qb Z)) ?_;refine au 220 ?_;intro jx hjx;refine au 24069067067069067042213023170 ?_;refine TK.clE Z Z Z Z (yO hT) ?_;refine au 935300 ?_;constructor<;>intro hc2
  ·refine au 9120 ?_;constructor<;>intro hc5
   ·refine au 3542 ?_;refine bB Wz [(s,_)] ?_;exact ⟨by rw [<- Qz,zM (kb Qb),seamsL,if_pos (by simp only [mV,mW] at hc2; simp [seamB,hc2])],rfl⟩
   exact absurd hc2 (by rw [hc5]; decide)
  refine au 69067042 ?_;refine TK.clE Z Z Z Z (yO hT) ?_;refine au 935300 ?_;constructor<;>intro hc3
  ·refine au 9120 ?_;constructor<;>intro hc5
   ·refine au 3542 ?_;refine bB Wz [(s,_)] ?_;exact ⟨by rw [<- Qz,zM (kb Qb),seamsL,if_pos (by simp only [mV,mW] at hc2 hc3; simp [seamB,hc2,hc3])],rfl⟩
   exact absurd hc3 (by rw [hc5]; decide)
  refine au 69067042 ?_;refine TK.clE Z Z Z Z (yO hT) ?_;refine au 935300 ?_;constructor<;>intro hc4
  ·refine au 9120 ?_;constructor<;>intro hc5
   ·refine au 3542 ?_;refine bB Wz [(s,_)] ?_;exact ⟨by rw [<- Qz,zM (kb Qb),seamsL,if_pos (by simp only [mV,mW] at hc2 hc3 hc4; simp [seamB,hc2,hc3,hc4])],rfl⟩
   exact absurd hc4 (by rw [hc5]; decide)
  refine au 6906704 ?_;refine TK.clE Z Z Z Z (yO hT) ?_;refine au 935300 ?_;constructor<;>intro hc5
  ·refine au 3542 ?_;refine bB Wz [(s,_)] ?_;exact ⟨by rw [<- Qz,zM (kb Qb),seamsL,if_pos (by simp only [mV,mW] at hc2 hc3 hc4 hc5; simp [seamB,hc2,hc3,hc4,hc5])],rfl⟩
  have hsb:seamB b (sm b i)=tt:=by simp only [mV,mW] at hc2 hc3 hc4 hc5; simp [seamB,hc2,hc3,hc4,hc5]
  refine au 9357169067042 ?_;constructor<;>intro hc6
  ·refine au 3542 ?_;refine bB Wz [(s,_)] ?_;exact ⟨by rw [<- Qz,zM (kb Qb),seamsL,if_neg (by rw [hsb]; decide),if_pos (of_decide_eq_true hc6)],rfl⟩
  refine au 312304140356906704140120 ?_;refine bA [1,2,3,14,15,16] ?_;refine bC [(jb,_),(s,_)] ?_;exact Wj _ _ _ oQ ⟨i+1,(sm b i).step,rfl,oQ,by rw [<- Qz,zM (kb Qb),seamsL,if_neg (by rw [hsb]; decide),if_neg (of_decide_eq_false hc6)],rfl,rfl⟩
 obtain rfl:i=b.sE.length:=by simp at Jx; omega
 refine au 3542160 ?_;refine bB Wz [(s,_)] ?_;exact ⟨by rw [<- Qz,List.drop_length]; rfl,rfl⟩
theorem ziE {main T} (hT:zt tp main T) {gm} {b:RBk} {s h e:Nat} (hr:RndOk b) (hs:SmOk b) :
  zr tp T gm 221 [.agg (zH b s h e)] [(s,zp b),(h,zF b)] (fun r K'=>r=za (clothsM b)/\K'=[(s,zp b),(h,zF b)]):=by
 refine zn 41 hT Tryz.func221 fun Y Wz=>?_;refine au 0 ?_;have hst:=hr.steps;have hl5:=hs.len;refine au 21042 ?_;intro jb hjb;refine au 93728069067067028069067067042235 ?_;constructor<;>intro Jz
 ·refine au 3542 ?_;refine bB Wz [(s,_),(h,_)] ?_;exact ⟨by unfold clothsM; rw [if_pos (by simp at Jz; omega)],rfl⟩
 have hle:b.sH.length=b.sE.length:=by simp at Jz; omega
 refine au 13031280690670670422120 ?_;refine bA [1,2,16,17,18] ?_;refine bE (fun n Wq K=>∃ (i:Nat),n=b.sH.length - i/\i<=b.sH.length/\clothsL b i (b.sH.drop i)=clothsM b/\Wq=.any::.ptr jb 0::za 0::naL 13 (.sl h 0 b.sH.length::za b.sH.length::za i::naL 22 [])/\K=[(jb,.cells (zH b s h e) 134 tt),(s,zp b),(h,zF b)]) b.sH.length ⟨0,rfl,mN _,by unfold clothsM; rw [if_neg (by simpa using hle)]; rfl,rfl,rfl⟩ fun n Wq K hI Wj=>?_;obtain ⟨i,rfl,hi,Qz,rfl,rfl⟩:=hI;refine bG nQ ?_;refine au 923742 ?_;constructor<;>intro Jx
 ·have Qb:i<b.sH.length:=by simp at Jx; omega
  refine au 3601421302120 ?_;refine bH Z (zS Z Z ze.h mQ (bd_at (i:=i) b Qb Z)) ?_;refine au 220 ?_;intro jx hjx;refine au 68042213031705 ?_;refine TK.clE Z Z Z Z (zdL hT) ?_;refine au 935300 ?_;constructor<;>intro hc2
  ·refine au 9120 ?_;constructor<;>intro hc3
   ·refine au 3542 ?_;refine bB Wz [(s,_),(h,_)] ?_;exact ⟨by rw [<- Qz,zM (yT Qb),clothsL,if_pos (by simp at hc2; simp [bandB,hc2] <;> omega)],rfl⟩
   exact absurd hc2 (by rw [hc3]; decide)
  have hbd:0<=(bd b i).low/\(bd b i).low<=(bd b i).high/\(bd b i).high<=5:=by simp [isBd] at hc2; omega
  refine au 93572406906706906704 ?_;constructor<;>intro hc3
  ·refine au 3542 ?_;refine bB Wz [(s,_),(h,_)] ?_;exact ⟨by rw [<- Qz,zM (yT Qb),clothsL,if_pos (by simp at hc2 hc3; simp [bandB,hc2] <;> omega)],rfl⟩
  have hbb:bandB (bd b i)=tt:=by simp only [mV,mW] at hc2; have:=of_decide_eq_false hc3; simp [bandB,hc2]; omega
  refine au 2 ?_;refine bL [0,1,2,3,4,5,6] ?_;refine ad [[3,4],[10,34],[12,1],[1,3]] ?_;refine TD.clE (Wx:=[_,_]) [36,37] Z Z Z Z Z (zdo hT (i:=i) hr hs oQ) ?_;refine ad [[4,35,38]] ?_;refine TD.as (Wx:=[_,_]) [39] Z Z (zG Z Z) ?_;refine ad [[14]] ?_;refine au 9 ?_;constructor<;>intro hc4
  ·refine au 3542 ?_;refine bB Wz [(s,_),(h,_)] ?_;exact ⟨by rw [<- Qz,zM (yT Qb),clothsL,if_neg (by rw [hbb]; decide),if_pos (of_decide_eq_true hc4)],rfl⟩
  refine au 312304140140120 ?_;refine bA [1,2,16,17,18] ?_;refine bC [(jb,_),(s,_),(h,_)] ?_;exact Wj _ _ _ oQ ⟨i+1,rfl,oQ,by rw [<- Qz,zM (yT Qb),clothsL,if_neg (by rw [hbb]; decide),if_neg (of_decide_eq_false hc4)],rfl,rfl⟩
 obtain rfl:i=b.sH.length:=by simp at Jx; omega
 refine au 3542160 ?_;refine bB Wz [(s,_),(h,_)] ?_;exact ⟨by rw [<- Qz,List.drop_length]; rfl,rfl⟩
theorem zf9 {main T} (hT:zt tp main T) {gm} {b:RBk} {s h e:Nat} (hs:SmOk b) (hl:b.mE.length<=100) :
  zr tp T gm 222 [.agg (zH b s h e)] [(e,zz b)] (fun r K'=>r=za (measM b)/\K'=[(e,zz b)]):=by
 refine zn 41 hT Tryz.func222 fun Y Wz=>?_;refine au 0 ?_;have hl5:=hs.len;refine au 21042 ?_;intro jb hjb;refine au 93728069067067042235 ?_;constructor<;>intro Jz
 ·refine au 3542 ?_;refine bB Wz [(e,_)] ?_;exact ⟨by unfold measM; rw [if_pos (by simp at Jz; omega)],rfl⟩
 refine au 13031280690670670422120 ?_;refine bA [1,2,13,14,15] ?_;refine bE (fun n Wq K=>∃ (i:Nat),n=b.mE.length - i/\i<=b.mE.length/\measL b (b.mE.drop i)=measM b/\Wq=.any::.ptr jb 0::za 0::naL 10 (.sl e 0 b.mE.length::za b.mE.length::za i::naL 25 [])/\K=[(jb,.cells (zH b s h e) 134 tt),(e,zz b)]) b.mE.length ⟨0,rfl,mN _,by unfold measM; rw [if_neg (by simp at Jz; omega)]; rfl,rfl,rfl⟩ fun n Wq K hI Wj=>?_;obtain ⟨i,rfl,hi,Qz,rfl,rfl⟩:=hI;refine bG nQ ?_;refine au 923742 ?_;constructor<;>intro Jx
 ·have Qb:i<b.mE.length:=by simp at Jx; omega
  obtain ⟨x,hg⟩:∃ x,b.mE[i]? =some x:=⟨_,lA Qb⟩;refine au 360421302120 ?_;refine bH Z (zS Z Z ze.h mQ (wS (c:=3) (f:=measC) (fun _=>rfl) hg rfl dQ)) ?_;refine au 220 ?_;intro jx hjx;refine au 6806906704223170 ?_;refine TK.clE Z Z Z Z (ui hT oQ) ?_;refine au 93714235 ?_;constructor<;>intro hc2
  ·refine au 35142 ?_;refine bB Wz [(e,_)] ?_;exact ⟨by rw [<- Qz,zM hg,measL,if_pos (by simpa using hc2)],rfl⟩
  refine au 28069067067069067042120 ?_;refine TK.clE Z Z Z Z (yO hT) ?_;refine au 1300 ?_;refine bF 34 (fun g9_9=>?_) (fun g9_9=>?_)
  ·refine au 354218032608888 ?_;refine bB Wz [(e,_)] ?_;exact ⟨by rw [<- Qz,zM hg,measL,if_neg (by simpa using hc2),if_pos (by simp only [mV,mW] at g9_9; simp [measB,g9_9])],rfl⟩
  refine au 690670 ?_;refine TK.clE Z Z Z Z (yO hT) ?_;refine au 93250300 ?_;constructor<;>intro hc3
  ·refine au 3542 ?_;refine bB Wz [(e,_)] ?_;exact ⟨by rw [<- Qz,zM hg,measL,if_neg (by simpa using hc2),if_pos (by simp only [mV,mW] at g9_9 hc3; simp [measB,g9_9,hc3])],rfl⟩
  refine au 312304140120 ?_;refine bA [1,2,13,14,15] ?_;refine bC [(jb,_),(e,_)] ?_;exact Wj _ _ _ oQ ⟨i+1,rfl,oQ,by rw [<- Qz,zM hg,measL,if_neg (by simpa using hc2),if_neg (by simp only [mV,mW] at g9_9 hc3; simp [measB,g9_9,hc3])],rfl,rfl⟩
 obtain rfl:i=b.mE.length:=by simp at Jx; omega
 refine au 3542160 ?_;refine bB Wz [(e,_)] ?_;exact ⟨by rw [<- Qz,List.drop_length]; rfl,rfl⟩
end Go.Vel
namespace Go.Vel
open Go Go.Conc
section
variable {P:gP} {gm:Nat->Option Nat} {Wq:List AV} {A A':List AObj} {o:Oper} {V:KV}
theorem zmT {d x:gO} {t t2 e:gT} {size i off dl m:Nat} {ln:List AV} (ho:o.op=.call { callee:=.builtin .copy,args:=#[d,x],argTypes:=#[t,t2] }) (ht:slElem P t=some (e,size)) (hd:zR gm Wq d=.sl i off dl) (hx:srcA A size (zR gm Wq x)=some (m,ln)) (hm:0<m) (hmd:m<=dl) (hs:storeA A i off ln=some A') :
  OpOk P gm Wq A o (.v (.int .i64 m)) A':=fun φ F H a hg hH hE=>by
 rw [yR ho];obtain ⟨bx,capx,ys,ex,hys,hln,hrn,hfirst⟩   := zfO (P:=P) hH hx (zD hg hE x);have hd':=zD hg hE d;rw [hd] at hd';obtain ⟨hi,cap,b,hlc,hb,ed⟩:=zaW hd';obtain ⟨ti,e1,e2,e3⟩:=wc ht;simp only [builtin,List.map_toArray,List.map_cons,List.map_nil];refine wpS_v ?_;rw [ed,ex];unfold Builtin.copy_;dsimp only;show wpS P (underlying t >>= _) H _;refine zf _ _ _ (zJ e1 ?_);dsimp only;refine zf _ _ _ ?_
 change wpS P (pure m) H _
 rw [yV];have hmin:Nat.min m dl=m:=Nat.min_eq_left hmd;rw [hmin];refine zf _ _ _ (yx e2 ?_);rw [e3];refine zf _ _ _ ?_;rw [ex] at hfirst
 change wpS P (Builtin.firstCells size m (.slice bx m capx)) H _
 refine hfirst _ ?_;rw [hb oQ];dsimp only;refine zf _ _ _ (zbi hH hs hrn fun H' hH' Wb=>?_);exact ⟨_,φ,.inl rfl,Agr.refl _ _,oQ,hH',.v _⟩
theorem zoN {d x:gO} {t t2 e:gT} {size i off dl m:Nat} {ln:List AV} {ob ob':AObj} (ho:o.op=.call { callee:=.builtin .copy,args:=#[d,x],argTypes:=#[t,t2] }) (hd:zo gm Wq d=some (.sl i off dl)) (ht:slElem P t=some (e,size)) (hx:srcO V size (zR gm Wq x) m ln) (hm:0<m) (hmd:m<=dl) (hi:(i,ob)∈V) (hs:putO ob off ln=some ob') :
  ∀ A,zV V A->OpOk P gm Wq A o (.v (.int .i64 m)) (A.set i ob'):=fun A hA=>zmT ho ht (zA hd) (hx A hA) hm hmd (zbc (hA.get hi) hs)
end
theorem zlC {s:List Int} (h:s.length<=5) (e:gT) (hp:0<s.length):putO (.cells [za 0,za 0,za 0,za 0,za 0] e tt) 0 (s.map za)=some (.cells (stC s) e tt):=by
 unfold putO;dsimp only;rw [if_pos ⟨by simp; omega,by simpa using hp,by simp [oneA,oneCell]⟩];rcases s with _ | ⟨a,_ | ⟨b,_ | ⟨c,_ | ⟨d,_ | ⟨f,_ | ⟨g,r⟩⟩⟩⟩⟩⟩
 ·rfl
 ·rfl
 ·rfl
 ·rfl
 ·rfl
 ·rfl
 ·simp at h
theorem zjX {l:List Int} {e:gT} {rw':Bool} (hp:0<l.length):yj (.cells (l.map za) e rw') 0 (l.length*1)=some (l.map za):=by
 simp only [yj,AObj.look];rw [if_pos ⟨by omega,by rw [List.length_map]; omega⟩,List.drop_zero,Nat.mul_one,List.take_of_length_le sQ]
end Go.Vel
namespace Go.Vel
open Go Go.Conc Go.Proofs
def gmR:Nat->Option Nat
 | 0=>some 0
 | 1=>some 1
 | _=>none
def zB:AObj:=.cells [.fn 219 [] [],.fn 220 [] [],.fn 221 [] [],.fn 222 [] []] 196 ff
def z7R:List AV:=[za 0,za 0,za 0,za 0,.v (.slice none 0 0),.v (.slice none 0 0),.v (.slice none 0 0)]
def bar2 (x y:Int):Int:=if x≠0 then x else y
def OpenR (b:RBk) (s h e:Nat) (bar:Int) (r:AV):Prop:=(bar=0/\r=.tup [.agg (zH b s h e),za 0])\/(bar≠0/\r=.tup [.agg z7R,za bar])
theorem uL {x y:Int} (h:x≠0):bar2 x y=x:=if_pos h
theorem kv {x y:Int} (h:x=0):bar2 x y=y:=if_neg (fun e=>e h)
theorem zdX (b:RBk) (l:List Int) (i:Nat):((List.range (i+1)).map (stripM b l)).flatMap pairC=((List.range i).map (stripM b l)).flatMap pairC++pairC (stripM b l i):=by
 rw [List.range_succ,lM,List.flatMap_append];simp
theorem zli (b:RBk) (l:List Int) (i:Nat):(((List.range i).map (stripM b l)).flatMap pairC).length=i*2:=by
 rw [yw pairC 2 (fun _=>rfl)]; simp
theorem zcm {b:RBk} {l:List Int} {k:Nat} (hk:k<l.length) (h:(cutS b l k).whole=tt\/b.roll<(stripM b l k).2):fitsM b l=ff:=by
 unfold fitsM;rw [Bool.and_eq_false_iff];right;rw [List.all_eq_false];refine ⟨k,List.mem_range.2 hk,?_⟩;rcases h with h | h
 ·simp [h]
 ·simp; intro _; omega
theorem zjW {b:RBk} {l:List Int} {i:Nat} (h:i<l.length):((List.range l.length).map (stripM b l))[i]? =some (stripM b l i):=by
 rw [lQ,List.getElem?_range h]; rfl
theorem zdg {α:Type} {f:α->List AV} {c:Nat} (hc:∀ x,(f x).length=c) {xs:List α} {x:α} {i:Nat} {n:Int} {e:gT} {sz:Nat} (h:xs[i]? =some x) (hn:n=(i:Int)) (h0:0<c):yj (.row (xs.flatMap f) e sz) (n.toNat*c) c=some (f x):=by
 subst hn;obtain ⟨h1,h2⟩:=lD.1 h;have hle:(i+1)*c<=xs.length*c:=Nat.mul_le_mul_right _ h1;have:(i+1)*c=i*c+c:=Nat.succ_mul ..;simp only [yj,AObj.look,mZ];rw [if_pos ⟨by omega,by rw [yw f c hc]; omega⟩,zaU f c hc _ _ h1,h2]
theorem zc9 {a b c d e f g h:Nat×AObj} {R:KV}:((f::R)++[a,b,c,d,e,g,h]).Perm (a::b::f::c::d::e::g::h::R):=by
 have q:((f::R)++[a,b,c,d,e,g,h]).Perm ([a,b,c,d,e,g,h]++(f::R)):=lH;refine q.trans ?_;have q2:([c,d,e,g,h]++f::R).Perm (f::([c,d,e,g,h]++R)):=List.perm_middle;exact (q2.cons b).cons a
instance:ArEl tp 147 5 3 ff 1:={}
instance:ArEl tp 196 4 137 ff 1:={}
instance:BlOf tp 134 [(0,7)]:={}
instance:zq tp 138 3 1:={}
instance:zq tp 141 3 1:={}
instance:zq tp 187 137 1:={}
instance:ze tp 137 ff 1:={}
instance:ze tp 147 tt 5:={}
instance:ze tp 196 tt 4:={}
instance:ze tp 26 tt 7:={}
instance:TyZ tp 134 [.int .i64 0,.int .i64 0,.int .i64 0,.int .i64 0,.slice none 0 0,.slice none 0 0,.slice none 0 0]:={}
instance:TyZA tp 134 [.v (.int .i64 0),.v (.int .i64 0),.v (.int .i64 0),.v (.int .i64 0),.v (.slice none 0 0),.v (.slice none 0 0),.v (.slice none 0 0)]:={}
instance:TyZA tp 147 [.v (.int .i64 0),.v (.int .i64 0),.v (.int .i64 0),.v (.int .i64 0),.v (.int .i64 0)]:={}
instance:Und tp 138 (.slice 3):={}
instance:Und tp 141 (.slice 3):={}
instance:Und tp 187 (.slice 137):={}
theorem vT {main:Bool} {T:gG->Hp->Prop} (hT:zt tp main T)  {b:RBk} {s h e:Nat} (hl:b.sE.length<=100) (hm:b.mE.length<=100) :
  zr tp T gmR 79 [.agg (zH b s h e)] [(0,zB),(s,zp b),(h,zF b),(e,zz b)] (fun r K'=>r=za (zy b)/\K'=[(0,zB),(s,zp b),(h,zF b),(e,zz b)]):=by
 refine zn 18 hT Tryz.func79 fun Y Wz=>?_;refine au 21042 ?_;intro jb hjb;refine au 1303168042235 ?_;refine TK.loop ?_;refine au 923742 ?_;constructor<;>intro Jz
 ·
  refine au 421302120 ?_;refine bH Z (kH Z Z Z ArEl.h oQ oQ Z) ?_;refine au 44068014235 ?_;refine TK.clE Z Z Z Z (zjG hT) ?_;refine au 93714235 ?_;constructor<;>intro Jx
  ·refine au 35142 ?_;refine bB Wz [(0,_),(s,_),(h,_),(e,_)] ?_;exact ⟨by unfold zy; rw [if_pos (by simpa using Jx)],rfl⟩
  have q1:roundsM b=0:=by simpa using Jx
  have hr:=zap q1;refine au 312304140120 ?_;refine TK.inLoop ?_;refine au 923742 ?_;constructor<;>intro Jz
  ·
   refine au 421302120 ?_;refine bH Z (kH Z Z Z ArEl.h oQ oQ Z) ?_;refine au 44068014235 ?_;refine TK.clE Z Z Z Z (zlA hT hr hl) ?_;refine au 93714235 ?_;constructor<;>intro Jx
   ·refine au 35142 ?_;refine bB Wz [(0,_),(s,_),(h,_),(e,_)] ?_;exact ⟨by unfold zy; rw [if_neg (by simpa using q1),if_pos (by simpa using Jx)],rfl⟩
   have q2:seamsM b=0:=by simpa using Jx
   have hs:=za5 q2;refine au 312304140120 ?_;refine TK.inLoop ?_;refine au 923742 ?_;constructor<;>intro Jz
   ·
    refine au 421302120 ?_;refine bH Z (kH Z Z Z ArEl.h oQ oQ Z) ?_;refine au 44068014235 ?_;refine TK.clE Z Z Z Z (ziE hT hr hs) ?_;refine au 93714235 ?_;constructor<;>intro Jx
    ·refine au 35142 ?_;refine bB Wz [(0,_),(s,_),(h,_),(e,_)] ?_;exact ⟨by unfold zy; rw [if_neg (by simpa using q1),if_neg (by simpa using q2),if_pos (by simpa using Jx)],rfl⟩
    have q3:clothsM b=0:=by simpa using Jx
    refine au 312304140120 ?_;refine TK.inLoop ?_;refine au 923742 ?_;constructor<;>intro Jz
    ·
     refine au 421302120 ?_;refine bH Z (kH Z Z Z ArEl.h oQ oQ Z) ?_;refine au 44068014235 ?_;refine TK.clE Z Z Z Z (zf9 hT hs hm) ?_;refine au 93714235 ?_;constructor<;>intro Jx
     ·refine au 35142 ?_;refine bB Wz [(0,_),(s,_),(h,_),(e,_)] ?_;exact ⟨by unfold zy; rw [if_neg (by simpa using q1),if_neg (by simpa using q2),if_neg (by simpa using q3)],rfl⟩
     refine au 312304140120 ?_;refine TK.inLoop ?_;refine au 923742 ?_;constructor<;>intro Jz
     ·exact absurd Jz dQ
     refine au 3542160 ?_;refine bB Wz [(0,_),(s,_),(h,_),(e,_)] ?_;exact ⟨by unfold zy; rw [if_neg (by simpa using q1),if_neg (by simpa using q2),if_neg (by simpa using q3),show measM b=0 by simpa using Jx],rfl⟩
    exact absurd Jz dQ
   exact absurd Jz dQ
  exact absurd Jz dQ
 exact absurd Jz dQ
theorem wz {main T} (hT:zt tp main T) {gm} {b:RBk} {s h e j:Nat} {l:List Int} {et:gT} (hs:b.sE.length<=5) (hl:l.length<=1000) :
  zr tp T gm 64 [.sl j 0 l.length,.agg (zH b s h e)] [(j,.cells (l.map za) et ff)] (fun r K'=>r=za (cutsM b l)/\K'=[(j,.cells (l.map za) et ff)]):=by
 refine zn 36 hT Tryz.func64 fun Y Wz=>?_;refine au 21042 ?_;intro jb hjb;refine au 937280142235 ?_;constructor<;>intro Jz
 ·refine au 3542 ?_;refine bB Wz [(j,_)] ?_;exact ⟨by unfold cutsM; rw [if_pos (by simp at Jz; simp [Jz])],rfl⟩
 refine au 130312801422120 ?_;refine bA [0,3,4,11,12,13] ?_;refine bE (fun n Wq K=>∃ (i:Nat) (last:Option Int),n=l.length - i/\i<=l.length/\cutsL b last (l.drop i)=cutsM b l/\(0<i->last=some (zK l (i - 1)))/\(i=0->last=none)/\Wq=.sl j 0 l.length::naL 2 (.ptr jb 0::za 0::naL 6 (.sl j 0 l.length::za l.length::za i::naL 22 []))/\K=[(jb,.cells (zH b s h e) 134 tt),(j,.cells (l.map za) et ff)]) l.length ⟨0,none,rfl,mN _,by unfold cutsM; rw [if_neg (by simp at Jz; simp; omega)]; rfl,fun h=>absurd h (Nat.lt_irrefl _),fun _=>rfl,rfl,rfl⟩ fun n Wq K hI Wj=>?_;obtain ⟨i,last,rfl,hi,Qz,hlast,hlast0,rfl,rfl⟩:=hI;refine bG nQ ?_;refine au 923742 ?_;constructor<;>intro Jx
 ·have Qb:i<l.length:=by simp at Jx; omega
  refine au 3601421302120 ?_;refine bH Z (zj Z Z ze.h mQ (yb (i:=i) (ya Qb) Z)) ?_;refine au 6801422355 ?_;refine TK.clE Z Z Z Z (ui hT oQ) ?_;refine au 93714235 ?_;constructor<;>intro hc2
  ·refine au 35142 ?_;refine bB Wz [(j,_)] ?_;exact ⟨by rw [<- Qz,zM (ya Qb),cutsL,if_pos (by simpa using hc2)],rfl⟩
  refine au 17142120 ?_;refine bF 26 (fun g9_3=>?_) (fun g9_3=>?_)
  ·have hi0:0<i:=by simp at g9_3; omega
   refine au 360240111 ?_;refine bH Z (zj Z Z ze.h mQ (yb (i:=i - 1) (ya oQ) oQ)) ?_;refine au 932607 ?_;constructor<;>intro hc3
   ·refine au 3542 ?_;refine bB Wz [(j,_)] ?_;exact ⟨by rw [<- Qz,zM (ya Qb),cutsL,if_neg (by simpa using hc2),if_pos (by obtain rfl:=hlast (by simp at g9_3; omega); exact hc3)],rfl⟩
   refine au 312304140120 ?_;refine bA [0,3,4,11,12,13] ?_;refine bC [(jb,_),(j,_)] ?_;exact Wj _ _ _ oQ ⟨i+1,some (zK l i),rfl,oQ,by rw [<- Qz,zM (ya Qb),cutsL,if_neg (by simpa using hc2),if_neg (by obtain rfl:=hlast (by simp at g9_3; omega); simpa [notAft] using hc3)],fun _=>rfl,fun h=>by omega,rfl,rfl⟩
  refine au 31230414012019032508888888 ?_;refine bA [0,3,4,11,12,13] ?_;refine bC [(jb,_),(j,_)] ?_;exact Wj _ _ _ oQ ⟨i+1,some (zK l i),rfl,oQ,by rw [<- Qz,zM (ya Qb),cutsL,if_neg (by simpa using hc2),if_neg (by obtain rfl:=hlast0 (by simp at g9_3; omega); simp [notAft])],fun _=>rfl,fun h=>by omega,rfl,rfl⟩
 obtain rfl:i=l.length:=by simp at Jx; omega
 refine au 3542160 ?_;refine bB Wz [(j,_)] ?_;exact ⟨by rw [<- Qz,List.drop_length]; rfl,rfl⟩
theorem zfH {main T} (hT:zt tp main T) {gm} {b:RBk} {s h e j:Nat} {l:List Int} {et:gT} (hr:RndOk b) (hs:SmOk b) :
  zr tp T gm 67 [.sl j 0 l.length,.agg (zH b s h e)] [(s,zp b),(j,.cells (l.map za) et ff)] (fun r K'=>r=za (shM b l)/\K'=[(s,zp b),(j,.cells (l.map za) et ff)]):=by
 refine zn 32 hT Tryz.func67 fun Y Wz=>?_;refine au 0 ?_;have hs5:=hs.len;refine au 21042 ?_;intro jb hjb;refine au 937280690670670280142235 ?_;constructor<;>intro Jz
 ·refine au 3542 ?_;refine bB Wz [(s,_),(j,_)] ?_;exact ⟨by unfold shM; rw [if_pos (by simp at Jz; omega)],rfl⟩
 have hle:l.length=b.sE.length:=by simp at Jz; omega
 refine au 130312801422120 ?_;refine bA [0,3,4,14,15,16] ?_;refine bE (fun n Wq K=>∃ (i:Nat),n=l.length - i/\i<=l.length/\shL b i (l.drop i)=shM b l/\Wq=.sl j 0 l.length::naL 2 (.ptr jb 0::za 0::naL 9 (.sl j 0 l.length::za l.length::za i::naL 15 []))/\K=[(jb,.cells (zH b s h e) 134 tt),(s,zp b),(j,.cells (l.map za) et ff)]) l.length ⟨0,rfl,mN _,by unfold shM; rw [if_neg (by simpa using hle)]; rfl,rfl,rfl⟩ fun n Wq K hI Wj=>?_;obtain ⟨i,rfl,hi,Qz,rfl,rfl⟩:=hI;refine bG nQ ?_;refine au 923742 ?_;constructor<;>intro Jx
 ·have Qb:i<l.length:=by simp at Jx; omega
  refine au 3601421302120 ?_;refine bH Z (zj Z Z ze.h mQ (yb (i:=i) (ya Qb) Z)) ?_;refine au 142130355 ?_;refine TK.clE Z Z Z Z (yO hT) ?_;refine au 935300 ?_;constructor<;>intro hc2
  ·refine au 3542 ?_;refine bB Wz [(s,_),(j,_)] ?_;exact ⟨by rw [<- Qz,zM (ya Qb),shL,if_pos (by simpa using hc2)],rfl⟩
  refine au 1680142 ?_;refine TK.clE Z Z Z Z (zdo hT (i:=i) hr hs oQ) ?_;refine au 9357 ?_;constructor<;>intro hc3
  ·refine au 3542 ?_;refine bB Wz [(s,_),(j,_)] ?_;exact ⟨by rw [<- Qz,zM (ya Qb),shL,if_neg (by simpa using hc2),if_pos (of_decide_eq_true hc3)],rfl⟩
  refine au 312304140140120 ?_;refine bA [0,3,4,14,15,16] ?_;refine bC [(jb,_),(s,_),(j,_)] ?_;exact Wj _ _ _ oQ ⟨i+1,rfl,oQ,by rw [<- Qz,zM (ya Qb),shL,if_neg (by simpa using hc2),if_neg (of_decide_eq_false hc3)],rfl,rfl⟩
 obtain rfl:i=l.length:=by simp at Jx; omega
 refine au 3542160 ?_;refine bB Wz [(s,_),(j,_)] ?_;exact ⟨by rw [<- Qz,List.drop_length]; rfl,rfl⟩
theorem zal {main:Bool} {T:gG->Hp->Prop} (hT:zt tp main T)  {b:RBk} {s h e:Nat} {Kx:KV}  (hl:b.sE.length<=100) (hm:b.mE.length<=100)  :
  zr tp T gmR 63 [.agg (zH b s h e),.v (.slice none 0 0)] ((0,zB)::(s,zp b)::(h,zF b)::(e,zz b)::Kx) (fun r K'=>OpenR b s h e (zy b) r/\K'=(0,zB)::(s,zp b)::(h,zF b)::(e,zz b)::Kx):=by
 refine zn 34 hT Tryz.func63 fun Y Wz=>?_;refine au 21042 ?_;intro jb hjb;refine au 220 ?_;intro jr hjr;refine au 68042235 ?_;refine bD Z Z Z Z (vT hT hl hm) ?_ (hs:=(.right (.right (.left (.left (.left (.left (.none _))))))));rintro r1 K2 ⟨rfl,rfl⟩;refine au 93714235 ?_;constructor<;>intro Jz
 ·refine au 35170144042 ?_;refine bB Wz ((0,_)::(s,_)::(h,_)::(e,_)::Kx) ?_;exact ⟨.inr ⟨by exact (by simpa using Jz),by rfl⟩,rfl⟩
 have q0:zy b=0:=by simpa using Jz
 refine au 22044068042120 ?_;intro jx hjx;refine au 1303128014223170 ?_;refine TK.loop ?_;refine au 923742 ?_;constructor<;>intro Jx
 ·exact absurd Jx dQ
 refine au 3517068042160 ?_;refine bB Wz ((0,_)::(s,_)::(h,_)::(e,_)::Kx) ?_;exact ⟨.inl ⟨q0,rfl⟩,rfl⟩
theorem vI {main:Bool} {T:gG->Hp->Prop} (hT:zt tp main T)  {b:RBk} {s h e ja:Nat} {Kx:KV} {f1:AV} {p1:Int} (hl:b.sE.length<=100) (hm:b.mE.length<=100) (hf1:zy b=0->CallFK tp T gmR f1 [.agg (zH b s h e)] ((s,zp b)::Kx) (fun r K'=>r=za p1/\K'=(s,zp b)::Kx)) :
  zr tp T gmR 63 [.agg (zH b s h e),.row ja 1] ((ja,.row [f1] 137 1)::(0,zB)::(s,zp b)::(h,zF b)::(e,zz b)::Kx) (fun r K'=>OpenR b s h e (bar2 (zy b) p1) r/\K'=(ja,.row [f1] 137 1)::(0,zB)::(s,zp b)::(h,zF b)::(e,zz b)::Kx):=by
 refine zn 34 hT Tryz.func63 fun Y Wz=>?_;refine au 21042 ?_;intro jb hjb;refine au 220 ?_;intro jr hjr;refine au 68042235 ?_;refine bD Z Z Z Z (vT hT hl hm) ?_ (hs:=(.right (.right (.right (.left (.left (.left (.left (.none _)))))))));rintro r1 K2 ⟨rfl,rfl⟩;refine au 93714235 ?_;constructor<;>intro Jz
 ·refine au 35170144042 ?_;refine bB Wz ((ja,_)::(0,_)::(s,_)::(h,_)::(e,_)::Kx) ?_;exact ⟨.inr ⟨by rw [uL (by simpa using Jz)]; exact (by simpa using Jz),by rw [uL (by simpa using Jz)]; rfl⟩,rfl⟩
 have q0:zy b=0:=by simpa using Jz
 refine au 22044068042120 ?_;intro jx hjx;refine au 1303128014223170 ?_;refine TK.loop ?_;refine au 923742 ?_;constructor<;>intro Jx
 ·
  refine au 68014235690370421302120 ?_;refine TK.callF' Z Z Z Z Z (hf1 q0) (.right (.right (.left (.right (.right (.right (.right (.right (.all _))))))))) fun r4 K5 h6=>?_;obtain ⟨rfl,rfl⟩:=h6;refine au 0 ?_;refine TK.perm (K':=(jx,_)::(0,_)::(s,_)::(h,_)::(e,_)::(jr,_)::(jb,_)::(ja,_)::Kx) zc9 ?_;refine au 93714235 ?_;constructor<;>intro hc2
  ·refine au 35170144042 ?_;refine bB Wz ((ja,_)::(0,_)::(s,_)::(h,_)::(e,_)::Kx) ?_;exact ⟨.inr ⟨by rw [kv q0]; simpa using hc2,by rw [kv q0]; rfl⟩,rfl⟩
  have q1:p1=0:=by simpa using hc2
  refine au 312304140120 ?_;refine TK.inLoop ?_;refine au 923742 ?_;constructor<;>intro Jx
  ·exact absurd Jx dQ
  refine au 3517068042160 ?_;refine bB Wz ((ja,_)::(0,_)::(s,_)::(h,_)::(e,_)::Kx) ?_;exact ⟨.inl ⟨by rw [kv q0]; exact q1,rfl⟩,rfl⟩
 exact absurd Jx dQ
theorem zcA {main:Bool} {T:gG->Hp->Prop} (hT:zt tp main T)  {b:RBk} {s h e ja:Nat} {Kx:KV} {f1:AV} {p1:Int} {f2:AV} {p2:Int} (hl:b.sE.length<=100) (hm:b.mE.length<=100) (hf1:zy b=0->CallFK tp T gmR f1 [.agg (zH b s h e)] ((s,zp b)::Kx) (fun r K'=>r=za p1/\K'=(s,zp b)::Kx)) (hf2:zy b=0->CallFK tp T gmR f2 [.agg (zH b s h e)] ((s,zp b)::Kx) (fun r K'=>r=za p2/\K'=(s,zp b)::Kx)) :
  zr tp T gmR 63 [.agg (zH b s h e),.row ja 2] ((ja,.row [f1,f2] 137 1)::(0,zB)::(s,zp b)::(h,zF b)::(e,zz b)::Kx) (fun r K'=>OpenR b s h e (bar2 (zy b) (bar2 p1 p2)) r/\K'=(ja,.row [f1,f2] 137 1)::(0,zB)::(s,zp b)::(h,zF b)::(e,zz b)::Kx):=by
 refine zn 34 hT Tryz.func63 fun Y Wz=>?_;refine au 21042 ?_;intro jb hjb;refine au 220 ?_;intro jr hjr;refine au 68042235 ?_;refine bD Z Z Z Z (vT hT hl hm) ?_ (hs:=(.right (.right (.right (.left (.left (.left (.left (.none _)))))))));rintro r1 K2 ⟨rfl,rfl⟩;refine au 93714235 ?_;constructor<;>intro Jz
 ·refine au 35170144042 ?_;refine bB Wz ((ja,_)::(0,_)::(s,_)::(h,_)::(e,_)::Kx) ?_;exact ⟨.inr ⟨by rw [uL (by simpa using Jz)]; exact (by simpa using Jz),by rw [uL (by simpa using Jz)]; rfl⟩,rfl⟩
 have q0:zy b=0:=by simpa using Jz
 refine au 22044068042120 ?_;intro jx hjx;refine au 1303128014223170 ?_;refine TK.loop ?_;refine au 923742 ?_;constructor<;>intro Jx
 ·
  refine au 68014235690370421302120 ?_;refine TK.callF' Z Z Z Z Z (hf1 q0) (.right (.right (.left (.right (.right (.right (.right (.right (.all _))))))))) fun r4 K5 h6=>?_;obtain ⟨rfl,rfl⟩:=h6;refine au 0 ?_;refine TK.perm (K':=(jx,_)::(0,_)::(s,_)::(h,_)::(e,_)::(jr,_)::(jb,_)::(ja,_)::Kx) zc9 ?_;refine au 93714235 ?_;constructor<;>intro hc2
  ·refine au 35170144042 ?_;refine bB Wz ((ja,_)::(0,_)::(s,_)::(h,_)::(e,_)::Kx) ?_;exact ⟨.inr ⟨by rw [kv q0,uL (by simpa using hc2)]; simpa using hc2,by rw [kv q0,uL (by simpa using hc2)]; rfl⟩,rfl⟩
  have q1:p1=0:=by simpa using hc2
  refine au 312304140120 ?_;refine TK.inLoop ?_;refine au 923742 ?_;constructor<;>intro Jx
  ·
   refine au 68014235690370421302120 ?_;refine TK.callF' Z Z Z Z Z (hf2 q0) (.right (.right (.left (.right (.right (.right (.right (.right (.all _))))))))) fun r7 K8 h9=>?_;obtain ⟨rfl,rfl⟩:=h9;refine au 0 ?_;refine TK.perm (K':=(jx,_)::(0,_)::(s,_)::(h,_)::(e,_)::(jr,_)::(jb,_)::(ja,_)::Kx) zc9 ?_;refine au 93714235 ?_;constructor<;>intro hc2
   ·refine au 35170144042 ?_;refine bB Wz ((ja,_)::(0,_)::(s,_)::(h,_)::(e,_)::Kx) ?_;exact ⟨.inr ⟨by rw [kv q0,kv q1]; simpa using hc2,by rw [kv q0,kv q1]; rfl⟩,rfl⟩
   have q2:p2=0:=by simpa using hc2
   refine au 312304140120 ?_;refine TK.inLoop ?_;refine au 923742 ?_;constructor<;>intro Jx
   ·exact absurd Jx dQ
   refine au 3517068042160 ?_;refine bB Wz ((ja,_)::(0,_)::(s,_)::(h,_)::(e,_)::Kx) ?_;exact ⟨.inl ⟨by rw [kv q0,kv q1]; exact q2,rfl⟩,rfl⟩
  exact absurd Jx dQ
 exact absurd Jx dQ
theorem zaw {main T} (hT:zt tp main T) {gm} {j:Nat} {l:List Int} {et:gT} (h5:l.length<=5) (h0:0<l.length) :
  zr tp T gm 69 [.sl j 0 l.length] [(j,.cells (l.map za) et ff)] (fun r K'=>r=.agg (stC l)/\K'=[(j,.cells (l.map za) et ff)]):=by
 refine zn 8 hT Tryz.func69 fun Y Wz=>?_;refine au 22042 ?_;intro jr hjr;refine au 220423 ?_;intro ja hja;refine au 423 ?_;refine bH Z (zic Z Z ArEl.h Z Z oQ oQ Z) ?_;refine au 1 ?_;refine TK.st Z Z Z (zoN Z Z zq.h (wG mQ oQ (zjX h0)) h0 h5 mQ (zlC h5 _ h0)) uQ (zx Z tQ) ?_;refine au 3170680423 ?_;refine bB Wz [(j,_)] ?_;exact ⟨rfl,rfl⟩
theorem zeM {main T} (hT:zt tp main T) {gm} {b:RBk} {s h e:Nat} {l:List Int} (hb:ROk b) (hl:StOk b l) :
  zr tp T gm 76 [.agg (zH b s h e),.agg (stC l)] [] (fun r K'=>r=za (freshM b l)/\K'=[]):=by
 refine zn 24 hT Tryz.func76 fun Y Wz=>?_;refine au 0 ?_;have f0:=hl.slot hb 0;have f1:=hl.slot hb 1;have f2:=hl.slot hb 2;have f3:=hl.slot hb 3;have f4:=hl.slot hb 4;have hst:=hb.rnd.steps;have hrd:=hb.rnd.round;refine au 21042 ?_;intro jb hjb;refine au 210 ?_;intro js hjs;refine au 13031680422352406906706706906706704235 ?_;refine TK.loop ?_;refine au 923742 ?_;constructor<;>intro Jz
 ·
  refine au 421302120 ?_;refine bH Z (kH Z Z Z ArEl.h oQ oQ Z) ?_;refine au 3123041403523011435 ?_;refine TK.inLoop ?_;refine au 923742 ?_;constructor<;>intro Jz
  ·
   refine au 421302120 ?_;refine bH Z (kH Z Z Z ArEl.h oQ oQ Z) ?_;refine au 3123041403523011435 ?_;refine TK.inLoop ?_;refine au 923742 ?_;constructor<;>intro Jz
   ·
    refine au 421302120 ?_;refine bH Z (kH Z Z Z ArEl.h oQ oQ Z) ?_;refine au 3123041403523011435 ?_;refine TK.inLoop ?_;refine au 923742 ?_;constructor<;>intro Jz
    ·
     refine au 421302120 ?_;refine bH Z (kH Z Z Z ArEl.h oQ oQ Z) ?_;refine au 3123041403523011435 ?_;refine TK.inLoop ?_;refine au 923742 ?_;constructor<;>intro Jz
     ·
      refine au 421302120 ?_;refine bH Z (kH Z Z Z ArEl.h oQ oQ Z) ?_;refine au 3123041403523011435 ?_;refine TK.inLoop ?_;refine au 923742 ?_;constructor<;>intro Jz
      ·exact absurd Jz dQ
      refine au 35142160 ?_;refine bB Wz [] ?_;exact ⟨by show za _=za _; unfold freshM; congr 1; omega,rfl⟩
     exact absurd Jz dQ
    exact absurd Jz dQ
   exact absurd Jz dQ
  exact absurd Jz dQ
 exact absurd Jz dQ
end Go.Vel
namespace Go.Vel
structure MkR where
 what:ByteArray
 col:Int
 row:Int
 deriving Inhabited
structure SkT where
 name:ByteArray
 flo:Int
 fhi:Int
 wide:Int
 slo:Int
 shi:Int
 mK:List MkR
 deriving Inhabited
structure StpB where
 steps:Int
 wrong:Int
 sks:List SkT
structure VwT where
 fr:List Int
 st:List Int
 wr:Nat
def bitT (w i:Nat):Bool:=w / 2 ^ i % 2==1
def placeT (steps:Int) (v:VwT) (i:Nat) (m:MkR):Int×Int:=((v.fr.getD i 0+m.col) % steps,m.row+v.st.getD i 0)
def marksT (steps:Int) (v:VwT) (i:Nat) (l:List MkR):List (ByteArray×(Int×Int)):=l.map fun m=>(m.what,placeT steps v i m)
def seenT (steps:Int) (v:VwT) (i:Nat) (x:SkT):List (ByteArray×(Int×Int)):=if bitT v.wr i=tt then [] else marksT steps v i x.mK
def yc (steps:Int) (v:VwT):Nat->List SkT->List (ByteArray×(Int×Int))
 | _,[]=>[]
 | i,x::l=>seenT steps v i x++yc steps v (i+1) l
def consT (p q:ByteArray×(Int×Int)):Bool := !decide (p.1=q.1)||decide (p.2=q.2)
def okL:List (ByteArray×(Int×Int))->Bool
 | []=>tt
 | p::l=>l.all (consT p)&&okL l
theorem okL_S (l:List (ByteArray×(Int×Int))) (p:ByteArray×(Int×Int)):okL (l++[p])=(okL l&&l.all fun q=>consT q p):=by
 induction l with
 | nil=>rfl
 | cons q l ih =>
  show ((l++[p]).all (consT q)&&okL (l++[p]))=((l.all (consT q)&&okL l)&&(consT q p&&l.all fun q=>consT q p));rw [ih,List.all_append];simp only [List.all_cons,List.all_nil,Bool.and_true];cases l.all (consT q) <;> cases consT q p <;> cases okL l <;> cases (l.all fun q=>consT q p) <;> rfl
theorem zmS {l r:List (ByteArray×(Int×Int))} (h:okL l=ff):okL (l++r)=ff:=by
 induction l with
 | nil=>cases h
 | cons q l ih =>
  show ((l++r).all (consT q)&&okL (l++r))=ff;have h:(l.all (consT q)&&okL l)=ff:=h;rw [List.all_append];cases h1:l.all (consT q) with
  | false=>rfl
  | true =>
   rw [h1] at h;rw [ih (by simpa using h),Bool.and_false]
theorem uB (steps:Int) (v:VwT):∀ (i:Nat) (a b:List SkT),yc steps v i (a++b)=yc steps v i a++yc steps v (i+a.length) b
 | i,[],b=>by simp [yc]
 | i,x::a,b=>by
  show seenT steps v i x++yc steps v (i+1) (a++b)=(seenT steps v i x++yc steps v (i+1) a)++_;rw [uB steps v (i+1) a b,List.append_assoc,lZ];congr 2;rw [show i+1+a.length=i+(a.length+1) by omega]
def agreeT (steps:Int) (l:List SkT) (v:VwT):Bool:=okL (yc steps v 0 l)
def numsT (lo hi:Int):List Int:=(List.range (hi+1 - lo).toNat).map fun (k:Nat)=>lo+k
theorem zgY {lo hi:Int} (h:lo<=hi):numsT lo hi=lo::numsT (lo+1) hi:=by
 unfold numsT;rw [show (hi+1 - lo).toNat=(hi+1 - (lo+1)).toNat+1 by omega,List.range_succ_eq_map,List.map_cons,List.map_map];congr 1
 ·simp
 ·refine mA fun k _=>?_;simp only [Function.comp];omega
theorem zdT {lo hi:Int} (h:¬ lo<=hi):numsT lo hi=[]:=by
 unfold numsT;rw [show (hi+1 - lo).toNat=0 by omega]; rfl
theorem uw {lo hi n:Int}:n∈numsT lo hi↔lo<=n/\n<=hi:=by
 unfold numsT;rw [lY];constructor
 ·rintro ⟨k,hk,rfl⟩;have:=List.mem_range.1 hk;omega
 ·rintro ⟨h1,h2⟩;exact ⟨(n - lo).toNat,List.mem_range.2 oQ,oQ⟩
def viewT (ag:VwT->Bool) (w:Nat):List SkT->Nat->List Int->List Int->List VwT
 | [],_,f,s=>if ag ⟨f,s,w⟩=tt then [⟨f,s,w⟩] else []
 | x::l,n,f,s=>(numsT x.flo x.fhi).flatMap fun a=>(numsT x.slo x.shi).flatMap fun c=>viewT ag w l (n+1) (f.set n a) (s.set n c)
def zero4:List Int:=[0,0,0,0]
def viewsT (b:StpB) (w:Nat):List VwT:=viewT (agreeT b.steps b.sks) w b.sks 0 zero4 zero4
def onesT:Nat->Nat->Nat
 | 0,_=>0
 | k+1,w=>(if bitT w k=tt then 1 else 0)+onesT k w
def allI (b:StpB) (n:Nat):List VwT:=(List.range n).flatMap fun w=>if (onesT 4 w:Int)<=b.wrong then viewsT b w else []
def allT (b:StpB):List VwT:=allI b (2 ^ b.sks.length)
theorem ziq (b:StpB) (n:Nat):allI b (n+1)=allI b n++if (onesT 4 n:Int)<=b.wrong then viewsT b n else []:=by
 unfold allI;rw [List.range_succ,List.flatMap_append,List.flatMap_cons,List.flatMap_nil,lR]
def levelX (x:SkT) (v:Int):SkT:={ x with slo:=v,shi:=v }
def levelT (b:StpB) (i:Nat) (v:Int):StpB:={ b with sks:=b.sks.modify i fun x=>levelX x v }
def putL (f:List Int):Nat->List Int->List Int
 | _,[]=>f
 | n,a::l=>putL (f.set n a) (n+1) l
theorem zg5:∀ (l f:List Int) (n k:Nat),k<n->(putL f n l).getD k 0=f.getD k 0
 | [],_,_,_,_=>rfl
 | a::l,f,n,k,h=>by
  show (putL (f.set n a) (n+1) l).getD k 0=_;rw [zg5 l _ _ _ oQ,lE,lP oQ,<- lE]
theorem zbu:∀ (l f:List Int) (n k:Nat),k<l.length->n+l.length<=f.length->(putL f n l).getD (n+k) 0=l.getD k 0
 | [],_,_,_,h,_=>by cases h
 | a::l,f,n,0,_,h=>by
  show (putL (f.set n a) (n+1) l).getD n 0=a;rw [zg5 l _ _ _ oQ,lE,List.getElem?_set_self (by simp at h; omega)];rfl
 | a::l,f,n,k+1,h,h2=>by
  show (putL (f.set n a) (n+1) l).getD (n+(k+1)) 0=l.getD k 0;rw [show n+(k+1)=n+1+k by omega];exact zbu l _ _ _ (by simpa using h) (by rw [List.length_set]; simp at h2; omega)
theorem zdk {ag:VwT->Bool} {w:Nat} {v:VwT}:∀ (l:List SkT) (n:Nat) (f s:List Int),v∈viewT ag w l n f s->ag v=tt/\v.wr=w/\∃ A C,A.length=l.length/\C.length=l.length/\v.fr=putL f n A/\v.st=putL s n C/\∀ k x,l[k]? =some x->(x.flo<=A.getD k 0/\A.getD k 0<=x.fhi)/\x.slo<=C.getD k 0/\C.getD k 0<=x.shi
 | [],n,f,s,h=>by
  unfold viewT at h;split at h
  ·rename_i h1;rw [lS.1 h];exact ⟨h1,rfl,[],[],rfl,rfl,rfl,rfl,fun k x hx=>by simp at hx⟩
  ·cases h
 | x::l,n,f,s,h=>by
  unfold viewT at h;obtain ⟨a,ha,h⟩:=List.mem_flatMap.1 h;obtain ⟨c,hc,h⟩:=List.mem_flatMap.1 h;have ha:=uw.1 ha;have hc:=uw.1 hc;obtain ⟨h1,h2,A,C,h3,h4,h5,h6,h7⟩:=zdk l _ _ _ h;refine ⟨h1,h2,a::A,c::C,congrArg (· + 1) h3,congrArg (· + 1) h4,h5,h6,fun k y hy=>?_⟩;cases k with
  | zero=>cases hy; exact ⟨ha,hc⟩
  | succ k=>exact h7 k y hy
theorem zdl {ag:VwT->Bool} {w:Nat}:∀ (l:List SkT) (n:Nat) (f s A C:List Int),A.length=l.length->C.length=l.length->(∀ k x,l[k]? =some x->(x.flo<=A.getD k 0/\A.getD k 0<=x.fhi)/\x.slo<=C.getD k 0/\C.getD k 0<=x.shi)->ag ⟨putL f n A,putL s n C,w⟩=tt->⟨putL f n A,putL s n C,w⟩∈viewT ag w l n f s
 | [],n,f,s,A,C,h1,h2,_,h=>by
  obtain rfl:=lK h1;obtain rfl:=lK h2;unfold viewT;have h:ag ⟨f,s,w⟩=tt:=h;rw [if_pos h];exact lS.2 rfl
 | x::l,n,f,s,A,C,h1,h2,h3,h=>by
  match A,C,h1,h2 with
  | a::A,c::C,h1,h2 =>
   have h0:=h3 0 x rfl;unfold viewT;refine List.mem_flatMap.2 ⟨a,uw.2 h0.1,List.mem_flatMap.2 ⟨c,uw.2 h0.2,?_⟩⟩;exact zdl l (n+1) _ _ A C (by simpa using h1) (by simpa using h2) (fun k y hy=>h3 (k+1) y hy) h
theorem zaj {b:StpB} {v:VwT}:v∈allT b↔∃ w,w<2 ^ b.sks.length/\(onesT 4 w:Int)<=b.wrong/\v∈viewsT b w:=by
 unfold allT allI;rw [List.mem_flatMap];constructor
 ·rintro ⟨w,hw,h⟩;split at h
  ·exact ⟨w,List.mem_range.1 hw,by assumption,h⟩
  ·cases h
 ·rintro ⟨w,h1,h2,h3⟩;exact ⟨w,List.mem_range.2 h1,by rw [if_pos h2]; exact h3⟩
theorem zbR {b:StpB} {v:VwT} (hn:b.sks.length<=4) (h:v∈allT b) {i:Nat} {x:SkT} (hx:b.sks[i]? =some x):x.slo<=v.st.getD i 0/\v.st.getD i 0<=x.shi:=by
 obtain ⟨w,_,_,h⟩:=zaj.1 h;obtain ⟨_,_,A,C,h3,h4,_,h6,h7⟩:=zdk _ _ _ _ h;have hi:i<b.sks.length:=(lD.1 hx).1;rw [h6,show i=0+i by omega,zbu C zero4 0 i oQ (by show 0+C.length<=4; omega)];exact (h7 i x hx).2
theorem zdN {b:StpB} {i:Nat} {v:Int} {k:Nat} {y:SkT} (h:(levelT b i v).sks[k]? =some y):∃ x,b.sks[k]? =some x/\y=if i=k then levelX x v else x:=by
 have h:(b.sks.modify i fun x=>levelX x v)[k]? =some y:=h;rw [List.getElem?_modify] at h;cases hx:b.sks[k]? with
 | none=>rw [hx] at h; cases h
 | some x =>
  rw [hx] at h;refine ⟨x,rfl,?_⟩;have h:=Option.some.inj h;rw [<- h]
theorem ut (b:StpB) (i:Nat) (v:Int):(levelT b i v).sks.length=b.sks.length:=List.length_modify ..
theorem zct {steps:Int} {v:VwT} {c:Int}:∀ (l:List SkT) (i n:Nat),yc steps v n (l.modify i fun x=>levelX x c)=yc steps v n l
 | [],i,n=>by cases i <;> rfl
 | x::l,0,n=>rfl
 | x::l,i+1,n=>by
  show seenT steps v n x++yc steps v (n+1) (l.modify i fun x=>levelX x c)=_;rw [zct l i (n+1)];rfl
theorem zds {b:StpB} {v:VwT} (hn:b.sks.length<=4) {i:Nat} (h:v∈allT b) (hi:i<b.sks.length):v∈allT (levelT b i (v.st.getD i 0)):=by
 obtain ⟨w,h1,h2,h3⟩:=zaj.1 h;obtain ⟨hag,hw,A,C,h4,h5,h6,h7,h8⟩:=zdk _ _ _ _ h3;refine zaj.2 ⟨w,by rw [ut]; exact h1,h2,?_⟩;obtain ⟨fr,st,wr⟩:=v;have h6:fr=putL zero4 0 A:=h6;have h7:st=putL zero4 0 C:=h7;have hw:wr=w:=hw;subst h6 h7 hw;refine zdl _ _ _ _ A C (by rw [h4,ut]) (by rw [h5,ut]) (fun k y hy=>?_) ?_
 ·obtain ⟨x,hx,e⟩:=zdN hy;have h9:=h8 k x hx;by_cases hk:i=k
  ·subst hk;rw [if_pos rfl] at e;subst e;have e2:(putL zero4 0 C).getD i 0=C.getD i 0:=by
    have:=zbu C zero4 0 i oQ (by show 0+C.length<=4; omega);rwa [show 0+i=i by omega] at this
   exact ⟨h9.1,by show (putL zero4 0 C).getD i 0<=C.getD i 0; rw [e2]; exact Int.le_refl _,by show C.getD i 0<=(putL zero4 0 C).getD i 0; rw [e2]; exact Int.le_refl _⟩
  ·rw [if_neg hk] at e;subst e;exact h9
 ·rw [<- hag];unfold agreeT;rw [show yc (levelT b i _).steps _ 0 (levelT b i _).sks=yc b.steps _ 0 b.sks from zct b.sks i 0]
end Go.Vel
namespace Go.Vel
open Go Go.Conc
section
variable {P:gP} {gm:Nat->Option Nat} {V:KV} {Wq:List AV} {o:Oper} {r:AV}
theorem zh0 {t e:gT} {ti:TypeInfo} {z:Value} {x y:gO} {n:Nat} (ho:o.op=.makeSlice t x y) (hx:zo gm Wq x=some (.v (.int .i64 n))) (hy:zo gm Wq y=some (.v (.int .i64 n))) (ht:P.underlying t=some (.slice e)) (hi:P.info? e=some ti) (hz:ti.zero=some z) (hzc:z.cells=#[.int .i64 0]) (hs:ti.size=1) (hb:ti.bytes=8) (h0:0<n) (hn:n<=1000) :
  Nk P gm Wq V o (fun j=>.sl j 0 n) (.cells (mB n (.v (.int .i64 0))) e tt):=fun A _ φ F H a hg hH hE=>by
 unfold execOp; rw [ho]; dsimp only;have hx':=zD hg hE x;rw [zA hx] at hx';have hy':=zD hg hE y;rw [zA hy] at hy';rw [inv_v hx',inv_v hy'];refine wpS_v ?_;unfold Instr.makeSlice;refine zf _ _ _ (zJ ht ?_);dsimp only;refine zf _ _ _ ?_
 change wpS P (pure (n:Int)) H _
 rw [yV];refine zf _ _ _ ?_
 change wpS P (pure (n:Int)) H _
 rw [yV];refine zf _ _ _ (kV hi ?_);have hw:IntKind.i64.wrap (n:Int)=n:=kg oQ;rw [hw,hb];have hf:((decide ((n:Int)<0)||decide (((8:Nat):Int)*(n:Int)>2 ^ 48))||decide ((n:Int)<0)||decide ((n:Int)>(n:Int)))=ff:=by
  have h1:decide ((n:Int)<0)=ff:=decide_eq_false oQ;have h2:decide (((8:Nat):Int)*(n:Int)>2 ^ 48)=ff:=decide_eq_false oQ;have h3:decide ((n:Int)>(n:Int))=ff:=decide_eq_false oQ;rw [h1,h2,h3]; rfl
 rw [if_neg (by rw [hf]; decide)];have hroom:∀ (b:Nat) (Q:Unit->Hp->Prop),Q () H->wpS P (askRoom b) H Q:=fun b Q hq=>by
  unfold askRoom;split
  ·exact ⟨.inl rfl,hq⟩
  ·exact hq
 refine zf _ _ _ (hroom _ _ ?_);refine zf _ _ _ (yx hi ?_);rw [hs,mZ,Nat.mul_one,if_neg oQ];refine zf _ _ _ (yU hi hz ?_);unfold newRow;refine zf _ _ _ ?_;rw [yV];refine zf _ _ _ ?_;refine zf _ _ _ fun b hb=>?_;have hz1:∀ i:Nat,z.cells[i % z.cells.size]! =.int .i64 0:=fun i=>by
  rw [hzc];show (#[Value.int IntKind.i64 0])[i % 1]! =_;rw [Nat.mod_one]; rfl
 show zZ φ A F (.sl A.length 0 n) (A++[.cells (mB n (.v (.int .i64 0))) e tt]) (.value (.slice (some ⟨b,0,none⟩) n n)) (H.put b (tt,.cells _ e (0,0)));refine ⟨_,upd3 φ A.length ⟨b,0,0⟩,.inl rfl,yF _ _ _,by simp,hH.push hb Z ?_,?_⟩
 ·refine fun _=>⟨tt,_,_,Hp.put_same _ _ _,fun _=>⟨⟨rfl,rfl⟩,by simp [upd3],by simp⟩,fun j u hu=>?_⟩;obtain ⟨hj,rfl⟩:=lD.1 hu;rw [List.getElem_replicate];rw [List.length_replicate] at hj;refine ⟨.int .i64 0,?_,.v _⟩;rw [mO,Array.getElem?_map,Array.getElem?_range,if_pos hj,Option.map_some,hz1]
 ·refine .sl sQ (mL _) fun _=>?_;simp [upd3]
theorem zgX {t e:gT} {x y:gO} {n:Nat} (ho:o.op=.makeSlice t x y) (hx:zo gm Wq x=some (.v (.int .i64 n))) (hy:zo gm Wq y=some (.v (.int .i64 n))) (ha:apOf P t=some (e,1,8)) (hz:tyZero P e=some [.int .i64 0]) (h0:0<n) (hn:n<=1000) :
  Nk P gm Wq V o (fun j=>.sl j 0 n) (.cells ((mB n (0:Int)).map fun a=>.v (.int .i64 a)) e tt):=by
 rw [List.map_replicate];unfold apOf at ha;split at ha
 ·rename_i e' h1;split at ha
  ·rename_i ti h2;split at ha
   ·rename_i z h3;split at ha
    ·rename_i h4;simp only [Option.some.injEq,Prod.mk.injEq] at ha;obtain ⟨rfl,h5,h6⟩:=ha;obtain ⟨i,z',g1,g2,g3⟩:=wH hz;rw [h2] at g1;cases g1;rw [h3] at g2;cases g2;exact zh0 ho hx hy h1 h2 h3 (by rw [<- Array.toList_inj,g3]) h5 h6 h0 hn
    ·cases ha
   ·cases ha
  ·cases ha
 ·cases ha
variable {T:gG->Hp->Prop} {Y:KX P gm T} {ds:List Nat} {k:List Item} {K K':KV} {Qy:Array Oper} {L:List Nat} {Wy:List Pd}
theorem TD.perm (hp:K.Perm K') (h:TD Y ds Qy k Wy L Wq K'):TD Y ds Qy k Wy L Wq K:=fun h1 h2 h3 A hA=>h h1 h2 (fun p hp' x hx=>hp.subset (h3 p hp' x hx)) A
 ⟨hA.view.sub fun x hx=>hp.symm.subset hx,(z7 hp).nodup_iff.1 hA.nd,fun i hi=>hA.own i ((z7 hp).symm.subset hi),hA.kept,hA.len⟩
end
theorem zfE (xs:List AV) (k:Nat) (v:AV) (h:k<xs.length):setL xs k [v]=xs.set k v:=rfl
theorem uV {xs:List Int} {k:Nat} {n v:Int} {e:gT} (h:k<xs.length) (hn:n=(k:Int)):putO (.cells (xs.map za) e tt) (0+n.toNat*1) [za v]=some (.cells ((xs.set k v).map za) e tt):=by
 subst hn;unfold putO;dsimp only;rw [if_pos ⟨by simp; omega,by simp,rfl⟩,zfE _ _ _ (by simp; omega),List.map_set];simp
def dataM (S T:List Int) (x:Int) (j:Nat):List Int:=S.take j++x::(S.drop j++T)
theorem zbn {S T:List Int} {x:Int} {j:Nat} (h:j<=S.length):(dataM S T x j)[j]? =some x:=by
 unfold dataM;rw [lO (by simp; omega)];simp [Nat.min_eq_left h]
theorem um {S T:List Int} {x:Int} {j:Nat} (h:j+1<=S.length):(dataM S T x (j+1))[j]? =S[j]? :=by
 unfold dataM;rw [lG (by simp; omega),List.getElem?_take,if_pos oQ]
theorem zeH {S T:List Int} {x:Int} {j:Nat}:(dataM S T x j).length=S.length+T.length+1:=by
 unfold dataM;simp;omega
theorem zdD {S T:List Int} {x y:Int} {j:Nat} (h:S[j]? =some y):((dataM S T x (j+1)).set (j+1) y).set j x=dataM S T x j:=by
 obtain ⟨h1,rfl⟩:=lD.1 h;unfold dataM;have e1:S.take (j+1)=S.take j++[S[j]]:=by rw [List.take_add_one,h]; rfl
 have e2:S.drop j=S[j]::S.drop (j+1):=List.drop_eq_getElem_cons h1;have l1:(S.take j).length=j:=by simp; omega
 rw [e1,e2];have:(S.take j++[S[j]]++x::(S.drop (j+1)++T)).set (j+1) S[j]=S.take j++S[j]::S[j]::(S.drop (j+1)++T):=by
  rw [List.append_assoc,List.set_append_right _ _ oQ,l1];simp
 rw [this,List.set_append_right _ _ oQ,l1,Nat.sub_self];rfl
theorem zeI (S T:List Int) (x:Int):dataM S T x S.length=S++x::T:=by
 unfold dataM;simp
theorem up {lt:Int->Int->Bool} {x:Int} {S T:List Int} {j:Nat} (h:j<=S.length) (hj:∀ i y,j=i+1->S[i]? =some y->lt x y=ff):dataM S T x j=insJ lt x S j++T:=by
 unfold dataM;cases j with
 | zero=>simp [insJ]
 | succ i =>
  have hi:i<S.length:=by omega
  have e:S[i]? =some S[i]:=lA hi;unfold insJ;rw [e];dsimp only;rw [if_neg (by rw [hj i _ rfl e]; decide)];simp
theorem zgP {lt:Int->Int->Bool} {x y:Int} {S:List Int} {j:Nat} (h:S[j]? =some y) (hl:lt x y=tt):insJ lt x S (j+1)=insJ lt x S j:=by
 conv=>lhs; unfold insJ
 rw [h];dsimp only;rw [if_pos hl]
theorem vg {lt:Int->Int->Bool} {l:List Int} {i:Nat} {x:Int} (h:l[i]? =some x):sortN lt l (i+1)=insJ lt x (sortN lt l i) (sortN lt l i).length:=by
 conv=>lhs; unfold sortN
 rw [h]; rfl
theorem zeZ {lt:Int->Int->Bool} {x:Int} {S:List Int}:∀ j,j<=S.length->∀ z,z∈insJ lt x S j↔z=x\/z∈S
 | 0,_,z=>by simp [insJ]
 | j+1,h,z=>by
  have e:S[j]? =some S[j]:=lA oQ;unfold insJ;rw [e];dsimp only;split
  ·exact zeZ j oQ z
  ·rw [lT,lI];have:z∈S↔z∈S.take (j+1)\/z∈S.drop (j+1):=by rw [<- lT,List.take_append_drop]
   rw [this]
   grind
theorem zba {lt:Int->Int->Bool} {l:List Int}:∀ i,i<=l.length->∀ z∈sortN lt l i,z∈l
 | 0,_,z,hz=>by simp [sortN] at hz
 | i+1,h,z,hz=>by
  have e:l[i]? =some l[i]:=lA oQ;rw [vg e,zeZ _ (mL _)] at hz;rcases hz with rfl | hz
  ·exact List.getElem_mem _
  ·exact zba i oQ z hz
theorem zmt {n i:Nat} (h:i<n):(idxM i++mB (n - i) 0).set i (i:Int)=idxM (i+1)++mB (n - (i+1)) 0:=by
 have l1:(idxM i).length=i:=by simp [idxM]
 rw [List.set_append_right _ _ oQ,l1,Nat.sub_self,show n - i=(n - (i+1))+1 by omega,List.replicate_succ,List.set_cons_zero];unfold idxM;rw [List.range_succ,lM,List.append_assoc];rfl
theorem zc5 {n:Nat} {z:Int} (h:z∈idxM n):0<=z/\z<n:=by
 unfold idxM at h;obtain ⟨k,hk,rfl⟩:=lY.1 h;rw [List.mem_range] at hk;omega
theorem zg0 {b:RBk} {l:List Int} {z:Int} (h:z∈ordM b l):0<=z/\z<l.length:=zc5 (zba _ (mL _) z h)
theorem zmZ (b:RBk) (l:List Int):(ordM b l).length=l.length:=by
 unfold ordM sortR;rw [vD _ _ (mL _)];simp [idxM]
theorem zca {b:RBk} (hb:ROk b) {l:List Int} (hl:CutsOk b l):∀ i,i<=l.length->0<=spoilM b l i/\spoilM b l i<=9*i
 | 0,_=>by simp [spoilM]
 | i+1,h=>by
  have h1:=zca hb hl i oQ;have h2:=hb.sms.fld _ (hl.lt (k:=i) oQ).2.2;unfold spoilM cutS;omega
end Go.Vel
namespace Go.Vel
open Go Go.Conc Go.Proofs
instance:ApOf tp 57 76 2 16:={}
instance:BlOf tp 76 [(0,1),(1,1)]:={}
instance:EqG tp 76:={}
instance:FlatF tp 76 [(3,0),(3,1)]:={}
instance:zl tp 132 4 4 ff 1:={}
instance:zl tp 76 0 0 ff 1:={}
instance:zl tp 76 1 1 ff 1:={}
instance:zq tp 57 76 2:={}
instance:ze tp 76 tt 2:={}
instance:TyZ tp 76 [.int .i64 0,.int .i64 0]:={}
instance:TyZA tp 76 [.v (.int .i64 0),.v (.int .i64 0)]:={}
instance:Und tp 57 (.slice 76):={}
theorem zd8 {main T} (hT:zt tp main T) {gm} {b:RBk} {s h e j:Nat} {l:List Int} {et:gT} (hb:ROk b) (hl:CutsOk b l) :
  zr tp T gm 65 [.agg (zH b s h e),.sl j 0 l.length] [(s,zp b),(j,.cells (l.map za) et ff)] (fun r K'=>∃ jr,r=.row jr l.length/\K'=[(jr,.row ((stripsM b l).flatMap pairC) 76 2),(s,zp b),(j,.cells (l.map za) et ff)]):=by
 refine zn 61 hT Tryz.func65 fun Y Wz=>?_;refine au 0 ?_;have hp0:=hl.pos;have hs5:=hb.sms.len;have hst:=hb.rnd.steps;have hl5:=hl.len;have q0:=hl.lt hl.pos;have f0:=hb.sms.fld _ q0.2.2;refine au 21042 ?_;intro jb hjb;refine au 54235 ?_;refine TK.virt 5 76 2 Z fun jr0 hjr0=>?_;refine au 1303128014223 ?_;refine bA [1,2,5,9,10,11] ?_;refine bE (fun n Wq K=>∃ (i jr:Nat),n=l.length - i/\i<=l.length/\Wq=.any::.sl j 0 l.length::.ptr jb 0::naL 2 (.row jr i::naL 3 (.sl j 0 l.length::za l.length::za i::naL 49 []))/\K=[(jr,.row (((List.range i).map (stripM b l)).flatMap pairC) 76 2),(jb,.cells (zH b s h e) 134 tt),(s,zp b),(j,.cells (l.map za) et ff)]) l.length ⟨0,jr0,rfl,mN _,rfl,rfl⟩ fun n Wq K hI Wj=>?_;obtain ⟨i,jr,rfl,hi,rfl,rfl⟩:=hI;have hpl:=zli b l i;refine bG nQ ?_;refine au 923742 ?_;constructor<;>intro Jz
 ·have Qb:i<l.length:=by simp at Jz; omega
  have qi:=hl.lt Qb;have fi:=hb.sms.fld _ qi.2.2;refine au 3601421302120 ?_;refine bH Z (zj Z Z ze.h mQ (yb (i:=i) (ya Qb) Z)) ?_;refine au 2355 ?_;refine bL [0,1,2,3,4,5,6,7,8,9,10,11,12,13] ?_;refine ad [[3,2],[3,16],[10,17],[1,1],[2,19]] ?_;refine TD.y [20] Z (hq:=zj Z Z ze.h (mC _) (yb (i:=0) (ya hl.pos) Z)) (h:=?_);refine ad [[2,18,21],[3,22]] ?_;refine TD.y [23] Z (hq:=zj Z Z ze.h (mC _) (yd (c:=0) (sm_at b (i:=(zK l 0).toNat) q0.2.2 oQ) dQ Z)) (h:=?_);refine ad [[3,2],[3,25],[10,26],[8,24,27],[13,28],[14]] ?_;refine au 93728012301422 ?_;constructor<;>intro Jx
  ·have Qp:i+1<l.length:=by simp at Jx; omega
   have qn:=hl.lt Qp;have fn:=hb.sms.fld _ qn.2.2;refine bL [0,1,2,3,4,5,6,7,8,9,10,11] ?_;refine ad [[3,2],[3,34],[10,35],[1,1],[1,6],[8,38],[2,37,39]] ?_;refine TD.y [40] Z (hq:=zj Z Z ze.h (mC _) (yb (i:=i+1) (ya Qp) Z)) (h:=?_);refine ad [[2,36,41],[3,42]] ?_;refine TD.y [43] Z (hq:=zj Z Z ze.h (mC _) (yd (c:=0) (sm_at b (i:=(zK l (i+1)).toNat) qn.2.2 oQ) dQ Z)) (h:=?_);refine ad [[13,44],[14]] ?_;refine au 67036016906706701114 ?_;refine bH Z (zj Z Z ze.h mQ (yd (c:=0) (sm_at b (i:=(zK l i).toNat) qi.2.2 oQ) dQ Z)) ?_;refine au 390240 ?_;refine TK.newR Z Z Z (zu (l:=[_,_]) Z zq.h TyZ.h dQ dQ Z) (fun _=>zx rfl tQ) fun j1 hj1=>?_;refine TK.appR Z Z Z (a_app Z ApOf.h Z mQ oQ Z (yq (ln:=[_,_]) mQ dQ sQ Z) oQ Z (by unfold maxLen; omega) oQ) (fun _=>uQ) (fun _=>zx rfl tQ) fun jr2=>?_;refine au 31230414035 ?_;refine bA [1,2,5,9,10,11] ?_;refine bC [(jr2,_),(jb,_),(s,_),(j,_)] ?_;exact Wj _ _ _ oQ ⟨i+1,jr2,rfl,oQ,rfl,by rw [zdX]; simp only [stripM,endM,if_pos Qp]; rfl⟩
  have Qp:¬ i+1<l.length:=by simp at Jx; omega
  refine au 67036016906706701114120 ?_;refine bH Z (zj Z Z ze.h mQ (yd (c:=0) (sm_at b (i:=(zK l i).toNat) qi.2.2 oQ) dQ Z)) ?_;refine au 390240 ?_;refine TK.newR Z Z Z (zu (l:=[_,_]) Z zq.h TyZ.h dQ dQ Z) (fun _=>zx rfl tQ) fun j2 hj2=>?_;refine TK.appR Z Z Z (a_app Z ApOf.h Z mQ oQ Z (yq (ln:=[_,_]) mQ dQ sQ Z) oQ Z (by unfold maxLen; omega) oQ) (fun _=>uQ) (fun _=>zx rfl tQ) fun jr2=>?_;refine au 31230414035 ?_;refine bA [1,2,5,9,10,11] ?_;refine bC [(jr2,_),(jb,_),(s,_),(j,_)] ?_;exact Wj _ _ _ oQ ⟨i+1,jr2,rfl,oQ,rfl,by rw [zdX]; simp only [stripM,endM,if_neg Qp]; rfl⟩
 obtain rfl:i=l.length:=by simp at Jz; omega
 refine au 35142160 ?_;refine bB Wz [(jr,_),(s,_),(j,_)] ?_;exact ⟨jr,rfl,rfl⟩
theorem zgK {main T} (hT:zt tp main T) {gm} {b:RBk} {s h e j:Nat} {l:List Int} {et:gT} (hb:ROk b) (hl:CutsOk b l) :
  zr tp T gm 66 [.agg (zH b s h e),.sl j 0 l.length] [(s,zp b),(j,.cells (l.map za) et ff)] (fun r K'=>r=zC (fitsM b l)/\K'=[(s,zp b),(j,.cells (l.map za) et ff)]):=by
 refine zn 60 hT Tryz.func66 fun Y Wz=>?_;refine au 0 ?_;have hp0:=hl.pos;have hs5:=hb.sms.len;have hst:=hb.rnd.steps;have hl5:=hl.len;have q0:=hl.lt hl.pos;have f0:=hb.sms.fld _ q0.2.2;refine au 21042 ?_;intro jb hjb;refine au 937690670670280142235 ?_;constructor<;>intro Jz
 ·refine au 3542 ?_;refine bB Wz [(s,_),(j,_)] ?_;exact ⟨by rw [show fitsM b l=ff by unfold fitsM; rw [show decide ((l.length:Int)<=b.rolls)=ff by simp at Jz; simp; omega]; rfl],rfl⟩
 refine au 2120 ?_;refine bL [0,1,2,3,4,5,6,7,8] ?_;refine ad [[1,1],[2,14]] ?_;refine TD.y [15] Z (hq:=zj Z Z ze.h (mC _) (yb (i:=0) (ya hl.pos) Z)) (h:=?_);refine ad [[3,2],[3,17],[10,18]] ?_;refine TD.z [16,19] Z (yP (l:=[_,_]) Z TyZ.h BlOf.h Z) ?_;refine TD.cnewP (Wx:=[_,_,_,_,_,_,_]) [] Z Z Z Z Z (yN Z TyZA.h) (fun _=>zx rfl tQ) sQ fun j5 hj5=>?_;refine TD.s (Wx:=[]) [5,20] Z Z (zE Z Z ze.h Z Z mQ Z) ?_;refine ad [[14]] ?_;refine au 1680422 ?_;refine bD Z Z Z Z (zd8 hT hb hl) ?_;rintro r1 K2 ⟨jr,rfl,rfl⟩;refine au 13031280 ?_;refine bA [2,4,5,23,24,25] ?_;refine bE (fun n Wq K=>∃ (i:Nat),n=l.length - i/\i<=l.length/\((List.range i).all fun k => !(cutS b l k).whole&&decide ((stripM b l k).2<=b.roll))=tt/\Wq=naL 2 (.ptr jb 0::.any::zC ff::.ptr j5 0::naL 17 (.row jr l.length::za l.length::za i::naL 34 []))/\K=[(jr,.row ((stripsM b l).flatMap pairC) 76 2),(s,zp b),(j,.cells (l.map za) et ff),(j5,.cells [za (zK l 0),za b.steps] 76 tt),(jb,.cells (zH b s h e) 134 tt)]) l.length ⟨0,rfl,mN _,rfl,rfl,rfl⟩ fun n Wq K hI Wj=>?_;obtain ⟨i,rfl,hi,hall,rfl,rfl⟩:=hI;refine bG nQ ?_;refine au 923742 ?_;constructor<;>intro Jx
 ·have Qb:i<l.length:=by simp at Jx; omega
  have qi:=hl.lt Qb;have hsi:(stripM b l i).1=zK l i:=rfl;have fi:=hb.sms.fld _ qi.2.2;refine au 370421302120 ?_;refine bH Z (zS Z Z ze.h mQ (zdg (c:=2) (f:=pairC) (fun _=>rfl) (zjW Qb) rfl dQ)) ?_;refine au 220 ?_;intro j7 hj7;refine au 670360690670690670670423170 ?_;refine bH Z (zj Z Z ze.h mQ (yd (c:=4) (sm_at b (i:=(zK l i).toNat) qi.2.2 oQ) dQ Z)) ?_;refine au 1 ?_;refine bF 37 (fun g7_9=>?_) (fun g7_9=>?_)
  ·refine au 354218032608888881260888888888888 ?_;refine bB Wz [(s,_),(j,_)] ?_;exact ⟨by rw [zcm Qb (.inl g7_9)],rfl⟩
  have g7_9:(cutS b l i).whole=ff:=g7_9;refine au 680680 ?_;refine bH Z (zft Z Z Z Z Z FlatF.h EqG.h) ?_;refine au 1 ?_;refine bF 41 (fun g7_13=>?_) (fun g7_13=>?_)
  ·refine au 12502607690670670690670670 ?_;refine bF 51 (fun g7_23=>?_) (fun g7_23=>?_)
   ·refine au 35421803260888888 ?_;refine bB Wz [(s,_),(j,_)] ?_;exact ⟨by rw [zcm Qb (.inr (by simp [stripM] at g7_13 g7_23; show b.roll<_; simp only [stripM]; omega))],rfl⟩
   refine au 932507690670670690670 ?_;constructor<;>intro hc2
   ·refine au 3542 ?_;refine bB Wz [(s,_),(j,_)] ?_;exact ⟨by rw [zcm Qb (.inr (of_decide_eq_true hc2))],rfl⟩
   refine au 312304140120 ?_;refine bA [2,4,5,23,24,25] ?_;refine bC [(jr,_),(s,_),(j,_),(j5,_),(jb,_)] ?_;exact Wj _ _ _ oQ ⟨i+1,rfl,oQ,by rw [List.range_succ,List.all_append,hall]; simp [g7_9,show (stripM b l i).2<=b.roll from Int.not_lt.1 (of_decide_eq_false hc2)],rfl,rfl⟩
  refine au 93250769067067069067012502508888888 ?_;constructor<;>intro hc2
  ·refine au 3542 ?_;refine bB Wz [(s,_),(j,_)] ?_;exact ⟨by rw [zcm Qb (.inr (of_decide_eq_true hc2))],rfl⟩
  refine au 312304140120 ?_;refine bA [2,4,5,23,24,25] ?_;refine bC [(jr,_),(s,_),(j,_),(j5,_),(jb,_)] ?_;exact Wj _ _ _ oQ ⟨i+1,rfl,oQ,by rw [List.range_succ,List.all_append,hall]; simp [g7_9,show (stripM b l i).2<=b.roll from Int.not_lt.1 (of_decide_eq_false hc2)],rfl,rfl⟩
 obtain rfl:i=l.length:=by simp at Jx; omega
 refine au 3542160 ?_;refine bB Wz [(s,_),(j,_)] ?_;exact ⟨by rw [show fitsM b l=tt by unfold fitsM; rw [hall,show decide ((l.length:Int)<=b.rolls)=tt by simp at Jz; simp; omega]; rfl],rfl⟩
end Go.Vel
end
