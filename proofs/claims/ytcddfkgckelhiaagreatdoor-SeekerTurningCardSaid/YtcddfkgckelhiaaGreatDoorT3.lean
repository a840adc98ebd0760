/- Texts for the statements of chapter 9: what all of them need, part 4. It holds of every program, tape and world that the statements name, as each theorem says. -/
import Derived.Conc.LeavingOf
import Derived.Conc.Own4
import Derived.Test.YtcddfkgckelhiaaGreatDoorT1
import Derived.Test.YtcddfkgckelhiaaGreatDoorT2
section
set_option linter.all false
set_option maxRecDepth 20000
set_option maxHeartbeats 60000000
open List renaming cons_append -> lB, getElem?_eq_some_iff -> lD, getElem?_append_left -> lG, mem_cons_of_mem -> lL, getElem?_set_ne -> lP, getElem?_map -> lQ, mem_append -> lT, mem_append_left -> lV, getElem?_set -> lX, mem_map -> lY, map_congr_left -> mA, replicate -> mB
open Array renaming getElem?_eq_some_iff -> mG, getElem?_toList -> mI, empty_append -> mK
open Nat renaming le_refl -> mL, zero_add -> mO, eq_zero_or_pos -> mP, le_trans -> mT
open Bool renaming false_eq_true -> mU
namespace Go.Vel
open Go Go.Conc
section
variable {P:Program} {gm:Nat->Option Nat} {T:Goroutine->Hp->Prop}
def Ex (X:Cx P gm T) (env:List AV) (A:List AObj) (o:Oper) (Q:AV->List AObj->Prop):Prop :=
 ∀ (ops:Array Oper) (i:Nat) (rest:List Nat) (k:List Item) (ds:List Deferred) (φ:Nat->Loc3) (H:Hp) (ts:Array Value),ops[i]? =some o->Region.wanted o (yielded ops ts)=true->RelG gm φ A.length->RelH φ A X.F H->zT φ A.length env ts ->
  (∀ r A' φ' H' v,Q r A'->Agr φ φ' A.length->A.length<=A'.length->RelH φ' A' X.F H'->RelV φ' A'.length r v->T (G (fr X.kd X.f X.ro (putT ts o.dst v) ds (.inRegion ops rest::k)) X.cs) H')->T (G (fr X.kd X.f X.ro ts ds (.inRegion ops (i::rest)::k)) X.cs) H
theorem ex_op {X:Cx P gm T} {env:List AV} {A A':List AObj} {o:Oper} {r:AV} (hd:yc o.op=false) (hok:OpOk P gm env A o r A'):Ex X env A o fun r1 A1=>r1=r/\A1=A':=fun ops i rest k ds φ H ts ho hw h3 h5 h6 hq=>by
 refine X.hT.opF X.hkd ho hw hd (zav _ _ _ _ ?_ (hok φ X.F H ⟨ts,[]⟩ h3 h5 h6));rintro nx H' ⟨v,φ',hnx,hA,hlen,hH',hr⟩;have:=hq r A' φ' H' v ⟨rfl,rfl⟩ hA hlen hH' hr;rcases hnx with rfl | ⟨rfl,rfl⟩ <;> exact this
theorem zlx {X:Cx P gm T} {env:List AV} {A:List AObj} {o:Oper} {fo:Operand} {ars:Array Operand} {at_:Array TypeId} {g:FuncId} {fs cp:List AV} {args:List AV} {Post:AV->List AObj->Prop} (hop:o.op=.call { callee:=.value fo,args:=ars,argTypes:=at_ })
  (hf:zI gm env fo=.fn g fs cp) (hg:ym P g=true) (hargs:fs++ars.toList.map (zI gm env)++cp=args) (hc:CallT P T gm g args A Post):Ex X env A o Post:=fun ops i rest k ds φ H ts ho hw h3 h5 h6 hq=>by
 refine X.hT.opF X.hkd ho hw (by rw [hop]; rfl) ?_;have hfo:=zu (a:=⟨ts,[]⟩) h3 h6 fo;rw [hf] at hfo;obtain ⟨xs,ys,e,hr1,hr2⟩:=zaQ hfo;unfold execOp;rw [hop];dsimp only;refine za _ _ _ ?_;show wpS P (Deferred.ofValue (Act.eval ⟨ts,[]⟩ fo) (ars.map (evT ts))) H _;rw [e];show wpS P (callFunc g ((xs++ars.map (evT ts))++ys)) H _;refine wU hg _ ?_;show T (G (Frame.enter P g _ .normal) (_::X.cs)) H;have hrel:zT φ A.length args ((xs++ars.map (evT ts))++ys):=by
  rw [<- hargs];exact kT (kT hr1 (ua (a:=⟨ts,[]⟩) h3 h6 ars)) hr2
 refine hc φ X.F H _ _ _ h3 h5 hrel fun r A' φ' H' v hp hA hlen hH' hr=>?_;have hfin:=kD X.kd X.f X.ro ts ds ops i rest k v;simp only [ho,Option.bind_some] at hfin;rw [hfin];exact hq r A' φ' H' v hp hA hlen hH' hr
def ExK (Y:KX P gm T) (env:List AV) (K:KV) (o:Oper) (Q:AV->KV->Prop):Prop:=∀ A,Kn Y K A->Ex Y.X env A o fun r A'=>∃ K',Kstep K A K' A'/\Q r K'
theorem Ex.mono {X:Cx P gm T} {env:List AV} {A:List AObj} {o:Oper} {Q Q':AV->List AObj->Prop} (h:Ex X env A o Q) (hq:∀ r A',Q r A'->Q' r A'):Ex X env A o Q' :=
 fun ops i rest k ds φ H ts h1 h2 h3 h4 h5 h6=>h ops i rest k ds φ H ts h1 h2 h3 h4 h5 fun r A' φ' H' v hp=>h6 r A' φ' H' v (hq r A' hp)
variable {Y:KX P gm T} {ds:List Nat} {k:List Item} {env env':List AV} {K K':KV} {ops:Array Oper} {i:Nat} {rest:List Nat} {o:Oper} {r:AV}
theorem k9 (hd:yc o.op=false) {Q:AV->KV->Prop} (h:OpK P gm env K o Q):ExK Y env K o Q:=fun A hA=>by
 obtain ⟨r,A',K',h1,h2,h3⟩:=h A hA.view hA.nd;exact (ex_op hd h1).mono fun r1 A1 ⟨e1,e2⟩=>⟨K',e2 ▸ h2,e1 ▸ h3⟩
theorem zb3 {fo:Operand} {ars:Array Operand} {at_:Array TypeId} {g:FuncId} {fs cp args:List AV} {Kf R:KV} {Post:AV->KV->Prop} (hop:o.op=.call { callee:=.value fo,args:=ars,argTypes:=at_ })
  (hf:zI gm env fo=.fn g fs cp) (hg:ym P g=true) (hargs:fs++ars.toList.map (zI gm env)++cp=args) (hc:zg P T gm g args Kf Post) (hs:Split K Kf R) {Q:AV->KV->Prop} (hq:∀ r K',Post r K'->Q r (K'++R)):ExK Y env K o Q:=fun A hA=>by
 have hp:=hs.perm;have hv:zP Kf A:=hA.view.sub fun x hx=>hp.symm.subset (by simp [hx]);have hnd:=(zL hp).nodup_iff.1 hA.nd;rw [yn] at hnd;have hnd':=List.nodup_append.1 hnd;refine (zlx hop hf hg hargs (hc A hv hnd'.1)).mono fun r A' ⟨K',hk,hpost⟩=>⟨K'++R,?_,hq r K' hpost⟩;have hR:zP R A:=hA.view.sub fun x hx=>hp.symm.subset (by simp [hx]);have hRl:∀ x∈R,x.1<A.length/\x.1∉keys Kf:=fun x hx=>⟨hR.lt (yB hx),fun hm=>hnd'.2.2 x.1 hm x.1 (yB hx) rfl⟩;refine ⟨fun x hx=>?_,?_,fun j hj=>?_,fun j hj hn=>?_,hk.len⟩
 ·rcases List.mem_append.1 hx with hx | hx
  ·exact hk.view x hx
  ·rw [hk.kept _ (hRl x hx).1 (hRl x hx).2]; exact hR x hx
 ·rw [yn];refine List.nodup_append.2 ⟨hk.nd,hnd'.2.1,fun a ha b hb e=>?_⟩;subst e;obtain ⟨x,hx,rfl⟩:=List.mem_map.1 hb;rcases hk.own _ ha with h1 | h1
  ·exact (hRl x hx).2 h1
  ·have:=(hRl x hx).1; omega
 ·rw [yn] at hj;rcases List.mem_append.1 hj with hj | hj
  ·rcases hk.own j hj with h1 | h1
   ·exact .inl ((zL hp).symm.subset (by rw [yn]; exact List.mem_append_left _ h1))
   ·exact .inr h1
  ·exact .inl ((zL hp).symm.subset (by rw [yn]; exact List.mem_append_right _ hj))
 ·exact hk.kept j hj fun hm=>hn ((zL hp).symm.subset (by rw [yn]; exact List.mem_append_left _ hm))
theorem TK.ex (ho:ops[i]? =some o) (hw:yd ops env o=some true) (h:ExK Y env K o fun r K'=>TK Y ds (.inRegion ops rest::k) (putA env o.dst r) K'):TK Y ds (.inRegion ops (i::rest)::k) env K:=fun A hA φ H ts h1 h2 h3 h4 h5 h6=>by
 refine h A hA ops i rest k (dsC φ ds) φ H ts ho (y9 h6 hw) h3 h5 h6 fun r A' φ' H' v ⟨K',hk,hq⟩ hA' hlen hH' hr=>?_;have hE:=wG (a:=⟨ts,[]⟩) (h6.mono hA' hlen) hr o.dst;have hds:dsC φ' ds=dsC φ ds:=by
  unfold dsC;exact List.map_congr_left fun d hd'=>by rw [hA' d (h4 d hd')]
 have:=hq A' (hA.step hk) φ' H' _ (h1.trans hA' h2) oQ (h3.mono hA' hlen) (fun d hd'=>Nat.lt_of_lt_of_le (h4 d hd') hlen) hH' hE;rw [hds] at this;exact this
def only (s:List Nat):Nat->List AV->List AV
 | _,[]=>[]
 | j,a::l=>(if s.elem j then a else .any)::only s (j+1) l
def onl (s:List Nat) (env:List AV):List AV:=only s 0 env
theorem zfN (s:List Nat):∀ (l:List AV) (j:Nat),(only s j l).length=l.length
 | [],_=>rfl
 | a::l,j=>by simp [only,zfN s l]
theorem zfM (s:List Nat):∀ (l:List AV) (j t:Nat) a,(only s j l)[t]? =some a->a=.any\/(s.elem (j+t)=true/\l[t]? =some a)
 | [],j,t,a,h=>by simp [only] at h
 | b::l,j,0,a,h=>by
  simp only [only,List.getElem?_cons_zero,Option.some.injEq] at h;split at h
  ·rename_i e; exact .inr ⟨e,by simp [h]⟩
  ·exact .inl h.symm
 | b::l,j,t+1,a,h=>by
  rw [only,List.getElem?_cons_succ] at h;rcases zfM s l (j+1) t a h with h1 | ⟨h1,h2⟩
  ·exact .inl h1
  ·exact .inr ⟨by rw [show j+(t+1)=j+1+t by omega]; exact h1,by simpa using h2⟩
theorem zkP (s:List Nat) (d:Nat) (r:AV):∀ (l:List AV) (j:Nat),s.elem (j+d)=false->(s.elem (j+d)=false)->only s j (l.set d r)=only s j l:=by
 induction d with
 | zero =>
  intro l j h _;cases l with
  | nil=>rfl
  | cons a l =>
   simp only [List.set_cons_zero,only];rw [Nat.add_zero] at h;rw [h]; rfl
 | succ d ih =>
  intro l j h _;cases l with
  | nil=>rfl
  | cons a l =>
   simp only [List.set_cons_succ,only];have h':s.elem (j+1+d)=false:=by rw [show j+1+d=j+(d+1) by omega]; exact h
   rw [ih l (j+1) h' h']
theorem zgX {s:List Nat} {d:Nat} {r:AV} {env:List AV} (h:s.elem d=false):onl s (env.set d r)=onl s env:=zkP s d r env 0 (by rwa [Nat.zero_add]) (by rwa [Nat.zero_add])
structure Pd where
 i:Nat
 s:List Nat
 V:KV
def dstOf (ops:Array Oper) (i:Nat):Option Nat:=(ops[i]?).bind (·.dst)
def slotv (env:List AV):Option Nat->AV | some d=>env.getD d .any | none=>.any
def QS (P:Program) (gm:Nat->Option Nat) (ops:Array Oper) (env:List AV) (A:List AObj) (o:Oper) (r:AV):Prop :=
 (yd ops env o=some true/\yc o.op=false/\OpOk P gm env A o r A)\/(yd ops env o=some false/\r=.v undef)
def Jq (P:Program) (gm:Nat->Option Nat) (ops:Array Oper) (env:List AV) (p:Pd):Prop :=
 ∃ o r,ops[p.i]? =some o/\(∀ d,o.dst=some d->env[d]? =some r)/\∀ A,zP p.V A->QS P gm ops (onl p.s env) A o r
def asgAt (ops:Array Oper) (j:Nat):Bool:=match ops[j]? with
 | some o=>match o.op with
  | .assign _=>true
  | _=>false
 | none=>false
def rawOk (ops:Array Oper) (i:Nat) (s:List Nat):Bool:=(List.range ops.size).all fun j=>match dstOf ops j with
 | some d => !(s.elem d)||(edgesOf .any ops i).elem j||asgAt ops j
 | none=>true
def rawP (ops:Array Oper) (i:Nat) (s:List Nat):Bool:=rawOk ops i s && !asgAt ops i
theorem zl1 {ops:Array Oper} {i:Nat} {s:List Nat} (h:rawP ops i s=true):rawOk ops i s=true:=by
 unfold rawP at h; simp only [Bool.and_eq_true] at h; exact h.1
theorem zkY {ops:Array Oper} {i:Nat} {s:List Nat} (h:rawP ops i s=true):asgAt ops i=false:=by
 unfold rawP at h; simp only [Bool.and_eq_true,Bool.not_eq_true'] at h; exact h.2
def Hid (ops:Array Oper) (pend:List Pd) (σ:List Nat) (j:Nat):Prop:=∃ p∈pend,p.i∈σ/\dstOf ops p.i=some j
def RelHid (φ:Nat->Loc3) (n:Nat) (hid:Nat->Prop) (env:List AV) (ts:Array Value):Prop:=env.length=ts.size/\∀ j a y,env[j]? =some a->ts[j]? =some y->¬ hid j->RelV φ n a y
def TD (Y:KX P gm T) (ds:List Nat) (ops:Array Oper) (k:List Item) (pend:List Pd) (L:List Nat) (env:List AV) (K:KV):Prop :=
 (∀ p∈pend,Jq P gm ops env p)->(∀ p∈pend,rawP ops p.i p.s=true)->(∀ p∈pend,∀ x∈p.V,x∈K)->∀ A,Kn Y K A->∀ σ:List Nat,σ.Nodup->Resp ops σ->(∀ j∈σ,j<ops.size)->(∀ j∈L,j∈σ)->(∀ j∈σ,j∈L\/∃ p∈pend,p.i=j) ->
  ∀ (φ:Nat->Loc3) (H:Hp) (ts:Array Value),Agr Y.X.φ0 φ Y.X.n0->Y.X.n0<=A.length->RelG gm φ A.length->(∀ d∈ds,d<A.length)->RelH φ A Y.X.F H->RelHid φ A.length (Hid ops pend σ) env ts->T (G (fr Y.X.kd Y.X.f Y.X.ro ts (dsC φ ds) (.inRegion ops σ::k)) Y.X.cs) H
theorem zdq {φ:Nat->Loc3} {n:Nat} {pend:List Pd} {σ:List Nat} {c:Nat} {s:List Nat} {ts:Array Value} (hsz:∀ j∈c::σ,j<ops.size) (hresp:Resp ops (c::σ)) (hraw:rawOk ops c s=true) (hraws:∀ p∈pend,rawP ops p.i p.s=true) (h:RelHid φ n (Hid ops pend (c::σ)) env ts):zT φ n (onl s env) ts:=by
 refine ⟨by rw [onl,zfN]; exact h.1,fun j a y ha hy=>?_⟩;rcases zfM s env 0 j a ha with rfl | ⟨h1,h2⟩
 ·exact .any _
 ·refine h.2 j a y h2 hy fun ⟨p,hp,hpm,hd⟩=>?_;rw [Nat.zero_add] at h1;have:=List.all_eq_true.1 hraw p.i (List.mem_range.2 (hsz _ hpm));rw [hd] at this;simp only [h1,Bool.not_true,Bool.false_or,zkY (hraws p hp),Bool.or_false] at this;exact hresp.1 p.i (by simpa using this) hpm
theorem zbo {pend:List Pd} {A:List AObj} {c:Nat} {σ:List Nat} {p:Pd} (hp:p∈pend) (hc:p.i=c) (hj:Jq P gm ops env p) (hraws:∀ p∈pend,rawP ops p.i p.s=true) (hv:∀ x∈p.V,x∈K) (hA:Kn Y K A) (hnd:(c::σ).Nodup) (hsz:∀ j∈c::σ,j<ops.size) (hresp:Resp ops (c::σ))
  {φ:Nat->Loc3} {H:Hp} {ts:Array Value} (h1:Agr Y.X.φ0 φ Y.X.n0) (h2:Y.X.n0<=A.length) (h3:RelG gm φ A.length) (h4:∀ d∈ds,d<A.length) (h5:RelH φ A Y.X.F H) (h6:RelHid φ A.length (Hid ops pend (c::σ)) env ts)
  (hq:∀ (φ:Nat->Loc3) (H:Hp) (ts:Array Value),Agr Y.X.φ0 φ Y.X.n0->RelG gm φ A.length->RelH φ A Y.X.F H->RelHid φ A.length (Hid ops pend σ) env ts->T (G (fr Y.X.kd Y.X.f Y.X.ro ts (dsC φ ds) (.inRegion ops σ::k)) Y.X.cs) H) :
  T (G (fr Y.X.kd Y.X.f Y.X.ro ts (dsC φ ds) (.inRegion ops (c::σ)::k)) Y.X.cs) H:=by
 obtain ⟨o,r,ho,hd,hqs⟩:=hj;rw [hc] at ho;have hrel:=zdq hsz hresp (hc ▸ zl1 (hraws p hp)) hraws h6;have hput:∀ (φ':Nat->Loc3) (v:Value),Agr φ φ' A.length->RelV φ' A.length r v->RelHid φ' A.length (Hid ops pend σ) env (putT ts o.dst v):=fun φ' v hA' hr=>by
  refine ⟨?_,fun j a y ha hy hnh=>?_⟩
  ·rw [h6.1]; cases o.dst <;> simp [putT,Act.put]
  ·cases hdst:o.dst with
   | none =>
    rw [hdst] at hy;refine (h6.2 j a y ha hy fun ⟨q,hq1,hq2,hq3⟩=>?_).mono hA' (Nat.le_refl _);rcases List.mem_cons.1 hq2 with e | hq2
    ·rw [e] at hq3; simp [dstOf,ho,hdst] at hq3
    ·exact hnh ⟨q,hq1,hq2,hq3⟩
   | some d =>
    rw [hdst] at hy;by_cases hjd:d=j
    ·subst hjd;have:=hd d hdst;rw [this] at ha;cases ha;have hlt:d<ts.size:=by rw [<- h6.1]; exact (List.getElem?_eq_some_iff.1 this).1
     simp only [putT,Act.put] at hy;rw [Array.getElem?_setIfInBounds_self_of_lt hlt] at hy;cases hy;exact hr
    ·simp only [putT,Act.put] at hy;rw [Array.getElem?_setIfInBounds_ne hjd] at hy;refine (h6.2 j a y ha hy fun ⟨q,hq1,hq2,hq3⟩=>?_).mono hA' (Nat.le_refl _);rcases List.mem_cons.1 hq2 with e | hq2
     ·rw [e] at hq3; simp [dstOf,ho,hdst] at hq3; exact hjd hq3
     ·exact hnh ⟨q,hq1,hq2,hq3⟩
 rcases hqs A (hA.view.sub hv) with ⟨hw,hdf,hok⟩ | ⟨hw,hr⟩
 ·refine ex_op (X:=Y.X) hdf hok ops c σ k (dsC φ ds) φ H ts ho (y9 hrel hw) h3 h5 hrel fun r1 A1 φ' H' v ⟨e1,e2⟩ hA' hlen hH' hr=>?_;subst e1 e2;have hds:dsC φ' ds=dsC φ ds:=by
   unfold dsC;exact List.map_congr_left fun d hd'=>by rw [hA' d (h4 d hd')]
  rw [<- hds];exact hq φ' H' _ (h1.trans hA' h2) (h3.mono hA' (Nat.le_refl _)) hH' (hput φ' v hA' hr)
 ·refine Y.X.hT.ctlF Z (fun _=>zbJ ho (y9 hrel hw)) rfl ?_;exact hq φ H _ h1 h3 h5 (hput φ undef (Agr.refl _ _) (hr ▸ .v _))
theorem TK.draw {id:Nat} (L ρg:List Nat) (hd:drawnOk ops (List.range ops.size) ρg=true) (hL:(List.range ops.size).all (fun i=>L.elem i)&&L.all (fun i=>decide (i<ops.size))=true) (h:TD Y ds ops k [] L env K):TK Y ds (.code (.region id ops true)::k) env K:=fun A hA=>by
 refine TA.draw fun t=>?_;intro φ H ts h1 h2 h3 h4 h5 h6;obtain ⟨s1,s2,s3⟩:=zk2 hd (P.follows .mixedOrders) t;simp only [Bool.and_eq_true,List.all_eq_true,List.mem_range,decide_eq_true_eq] at hL;exact h sQ sQ sQ A hA _ s1 s2 (fun j hj=>(s3 j).1 hj) (fun j hj=>(s3 j).2 (hL.2 j hj)) (fun j hj=>.inl (by simpa using hL.1 j ((s3 j).1 hj))) φ H ts h1 h2 h3 h4 h5 ⟨h6.1,fun j a y ha hy _=>h6.2 j a y ha hy⟩
theorem TD.fin {pend:List Pd} (h:TK Y ds k env K):TD Y ds ops k pend [] env K:=fun hj hraw hV A hA σ=>by
 induction σ with
 | nil =>
  intro _ _ _ _ _ φ H ts h1 h2 h3 h4 h5 h6;exact TA.regionEnd (h A hA) φ H ts h1 h2 h3 h4 h5 ⟨h6.1,fun j a y ha hy=>h6.2 j a y ha hy fun ⟨p,_,hm,_⟩=>by cases hm⟩
 | cons c σ ih =>
  intro hnd hresp hsz hL hcov φ H ts h1 h2 h3 h4 h5 h6;obtain ⟨p,hp,hc⟩:=(hcov c sQ).resolve_left sQ;exact zbo hp hc (hj p hp) hraw (hV p hp) hA hnd hsz hresp h1 h2 h3 h4 h5 h6 fun φ H ts h1 h3 h5 h6 =>
   ih (List.nodup_cons.1 hnd).2 hresp.2 (fun j hj=>hsz j (by simp [hj])) sQ (fun j hj=>hcov j (by simp [hj])) φ H ts h1 h2 h3 h4 h5 h6
def chkQ (ops:Array Oper) (pend:List Pd) (s:List Nat) (i n:Nat) (d:Option Nat):Bool:=rawP ops i s&&match d with
 | some d => !(s.elem d)&&decide (d<n)&&pend.all fun p => !(p.s.elem d)&&dstOf ops p.i !=some d
 | none=>true
theorem zft {pend:List Pd} {d:Nat} {r:AV} (hc:pend.all (fun p => !(p.s.elem d)&&dstOf ops p.i !=some d)=true) (h:∀ p∈pend,Jq P gm ops env p):∀ p∈pend,Jq P gm ops (env.set d r) p:=fun p hp=>by
 obtain ⟨o,r',ho,hd,hq⟩:=h p hp;have:=List.all_eq_true.1 hc p hp;simp only [Bool.and_eq_true,Bool.not_eq_true',bne_iff_ne,ne_eq] at this;refine ⟨o,r',ho,fun d' hd'=>?_,fun A hA=>?_⟩
 ·rw [List.getElem?_set_ne (fun e=>this.2 (by simp [dstOf,ho,hd',e]))];exact hd d' hd'
 ·rw [zgX this.1]; exact hq A hA
theorem TD.qs {pend:List Pd} {L':List Nat} (s:List Nat) (V:KV) (ho:ops[i]? =some o) (hc:chkQ ops pend s i env.length o.dst=true) (hV:∀ x∈V,x∈K) (hq:∀ A,zP V A->QS P gm ops (onl s env) A o r) (he:putA env o.dst r=env') (h:TD Y ds ops k (⟨i,s,V⟩::pend) L' env' K):TD Y ds ops k pend (i::L') env K:=by
 subst he;intro hj hraw hVp A hA σ hnd hresp hsz hL hcov φ H ts h1 h2 h3 h4 h5 h6;simp only [chkQ,Bool.and_eq_true] at hc;have hjn:∀ p∈(⟨i,s,V⟩::pend:List Pd),Jq P gm ops (putA env o.dst r) p:=by
  intro p hp;cases hdst:o.dst with
  | none =>
   rcases List.mem_cons.1 hp with rfl | hp
   ·exact ⟨o,r,ho,(fun d hd=>by rw [hdst] at hd; cases hd),fun A hA=>hq A hA⟩
   ·exact hj p hp
  | some d =>
   have h7:=hc.2;rw [hdst] at h7;simp only [Bool.and_eq_true,Bool.not_eq_true',decide_eq_true_eq] at h7;rcases List.mem_cons.1 hp with rfl | hp
   ·refine ⟨o,r,ho,fun d' hd'=>?_,fun A hA=>?_⟩
    ·rw [hdst] at hd'; cases hd';exact List.getElem?_set_self h7.1.2
    ·show QS P gm ops (onl s (env.set d r)) A o r;rw [zgX h7.1.1]; exact hq A hA
   ·exact zft h7.2 hj p hp
 refine h hjn (fun p hp=>?_) (fun p hp=>?_) A hA σ hnd hresp hsz (fun j hj=>hL j (by simp [hj])) (fun j hj=>?_) φ H ts h1 h2 h3 h4 h5 ⟨?_,fun j a y ha hy hnh=>?_⟩
 ·rcases List.mem_cons.1 hp with rfl | hp
  ·exact hc.1
  ·exact hraw p hp
 ·rcases List.mem_cons.1 hp with rfl | hp
  ·exact hV
  ·exact hVp p hp
 ·rcases hcov j hj with h7 | ⟨p,hp,e⟩
  ·rcases List.mem_cons.1 h7 with rfl | h7
   ·exact .inr ⟨_,List.mem_cons_self,rfl⟩
   ·exact .inl h7
  ·exact .inr ⟨p,by simp [hp],e⟩
 ·rw [<- h6.1]; cases o.dst <;> simp [putA]
 ·have hne:o.dst≠some j:=fun e=>hnh ⟨⟨i,s,V⟩,by simp,hL i sQ,by simp [dstOf,ho,e]⟩;refine h6.2 j a y ?_ hy fun ⟨p,hp,h8,h9⟩=>hnh ⟨p,by simp [hp],h8,h9⟩;cases hdst:o.dst with
  | none=>rw [hdst] at ha; exact ha
  | some d =>
   rw [hdst] at ha;simp only [putA] at ha;rwa [List.getElem?_set_ne (fun e=>hne (by rw [hdst,e]))] at ha
theorem TD.q {pend:List Pd} {L':List Nat} (s:List Nat) (V:KV) (ho:ops[i]? =some o) (hd:yc o.op=false) (hw:yd ops (onl s env) o=some true) (hc:chkQ ops pend s i env.length o.dst=true) (hV:∀ x∈V,x∈K) (hq:∀ A,zP V A->OpOk P gm (onl s env) A o r A) (he:putA env o.dst r=env') (h:TD Y ds ops k (⟨i,s,V⟩::pend) L' env' K):TD Y ds ops k pend (i::L') env K :=
 TD.qs s V ho hc hV (fun A hA=>.inl ⟨hw,hd,hq A hA⟩) he h
theorem TD.unwanted {pend:List Pd} {L':List Nat} (s:List Nat) (ho:ops[i]? =some o) (hw:yd ops (onl s env) o=some false) (hc:chkQ ops pend s i env.length o.dst=true) (he:putA env o.dst (.v undef)=env') (h:TD Y ds ops k (⟨i,s,[]⟩::pend) L' env' K):TD Y ds ops k pend (i::L') env K :=
 TD.qs s [] ho hc sQ (fun _ _=>.inr ⟨hw,rfl⟩) he h
def chkC (ops:Array Oper) (pend':List Pd) (L' s:List Nat) (i:Nat) (d:Option Nat):Bool:=rawOk ops i s&&L'.all (fun j=>(edgesOf .any ops j).any fun e=>e==i||L'.elem e)&&match d with
 | some d=>pend'.all fun p => !(p.s.elem d)&&dstOf ops p.i !=some d
 | none=>true
def pendOf (ops:Array Oper) (i:Nat) (pend:List Pd):List Pd:=pend.filter fun p => !((edgesOf .any ops i).elem p.i)
theorem TD.c {pend pend':List Pd} {L':List Nat} (s:List Nat) (ho:ops[i]? =some o) (hw:yd ops (onl s env) o=some true) (hp':pendOf ops i pend=pend') (hc:chkC ops pend' L' s i o.dst=true)
  (h:ExK Y (onl s env) K o fun r K'=>(∀ p∈pend',∀ x∈p.V,x∈K')/\TD Y ds ops k pend' L' (putA env o.dst r) K'):TD Y ds ops k pend (i::L') env K:=fun hj hraw hV A hA σ=>by
 subst hp';simp only [chkC,Bool.and_eq_true] at hc
 induction σ with
 | nil =>
  intro _ _ _ hL;exact absurd (hL i sQ) sQ
 | cons c σ ih =>
  intro hnd hresp hsz hL hcov φ H ts h1 h2 h3 h4 h5 h6;by_cases hci:c=i
  ·subst hci;have hrel:=zdq hsz hresp hc.1.1 hraw h6;refine h A hA ops c σ k (dsC φ ds) φ H ts ho (y9 hrel hw) h3 h5 hrel fun r A' φ' H' v ⟨K',hk,hV',hq⟩ hA' hlen hH' hr=>?_;have hds:dsC φ' ds=dsC φ ds:=by
    unfold dsC;exact List.map_congr_left fun d hd'=>by rw [hA' d (h4 d hd')]
   rw [<- hds];have hnd':=List.nodup_cons.1 hnd;have hkeep:∀ p∈pend,p.i∈σ->p∈pendOf ops c pend:=fun p hp hm=>by
    refine List.mem_filter.2 ⟨hp,?_⟩;simp only [Bool.not_eq_true'];cases e:(edgesOf .any ops c).elem p.i with
    | false=>rfl
    | true=>exact absurd (List.mem_cons_of_mem _ hm) (hresp.1 p.i (by simpa using e))
   refine hq (fun p hp=>?_) (fun p hp=>hraw p (List.mem_filter.1 hp).1) hV' A' (hA.step hk) σ hnd'.2 hresp.2 (fun j hj=>hsz j (by simp [hj])) (fun j hj=>?_) (fun j hj=>?_) φ' H' _ (h1.trans hA' h2) oQ (h3.mono hA' hlen) (fun d hd'=>Nat.lt_of_lt_of_le (h4 d hd') hlen) hH' ⟨?_,fun j a y ha hy hnh=>?_⟩
   ·have hj':∀ p∈pendOf ops c pend,Jq P gm ops env p:=fun p hp=>hj p (List.mem_filter.1 hp).1;cases hdst:o.dst with
    | none=>exact hj' p hp
    | some d =>
     have h7:=hc.2;rw [hdst] at h7;exact zft h7 hj' p hp
   ·have hb:=List.all_eq_true.1 hc.1.2 j hj;have hjm:=hL j (by simp [hj]);rcases List.mem_cons.1 hjm with e | hjm
    ·exfalso;subst e;rw [List.any_eq_true] at hb;obtain ⟨e,he1,he2⟩:=hb;refine hresp.1 e he1 ?_;simp only [Bool.or_eq_true,beq_iff_eq] at he2;rcases he2 with rfl | he2
     ·simp
     ·exact hL e (by simp at he2; simp [he2])
    ·exact hjm
   ·rcases hcov j (by simp [hj]) with h7 | ⟨p,hp,e⟩
    ·rcases List.mem_cons.1 h7 with rfl | h7
     ·exact absurd hj hnd'.1
     ·exact .inl h7
    ·exact .inr ⟨p,hkeep p hp (e ▸ hj),e⟩
   ·have:(putT ts o.dst v).size=ts.size:=by cases o.dst <;> simp [putT,Act.put]
    rw [this,<- h6.1]; cases o.dst <;> simp [putA]
   ·have hback:o.dst≠some j->ts[j]? =some y->env[j]? =some a->RelV φ' A'.length a y:=fun hne hy' ha'=>by
     refine (h6.2 j a y ha' hy' fun ⟨p,hp,h8,h9⟩=>?_).mono hA' hlen;rcases List.mem_cons.1 h8 with e | h8
     ·rw [e] at h9; simp [dstOf,ho] at h9; exact hne h9
     ·exact hnh ⟨p,hkeep p hp h8,h8,h9⟩
    cases hdst:o.dst with
    | none=>rw [hdst] at ha hy; exact hback (by rw [hdst]; simp) hy ha
    | some d =>
     rw [hdst] at ha hy;simp only [putA,putT,Act.put] at ha hy;by_cases e:d=j
     ·subst e;have hlt:d<env.length:=by have:=(List.getElem?_eq_some_iff.1 ha).1; simpa using this
      rw [List.getElem?_set_self hlt] at ha;rw [Array.getElem?_setIfInBounds_self_of_lt (by rw [<- h6.1]; exact hlt)] at hy;cases ha; cases hy;exact hr
     ·rw [List.getElem?_set_ne e] at ha;rw [Array.getElem?_setIfInBounds_ne e] at hy;exact hback (by rw [hdst]; simpa using e) hy ha
  ·have hnd':=List.nodup_cons.1 hnd;rcases hcov c sQ with h7 | ⟨p,hp,e⟩
   ·exfalso;rcases List.mem_cons.1 h7 with h7 | h7
    ·exact hci h7
    ·have hb:=List.all_eq_true.1 hc.1.2 c h7;rw [List.any_eq_true] at hb;obtain ⟨e,he1,he2⟩:=hb;refine hresp.1 e he1 ?_;simp only [Bool.or_eq_true,beq_iff_eq] at he2;rcases he2 with rfl | he2
     ·exact hL e sQ
     ·exact hL e (by simp at he2; simp [he2])
   ·by_cases hcL:c∈i::L'
    ·exfalso;rcases List.mem_cons.1 hcL with h7 | h7
     ·exact hci h7
     ·have hb:=List.all_eq_true.1 hc.1.2 c h7;rw [List.any_eq_true] at hb;obtain ⟨e,he1,he2⟩:=hb;refine hresp.1 e he1 ?_;simp only [Bool.or_eq_true,beq_iff_eq] at he2;rcases he2 with rfl | he2
      ·exact hL e sQ
      ·exact hL e (by simp at he2; simp [he2])
    ·refine zbo hp e (hj p hp) hraw (hV p hp) hA hnd hsz hresp h1 h2 h3 h4 h5 h6 fun φ H ts h1 h3 h5 h6 =>
      ih hnd'.2 hresp.2 (fun j hj=>hsz j (by simp [hj])) (fun j hj=>?_) (fun j hj=>hcov j (by simp [hj])) φ H ts h1 h2 h3 h4 h5 h6
     rcases List.mem_cons.1 (hL j hj) with h8 | h8
     ·exact absurd (h8 ▸ hj) hcL
     ·exact h8
theorem TD.split {pend:List Pd} {L:List Nat} (d:Nat) {t:Bool} (hd:env[d]? =some (.v (.bool t))) (h1:t=true->TD Y ds ops k pend L (env.set d (.v (.bool true))) K) (h0:t=false->TD Y ds ops k pend L (env.set d (.v (.bool false))) K):TD Y ds ops k pend L env K:=by
 have e:env.set d (.v (.bool t))=env:=by
  obtain ⟨hlt,he⟩:=List.getElem?_eq_some_iff.1 hd;rw [<- he]; exact List.set_getElem_self hlt
 cases t with
 | true=>rw [<- e]; exact h1 rfl
 | false=>rw [<- e]; exact h0 rfl
theorem TK.split (d:Nat) {t:Bool} (hd:env[d]? =some (.v (.bool t))) (h1:t=true->TK Y ds k (env.set d (.v (.bool true))) K) (h0:t=false->TK Y ds k (env.set d (.v (.bool false))) K):TK Y ds k env K:=by
 have e:env.set d (.v (.bool t))=env:=by
  obtain ⟨hlt,he⟩:=List.getElem?_eq_some_iff.1 hd;rw [<- he]; exact List.set_getElem_self hlt
 cases t with
 | true=>rw [<- e]; exact h1 rfl
 | false=>rw [<- e]; exact h0 rfl
end
section
variable {P:Program} {gm:Nat->Option Nat} {V:KV} {env:List AV} {o:Oper} {r:AV}
abbrev Qk (P:Program) (gm:Nat->Option Nat) (env:List AV) (V:KV) (o:Oper) (r:AV):Prop:=∀ A,zP V A->OpOk P gm env A o r A
abbrev Nk (P:Program) (gm:Nat->Option Nat) (env:List AV) (V:KV) (o:Oper) (f:Nat->AV) (ob:AObj):Prop:=∀ A,zP V A->OpOk P gm env A o (f A.length) (A++[ob])
def zr (gm:Nat->Option Nat) (env:List AV):Operand->Option AV
 | .tmp t=>env[t]?
 | .const v=>some (.v v)
 | .global g=>some (match gm g with | some i=>.ptr i 0 | none=>.v (.pointer (some ⟨g,0,none⟩)))
 | .func f=>some (.fn f [] [])
theorem zq {x:Operand} (h:zr gm env x=some r):zI gm env x=r:=by
 cases x with
 | tmp t=>simp only [zr] at h; simp only [zI,List.getD_eq_getElem?_getD,h,Option.getD_some]
 | const v=>cases h; rfl
 | global g=>cases h; rfl
 | func f=>cases h; rfl
theorem zB {x:Operand} (ho:o.op=.move x) (hx:zr gm env x=some r):Qk P gm env V o r:=fun _ _=>zq hx ▸ zlT ho
theorem zV {x:Operand} (ho:o.op=.assign x) (hx:zr gm env x=some r):Qk P gm env V o r:=fun _ _=>zq hx ▸ zi4 ho
theorem w9 {c x y:Operand} (ho:o.op=.pick c x y) (hc:zr gm env c=some (.v (.bool true))) (hx:zr gm env x=some r):Qk P gm env V o r:=fun A _ φ F H a hg hH hE=>by
 unfold execOp; rw [ho];have h1:=zu hg hE c;rw [zq hc] at h1;simp only [inv_v h1];exact zW.quiet hH (zq hx ▸ zu hg hE x)
theorem yI {c x y:Operand} (ho:o.op=.pick c x y) (hc:zr gm env c=some (.v (.bool false))) (hy:zr gm env y=some r):Qk P gm env V o r:=fun A _ φ F H a hg hH hE=>by
 unfold execOp; rw [ho];have h1:=zu hg hE c;rw [zq hc] at h1;simp only [inv_v h1];exact zW.quiet hH (zq hy ▸ zu hg hE y)
theorem zmU {c x y:Operand} {t a b:Bool} (ho:o.op=.pick c x y) (hc:zr gm env c=some (.v (.bool t))) (hx:zr gm env x=some (.v (.bool a))) (hy:zr gm env y=some (.v (.bool b))):Qk P gm env V o (.v (.bool (bif t then a else b))):=fun A _=>by
 have:=zlU (P:=P) (A:=A) ho (zq hc);rw [zq hx,zq hy] at this;exact this
theorem uG (op:BinOp) (t:TypeId) (x y:Operand) (k k':IntKind) (a b:Int):eqGuard op t x y (.int k a) (.int k' b)=pure ():=by unfold eqGuard; cases op <;> rfl
theorem zlt (op:BinOp) (t:TypeId) (x y:Operand) (a b:ByteArray):eqGuard op t x y (.string a) (.string b)=pure ():=by unfold eqGuard; cases op <;> rfl
theorem zj9 (op:BinOp) (t:TypeId) (x y:Operand) (a b:Bool):eqGuard op t x y (.bool a) (.bool b)=pure ():=by unfold eqGuard; cases op <;> rfl
theorem zM {α β:Type} {P:Program}:∀ {s:Sem α} {f:α->Sem β} {a:α} {b:β},zO P s=some a->zO P (f a)=some b->zO P (s >>= f)=some b:=by
 intro s
 induction s with
 | pure c=>intro f a b h k; cases h; exact k
 | program k' ih=>intro f a b h k; exact ih P h k
 | _=>intro f a b h; cases h
theorem ye {P:Program} {t:TypeId} {d:TypeDesc} (h:P.underlying t=some d):zO P (underlying t)=some d:=by
 show zO P (match P.underlying t with | some d=>pure d | none=>stuck "no such type")=_
 rw [h]; rfl
theorem wP {op:BinOp} {t yt:TypeId} {x y:Operand} {k:IntKind} {a b:Int} {z:Value} (ho:o.op=.binOp op t x y yt) (hx:zr gm env x=some (.v (.int k a))) (hy:zr gm env y=some (.v (.int k b))) (h:zO P (binOp op t (.int k a) (.int k b))=some z):Qk P gm env V o (.v z):=fun A _ =>
 wj ho (by rw [zq hx]; rfl) (by rw [zq hy]; rfl) (by rw [uG]; exact h)
theorem km {n:Int} (h : -9223372036854775808<=n/\n<9223372036854775808):IntKind.i64.wrap n=n:=by
 unfold IntKind.wrap;simp only [show IntKind.i64.bits=64 from rfl,show IntKind.i64.signed=true from rfl,Bool.true_and];split <;> rename_i h1 <;> simp only [decide_eq_true_eq] at h1 <;> omega
theorem q_add {t yt:TypeId} {x y:Operand} {a b:Int} (ho:o.op=.binOp .add t x y yt) (hx:zr gm env x=some (.v (.int .i64 a))) (hy:zr gm env y=some (.v (.int .i64 b))) (h : -9223372036854775808<=a+b/\a+b<9223372036854775808):Qk P gm env V o (.v (.int .i64 (a+b))):=by
 refine wP ho hx hy ?_;show some (Value.int .i64 (IntKind.i64.wrap (a+b)))=_;rw [km h]
theorem q_sub {t yt:TypeId} {x y:Operand} {a b:Int} (ho:o.op=.binOp .sub t x y yt) (hx:zr gm env x=some (.v (.int .i64 a))) (hy:zr gm env y=some (.v (.int .i64 b))) (h : -9223372036854775808<=a - b/\a - b<9223372036854775808):Qk P gm env V o (.v (.int .i64 (a - b))):=by
 refine wP ho hx hy ?_;show some (Value.int .i64 (IntKind.i64.wrap (a - b)))=_;rw [km h]
theorem q_mul {t yt:TypeId} {x y:Operand} {a b:Int} (ho:o.op=.binOp .mul t x y yt) (hx:zr gm env x=some (.v (.int .i64 a))) (hy:zr gm env y=some (.v (.int .i64 b))) (h : -9223372036854775808<=a*b/\a*b<9223372036854775808):Qk P gm env V o (.v (.int .i64 (a*b))):=by
 refine wP ho hx hy ?_;show some (Value.int .i64 (IntKind.i64.wrap (a*b)))=_;rw [km h]
theorem q_rem {t yt:TypeId} {x y:Operand} {k:IntKind} {a b:Int} (ho:o.op=.binOp .rem t x y yt) (hx:zr gm env x=some (.v (.int k a))) (hy:zr gm env y=some (.v (.int k b))) (h0:0<=a) (h1:0<b):Qk P gm env V o (.v (.int k (a % b))):=by
 refine wP ho hx hy ?_;show zO P (if k≠k then _ else _)=_;rw [if_neg sQ];show zO P (if b=0 then _ else _)=_;rw [if_neg oQ];show some (Value.int k (a.tmod b))=_;rw [Int.tmod_eq_emod_of_nonneg h0]
def cmpI:BinOp->Int->Int->Option Bool
 | .eql,a,b=>some (a==b)
 | .neq,a,b=>some (a !=b)
 | .lss,a,b=>some (decide (a<b))
 | .leq,a,b=>some (decide (a<=b))
 | .gtr,a,b=>some (decide (a>b))
 | .geq,a,b=>some (decide (a>=b))
 | _,_,_=>none
theorem q_cmp {op:BinOp} {t yt:TypeId} {x y:Operand} {k:IntKind} {a b:Int} {z:Bool} (ho:o.op=.binOp op t x y yt) (hx:zr gm env x=some (.v (.int k a))) (hy:zr gm env y=some (.v (.int k b))) (h:cmpI op a b=some z):Qk P gm env V o (.v (.bool z)):=by
 refine wP ho hx hy ?_;cases op <;> first | (cases h; done) | skip
 all_goals
  cases h;show zO P (if k≠k then _ else _)=_;rw [if_neg sQ];rfl
def cmpS:BinOp->ByteArray->ByteArray->Option Bool
 | .eql,a,b=>some (a.toList==b.toList)
 | .neq,a,b=>some (!(a.toList==b.toList))
 | _,_,_=>none
theorem zcS {op:BinOp} {t yt:TypeId} {x y:Operand} {a b:ByteArray} {z:Bool} (ho:o.op=.binOp op t x y yt) (hx:zr gm env x=some (.v (.string a))) (hy:zr gm env y=some (.v (.string b))) (h:cmpS op a b=some z):Qk P gm env V o (.v (.bool z)):=fun A _=>by
 refine wj ho (by rw [zq hx]; rfl) (by rw [zq hy]; rfl) ?_;rw [zlt];cases op <;> first | (cases h; done) | (cases h; rfl)
def cmpB:BinOp->Bool->Bool->Option Bool
 | .eql,a,b=>some (a==b)
 | .neq,a,b=>some (!(a==b))
 | _,_,_=>none
theorem zji {op:BinOp} {t yt:TypeId} {x y:Operand} {a b z:Bool} (ho:o.op=.binOp op t x y yt) (hx:zr gm env x=some (.v (.bool a))) (hy:zr gm env y=some (.v (.bool b))) (ht:P.underlying t=some .bool) (h:cmpB op a b=some z):Qk P gm env V o (.v (.bool z)):=fun A _=>by
 refine wj ho (by rw [zq hx]; rfl) (by rw [zq hy]; rfl) ?_;rw [zj9];have he:zO P (Op.equal t (.bool a) (.bool b))=some (a==b):=by
  show zO P (Op.equalIn (9999+1) t (.bool a) (.bool b))=_;unfold Op.equalIn;exact zM (ye ht) rfl
 cases op <;> first | (cases h; done) | skip
 ·cases h;exact zM (f:=fun z=>(pure (Value.bool z):Sem Value)) he rfl
 ·cases h;exact zM (f:=fun z=>(pure (Value.bool !z):Sem Value)) he rfl
theorem q_not {t:TypeId} {x:Operand} {a:Bool} (ho:o.op=.unOp .not t x) (hx:zr gm env x=some (.v (.bool a))):Qk P gm env V o (.v (.bool !a)):=fun A _ =>
 ok_un ho (by rw [zq hx]; rfl) rfl
theorem kH {s d:TypeId} {x:Operand} {k k':IntKind} {ds:TypeDesc} {n m:Int} (ho:o.op=.convert s d x) (hx:zr gm env x=some (.v (.int k n))) (hs:P.underlying s=some ds) (hd:P.underlying d=some (.int k')) (h:k'.wrap n=m):Qk P gm env V o (.v (.int k' m)):=fun A _ =>
 zhP ho (by rw [zq hx]; rfl) (by
  unfold convert;refine zM (ye hs) (zM (ye hd) ?_);have:zO P (Conv.intToInt k' n)=some (.int k' m):=by rw [<- h]; rfl
  cases ds <;> exact this)
theorem kw {x:Operand} {k:Nat} {l:List AV} (ho:o.op=.extract x k) (hx:zr gm env x=some (.tup l)) (h:l[k]? =some r):Qk P gm env V o r:=fun _ _=>zhQ ho (zq hx) h
theorem zl0 {t:TypeId} {x:Operand} {k off n:Nat} {g:Bool} {l:List AV} (ho:o.op=.field t x k) (hx:zr gm env x=some (.agg l)) (hf:fieldOf P t k=some (off,g,n)) (h:partA g l off n=some r):Qk P gm env V o r:=fun _ _=>zkL ho (zq hx) hf h
theorem zk {t:TypeId} {x:Operand} {k i off d n:Nat} {g:Bool} (ho:o.op=.fieldAddr t x k) (hx:zr gm env x=some (.ptr i off)) (hf:fieldOf P t k=some (d,g,n)) (hn:n≠0):Qk P gm env V o (.ptr i (off+d)):=fun _ _=>zfF ho (zq hx) hf hn
theorem zhW {f:FuncId} {fs cs:Array Operand} {l m:List AV} (ho:o.op=.makeFunc (.func f) fs cs) (h1:fs.toList.map (zI gm env)=l) (h2:cs.toList.map (zI gm env)=m):Qk P gm env V o (.fn f l m):=fun _ _=>by
 subst h1 h2;exact zgr ho
theorem y5 {t:TypeId} {parts:Array (Nat×Operand)} {z:List Value} {pl:List (Nat×Nat)} {l:List AV} (ho:o.op=.build t parts) (hz:tyZero P t=some z) (hp:bldOf P t=some pl) (h:fillA pl (z.map .v) (parts.toList.map fun (i,x)=>(i,zI gm env x))=some l):Qk P gm env V o (.agg l):=fun _ _=>zkK ho hz hp h
def zZ (ob:AObj) (off n:Nat):Option (List AV):=match ob.look with
 | some l=>if 0<n/\off+n<=l.length then some ((l.drop off).take n) else none
 | none=>none
theorem vW {A:List AObj} {i off n:Nat} {ob:AObj} (h:A[i]? =some ob):loadA A i off n=zZ ob off n:=by
 unfold loadA zZ;rw [h];rfl
theorem zK {t:TypeId} {x:Operand} {i off n:Nat} {ob:AObj} {l:List AV} (ho:o.op=.load t x) (hx:zr gm env x=some (.ptr i off)) (ht:tySize P t=some (true,n)) (hm:(i,ob)∈V) (hl:zZ ob off n=some l):Qk P gm env V o (.agg l):=fun _ hA=>zlS ho (zq hx) ht ((vW (hA.get hm)).trans hl)
theorem zp {t:TypeId} {x:Operand} {i off n:Nat} {ob:AObj} (ho:o.op=.load t x) (hx:zr gm env x=some (.ptr i off)) (ht:tySize P t=some (false,n)) (hm:(i,ob)∈V) (hl:zZ ob off 1=some [r]):Qk P gm env V o r:=fun _ hA=>zkN ho (zq hx) ht ((vW (hA.get hm)).trans hl)
def putO (ob:AObj) (off:Nat) (vs:List AV):Option AObj:=match ob with
 | .cells l e true=>if off+vs.length<=l.length/\0<vs.length/\vs.all oneA=true then some (.cells (setL l off vs) e true) else none
 | .row l e size=>if off+vs.length<=l.length/\0<vs.length/\vs.all oneA=true then some (.row (setL l off vs) e size) else none
 | _=>none
theorem zjO {A:List AObj} {i off:Nat} {ob ob':AObj} {vs:List AV} (h:A[i]? =some ob) (hp:putO ob off vs=some ob'):storeA A i off vs=some (A.set i ob'):=by
 unfold putO at hp;unfold storeA;rw [h];split at hp
 ·split at hp
  ·rename_i hc; cases hp; simp only [hc,and_self,if_true]
  ·cases hp
 ·split at hp
  ·rename_i hc; cases hp; simp only [hc,and_self,if_true]
  ·cases hp
 ·cases hp
theorem zt {t:TypeId} {x y:Operand} {i off n:Nat} {g:Bool} {vs:List AV} {ob ob':AObj} (ho:o.op=.store t x y) (hx:zr gm env x=some (.ptr i off)) (ht:tySize P t=some (g,n)) (hy:cellsA (zI gm env y)=some vs) (hn:vs.length=n) (hm:(i,ob)∈V) (hs:putO ob off vs=some ob') :
  ∀ A,zP V A->OpOk P gm env A o .any (A.set i ob'):=fun _ hA=>zkO ho (zq hx) ht hy hn (zjO (hA.get hm) hs)
theorem n_box {t:TypeId} {x:Operand} {l:List AV} (ho:o.op=.box t x) (hx:cellsA (zI gm env x)=some l):Nk P gm env V o (fun j=>.ptr j 0) (.cells l t true):=fun _ _=>zmO ho hx
theorem zlL {t:TypeId} {z:List Value} (ho:o.op=.alloc t) (hz:tyZero P t=some z):Nk P gm env V o (fun j=>.ptr j 0) (.cells (z.map .v) t true):=fun _ _=>zkJ ho hz
theorem zG {t e:TypeId} {len size:Nat} {parts:Array (Nat×Operand)} {z:List Value} {l:List AV} (ho:o.op=.buildSlice t len parts) (ht:slElem P t=some (e,size)) (hz:tyZero P e=some z) (hlen:len*size<=16777216) (hmax:len<=16777216)
  (h:fillA ((List.range len).map fun i=>(i*size,size)) (List.replicate (len*size) .any) (parts.toList.map fun (i,x)=>(i,zI gm env x))=some l):Nk P gm env V o (fun j=>.row j len) (.row l e size):=fun _ _=>zeQ ho ht hz hlen hmax h
theorem wR {t e:TypeId} {x y:Operand} {k:IntKind} {n:Int} {i len size:Nat} (ho:o.op=.indexAddr t x y) (hx:zr gm env x=some (.row i len)) (hy:zr gm env y=some (.v (.int k n))) (ht:slElem P t=some (e,size)) {l:List AV} {e':TypeId} {s':Nat} (hm:(i,.row l e' s')∈V) (h0:0<=n) (h1:n<len) :
  Qk P gm env V o (.ptr i (n.toNat*size)):=fun _ hA=>zfH ho (zq hx) (zq hy) ht h0 h1 (hA.get hm)
theorem yY {t e:TypeId} {x y:Operand} {k:IntKind} {n:Int} {i off len size:Nat} (ho:o.op=.indexAddr t x y) (hx:zr gm env x=some (.sl i off len)) (hy:zr gm env y=some (.v (.int k n))) (ht:slElem P t=some (e,size)) (h0:0<=n) (h1:n<len) :
  Qk P gm env V o (.ptr i (off+n.toNat*size)):=fun _ _=>zgq ho (zq hx) (zq hy) ht h0 h1
theorem yC {t e:TypeId} {x y:Operand} {k:IntKind} {n:Int} {i off len size:Nat} {g:Bool} (ho:o.op=.indexAddr t x y) (hx:zr gm env x=some (.ptr i off)) (hy:zr gm env y=some (.v (.int k n))) (ht:arrElem P t=some (len,e,g,size)) (h0:0<=n) (h1:n<len) :
  Qk P gm env V o (.ptr i (off+n.toNat*size)):=fun _ _=>zfG ho (zq hx) (zq hy) ht h0 h1
theorem vO {t e:TypeId} {x y:Operand} {k:IntKind} {n:Int} {len size:Nat} {g:Bool} {l:List AV} (ho:o.op=.index t x y) (hx:zr gm env x=some (.agg l)) (hy:zr gm env y=some (.v (.int k n))) (ht:arrElem P t=some (len,e,g,size)) (h0:0<=n) (h1:n<len)
  (h:partA g l (n.toNat*size) size=some r):Qk P gm env V o r:=fun _ _=>zkM ho (zq hx) (zq hy) ht h0 h1 h
theorem zah {t:TypeId} {x y:Operand} {k:IntKind} {n:Int} {s:ByteArray} {c:UInt8} (ho:o.op=.index t x y) (hx:zr gm env x=some (.v (.string s))) (hy:zr gm env y=some (.v (.int k n))) (ht:P.underlying t=some .string) (h0:0<=n) (h1:s[n.toNat]? =some c) :
  Qk P gm env V o (.v (.int .u8 c.toNat)):=fun _ _=>zfI ho (zq hx) (zq hy) ht h0 h1
theorem q_len {x:Operand} {u:AV} {t e:TypeId} {n:Nat} (ho:o.op=.call { callee:=.builtin .len,args:=#[x],argTypes:=#[t] }) (hx:zr gm env x=some u) (hl:lenA u=some n) (ht:P.underlying t=some (.slice e)):Qk P gm env V o (.v (.int .i64 n)):=fun _ _=>zmP ho (by rw [zq hx]; exact hl) ht
theorem zkV {x:Operand} {t:TypeId} {s:ByteArray} (ho:o.op=.call { callee:=.builtin .len,args:=#[x],argTypes:=#[t] }) (hx:zr gm env x=some (.v (.string s))) (ht:P.underlying t=some .string):Qk P gm env V o (.v (.int .i64 s.size)):=fun _ _=>zhR ho (zq hx) ht
theorem q_min {x y:Operand} {t u:TypeId} {k k':IntKind} {m n:Int} (ho:o.op=.call { callee:=.builtin .min,args:=#[x,y],argTypes:=#[t,u] }) (hx:zr gm env x=some (.v (.int k m))) (hy:zr gm env y=some (.v (.int k' n))):Qk P gm env V o (.v (.int k (if n<m then n else m))):=fun _ _=>zmR ho (zq hx) (zq hy)
theorem q_max {x y:Operand} {t u:TypeId} {k k':IntKind} {m n:Int} (ho:o.op=.call { callee:=.builtin .max,args:=#[x,y],argTypes:=#[t,u] }) (hx:zr gm env x=some (.v (.int k m))) (hy:zr gm env y=some (.v (.int k' n))):Qk P gm env V o (.v (.int k (if m<n then n else m))):=fun _ _=>zmQ ho (zq hx) (zq hy)
theorem zem {t e:TypeId} {x:Operand} {lo hi:Option Operand} {i off len size l h:Nat} (ho:o.op=.slice t x lo hi none) (hx:zr gm env x=some (.sl i off len)) (ht:slElem P t=some (e,size))
  (hlo:bndA (lo.map (zI gm env)) 0=some l) (hhi:bndA (hi.map (zI gm env)) len=some h) (h1:l<=h) (h2:h<=len) (hr:subA i off size l h=r):Qk P gm env V o r:=fun _ _=>hr ▸ zgs ho (zq hx) ht hlo hhi h1 h2
theorem zai {t e:TypeId} {x:Operand} {lo hi:Option Operand} {i len size l h:Nat} (ho:o.op=.slice t x lo hi none) (hx:zr gm env x=some (.row i len)) (ht:slElem P t=some (e,size)) {l0:List AV} {e':TypeId} {s':Nat} (hm:(i,.row l0 e' s')∈V)
  (hlo:bndA (lo.map (zI gm env)) 0=some l) (hhi:bndA (hi.map (zI gm env)) len=some h) (h1:l<=h) (h2:h<=len) (hr:subA i 0 size l h=r):Qk P gm env V o r:=fun _ hA=>hr ▸ zfK ho (zq hx) ht (hA.get hm) hlo hhi h1 h2
theorem zcT {t e:TypeId} {x:Operand} {lo hi:Option Operand} {i off len size l h:Nat} {g:Bool} (ho:o.op=.slice t x lo hi none) (hx:zr gm env x=some (.ptr i off)) (ht:arrElem P t=some (len,e,g,size))
  (hlo:bndA (lo.map (zI gm env)) 0=some l) (hhi:bndA (hi.map (zI gm env)) len=some h) (h1:l<=h) (h2:h<=len) (hr:subA i off size l h=r):Qk P gm env V o r:=fun _ _=>hr ▸ zfJ ho (zq hx) ht hlo hhi h1 h2
def srcO (V:KV) (size:Nat) (x:AV) (m:Nat) (ln:List AV):Prop:=∀ A,zP V A->srcA A size x=some (m,ln)
theorem zjZ {s x:Operand} {t e:TypeId} {ti:TypeInfo} {z:Value} {size bytes i n m:Nat} {lo ln:List AV} {u:AV} (ho:o.op=.call { callee:=.builtin .append,args:=#[s,x],argTypes:=#[t,t] }) (ht:P.underlying t=some (.slice e)) (hi:P.info? e=some ti) (hz:ti.zero=some z)
  (hsz:z.cells.size=size) (hts:ti.size=size) (hby:ti.bytes=bytes) (hs0:0<size) (hs:zr gm env s=some (.row i n)) (hm:(i,.row lo e size)∈V) (hlo:lo.length=n*size) (hx:zr gm env x=some u) (hsrc:srcO V size u m ln) (hm0:0<m) (hone:ln.all oneA=true) (hmax:n+m<=maxLen) (hbytes:(n+m)*bytes<=140737488355328) :
  ∀ A,zP V A->OpOk P gm env A o (.row A.length (n+m)) (A.set i .gone++[.row (lo++ln) e size]):=fun A hA =>
 zi2 ho ht hi hz hsz hts hby hs0 (.inr (.inr ⟨i,zq hs,hA.get hm,hlo,rfl⟩)) (by rw [zq hx]; exact hsrc A hA) hm0 hone hmax hbytes
end
section
variable {P:Program} {gm:Nat->Option Nat} {T:Goroutine->Hp->Prop} {Y:KX P gm T} {ds:List Nat} {k:List Item} {env env' env1 env0:List AV} {K K':KV} {ops:Array Oper} {i:Nat} {rest L L':List Nat} {o:Oper} {r:AV} {ob ob':AObj} {envf:Nat->List AV} {pend pend':List Pd} {V:KV}
theorem TK.norm (he:env=env') (h:TK Y ds k env' K):TK Y ds k env K:=he ▸ h
theorem TD.norm (he:env=env') (h:TD Y ds ops k pend L env' K):TD Y ds ops k pend L env K:=he ▸ h
theorem TK.regionL {id:Nat} (hL:List.range ops.size=L) (h:TK Y ds (.inRegion ops L::k) env K):TK Y ds (.code (.region id ops false)::k) env K:=TK.region (by rw [hL]; exact h)
theorem TK.newP (ho:ops[i]? =some o) (hd:yc o.op=false) (hw:yd ops env o=some true) (hq:Nk P gm env K o (fun j=>.ptr j 0) ob) (he:∀ j,putA env o.dst (.ptr j 0)=envf j) (h:∀ j,j∉keys K->TK Y ds (.inRegion ops rest::k) (envf j) ((j,ob)::K)):TK Y ds (.inRegion ops (i::rest)::k) env K:=TK.new ho hd hw hq he h
theorem TK.newR {n:Nat} (ho:ops[i]? =some o) (hd:yc o.op=false) (hw:yd ops env o=some true) (hq:Nk P gm env K o (fun j=>.row j n) ob) (he:∀ j,putA env o.dst (.row j n)=envf j) (h:∀ j,j∉keys K->TK Y ds (.inRegion ops rest::k) (envf j) ((j,ob)::K)):TK Y ds (.inRegion ops (i::rest)::k) env K:=TK.new ho hd hw hq he h
theorem TK.appR {j n:Nat} {K'':Nat->KV} (ho:ops[i]? =some o) (hd:yc o.op=false) (hw:yd ops env o=some true) (hq:∀ A,zP K A->OpOk P gm env A o (.row A.length n) (A.set j .gone++[ob'])) (hu:∀ j',Upd K j ob j' ob' (K'' j')) (he:∀ j',putA env o.dst (.row j' n)=envf j') (h:∀ j',TK Y ds (.inRegion ops rest::k) (envf j') (K'' j')):TK Y ds (.inRegion ops (i::rest)::k) env K:=TK.app (f:=fun j'=>.row j' n) ho hd hw hq hu he h
theorem TK.splitN (d:Nat) {t:Bool} (hd:env[d]? =some (.v (.bool t))) (h1:env.set d (.v (.bool true))=env1) (h0:env.set d (.v (.bool false))=env0) (k1:t=true->TK Y ds k env1 K) (k0:t=false->TK Y ds k env0 K):TK Y ds k env K:=by
 subst h1 h0;exact TK.split d hd k1 k0
theorem TD.splitN (d:Nat) {t:Bool} (hd:env[d]? =some (.v (.bool t))) (h1:env.set d (.v (.bool true))=env1) (h0:env.set d (.v (.bool false))=env0) (k1:t=true->TD Y ds ops k pend L env1 K) (k0:t=false->TD Y ds ops k pend L env0 K):TD Y ds ops k pend L env K:=by
 subst h1 h0;exact TD.split d hd k1 k0
theorem TD.cq (s:List Nat) (ho:ops[i]? =some o) (hd:yc o.op=false) (hw:yd ops (onl s env) o=some true) (hp':pendOf ops i pend=pend') (hc:chkC ops pend' L' s i o.dst=true) (hq:Qk P gm (onl s env) K o r) (he:putA env o.dst r=env') (hv:∀ p∈pend',∀ x∈p.V,x∈K) (h:TD Y ds ops k pend' L' env' K):TD Y ds ops k pend (i::L') env K :=
 TD.c s ho hw hp' hc (k9 hd fun A hv' hn=>⟨r,A,K,hq A hv',.same hv' hn,hv,by rw [he]; exact h⟩)
theorem TD.cnewP (s:List Nat) (ho:ops[i]? =some o) (hd:yc o.op=false) (hw:yd ops (onl s env) o=some true) (hp':pendOf ops i pend=pend') (hc:chkC ops pend' L' s i o.dst=true) (hq:Nk P gm (onl s env) K o (fun j=>.ptr j 0) ob) (he:∀ j,putA env o.dst (.ptr j 0)=envf j) (hv:∀ p∈pend',∀ x∈p.V,x∈K) (h:∀ j,j∉keys K->TD Y ds ops k pend' L' (envf j) ((j,ob)::K)):TD Y ds ops k pend (i::L') env K :=
 TD.c s ho hw hp' hc (k9 hd fun A hv' hn=>⟨_,_,_,hq A hv',.push hv' hn ob,fun p hp x hx=>List.mem_cons_of_mem _ (hv p hp x hx),by dsimp only; rw [he]; exact h _ fun hm=>absurd (hv'.lt hm) (Nat.lt_irrefl _)⟩)
theorem TD.cnewR {n:Nat} (s:List Nat) (ho:ops[i]? =some o) (hd:yc o.op=false) (hw:yd ops (onl s env) o=some true) (hp':pendOf ops i pend=pend') (hc:chkC ops pend' L' s i o.dst=true) (hq:Nk P gm (onl s env) K o (fun j=>.row j n) ob) (he:∀ j,putA env o.dst (.row j n)=envf j) (hv:∀ p∈pend',∀ x∈p.V,x∈K) (h:∀ j,j∉keys K->TD Y ds ops k pend' L' (envf j) ((j,ob)::K)):TD Y ds ops k pend (i::L') env K :=
 TD.c s ho hw hp' hc (k9 hd fun A hv' hn=>⟨_,_,_,hq A hv',.push hv' hn ob,fun p hp x hx=>List.mem_cons_of_mem _ (hv p hp x hx),by dsimp only; rw [he]; exact h _ fun hm=>absurd (hv'.lt hm) (Nat.lt_irrefl _)⟩)
theorem TD.cst {j:Nat} (s:List Nat) (ho:ops[i]? =some o) (hd:yc o.op=false) (hw:yd ops (onl s env) o=some true) (hp':pendOf ops i pend=pend') (hc:chkC ops pend' L' s i o.dst=true) (hq:∀ A,zP K A->OpOk P gm (onl s env) A o r (A.set j ob')) (hu:Upd K j ob j ob' K') (he:putA env o.dst r=env') (hv:∀ p∈pend',∀ x∈p.V,x∈K') (h:TD Y ds ops k pend' L' env' K'):TD Y ds ops k pend (i::L') env K :=
 TD.c s ho hw hp' hc (k9 hd fun A hv' hn=>⟨r,_,K',hq A hv',.set hv' hn hu,hv,by rw [he]; exact h⟩)
theorem TD.capp {j n:Nat} {K'':Nat->KV} (s:List Nat) (ho:ops[i]? =some o) (hd:yc o.op=false) (hw:yd ops (onl s env) o=some true) (hp':pendOf ops i pend=pend') (hc:chkC ops pend' L' s i o.dst=true) (hq:∀ A,zP K A->OpOk P gm (onl s env) A o (.row A.length n) (A.set j .gone++[ob'])) (hu:∀ j',Upd K j ob j' ob' (K'' j')) (he:∀ j',putA env o.dst (.row j' n)=envf j') (hv:∀ j',∀ p∈pend',∀ x∈p.V,x∈K'' j') (h:∀ j',TD Y ds ops k pend' L' (envf j') (K'' j')):TD Y ds ops k pend (i::L') env K :=
 TD.c s ho hw hp' hc (k9 hd fun A hv' hn=>⟨_,_,_,hq A hv',.renew hv' hn (hu _),hv _,by rw [he]; exact h _⟩)
theorem TK.call' {fo:Operand} {ars:Array Operand} {at_:Array TypeId} {g:FuncId} {fs cp args:List AV} {Kf R:KV} {Post:AV->KV->Prop} (ho:ops[i]? =some o) (hw:yd ops env o=some true) (hop:o.op=.call { callee:=.value fo,args:=ars,argTypes:=at_ })
  (hf:zr gm env fo=some (.fn g fs cp)) (hg:ym P g=true) (hargs:fs++ars.toList.map (zI gm env)++cp=args) (hc:zg P T gm g args Kf Post) (hs:Split K Kf R)
  (h:∀ r K',Post r K'->TK Y ds (.inRegion ops rest::k) (putA env o.dst r) (K'++R)):TK Y ds (.inRegion ops (i::rest)::k) env K:=TK.ex ho hw (zb3 hop (zq hf) hg hargs hc hs h)
theorem TD.call' {fo:Operand} {ars:Array Operand} {at_:Array TypeId} {g:FuncId} {fs cp args:List AV} {Kf R:KV} {Post:AV->KV->Prop} (s:List Nat) (ho:ops[i]? =some o) (hw:yd ops (onl s env) o=some true) (hp':pendOf ops i pend=pend') (hc':chkC ops pend' L' s i o.dst=true) (hop:o.op=.call { callee:=.value fo,args:=ars,argTypes:=at_ })
  (hf:zr gm (onl s env) fo=some (.fn g fs cp)) (hg:ym P g=true) (hargs:fs++ars.toList.map (zI gm (onl s env))++cp=args) (hc:zg P T gm g args Kf Post) (hs:Split K Kf R)
  (h:∀ r K',Post r K'->(∀ p∈pend',∀ x∈p.V,x∈K'++R)/\TD Y ds ops k pend' L' (putA env o.dst r) (K'++R)):TD Y ds ops k pend (i::L') env K:=TD.c s ho hw hp' hc' (zb3 hop (zq hf) hg hargs hc hs h)
theorem yS {j m size:Nat} {l ln:List AV} {e:TypeId} {s':Nat} (hm:(j,.row l e s')∈V) (hpos:0<m*size) (hle:m*size<=l.length) (hl:l.take (m*size)=ln):srcO V size (.row j m) m ln:=fun A hA=>by
 simp only [srcA];rw [if_neg oQ,hA.get hm];simp only [loadA,hA.get hm,AObj.look,List.drop_zero,Nat.zero_add];rw [if_pos ⟨hpos,hle⟩,hl];rfl
theorem ud {j off m size:Nat} {ob:AObj} {ln:List AV} (hm:(j,ob)∈V) (hpos:0<m*size) (hl:zZ ob off (m*size)=some ln):srcO V size (.sl j off m) m ln:=fun A hA=>by
 simp only [srcA];rw [if_neg oQ,vW (hA.get hm),hl];rfl
def tyZeroA (P:Program) (t:TypeId):Option (List AV):=(tyZero P t).map fun z=>z.map .v
theorem zU {t:TypeId} {l:List AV} (ho:o.op=.alloc t) (hz:tyZeroA P t=some l):Nk P gm env V o (fun j=>.ptr j 0) (.cells l t true):=by
 unfold tyZeroA at hz;cases e:tyZero P t with
 | none=>rw [e] at hz; cases hz
 | some z=>rw [e] at hz; cases hz; exact zlL ho e
def apOf (P:Program) (t:TypeId):Option (TypeId×Nat×Nat):=match P.underlying t with
 | some (.slice e)=>match P.info? e with
  | some ti=>match ti.zero with
   | some z=>if z.cells.size=ti.size/\0<ti.size then some (e,ti.size,ti.bytes) else none
   | none=>none
  | none=>none
 | _=>none
theorem a_app {s x:Operand} {t e:TypeId} {size bytes i n m:Nat} {lo ln:List AV} {u:AV} (ho:o.op=.call { callee:=.builtin .append,args:=#[s,x],argTypes:=#[t,t] }) (ht:apOf P t=some (e,size,bytes)) (hs:zr gm env s=some (.row i n)) (hm:(i,.row lo e size)∈V) (hlo:lo.length=n*size) (hx:zr gm env x=some u) (hsrc:srcO V size u m ln) (hm0:0<m) (hone:ln.all oneA=true) (hmax:n+m<=maxLen) (hbytes:(n+m)*bytes<=140737488355328) :
  ∀ A,zP V A->OpOk P gm env A o (.row A.length (n+m)) (A.set i .gone++[.row (lo++ln) e size]):=by
 unfold apOf at ht;split at ht
 ·rename_i e' h1;split at ht
  ·rename_i ti h2;split at ht
   ·rename_i z h3;split at ht
    ·rename_i h4;cases ht;exact zjZ ho h1 h2 h3 h4.1 rfl rfl h4.2 hs hm hlo hx hsrc hm0 hone hmax hbytes
    ·cases ht
   ·cases ht
  ·cases ht
 ·cases ht
inductive ResK (P:Program) (K:KV) (env:List AV):ResultVar->AV->Prop
 | tmp {t:Nat} {r:AV}:env[t]? =some r->ResK P K env (.tmp t) r
 | cell {a t i off n:Nat} {ob:AObj} {l:List AV}:env[a]? =some (.ptr i off)->tySize P t=some (true,n)->(i,ob)∈K->zZ ob off n=some l->ResK P K env (.cell a t) (.agg l)
 | cell1 {a t i off n:Nat} {ob:AObj} {r:AV}:env[a]? =some (.ptr i off)->tySize P t=some (false,n)->(i,ob)∈K->zZ ob off 1=some [r]->ResK P K env (.cell a t) r
theorem zS {t:Nat} (h:env[t]? =some r):ResK P K env (.tmp t) r:=.tmp h
theorem kq {a t i off n:Nat} {l:List AV} (h:env[a]? =some (.ptr i off)) (ht:tySize P t=some (true,n)) (hm:(i,ob)∈K) (hl:zZ ob off n=some l):ResK P K env (.cell a t) (.agg l):=.cell h ht hm hl
theorem yD {a t i off n:Nat} (h:env[a]? =some (.ptr i off)) (ht:tySize P t=some (false,n)) (hm:(i,ob)∈K) (hl:zZ ob off 1=some [r]):ResK P K env (.cell a t) r:=.cell1 h ht hm hl
theorem zdi {l:List AV} {t:Nat} (h:l[t]? =some r):l.getD t .any=r:=by rw [List.getD_eq_getElem?_getD,h]; rfl
theorem ResK.res {v:ResultVar} (h:ResK P K env v r) {A:List AObj} (hA:zP K A):resA1 P env A v=some r:=by
 cases h with
 | tmp h=>simp only [resA1,zdi h]
 | cell h ht hm hl=>simp only [resA1,zdi h,varA,ht,vW (hA.get hm),hl]
 | cell1 h ht hm hl=>simp only [resA1,zdi h,varA,ht,vW (hA.get hm),hl]
inductive ResKs (P:Program) (K:KV) (env:List AV):List ResultVar->List AV->Prop
 | nil:ResKs P K env [] []
 | cons {v:ResultVar} {r:AV} {vs:List ResultVar} {rs:List AV}:ResK P K env v r->ResKs P K env vs rs->ResKs P K env (v::vs) (r::rs)
theorem ResKs.res {vs:List ResultVar} {rs:List AV} (h:ResKs P K env vs rs) {A:List AObj} (hA:zP K A):resAs P env A vs=some rs:=by
 induction h with
 | nil=>rfl
 | cons h _ ih=>simp only [resAs,h.res hA,ih]
theorem kl {v:ResultVar} (h:ResK P K env v r):∀ A,zP K A->resA P [v] env A=some r:=fun A hA=>by
 simp only [resA,resAs,h.res hA]
theorem y7 {vs:List ResultVar} {rs:List AV} (h:ResKs P K env vs rs) (hl:(rs.length==1)=false):∀ A,zP K A->resA P vs env A=some (.tup rs):=fun A hA=>by
 unfold resA;rw [h.res hA];split
 ·rename_i e; cases e; cases hl
 ·rename_i e; cases e; rfl
 ·rename_i e; cases e
end
theorem RelH.turn {φ:Nat->Loc3} {A:List AObj} {F H:Hp} (h:RelH φ A F H) {i:Nat} {o o':AObj} (hi:A[i]? =some o) (ho:RelO φ A.length (φ i) H o->RelO φ A.length (φ i) H o') (hx:o'.excl=true->o.excl=true) (hl:o'.live=true->o.live=true) (hs:sol (φ i) o'->sol (φ i) o):RelH φ (A.set i o') F H:=by
 have hlt:i<A.length:=(lD.1 hi).1;have hget:∀ (j:Nat) q,(A.set i o')[j]? =some q->(j≠i/\A[j]? =some q)\/(j=i/\q=o'):=fun j q hj=>by
  rw [lX] at hj;split at hj
  ·rename_i e;subst e;simp [hlt] at hj;exact .inr ⟨rfl,hj.symm⟩
  ·rename_i e;exact .inl ⟨Ne.symm e,hj⟩
 refine ⟨fun j q hj=>?_,fun j k q1 q2 hj hk hjk he hl' hs1 hs2=>?_,h.fr,fun j q hj he hsj=>?_⟩
 ·rw [List.length_set];rcases hget j q hj with ⟨_,hj'⟩ | ⟨rfl,rfl⟩
  ·exact h.obj j q hj'
  ·exact ho (h.obj j o hi)
 ·rcases hget j q1 hj with ⟨_,hj'⟩ | ⟨rfl,rfl⟩
  ·rcases hget k q2 hk with ⟨_,hk'⟩ | ⟨rfl,rfl⟩
   ·exact h.apart j k q1 q2 hj' hk' hjk he hl' hs1 hs2
   ·exact h.apart j k q1 o hj' hi hjk he (hl hl') hs1 (hs hs2)
  ·rcases hget k q2 hk with ⟨_,hk'⟩ | ⟨rfl,rfl⟩
   ·exact h.apart j k o q2 hi hk' hjk (hx he) hl' (hs hs1) hs2
   ·exact absurd rfl hjk
 ·rcases hget j q hj with ⟨_,hj'⟩ | ⟨rfl,rfl⟩
  ·exact h.frx j q hj' he hsj
  ·exact h.frx j o hi (hx he) (hs hsj)
theorem RelH.virtO {φ:Nat->Loc3} {A:List AObj} {F H:Hp} (h:RelH φ A F H) {o:AObj} (ho:∀ (φ:Nat->Loc3) n,RelO φ n ⟨0,0,0⟩ H o) (hs:¬ sol ⟨0,0,0⟩ o):RelH (upd3 φ A.length ⟨0,0,0⟩) (A++[o]) F H:=by
 have hlen:(A++[o]).length=A.length+1:=by simp
 have hget:∀ (i:Nat) o',(A++[o])[i]? =some o'->(i<A.length/\A[i]? =some o')\/(i=A.length/\o'=o):=fun i o' hi=>by
  rcases Nat.lt_or_ge i A.length with hlt | hge
  ·rw [lG hlt] at hi; exact .inl ⟨hlt,hi⟩
  ·rw [List.getElem?_append_right hge] at hi;have:i - A.length=0:=by
    have:=(lD.1 hi).1;simp at this;omega
   rw [this] at hi;simp at hi;exact .inr ⟨by omega,hi.symm⟩
 have hold:∀ i,i<A.length->upd3 φ A.length ⟨0,0,0⟩ i=φ i:=fun i hi=>by simp [upd3]; omega
 have hnew:upd3 φ A.length ⟨0,0,0⟩ A.length=⟨0,0,0⟩:=by simp [upd3]
 refine ⟨fun i o' hi=>?_,fun i j o1 o2 hi hj hij he hl hs1 hs2=>?_,h.fr,fun i o' hi he hsi=>?_⟩
 ·rw [hlen];rcases hget i o' hi with ⟨hlt,hi'⟩ | ⟨rfl,rfl⟩
  ·rw [hold i hlt]; exact (h.obj i o' hi').mono (yw φ _ _) oQ (fun _ _=>rfl)
  ·rw [hnew]; exact ho _ _
 ·rcases hget i o1 hi with ⟨hi1,hi'⟩ | ⟨rfl,rfl⟩
  ·rcases hget j o2 hj with ⟨hj1,hj'⟩ | ⟨rfl,rfl⟩
   ·rw [hold i hi1] at hs1 ⊢; rw [hold j hj1] at hs2 ⊢; exact h.apart i j o1 o2 hi' hj' hij he hl hs1 hs2
   ·rw [hnew] at hs2; exact absurd hs2 hs
  ·rw [hnew] at hs1; exact absurd hs1 hs
 ·rcases hget i o' hi with ⟨hlt,hi'⟩ | ⟨rfl,rfl⟩
  ·rw [hold i hlt] at hsi ⊢; exact h.frx i o' hi' he hsi
  ·rw [hnew] at hsi; exact absurd hsi hs
section
variable {P:Program} {gm:Nat->Option Nat} {T:Goroutine->Hp->Prop} {Y:KX P gm T} {ds:List Nat} {k:List Item} {env env':List AV} {K K':KV}
theorem zT.set' {φ:Nat->Loc3} {n:Nat} {ts:Array Value} (h:zT φ n env ts) {d:Nat} {a a':AV} (hd:env[d]? =some a) (hr:∀ y,RelV φ n a y->RelV φ n a' y):zT φ n (env.set d a') ts:=by
 refine ⟨by simp [h.1],fun j u y hu hy=>?_⟩;rw [lX] at hu;split at hu
 ·rename_i e;subst e;split at hu
  ·cases hu; exact hr y (h.2 d a y hd hy)
  ·cases hu
 ·exact h.2 j u y hu hy
def unrow (j:Nat):AV->AV
 | .row i n=>if i=j then .sl i 0 n else .row i n
 | a=>a
theorem wJ {φ:Nat->Loc3} {n j:Nat} (hb:(φ j).base=0) {a:AV} {y:Value} (h:RelV φ n a y):RelV φ n (unrow j a) y:=by
 cases a with
 | row i len =>
  show RelV φ n (if i=j then .sl i 0 len else .row i len) y;split
  ·rename_i e;subst e;obtain ⟨h1,h2,h3⟩:=uI h;unfold rowV at h3;split at h3
   ·rename_i e0;obtain ⟨b,rfl⟩:=h3;obtain rfl:len=0:=by omega
    exact .sl h1 (mL _) fun hp=>absurd hp (Nat.lt_irrefl _)
   ·rw [h3];exact .sl h1 h2 fun _=>by rw [hb]
  ·exact h
 | _=>exact h
def unrow1 (j:Nat):AV->AV
 | .agg l=>.agg (l.map (unrow j))
 | a=>unrow j a
theorem zib {φ:Nat->Loc3} {n j:Nat} (hb:(φ j).base=0) {a:AV} {y:Value} (h:RelV φ n a y):RelV φ n (unrow1 j a) y:=by
 cases a with
 | agg l =>
  obtain ⟨ys,rfl,h1,h2⟩:=zbi h;refine .agg (by simpa using h1) fun t u z hu hz=>?_;rw [lQ] at hu;cases e:l[t]? with
  | none=>rw [e] at hu; cases hu
  | some v=>rw [e] at hu; cases hu; exact wJ hb (h2 t v z e hz)
 | _=>exact wJ hb h
theorem TK.freeze (d:Nat) {j:Nat} {l:List AV} {e:TypeId} {s:Nat} {a:AV} (hd:env[d]? =some a) (hu:Upd K j (.row l e s) j (.cells l e false) K') (he:env.set d (unrow1 j a)=env') (h:TK Y ds k env' K'):TK Y ds k env K:=fun A hA φ H ts h1 h2 h3 h4 h5 h6=>by
 have hj:=hA.view.get hu.mem;have hb:(φ j).base=0:=(h5.obj j _ hj).2.1;subst he;refine h _ (hA.step (.set hA.view hA.nd hu)) φ H ts h1 (by simpa using h2) (by simpa using h3) (by simpa using h4) ?_ (by simpa using h6.set' hd fun y hy=>zib hb hy);refine h5.turn hj (fun ho hl=>?_) (fun h=>by cases h) (fun _=>rfl) (fun hs=>?_)
 ·have hc:0<(φ j).cap:=by
   rcases mP (φ j).cap with e | e
   ·exact absurd (ho.1 e) hl
   ·exact e
  obtain ⟨cur,q1,q2,q3,q4,q5⟩:=ho.2.2 hc;exact ⟨true,cur,(_,0,0),q1,(fun h=>by cases h),fun t u hu=>by rw [hb,mO]; exact q5 t u hu⟩
 ·show 0<(φ j).cap;rcases mP (φ j).cap with e | e
  ·exact absurd ((h5.obj j _ hj).1 e) hs
  ·exact e
theorem TK.ro {j:Nat} {l:List AV} {e:TypeId} (hu:Upd K j (.cells l e true) j (.cells l e false) K') (h:TK Y ds k env K'):TK Y ds k env K:=fun A hA φ H ts h1 h2 h3 h4 h5 h6=>by
 have hj:=hA.view.get hu.mem;refine h _ (hA.step (.set hA.view hA.nd hu)) φ H ts h1 (by simpa using h2) (by simpa using h3) (by simpa using h4) (h5.turn hj (fun ho hl=>?_) (fun h=>by cases h) (fun _=>rfl) (fun hs=>hs)) (by simpa using h6);obtain ⟨rw',cur,fz,q1,_,q3⟩:=ho hl;exact ⟨rw',cur,fz,q1,(fun h=>by cases h),q3⟩
theorem ze0 {main:Bool} (hT:zh P main T) {g:FuncId} {fn:Func} {c:Code} {args:List AV} {Post:AV->KV->Prop} (hf:P.funcs[g]? =some fn) (hb:fn.body=some c)
  (h:∀ Y:KX P gm T,(∀ j env K' K'' D r,(j=none\/j=some .ret)->Split K' K'' D->(∀ A',zP K' A'->resA P fn.results.toList env A'=some r)->Post r K''->∀ A',Kn Y K' A'->Y.X.L j [] env A')->TK Y [] [.code c] (args++mB (fn.ntmps - args.length) .any) K):zg P T gm g args K Post:=by
 intro A hv hn;refine zgh hT hf hb fun X hret hend=>?_;refine h ⟨X,A,keys K⟩ (fun j env K' K'' D r hj hsp hres hp A' hA'=>?_) A ⟨hv,hn,fun i hi=>.inl hi,fun _ _ _=>rfl,mL _⟩;have hpm:=hsp.perm;have hnd:=(zL hpm).nodup_iff.1 hA'.nd;rw [yn] at hnd;have hq:∃ K',Kstep K A K' A'/\Post r K':=⟨K'',⟨hA'.view.sub fun x hx=>hpm.symm.subset (by simp [hx]),(List.nodup_append.1 hnd).1,fun i hi=>hA'.own i (by
  obtain ⟨x,hx,rfl⟩:=lY.1 hi;exact yB (hpm.symm.subset (by simp [hx]))),hA'.kept,hA'.len⟩,hp⟩
 rcases hj with rfl | rfl
 ·exact hend env A' r (hres A' hA'.view) hq
 ·exact hret env A' r (hres A' hA'.view) hq
end
def liveA (live:List Nat):Nat->List AV->List AV
 | _,[]=>[]
 | i,a::l=>(bif live.elem i then a else .any)::liveA live (i+1) l
def liveB (live:List Nat):Nat->List AV->List Bool
 | _,[]=>[]
 | i,_::l=>live.elem i::liveB live (i+1) l
theorem zcc (live:List Nat):∀ (i:Nat) (l:List AV),maskA (liveB live i l) l=liveA live i l
 | _,[]=>rfl
 | i,a::l=>by
  unfold liveA liveB;cases h:live.elem i
  ·show AV.any::maskA (liveB live (i+1) l) l=_;rw [zcc live (i+1) l]; rfl
  ·show a::maskA (liveB live (i+1) l) l=_;rw [zcc live (i+1) l]; rfl
theorem TK.maskL {P:Program} {gm:Nat->Option Nat} {T:Goroutine->Hp->Prop} {Y:KX P gm T} {ds:List Nat} {k:List Item} {env:List AV} {K:KV} (live:List Nat) (h:TK Y ds k (liveA live 0 env) K):TK Y ds k env K:=TK.mask _ (zcc live 0 env) h
theorem zy {env env':List AV} {x:Option Nat} {d:Nat} {r:AV} (h:x=some d) (he:env.set d r=env'):putA env x r=env':=by subst h; exact he
theorem putN {env:List AV} {x:Option Nat} {r:AV} (h:x=none):putA env x r=env:=by subst h; rfl
section
variable {P:Program} {gm:Nat->Option Nat} {T:Goroutine->Hp->Prop} {Y:KX P gm T} {ds:List Nat} {k:List Item} {env env':List AV} {K:KV} {ops:Array Oper} {i d:Nat} {o:Oper} {r:AV} {rest:List Nat}
theorem TK.a (ho:ops[i]? =some o) (hq:∀ A,zP K A->OpOk P gm env A o r A) (h:TK Y ds (.inRegion ops rest::k) env' K) (hd:yc o.op=false:=by rfl) (hw:yd ops env o=some true:=by rfl) (hx:o.dst=some d:=by rfl) (he:env.set d r=env':=by simp only [List.set]; rfl):TK Y ds (.inRegion ops (i::rest)::k) env K :=
 TK.q ho hd hw hq (zy hx he) h
end
section
variable {P:Program} {gm:Nat->Option Nat} {V:KV} {env:List AV} {o:Oper} {r:AV}
def byteA (b:UInt8):AV:=.v (.int .u8 b.toNat)
theorem ziU {sT dT e:TypeId} {x:Operand} {s:ByteArray} (ho:o.op=.convert sT dT x) (hx:zr gm env x=some (.v (.string s))) (hs:P.underlying sT=some .string) (hd:P.underlying dT=some (.slice e)) (he:P.underlying e=some (.int .u8)) (hl:s.size<=1000000) :
  Nk P gm env V o (fun j=>.sl j 0 s.size) (.cells (s.data.toList.map byteA) e false):=fun A _ φ F H a hg hH hE=>by
 unfold execOp; rw [ho]; dsimp only;have hx':=zu hg hE x;rw [zq hx] at hx';rw [inv_v hx'];refine wpS_v ?_;unfold convert;refine za _ _ _ (zz hs ?_);refine za _ _ _ (zz hd ?_);dsimp only;refine za _ _ _ (zz he ?_);dsimp only;unfold Conv.stringToBytes;refine za _ _ _ fun cap hc1 hc2=>?_;have hcap:=zcu (e:=e) (old:=0) oQ hc1 hc2;dsimp only;unfold newRow;refine za _ _ _ ?_;refine za _ _ _ fun b hb=>?_;refine za _ _ _ ?_;unfold markStringish;refine za _ _ _ ?_;refine ⟨_,_,Hp.put_same _ _ _,?_⟩;dsimp only [shapeOf];refine ⟨by omega,_,_,_,Hp.put_same _ _ _,?_⟩;rw [Hp.put_put];refine ⟨_,upd3 φ A.length ⟨b,0,0⟩,.inl rfl,yw _ _ _,by simp,hH.push hb Z ?_,?_⟩
 ·refine fun _=>⟨true,_,(_,_,_),Hp.put_same _ _ _,(fun h=>by cases h),fun j u hu=>?_⟩;rw [lQ] at hu;cases e1:s.data.toList[j]? with
  | none=>rw [e1] at hu; cases hu
  | some c =>
   rw [e1] at hu;cases hu;refine ⟨.int .u8 c.toNat,?_,.v _⟩;rw [mO];have hlt:j<s.data.size:=by have:=(lD.1 e1).1; simpa using this
   rw [Array.getElem?_append_left (by simpa using hlt),Array.getElem?_map];rw [mI] at e1;rw [e1]; rfl
 ·refine .sl sQ hcap.1 fun _=>?_;simp [upd3]
variable {T:Goroutine->Hp->Prop} {Y:KX P gm T} {ds:List Nat} {k:List Item} {K:KV} {ops:Array Oper} {i:Nat} {rest:List Nat} {ob:AObj} {envf:Nat->List AV}
theorem TK.loop {c:Code} (h:TK Y ds (.code c::.inLoop c::k) env K):TK Y ds (.code (.loop c)::k) env K:=fun A hA=>(h A hA).loop
theorem TK.newS {n:Nat} (ho:ops[i]? =some o) (hd:yc o.op=false) (hw:yd ops env o=some true) (hq:Nk P gm env K o (fun j=>.sl j 0 n) ob) (he:∀ j,putA env o.dst (.sl j 0 n)=envf j) (h:∀ j,j∉keys K->TK Y ds (.inRegion ops rest::k) (envf j) ((j,ob)::K)):TK Y ds (.inRegion ops (i::rest)::k) env K:=TK.new ho hd hw hq he h
end
section
variable {P:Program} {main:Bool} {T:Goroutine->Hp->Prop} {kd:CallKind} {f:FuncId} {ro:Option Nat} {ts:Array Value} {ds:List Deferred} {k:List Item} {cs:List Frame} {H:Hp} {w:World}
def ylCall (fo:Operand) (l:Nat):Call:={ callee:=.value fo,args:=#[.const (.func (.yield l) #[] #[])],argTypes:=#[] }
theorem StepH.seen {w':World} {es:Array Event} (h:StepH H w w' es):StepH H w w' (Go.seen P f es):=⟨h.size,h.kept,fun e he=>h.evs e (mem_seen he),h.os,h.out,h.tape⟩
theorem yU {α:Type} {P:Program} {s:Sem α} {w w1:World} {a:α} {es:Array Event} (h:s.runT P w #[]=(.ok a w1,es)):s.run P w=.ok a w1/\s.events P w #[]=es:=by
 have:=Sem.runT_eq P s w #[];rw [h] at this;exact ⟨(congrArg Prod.fst this).symm,(congrArg Prod.snd this).symm⟩
theorem zh.rangeF (hT:zh P main T) (hkd:kd≠.early) {fo:Operand} {ps:Array Tmp} {x y:Code}
  (h:wpS P (Instr.enterLoop f ts ps x y ro) H fun lm H1=>wpS P (resolve (evT ts) (ylCall fo lm.1) 0 >>= fun d=>invoke d.target d.args) H1 fun nx H2=>match nx with
   | .enter g us=>T (G (Frame.enter P g us .normal) (fr kd f ro ts (lm.2++ds) (.inRangeFunc lm.1::k)::cs)) H2
   | _=>False):T (G (fr kd f ro ts ds (.code (.rangeFunc fo ps x y)::k)) cs) H:=by
 refine hT _ _ Z fun w hf=>?_;obtain ⟨⟨l,mark⟩,w1,es1,h1,h2,h3⟩:=kL _ _ _ w #[] h hf;obtain ⟨nx,w2,es2,q1,q2,q3⟩:=kL _ _ _ w1 #[] h3 (hf.next h2);rw [mK] at h1 q1;cases nx with
 | enter g us =>
  refine ⟨_,_,Go.seen P f es1++Go.seen P f es2,?_,StepH.trans hf h2.seen q2.seen,rfl,by rw [<- wD h2.size q2.size hf]; exact q3⟩;have he:=zdh kd f ro ts (mark++ds) (.inRangeFunc l::k);simp only [fr] at he;obtain ⟨e1,e2⟩:=yU h1;obtain ⟨e3,e4⟩:=yU q1;simp only [ylCall] at e3 e4;simp only [G,stepG,stepG.exec,fr,Sem.runT_eq,e1,e2,stepG.apply,he,if_true,e3,e4];simp [GStep.after,hkd]
 | _=>exact q3.elim
theorem zh.endRangeF (hT:zh P main T) {l:Nat} (h:wpS P (Instr.endLoop l) H fun jump H'=>T (G (fr kd f ro ts ds ((jump.map Item.code).toList++k)) cs) H'):T (G (fr kd f ro ts ds (.endRangeFunc l::k)) cs) H:=by
 refine hT _ _ Z fun w hf=>?_;obtain ⟨jump,w1,es1,h1,h2,h3⟩:=kL _ _ _ w #[] h hf;rw [mK] at h1;refine ⟨_,_,Go.seen P f es1,?_,h2.seen,rfl,h3⟩;obtain ⟨e1,e2⟩:=yU h1;simp [G,stepG,stepG.exec,fr,Sem.runT_eq,e1,e2,GStep.after]
theorem zh.beginF (hT:zh P main T) (hkd:kd≠.early) {l:Nat} (h:wpS P (Instr.beginRound l) H fun _ H'=>T (G (fr kd f (some l) ts ds k) cs) H'):T (G (fr kd f (some l) ts ds (.beginRound::k)) cs) H:=by
 refine hT _ _ Z fun w hf=>?_;obtain ⟨nx,w1,es1,h1,h2,h3⟩:=kL (Instr.beginRound l >>= fun _=>Pure.pure Next.skip) H (fun nx H'=>nx=.skip/\T (G (fr kd f (some l) ts ds k) cs) H') w #[] (yR _ _ _ _ (zav _ _ _ _ (fun _ _ h=>(⟨rfl,h⟩:_/\_)) h)) hf;rw [mK] at h1;obtain ⟨rfl,h3⟩:=h3;refine ⟨_,_,Go.seen P f es1,?_,h2.seen,rfl,h3⟩;obtain ⟨e1,e2⟩:=yU h1;simp only [G,stepG,stepG.exec,fr,stepG.apply,Option.elim,Sem.runT_eq,if_true,e1,e2];simp [GStep.after,Frame.finish,hkd]
theorem zh.endRoundF (hT:zh P main T) {l:Nat} {j:Option Code} (hl:Leave j k) {c:Frame} (h:wpS P (Instr.endRound l j) H fun v H'=>T (G (c.finish v) cs) H'):T (G (fr .normal f (some l) ts ds k) (c::cs)) H:=by
 refine hT _ _ Z fun w hf=>?_;obtain ⟨v,w1,es1,h1,h2,h3⟩:=kL _ _ _ w #[] h hf;rw [mK] at h1;refine ⟨_,_,Go.seen P f es1,?_,h2.seen,rfl,h3⟩;cases hl with
 | fin =>
  obtain ⟨e1,e2⟩:=yU h1;simp [G,stepG,stepG.exec,fr,Sem.runT_eq,e1,e2,GStep.after,doReturn]
 | ret k =>
  obtain ⟨e1,e2⟩:=yU h1;simp [G,stepG,stepG.exec,fr,Sem.runT_eq,e1,e2,GStep.after,doReturn]
 | exit id k he =>
  obtain ⟨e1,e2⟩:=yU h1;simp [G,stepG,stepG.exec,fr,he,Sem.runT_eq,e1,e2,GStep.after,doReturn]
theorem zh.takeF (hT:zh P main T) {b:Nat} (h:wpS P (Instr.takeDeferred b) H fun d1 H'=>T (G { fr kd f ro ts (d1++ds) k with mode:=.returning } cs) H'):T (G { fr kd f ro ts ({ target:=.collected b,args:=#[] }::ds) k with mode:=.returning } cs) H:=by
 refine hT _ _ Z fun w hf=>?_;obtain ⟨d1,w1,es1,h1,h2,h3⟩:=kL _ _ _ w #[] h hf;rw [mK] at h1;refine ⟨_,_,Go.seen P f es1,?_,h2.seen,rfl,h3⟩;obtain ⟨e1,e2⟩:=yU h1;simp [G,stepG,unwind,fr,Sem.runT_eq,e1,e2,GStep.after]
theorem vl {l:Nat} {rw':Bool} {r:Loop} (h:H l=some (rw',.loop r)) {Q:Loop->Hp->Prop} (hq:Q r H):wpS P (Instr.getLoop l) H Q:=⟨rw',_,h,rfl,rfl,hq⟩
theorem uE {l:Nat} {o0:Obj} {r:Loop} (h:H l=some (true,o0)) (h0:isCells o0=false) {Q:Unit->Hp->Prop} (hq:Q () (H.put l (true,.loop r))):wpS P (setObj l (.loop r)) H Q:=⟨o0,h,h0,rfl,hq⟩
def CallF (P:Program) (T:Goroutine->Hp->Prop) (gm:Nat->Option Nat) (yv:AV) (args:List AV) (A:List AObj) (Post:AV->List AObj->Prop):Prop :=
 ∀ (φ:Nat->Loc3) (F H:Hp) (y:Value) (vs:Array Value) (c:Frame) (cs:List Frame),RelG gm φ A.length->RelH φ A F H->RelV φ A.length yv y->zT φ A.length args vs ->
  (∀ r A' φ' H' v,Post r A'->Agr φ φ' A.length->A.length<=A'.length->RelH φ' A' F H'->RelV φ' A'.length r v->T (G (c.finish v) cs) H') ->
  wpS P (Deferred.ofValue y vs >>= fun d=>invoke d.target d.args) H fun nx H'=>match nx with
   | .enter g us=>T (G (Frame.enter P g us .normal) (c::cs)) H'
   | .round l g us x y=>T (G (Frame.round l g us x y .normal) (c::cs)) H'
   | _=>False
theorem CallF.mono {gm:Nat->Option Nat} {yv:AV} {args:List AV} {A:List AObj} {Post Post':AV->List AObj->Prop} (h:CallF P T gm yv args A Post) (hp:∀ r A',Post r A'->Post' r A'):CallF P T gm yv args A Post' :=
 fun φ F H y vs c cs h1 h2 h3 h4 k=>h φ F H y vs c cs h1 h2 h3 h4 fun r A' φ' H' v x=>k r A' φ' H' v (hp r A' x)
def CallFK (P:Program) (T:Goroutine->Hp->Prop) (gm:Nat->Option Nat) (yv:AV) (args:List AV) (K:KV) (Post:AV->KV->Prop):Prop :=
 ∀ A,zP K A->(keys K).Nodup->CallF P T gm yv args A fun r A'=>∃ K',Kstep K A K' A'/\Post r K'
theorem CallFK.mono {gm:Nat->Option Nat} {yv:AV} {args:List AV} {K:KV} {Post Post':AV->KV->Prop} (h:CallFK P T gm yv args K Post) (hp:∀ r K',Post r K'->Post' r K'):CallFK P T gm yv args K Post' :=
 fun A hv hn=>(h A hv hn).mono fun r A' ⟨K',h1,h2⟩=>⟨K',h1,hp r K' h2⟩
theorem yz {gm:Nat->Option Nat} {g:FuncId} {fs cp args:List AV} {K:KV} {Post:AV->KV->Prop} (hg:ym P g=true) (h:zg P T gm g (fs++args++cp) K Post):CallFK P T gm (.fn g fs cp) args K Post:=by
 intro A hv hn φ F H y vs c cs h1 h2 h3 h4 hq;obtain ⟨xs,ys,rfl,hr1,hr2⟩:=zaQ h3;refine wU hg _ ?_;exact h A hv hn φ F H _ c cs h1 h2 (kT (kT hr1 h4) hr2) hq
variable {gm:Nat->Option Nat}
theorem zmF {φ:Nat->Loc3} {n i:Nat} {y:Value} (h:RelV φ n (.yl i) y):i<n/\y=.func (.yield (φ i).blk) #[] #[]:=by cases h; exact ⟨‹_›,rfl⟩
def putAll:List AV->List (Tmp×AV)->List AV
 | env,[]=>env
 | env,(t,a)::l=>putAll (env.set t a) l
theorem zcR {φ:Nat->Loc3} {n:Nat}:∀ (l:List (Tmp×AV)) (l':List (Tmp×Value)) (env:List AV) (ts:Array Value),zT φ n env ts->l.map (·.1)=l'.map (·.1)->(∀ (j:Nat) x z,l[j]? =some x->l'[j]? =some z->RelV φ n x.2 z.2) ->
  zT φ n (putAll env l) (l'.foldl (fun ts z=>ts.setIfInBounds z.1 z.2) ts)
 | [],[],env,ts,h,_,_=>h
 | (t,a)::l,(t',v)::l',env,ts,h,he,hr=>by
  simp only [List.map_cons,List.cons.injEq] at he;obtain ⟨rfl,he⟩:=he;refine zcR l l' _ _ ?_ he fun j x z hx hz=>hr (j+1) x z (by simpa using hx) (by simpa using hz);exact wG (a:=⟨ts,[]⟩) h (hr 0 _ _ rfl rfl) (some t)
 | [],_::_,_,_,_,he,_=>by simp at he
 | _::_,[],_,_,_,he,_=>by simp at he
theorem zbl {φ:Nat->Loc3} {A:List AObj} {F H:Hp} (h:RelH φ A F H) {i:Nat} {f:FuncId} {env:List AV} {ps:Array Tmp} {x y:Code} {st:LoopState} {pj:Option Code} (hi:A[i]? =some (.loop f env ps x y st pj)) :
  ∃ ts d,H (φ i).blk=some (true,.loop { state:=st,pending:=pj,fn:=f,tmps:=ts,params:=ps,assign:=x,body:=y,defers:=d })/\zT φ A.length env ts:=h.obj i _ hi
theorem zj3 (hT:zh P main T) {i:Nat} {f:FuncId} {env args:List AV} {ps:Array Tmp} {x y:Code} {A:List AObj} {Post:AV->List AObj->Prop} (hi:A[i]? =some (.loop f env ps x y .ready none)) (hargs:args.length=ps.size)
  (h:∀ X:Cx P gm T,X.ro=some (X.φ0 i).blk->i<X.n0->(∀ j env' A' st pj,A'[i]? =some (.loop f env ps x y st pj)->Post (.v (.bool j.isNone)) (A'.set i (.loop f env ps x y (if j.isNone then .ready else .done) j))->X.L j [] env' A') ->
   TA X [] [.code x,.beginRound,.code y] (putAll env (ps.toList.zip args)) A):CallF P T gm (.yl i) args A Post:=by
 intro φ F H y' vs c cs hg hH hy hvs hq;obtain ⟨hlt,rfl⟩:=zmF hy;obtain ⟨ts,d,hb,hrel⟩:=zbl hH hi;have hvl:vs.size=ps.size:=by rw [<- hvs.1]; exact hargs
 have hround:∀ us,us=(ps.zip vs).foldl (fun tmps (t,a)=>tmps.setIfInBounds t a) ts->T (G (Frame.round (φ i).blk f us x y .normal) (c::cs)) H:=by
  intro us hus
  let X:Cx P gm T:={
   main,hT,φ0:=φ,n0:=A.length,F,kd:=.normal,hkd:=(fun h=>by cases h),f,ro:=some (φ i).blk,cs:=c::cs
   L:=fun j ds env' A'=>∃ st pj,A'[i]? =some (.loop f env ps x y st pj)/\Post (.v (.bool j.isNone)) (A'.set i (.loop f env ps x y (if j.isNone then .ready else .done) j))
   hL:=by
    rintro j k ds env' A' φ' H' ts' hl ⟨st,pj,hi',hp⟩ hA hlen hg' _ hH' hE;refine hT.endRoundF hl ?_;obtain ⟨ts1,d1,hb1,hrel1⟩:=zbl hH' hi';have hφ:φ' i=φ i:=hA i hlt;rw [hφ] at hb1;refine yR _ _ _ _ (vl hb1 ?_);refine yR _ _ _ _ (uE hb1 Z ?_);have hH2:=hH'.set (x:=(true,.loop { state:=if j.isNone then .ready else .done,pending:=j,fn:=f,tmps:=ts1,params:=ps,assign:=x,body:=y,defers:=d1 })) (o':=.loop f env ps x y (if j.isNone then .ready else .done) j) hi' rfl trivial ⟨ts1,d1,Hp.put_same _ _ _,hrel1⟩;rw [hφ] at hH2;exact hq _ _ _ _ _ hp hA (by simpa using hlen) hH2 (.v _) }
  have hX:=h X rfl hlt fun j env' A' st pj hi' hp=>⟨st,pj,hi',hp⟩;refine hX φ H us (Agr.refl _ _) (mL _) hg (fun d hd=>by cases hd) hH ?_;subst hus;have:=zcR (n:=A.length) (φ:=φ) (ps.toList.zip args) (ps.toList.zip vs.toList) env ts hrel (by rw [List.map_fst_zip (by simp [hargs]),List.map_fst_zip (by simp [hvl])]) fun j x z hx hz=>by
   rw [List.getElem?_zip_eq_some] at hx hz;exact hvs.2 j _ _ hx.2 (by rw [<- mI]; exact hz.2)
  rw [<- Array.foldl_toList,Array.toList_zip];exact this
 show wpS P (Instr.yield (φ i).blk (#[]++vs++#[])) H _;rw [mK,Array.append_empty];refine yR _ _ _ _ (vl hb ?_);dsimp only;rw [if_neg (by simpa using hvl)];exact hround _ rfl
variable {X:Cx P gm T} {ds':List Nat} {env:List AV} {A:List AObj}
theorem TA.beginRound {i:Nat} {g:FuncId} {env0:List AV} {ps:Array Tmp} {x y:Code} {pj:Option Code} (hro:X.ro=some (X.φ0 i).blk) (hi0:i<X.n0) (hi:A[i]? =some (.loop g env0 ps x y .ready pj)) (h:TA X ds' k env (A.set i (.loop g env0 ps x y .busy pj))):TA X ds' (.beginRound::k) env A:=fun φ H ts h1 h2 h3 h4 h5 h6=>by
 rw [hro];refine X.hT.beginF X.hkd ?_;obtain ⟨ts1,d1,hb1,hrel1⟩:=zbl h5 hi;have hφ:φ i=X.φ0 i:=h1 i hi0;have hH2:=h5.set (x:=(true,.loop { state:=.busy,pending:=pj,fn:=g,tmps:=ts1,params:=ps,assign:=x,body:=y,defers:=d1 })) (o':=.loop g env0 ps x y .busy pj) hi rfl trivial ⟨ts1,d1,Hp.put_same _ _ _,hrel1⟩;rw [hφ] at hb1 hH2;refine yR _ _ _ _ (vl hb1 ?_);refine yR _ _ _ _ (uE hb1 Z ?_);have:=h φ _ ts h1 (by simpa using h2) (by simpa using h3) (by simpa using h4) hH2 (by simpa using h6);rw [hro] at this;exact this
theorem TA.rangeFunc {fo:Operand} {ps:Array Tmp} {x y:Code} {g:FuncId} {fs cp:List AV} {Post:AV->List AObj->Prop} (hro:X.ro=none) (hf:zI gm env fo=.fn g fs cp) (hg:ym P g=true)
  (hc:CallT P T gm g (fs++[.yl (A.length+1)]++cp) (A++[.raw (.deferred (some [])),.loop X.f env ps x y .ready none]) Post)
  (h:∀ r A',Post r A'->A.length+2<=A'.length->∃ st pj,(st==LoopState.busy)=false/\A'[A.length+1]? =some (.loop X.f env ps x y st pj)/\TA X (A.length::ds') ((pj.map Item.code).toList++k) env (A'.set (A.length+1) .gone)) :
  TA X ds' (.code (.rangeFunc fo ps x y)::k) env A:=fun φ H ts h1 h2 h3 h4 h5 h6=>by
 rw [hro];refine X.hT.rangeF X.hkd ?_;unfold Instr.enterLoop;dsimp only;refine yR _ _ _ _ ?_;intro r hr;refine yR _ _ _ _ ?_;intro l hl;have hH1:=h5.push (loc:=⟨r,0,0⟩) (o:=.raw (.deferred (some []))) (x:=(true,.deferred (some []))) hr rfl (Hp.put_same _ _ _);have hag1:=yw φ A.length ⟨r,0,0⟩;have hlen1:(A++[AObj.raw (.deferred (some []))]).length=A.length+1:=by simp
 have hH2:=hH1.push (loc:=⟨l,0,0⟩) (o:=.loop X.f env ps x y .ready none) (x:=(true,.loop { state:=.ready,pending:=none,fn:=X.f,tmps:=ts,params:=ps,assign:=x,body:=y,defers:=r })) hl rfl
  ⟨ts,r,Hp.put_same _ _ _,(h6.mono hag1 oQ).mono (yw _ _ _) oQ⟩
 have hag2:=yw (upd3 φ A.length ⟨r,0,0⟩) (A.length+1) ⟨l,0,0⟩;rw [hlen1] at hH2;have eA:(A++[AObj.raw (.deferred (some []))])++[.loop X.f env ps x y .ready none]=A++[.raw (.deferred (some [])),.loop X.f env ps x y .ready none]:=by simp
 rw [eA] at hH2;have hag:Agr φ (upd3 (upd3 φ A.length ⟨r,0,0⟩) (A.length+1) ⟨l,0,0⟩) A.length:=hag1.trans hag2 oQ;have hb1:(upd3 (upd3 φ A.length ⟨r,0,0⟩) (A.length+1) ⟨l,0,0⟩) A.length=⟨r,0,0⟩:=by simp [upd3]
 have hb2:(upd3 (upd3 φ A.length ⟨r,0,0⟩) (A.length+1) ⟨l,0,0⟩) (A.length+1)=⟨l,0,0⟩:=by simp [upd3]
 generalize hφ2:upd3 (upd3 φ A.length ⟨r,0,0⟩) (A.length+1) ⟨l,0,0⟩=φ2 at hH2 hag hb1 hb2;have hlen2:(A++[AObj.raw (.deferred (some [])),.loop X.f env ps x y .ready none]).length=A.length+2:=by simp
 show wpS P (resolve (evT ts) (ylCall fo l) 0 >>= fun d=>invoke d.target d.args) ((H.put r _).put l _) _;rw [show resolve (evT ts) (ylCall fo l) 0=Deferred.ofValue (evT ts fo) #[.func (.yield l) #[] #[]] by simp [resolve,ylCall,evT,Act.eval]];have hfo:=zu (a:=⟨ts,[]⟩) h3 h6 fo;rw [hf] at hfo;obtain ⟨xs,ys,e,hr1,hr2⟩:=zaQ hfo;have e':evT ts fo=.func (.func g) xs ys:=e;rw [e'];refine wU hg _ ?_;have hyl:RelV φ2 (A.length+2) (.yl (A.length+1)) (.func (.yield l) #[] #[]):=by
  have:=RelV.yl (φ:=φ2) (n:=A.length+2) (i:=A.length+1) oQ;rwa [hb2] at this
 refine hc φ2 X.F _ _ _ _ (h3.mono hag oQ) hH2 ?_ ?_
 ·rw [hlen2];exact kT (kT (hr1.mono hag oQ) (y6 hyl)) (hr2.mono hag oQ)
 ·intro r' A' φ' H' v hp hA' hlen' hH' hr';rw [hlen2] at hA' hlen';obtain ⟨st,pj,hst,hloop,hTA⟩:=h r' A' hp hlen';show T (G (fr X.kd X.f none ts _ (.endRangeFunc l::k)) X.cs) H';refine X.hT.endRangeF ?_;obtain ⟨ts1,d1,hbl,_⟩:=zbl hH' hloop;have e1:φ' (A.length+1)=⟨l,0,0⟩:=(hA' _ oQ).trans hb2;have e0:φ' A.length=⟨r,0,0⟩:=(hA' _ oQ).trans hb1;have hH3:=hH'.set (x:=(true,.loop { state:=.exhausted,pending:=pj,fn:=X.f,tmps:=ts1,params:=ps,assign:=x,body:=y,defers:=d1 })) (o':=.gone) hloop rfl trivial trivial;rw [e1] at hbl hH3;refine yR _ _ _ _ (vl hbl ?_);dsimp only;rw [hst];refine yR _ _ _ _ (uE hbl Z ?_);have hagf:Agr φ φ' A.length:=hag.trans hA' oQ;have hds:dsC φ' (A.length::ds')={ target:=.collected r,args:=#[] }::dsC φ ds':=by
   show { target:=.collected (φ' A.length).blk,args:=#[] }::dsC φ' ds'=_;rw [e0];congr 1;unfold dsC;exact mA fun d hd'=>by rw [hagf d (h4 d hd')]
  have:=hTA φ' _ ts (h1.trans hagf h2) (by simp; omega) (by simpa using h3.mono hagf oQ) (fun d hd=>by
   rcases List.mem_cons.1 hd with rfl | hd
   ·simp; omega
   ·have:=h4 d hd; simp; omega) hH3 (by simpa using h6.mono hagf oQ)
  rw [hds,hro] at this;exact this
end
section
variable {P:Program} {gm:Nat->Option Nat} {T:Goroutine->Hp->Prop}
theorem Kstep.frame {K Kf R K':KV} {A A':List AObj} (hs:Split K Kf R) (hv:zP K A) (hn:(keys K).Nodup) (hk:Kstep Kf A K' A'):Kstep K A (K'++R) A':=by
 have hp:=hs.perm;have hnd:=(zL hp).nodup_iff.1 hn;rw [yn] at hnd;have hnd':=List.nodup_append.1 hnd;have hR:zP R A:=hv.sub fun x hx=>hp.symm.subset (by simp [hx]);have hRl:∀ x∈R,x.1<A.length/\x.1∉keys Kf:=fun x hx=>⟨hR.lt (yB hx),fun hm=>hnd'.2.2 x.1 hm x.1 (yB hx) rfl⟩;refine ⟨fun x hx=>?_,?_,fun j hj=>?_,fun j hj hn=>?_,hk.len⟩
 ·rcases lT.1 hx with hx | hx
  ·exact hk.view x hx
  ·rw [hk.kept _ (hRl x hx).1 (hRl x hx).2]; exact hR x hx
 ·rw [yn];refine List.nodup_append.2 ⟨hk.nd,hnd'.2.1,fun a ha b hb e=>?_⟩;subst e;obtain ⟨x,hx,rfl⟩:=lY.1 hb;rcases hk.own _ ha with h1 | h1
  ·exact (hRl x hx).2 h1
  ·have:=(hRl x hx).1; omega
 ·rw [yn] at hj;rcases lT.1 hj with hj | hj
  ·rcases hk.own j hj with h1 | h1
   ·exact .inl ((zL hp).symm.subset (by rw [yn]; exact lV _ h1))
   ·exact .inr h1
  ·exact .inl ((zL hp).symm.subset (by rw [yn]; exact List.mem_append_right _ hj))
 ·exact hk.kept j hj fun hm=>hn ((zL hp).symm.subset (by rw [yn]; exact lV _ hm))
theorem Split.view {K Kf R:KV} {A:List AObj} (hs:Split K Kf R) (hv:zP K A) (hn:(keys K).Nodup):zP Kf A/\(keys Kf).Nodup:=by
 have hp:=hs.perm;have hnd:=(zL hp).nodup_iff.1 hn;rw [yn] at hnd;exact ⟨hv.sub fun x hx=>hp.symm.subset (by simp [hx]),(List.nodup_append.1 hnd).1⟩
theorem zkc {X:Cx P gm T} {env:List AV} {A:List AObj} {o:Oper} {fo:Operand} {ars:Array Operand} {at_:Array TypeId} {yv:AV} {args:List AV} {Post:AV->List AObj->Prop} (hop:o.op=.call { callee:=.value fo,args:=ars,argTypes:=at_ })
  (hf:zI gm env fo=yv) (hargs:ars.toList.map (zI gm env)=args) (hc:CallF P T gm yv args A Post):Ex X env A o Post:=fun ops i rest k ds φ H ts ho hw h3 h5 h6 hq=>by
 refine X.hT.opF X.hkd ho hw (by rw [hop]; rfl) ?_;have hfo:=zu (a:=⟨ts,[]⟩) h3 h6 fo;rw [hf] at hfo;unfold execOp;rw [hop];dsimp only;have hrel:zT φ A.length args (ars.map (evT ts)):=by
  rw [<- hargs];exact ua (a:=⟨ts,[]⟩) h3 h6 ars
 have h:=hc φ X.F H _ _ (fr X.kd X.f X.ro ts ds (.inRegion ops (i::rest)::k)) X.cs h3 h5 hfo hrel fun r A' φ' H' v hp hA hlen hH' hr=>by
  have hfin:=kD X.kd X.f X.ro ts ds ops i rest k v;simp only [ho,Option.bind_some] at hfin;rw [hfin];exact hq r A' φ' H' v hp hA hlen hH' hr
 refine zav _ _ _ _ ?_ h;intro nx H' hnx;cases nx <;> first | exact hnx | exact hnx.elim
variable {Y:KX P gm T} {ds:List Nat} {k:List Item} {env env':List AV} {K K':KV} {ops:Array Oper} {i:Nat} {rest L L':List Nat} {o:Oper} {r:AV} {pend pend':List Pd}
theorem zdV {fo:Operand} {ars:Array Operand} {at_:Array TypeId} {yv:AV} {args:List AV} {Kf R:KV} {Post:AV->KV->Prop} (hop:o.op=.call { callee:=.value fo,args:=ars,argTypes:=at_ })
  (hf:zI gm env fo=yv) (hargs:ars.toList.map (zI gm env)=args) (hc:CallFK P T gm yv args Kf Post) (hs:Split K Kf R) {Q:AV->KV->Prop} (hq:∀ r K',Post r K'->Q r (K'++R)):ExK Y env K o Q:=fun A hA=>by
 obtain ⟨hv,hn⟩:=hs.view hA.view hA.nd;exact (zkc hop hf hargs (hc A hv hn)).mono fun r A' ⟨K',hk,hpost⟩=>⟨K'++R,hk.frame hs hA.view hA.nd,hq r K' hpost⟩
theorem TK.callF' {fo:Operand} {ars:Array Operand} {at_:Array TypeId} {yv:AV} {args:List AV} {Kf R:KV} {Post:AV->KV->Prop} (ho:ops[i]? =some o) (hw:yd ops env o=some true) (hop:o.op=.call { callee:=.value fo,args:=ars,argTypes:=at_ })
  (hf:zr gm env fo=some yv) (hargs:ars.toList.map (zI gm env)=args) (hc:CallFK P T gm yv args Kf Post) (hs:Split K Kf R)
  (h:∀ r K',Post r K'->TK Y ds (.inRegion ops rest::k) (putA env o.dst r) (K'++R)):TK Y ds (.inRegion ops (i::rest)::k) env K:=TK.ex ho hw (zdV hop (zq hf) hargs hc hs h)
theorem TD.callF' {fo:Operand} {ars:Array Operand} {at_:Array TypeId} {yv:AV} {args:List AV} {Kf R:KV} {Post:AV->KV->Prop} (s:List Nat) (ho:ops[i]? =some o) (hw:yd ops (onl s env) o=some true) (hp':pendOf ops i pend=pend') (hc':chkC ops pend' L' s i o.dst=true) (hop:o.op=.call { callee:=.value fo,args:=ars,argTypes:=at_ })
  (hf:zr gm (onl s env) fo=some yv) (hargs:ars.toList.map (zI gm (onl s env))=args) (hc:CallFK P T gm yv args Kf Post) (hs:Split K Kf R)
  (h:∀ r K',Post r K'->(∀ p∈pend',∀ x∈p.V,x∈K'++R)/\TD Y ds ops k pend' L' (putA env o.dst r) (K'++R)):TD Y ds ops k pend (i::L') env K:=TD.c s ho hw hp' hc' (zdV hop (zq hf) hargs hc hs h)
theorem zdO {main:Bool} (hT:zh P main T) {i:Nat} {f:FuncId} {env args:List AV} {ps:Array Tmp} {x y:Code} {K:KV} {Post:AV->KV->Prop} (hi:(i,.loop f env ps x y .ready none)∈K) (hargs:args.length=ps.size)
  (h:∀ Y:KX P gm T,Y.X.ro=some (Y.X.φ0 i).blk->i<Y.X.n0 ->
   (∀ j env' K' K'' D st pj,Split K' ((i,.loop f env ps x y st pj)::K'') D->Post (.v (.bool j.isNone)) ((i,.loop f env ps x y (if j.isNone then .ready else .done) j)::K'')->∀ A',Kn Y K' A'->Y.X.L j [] env' A') ->
   TK Y [] [.code x,.beginRound,.code y] (putAll env (ps.toList.zip args)) K):CallFK P T gm (.yl i) args K Post:=by
 intro A hv hn;refine zj3 hT (hv.get hi) hargs fun X hro hi0 hret=>?_;refine h ⟨X,A,keys K⟩ hro hi0 (fun j env' K' K'' D st pj hsp hp A' hA'=>?_) A ⟨hv,hn,fun i hi=>.inl hi,fun _ _ _=>rfl,mL _⟩;have hpm:=hsp.perm;obtain ⟨hv',hn'⟩:=hsp.view hA'.view hA'.nd;refine hret j env' A' st pj (hv'.get sQ) ⟨_,?_,hp⟩;have hst:Kstep ((i,.loop f env ps x y st pj)::K'') A' ((i,.loop f env ps x y (if j.isNone then .ready else .done) j)::K'') (A'.set i (.loop f env ps x y (if j.isNone then .ready else .done) j)):=.set hv' hn' .head;have hall:=hst.frame hsp hA'.view hA'.nd;refine ⟨hst.view,hst.nd,fun t ht=>?_,fun t ht1 ht2=>?_,mT hA'.len hst.len⟩
 ·rcases hst.own t ht with h1 | h1
  ·obtain ⟨z,hz,rfl⟩:=lY.1 h1;exact hA'.own _ (yB (hpm.symm.subset (lV _ hz)))
  ·exact .inr (mT hA'.len h1)
 ·have hne:i≠t:=fun e=>ht2 (e ▸ mem_keys' hi);rw [lP hne];exact hA'.kept t ht1 ht2
theorem TK.beginRound {i:Nat} {g:FuncId} {env0:List AV} {ps:Array Tmp} {x y:Code} {pj:Option Code} (hro:Y.X.ro=some (Y.X.φ0 i).blk) (hi0:i<Y.X.n0) (hu:Upd K i (.loop g env0 ps x y .ready pj) i (.loop g env0 ps x y .busy pj) K') (h:TK Y ds k env K'):TK Y ds (.beginRound::k) env K:=fun A hA =>
 TA.beginRound hro hi0 (hA.view.get hu.mem) (h _ (hA.step (.set hA.view hA.nd hu)))
theorem TK.rangeFunc {fo:Operand} {ps:Array Tmp} {x y:Code} {g:FuncId} {fs cp:List AV} {Kf R:KV} {Post:Nat->AV->KV->Prop} {Q:Option Code->KV->Prop} (hro:Y.X.ro=none) (hf:zr gm env fo=some (.fn g fs cp)) (hg:ym P g=true) (hs:Split K Kf R)
  (hc:∀ l,l∉keys K->zg P T gm g (fs++[.yl l]++cp) ((l,.loop Y.X.f env ps x y .ready none)::Kf) (Post l))
  (hpost:∀ l r K',Post l r K'->∃ st pj K'',K'=(l,.loop Y.X.f env ps x y st pj)::K''/\(st==LoopState.busy)=false/\Q pj K'')
  (h:∀ d pj K'',Q pj K''->TK Y (d::ds) ((pj.map Item.code).toList++k) env ((d,.raw (.deferred (some [])))::(K''++R))):TK Y ds (.code (.rangeFunc fo ps x y)::k) env K:=fun A hA=>by
 have hd:A.length∉keys K:=fun hm=>absurd (hA.view.lt hm) (Nat.lt_irrefl _);have hl:A.length+1∉keys K:=fun hm=>by have:=hA.view.lt hm; omega
 have k1:=Kstep.push hA.view hA.nd (.raw (.deferred (some [])));have k2:=Kstep.push k1.view k1.nd (.loop Y.X.f env ps x y .ready none);have eA:(A++[AObj.raw (.deferred (some []))])++[.loop Y.X.f env ps x y .ready none]=A++[.raw (.deferred (some [])),.loop Y.X.f env ps x y .ready none]:=by simp
 rw [eA] at k2;have el:(A++[AObj.raw (.deferred (some []))]).length=A.length+1:=by simp
 rw [el] at k2;have hA2:=(hA.step k1).step k2;have hs2:Split ((A.length+1,.loop Y.X.f env ps x y .ready none)::(A.length,.raw (.deferred (some [])))::K) ((A.length+1,.loop Y.X.f env ps x y .ready none)::Kf) ((A.length,.raw (.deferred (some [])))::R):=.left (.right hs);obtain ⟨hvf,hnf⟩:=hs2.view k2.view k2.nd;refine TA.rangeFunc hro (zq hf) hg (hc _ hl _ hvf hnf) fun r A' ⟨K',hk,hp⟩ _=>?_;obtain ⟨st,pj,K'',rfl,hst,hq⟩:=hpost _ _ _ hp;have hA3:=hA2.step (hk.frame hs2 k2.view k2.nd);refine ⟨st,pj,hst,hA3.view.get sQ,?_⟩;refine h _ pj K'' hq _ ?_;have hnd3:=hA3.nd;rw [lB,zd6,List.nodup_cons] at hnd3;have hperm:(K''++(A.length,AObj.raw (.deferred (some [])))::R).Perm ((A.length,.raw (.deferred (some [])))::(K''++R)):=List.perm_middle;refine ⟨fun z hz=>?_,?_,fun t ht=>?_,fun t ht1 ht2=>?_,by simpa using hA3.len⟩
 ·have hz':=hperm.symm.subset hz;have hne:A.length+1≠z.1:=fun e=>hnd3.1 (by have:=yB hz'; rw [<- e] at this; exact this);rw [lP hne];exact hA3.view z (lL _ hz')
 ·exact (zL hperm).nodup_iff.1 hnd3.2
 ·exact hA3.own t (lL _ ((zL hperm).symm.subset ht))
 ·have hlen:=hA.len;rw [lP oQ];exact hA3.kept t ht1 ht2
def clr:List Nat->List AObj->List AObj
 | [],A=>A
 | d::ds,A=>clr ds (A.set d .gone)
theorem zbf:∀ (ds:List Nat) (A:List AObj),(clr ds A).length=A.length
 | [],_=>rfl
 | d::ds,A=>by rw [clr,zbf ds]; simp
theorem zde:∀ (ds:List Nat) (A:List AObj) (t:Nat),t∉ds->(clr ds A)[t]? =A[t]?
 | [],_,_,_=>rfl
 | d::ds,A,t,h=>by
  rw [clr,zde ds _ t (fun hm=>h (by simp [hm])),lP (fun e=>h (by simp [e]))]
theorem zf4 {main:Bool} (hT:zh P main T) {f:FuncId} {ts:Array Value} {φ:Nat->Loc3} {F:Hp} {cs:List Frame} {todo:List Item}:∀ (ds:List Nat) (A:List AObj) (H:Hp),(∀ d∈ds,A[d]? =some (.raw (.deferred (some []))))->ds.Nodup->RelH φ A F H ->
  (∀ H',RelH φ (clr ds A) F H'->T (G { fr .normal f none ts [] todo with mode:=.returning } cs) H')->T (G { fr .normal f none ts (dsC φ ds) todo with mode:=.returning } cs) H
 | [],A,H,_,_,hH,hq=>hq H hH
 | d::ds,A,H,hd,hn,hH,hq=>by
  have h0:=hd d sQ;have hb:H (φ d).blk=some (true,.deferred (some [])):=hH.obj d _ h0;refine hT.takeF ?_;refine yR _ _ _ _ ⟨true,_,hb,rfl,rfl,?_⟩;refine yR _ _ _ _ ⟨_,hb,rfl,rfl,?_⟩;have hH2:=hH.set (x:=(true,.deferred none)) (o':=.gone) h0 rfl trivial trivial;obtain ⟨hn1,hn2⟩:=List.nodup_cons.1 hn;exact zf4 hT ds _ _ (fun d' hd'=>by
   have hne:d≠d':=fun e=>hn1 (by rw [e]; exact hd');rw [lP hne]; exact hd d' (by simp [hd'])) hn2 hH2 hq
theorem ze2 {main:Bool} (hT:zh P main T) {g:FuncId} {fn:Func} {c:Code} {args:List AV} {A:List AObj} {Post:AV->List AObj->Prop} (hf:P.funcs[g]? =some fn) (hb:fn.body=some c)
  (h:∀ X:Cx P gm T,X.ro=none->(∀ j ds env A' r,(j=none\/j=some .ret)->(∀ d∈ds,A'[d]? =some (.raw (.deferred (some []))))->ds.Nodup->resA P fn.results.toList env (clr ds A')=some r->Post r (clr ds A')->X.L j ds env A') ->
   TA X [] [.code c] (args++mB (fn.ntmps - args.length) .any) A):CallT P T gm g args A Post:=by
 intro φ F H vs c0 cs hg hH hargs hfin;have hleave:∀ (k:List Item) (ds:List Nat) (env:List AV) (A':List AObj) (φ':Nat->Loc3) (H':Hp) (ts:Array Value) (r:AV),(∀ d∈ds,A'[d]? =some (.raw (.deferred (some []))))->ds.Nodup->resA P fn.results.toList env (clr ds A')=some r->Post r (clr ds A')->Agr φ φ' A.length->A.length<=A'.length->RelH φ' A' F H'->zT φ' A'.length env ts ->
   T (G { fr .normal g none ts (dsC φ' ds) k with mode:=.returning } (c0::cs)) H':=fun k ds env A' φ' H' ts r hd hn hr hp hA hlen hH' hE =>
  zf4 hT ds A' H' hd hn hH' fun H2 hH2 =>
   hT.leaveF hf (uD hH2 (by rw [zbf]; exact hE) hr fun y hy=>hfin r _ φ' H2 y hp hA (by rw [zbf]; exact hlen) hH2 hy)
 let X:Cx P gm T:={
  main,hT,φ0:=φ,n0:=A.length,F,kd:=.normal,hkd:=(fun h=>by cases h),f:=g,ro:=none,cs:=c0::cs
  L:=fun j ds env A'=>(j=none\/j=some .ret)/\(∀ d∈ds,A'[d]? =some (.raw (.deferred (some []))))/\ds.Nodup/\∃ r,resA P fn.results.toList env (clr ds A')=some r/\Post r (clr ds A')
  hL:=by
   rintro j k ds env A' φ' H' ts hl ⟨hj,hd,hn,r,hr,hp⟩ hA hlen hg' _ hH' hE;cases hl with
   | fin=>exact hT.ctlF rfl (fun _=>zc0) rfl (hleave _ ds env A' φ' H' ts r hd hn hr hp hA hlen hH' hE)
   | ret k=>exact hT.ctlF rfl (fun _=>zc1) rfl (hleave _ ds env A' φ' H' ts r hd hn hr hp hA hlen hH' hE)
   | exit id k _=>rcases hj with hj | hj <;> cases hj }
 rw [zb9 vs hf hb];exact h X rfl (fun j ds env A' r hj hd hn hr hp=>⟨hj,hd,hn,r,hr,hp⟩) φ H _ (Agr.refl _ _) (mL _) hg (fun d hd=>by cases hd) hH (vI hargs _)
theorem ze1 {main:Bool} (hT:zh P main T) {g:FuncId} {fn:Func} {c:Code} {args:List AV} {Post:AV->KV->Prop} (hf:P.funcs[g]? =some fn) (hb:fn.body=some c)
  (h:∀ Y:KX P gm T,Y.X.ro=none->(∀ j ds env K' K1 K'' D1 D2 r,(j=none\/j=some .ret)->Split K' K1 D1->ds.Nodup->(∀ d∈ds,(d,.raw (.deferred (some [])))∈D1)->Split K1 K'' D2->(∀ A',zP K1 A'->resA P fn.results.toList env A'=some r)->Post r K''->∀ A',Kn Y K' A'->Y.X.L j ds env A') ->
   TK Y [] [.code c] (args++mB (fn.ntmps - args.length) .any) K):zg P T gm g args K Post:=by
 intro A hv hn;refine ze2 hT hf hb fun X hro hret=>?_;refine h ⟨X,A,keys K⟩ hro (fun j ds env K' K1 K'' D1 D2 r hj hs1 hdn hds hs2 hres hp A' hA'=>?_) A ⟨hv,hn,fun i hi=>.inl hi,fun _ _ _=>rfl,mL _⟩;have hp1:=hs1.perm;have hnd:=(zL hp1).nodup_iff.1 hA'.nd;rw [yn] at hnd;have hnd':=List.nodup_append.1 hnd;have hdk:∀ d∈ds,d∈keys D1:=fun d hd=>mem_keys' (hds d hd);have hv1:zP K1 (clr ds A'):=fun x hx=>by
  rw [zde _ _ _ (fun hm=>hnd'.2.2 x.1 (yB hx) x.1 (hdk _ hm) rfl)];exact hA'.view x (hp1.symm.subset (by simp [hx]))
 obtain ⟨hv2,hn2⟩:=hs2.view hv1 hnd'.1;refine hret j ds env A' r hj (fun d hd=>hA'.view _ (hp1.symm.subset (List.mem_append_right _ (hds d hd)))) hdn (hres _ hv1) ⟨K'',⟨hv2,hn2,fun t ht=>?_,fun t ht1 ht2=>?_,?_⟩,hp⟩
 ·obtain ⟨z,hz,rfl⟩:=lY.1 ht;refine hA'.own _ (yB (hp1.symm.subset ?_));exact lV _ (hs2.perm.symm.subset (lV _ hz))
 ·rw [zde _ _ _ (fun hm=>?_)]
  ·exact hA'.kept t ht1 ht2
  ·have:t∈keys K':=(zL hp1).symm.subset (by rw [yn]; exact List.mem_append_right _ (hdk t hm));rcases hA'.own t this with h1 | h1
   ·exact ht2 h1
   ·have h2:A.length<=t:=h1;have h3:t<A.length:=ht1;omega
 ·rw [zbf]; exact hA'.len
end
section
variable {P:Program} {gm:Nat->Option Nat} {T:Goroutine->Hp->Prop} {Y:KX P gm T} {ds:List Nat} {k:List Item} {V:KV} {env env':List AV} {K K':KV} {ops:Array Oper} {i:Nat} {rest:List Nat} {o:Oper} {r:AV} {pend pend':List Pd} {L':List Nat}
def IntEs (es:List MapEntry):Prop:=∀ en∈es,∃ k v,en.key=.int .i64 k/\en.val=.int .i64 v
def valOf:Value->Int | .int _ v=>v | _=>0
def fiM (n:Int):List MapEntry->Nat->Option (Nat×Value)
 | [],_=>none
 | en::es,i=>if valOf en.key=n then some (i,en.val) else fiM n es (i+1)
def getM (n:Int):List MapEntry->Int
 | []=>0
 | en::es=>if valOf en.key=n then valOf en.val else getM n es
theorem zby {ik:IntKind} {n:Int}:∀ (es:List MapEntry) (i:Nat),IntEs es->Instr.findNow (.int ik) (.int .i64 n) es i=some (fiM n es i)
 | [],_,_=>rfl
 | en::es,i,h=>by
  obtain ⟨k,v,hk,hv⟩:=h en sQ;have ih:=zby es (i+1) (fun e he=>h e (by simp [he])) (ik:=ik) (n:=n);simp only [Instr.findNow,fiM,hk,Instr.sameNow,valOf,if_true];by_cases e:n=k
  ·subst e; simp
  ·have e':(n==k)=false:=by simpa using e
   rw [e',if_neg (fun h=>e h.symm)];exact ih
theorem zfk {n:Int}:∀ (es:List MapEntry) (i:Nat),getM n es=match fiM n es i with | some (_,v)=>valOf v | none=>0
 | [],_=>rfl
 | en::es,i=>by
  simp only [getM,fiM];split
  ·rfl
  ·exact zfk es (i+1)
theorem zbg {n:Int}:∀ (es:List MapEntry) (i:Nat) {j:Nat} {v:Value},IntEs es->fiM n es i=some (j,v)->v=.int .i64 (valOf v)/\i<=j/\∃ en,es[j - i]? =some en/\en.key=.int .i64 n
 | [],_,_,_,_,h=>by cases h
 | en::es,i,j,v,hI,h=>by
  simp only [fiM] at h;obtain ⟨k,v',hk,hv⟩:=hI en sQ;split at h
  ·rename_i e;cases h;rw [hk] at e;simp only [valOf] at e;subst e;exact ⟨by rw [hv]; rfl,mL _,en,by simp,hk⟩
  ·obtain ⟨h1,h2,en',h3,h4⟩:=zbg es (i+1) (fun e he=>hI e (by simp [he])) h;exact ⟨h1,oQ,en',by rw [show j - i=(j - (i+1))+1 by omega]; simpa using h3,h4⟩
def MapOk (ob:Obj) (f:Int->Int):Prop:=∃ es clock,ob=.map es clock/\IntEs es.toList/\∀ n,getM n es.toList=f n
def upM (ob:Obj) (n v:Int):Obj:=match ob with
 | .map es clock=>match fiM n es.toList 0 with
  | some (i,_)=>.map (es.modify i fun e=>{ e with key:=.int .i64 n,val:=.int .i64 v }) clock
  | none=>.map (es.push { key:=.int .i64 n,val:=.int .i64 v,born:=clock }) (clock+1)
 | ob=>ob
theorem zd8:MapOk (.map #[] 0) fun _=>0:=⟨#[],0,rfl,fun _ h=>by simp at h,fun _=>rfl⟩
theorem zfl {n v:Int}:∀ (es:List MapEntry) (i j:Nat) (w:Value),IntEs es->fiM n es i=some (j,w)->∀ m,getM m (es.modify (j - i) fun e=>{ e with key:=.int .i64 n,val:=.int .i64 v })=if m=n then v else getM m es
 | [],_,_,_,_,h,_=>by cases h
 | en::es,i,j,w,hI,h,m=>by
  obtain ⟨k,v',hk,hv⟩:=hI en sQ;simp only [fiM] at h;split at h
  ·rename_i e;cases h;rw [Nat.sub_self,List.modify_zero_cons];show (if n=m then v else getM m es)=if m=n then v else (if valOf en.key=m then valOf en.val else getM m es)
   by_cases e2:m=n
   ·subst e2; simp
   ·rw [if_neg (fun h:n=m=>e2 h.symm),if_neg e2,e,if_neg (fun h:n=m=>e2 h.symm)]
  ·rename_i hne;have hle:=(zbg es (i+1) (fun e he=>hI e (by simp [he])) h).2.1;rw [show j - i=(j - (i+1))+1 by omega,List.modify_succ_cons];simp only [getM];rw [zfl es (i+1) j w (fun e he=>hI e (by simp [he])) h m];by_cases e2:m=n
   ·subst e2; rw [if_neg hne,if_pos rfl,if_pos rfl]
   ·rw [if_neg e2,if_neg e2]
theorem zfj {n v:Int} {c:Nat}:∀ (es:List MapEntry) (i:Nat),fiM n es i=none->∀ m,getM m (es++[{ key:=.int .i64 n,val:=.int .i64 v,born:=c }])=if m=n then v else getM m es
 | [],_,_,m=>by
  show (if n=m then v else 0)=if m=n then v else 0
  by_cases e:m=n
  ·subst e; simp
  ·rw [if_neg (fun h:n=m=>e h.symm),if_neg e]
 | en::es,i,h,m=>by
  simp only [fiM] at h;split at h
  ·cases h
  ·rename_i hne;simp only [lB,getM];rw [zfj es (i+1) h m];by_cases e:m=n
   ·subst e; rw [if_neg hne,if_pos rfl,if_pos rfl]
   ·rw [if_neg e,if_neg e]
theorem zjQ {ob:Obj} {f:Int->Int} {n v:Int} (h:MapOk ob f):MapOk (upM ob n v) fun m=>if m=n then v else f m:=by
 obtain ⟨es,c,rfl,hI,hf⟩:=h;unfold upM;dsimp only;cases e:fiM n es.toList 0 with
 | none =>
  refine ⟨_,_,rfl,fun en he=>?_,fun m=>?_⟩
  ·rw [Array.toList_push] at he;rcases lT.1 he with he | he
   ·exact hI en he
   ·rw [List.mem_singleton.1 he]; exact ⟨n,v,rfl,rfl⟩
  ·rw [Array.toList_push,zfj _ 0 e,hf]
 | some x =>
  obtain ⟨j,w⟩:=x;refine ⟨_,_,rfl,fun en he=>?_,fun m=>?_⟩
  ·rw [Array.toList_modify] at he;obtain ⟨t,ht⟩:=List.mem_iff_getElem?.1 he;rw [List.getElem?_modify] at ht;cases e2:es.toList[t]? with
   | none=>rw [e2] at ht; cases ht
   | some e0 =>
    rw [e2] at ht;simp only [Option.map_eq_map,Option.map_some,Option.some.injEq] at ht;split at ht
    ·subst ht; exact ⟨n,v,rfl,rfl⟩
    ·subst ht; exact hI _ (List.mem_of_getElem? e2)
  ·rw [Array.toList_modify];have:=zfl (v:=v) es.toList 0 j w hI e m;rw [Nat.sub_zero] at this;rw [this,hf]
theorem vM {φ:Nat->Loc3} {n i:Nat} {y:Value} (h:RelV φ n (.map i) y):i<n/\y=.map (some (φ i).blk):=by cases h; exact ⟨‹_›,rfl⟩
theorem zbe {H:Hp} {e:Bool} {t:TypeId} {v:Value} {ik:IntKind} (h:P.underlying t=some (.int ik)) {Q:Unit->Hp->Prop} (hq:Q () H):wpS P (Instr.checkKey e 10000 t v) H Q:=by
 show wpS P (Instr.checkKey e (9999+1) t v) H Q;unfold Instr.checkKey;refine za _ _ _ (zz h ?_);dsimp only;exact hq
theorem zbS {H:Hp} {t:TypeId} {n:Int} {ik:IntKind} (h:P.underlying t=some (.int ik)) {es:List MapEntry} (hI:IntEs es) {Q:Option (Nat×Value)->Hp->Prop} (hq:Q (fiM n es 0) H):wpS P (Instr.findKey t (.int .i64 n) es) H Q:=by
 unfold Instr.findKey;refine za _ _ _ (zz h ?_);rw [zby es 0 hI];exact hq
theorem uj {t:TypeId} (ho:o.op=.makeMap t none):Nk P gm env V o (fun j=>.map j) (.raw (.map #[] 0)):=fun A _ φ F H a hg hH hE=>by
 unfold execOp; rw [ho];refine wpS_v ?_;unfold Instr.makeMap;refine za _ _ _ ?_;intro r hr;refine ⟨_,upd3 φ A.length ⟨r,0,0⟩,.inl rfl,yw _ _ _,by simp,hH.push hr Z (Hp.put_same _ _ _),?_⟩;have:=RelV.map (φ:=upd3 φ A.length ⟨r,0,0⟩) (n:=(A++[AObj.raw (.map #[] 0)]).length) (i:=A.length) sQ;simpa [upd3] using this
theorem vZ {t kt et:TypeId} {x y:Operand} {j:Nat} {n:Int} {ob:Obj} {f:Int->Int} {ti:TypeInfo} (ho:o.op=.lookup t x y false) (hx:zr gm env x=some (.map j)) (hy:zr gm env y=some (.v (.int .i64 n))) (ht:P.underlying t=some (.map kt et)) (hk:P.underlying kt=some (.int .i64)) (hi:P.info? et=some ti) (hz:ti.zero=some (.int .i64 0)) (hm:(j,.raw ob)∈V) (hf:MapOk ob f):Qk P gm env V o (.v (.int .i64 (f n))):=fun A hA φ F H a hg hH hE=>by
 unfold execOp; rw [ho];refine wpS_v ?_;have h1:=zu hg hE x;rw [zq hx] at h1;obtain ⟨hj,e1⟩:=vM h1;have h2:=zu hg hE y;rw [zq hy] at h2;rw [e1,inv_v h2];obtain ⟨es,c,rfl,hI,hfn⟩:=hf;have hb:H (φ j).blk=some (true,.map es c):=hH.obj j _ (hA.get hm);unfold Instr.lookup;refine za _ _ _ (zz ht ?_);dsimp only;refine za _ _ _ ?_;refine ⟨true,_,hb,rfl,rfl,?_⟩;refine za _ _ _ ?_;rw [kb];refine za _ _ _ (zbe hk ?_);refine za _ _ _ (zbS hk hI ?_);have hg':=zfk (n:=n) es.toList 0;cases e:fiM n es.toList 0 with
 | none =>
  rw [e] at hg';refine za _ _ _ (kc hi hz ?_);refine zW.quiet hH ?_;rw [<- hfn n,hg'];exact .v _
 | some z =>
  obtain ⟨i,v⟩:=z;rw [e] at hg';refine zW.quiet hH ?_;have:=(zbg es.toList 0 hI e).1;rw [<- hfn n,hg'];dsimp only;rw [<- this];exact .v _
theorem zbG {t kt et:TypeId} {x y z:Operand} {j:Nat} {n v:Int} {ob:Obj} {f:Int->Int} (ho:o.op=.mapUpdate t x y z) (hx:zr gm env x=some (.map j)) (hy:zr gm env y=some (.v (.int .i64 n))) (hz:zr gm env z=some (.v (.int .i64 v))) (ht:P.underlying t=some (.map kt et)) (hk:P.underlying kt=some (.int .i64)) (hm:(j,.raw ob)∈V) (hf:MapOk ob f) :
  ∀ A,zP V A->OpOk P gm env A o .any (A.set j (.raw (upM ob n v))):=fun A hA φ F H a hg hH hE=>by
 unfold execOp; rw [ho];refine wpS_u ?_;have h1:=zu hg hE x;rw [zq hx] at h1;obtain ⟨hj,e1⟩:=vM h1;have h2:=zu hg hE y;rw [zq hy] at h2;have h3:=zu hg hE z;rw [zq hz] at h3;rw [e1,inv_v h2,inv_v h3];obtain ⟨es,c,rfl,hI,hfn⟩:=hf;have hb:H (φ j).blk=some (true,.map es c):=hH.obj j _ (hA.get hm);have hend:∀ o',upM (.map es c) n v=o'->zW φ A F .any (A.set j (.raw (upM (.map es c) n v))) .skip (H.put (φ j).blk (true,o')):=fun o' ho'=>by
  subst ho';exact ⟨undef,φ,.inr ⟨rfl,rfl⟩,Agr.refl _ _,by simp,hH.set (hA.get hm) rfl trivial (Hp.put_same _ _ _),.any _⟩
 unfold Instr.mapUpdate;refine za _ _ _ (zz ht ?_);dsimp only;refine za _ _ _ ?_;refine ⟨true,_,hb,rfl,rfl,?_⟩;refine za _ _ _ (zbe hk ?_);refine za _ _ _ (zbS hk hI ?_);cases e:fiM n es.toList 0 with
 | none =>
  refine ⟨_,hb,rfl,rfl,?_⟩;exact hend _ (by unfold upM; dsimp only; rw [e])
 | some w =>
  obtain ⟨i,u⟩:=w;obtain ⟨_,_,en,he1,he2⟩:=zbg es.toList 0 hI e;rw [Nat.sub_zero,mI] at he1;dsimp only;refine za _ _ _ ?_;rw [he1];simp only [Option.map_some,Option.getD_some,he2];unfold Instr.keyThatStays;rw [if_pos (by show Instr.sameBits (9999+1) _ _=true; simp [Instr.sameBits])];refine ⟨_,hb,rfl,rfl,?_⟩;exact hend _ (by unfold upM; dsimp only; rw [e])
theorem TK.newM {ob:AObj} {envf:Nat->List AV} (ho:ops[i]? =some o) (hd:yc o.op=false) (hw:yd ops env o=some true) (hq:Nk P gm env K o (fun j=>.map j) ob) (he:∀ j,putA env o.dst (.map j)=envf j) (h:∀ j,j∉keys K->TK Y ds (.inRegion ops rest::k) (envf j) ((j,ob)::K)):TK Y ds (.inRegion ops (i::rest)::k) env K:=TK.new (f:=fun j=>.map j) ho hd hw hq he h
theorem TK.virtC {t e:TypeId} {rw':Bool} {x:Option Addr} {size j:Nat} {K':Nat->KV} (hu:∀ j',Upd K j (.cells [.v (.slice x 0 0)] t rw') j (.cells [.row j' 0] t rw') (K' j')) (h:∀ j',j'∉keys K->TK Y ds k env ((j',.row [] e size)::K' j')):TK Y ds k env K:=fun A hA φ H ts h1 h2 h3 h4 h5 h6=>by
 have hk:A.length∉keys K:=fun hm=>absurd (hA.view.lt hm) (Nat.lt_irrefl _);have hH:=h5.virt e size;have hag:=yw φ A.length ⟨0,0,0⟩;have hlen:(A++[AObj.row [] e size]).length=A.length+1:=by simp
 have hds:dsC (upd3 φ A.length ⟨0,0,0⟩) ds=dsC φ ds:=by
  unfold dsC;exact mA fun d hd'=>by rw [hag d (h4 d hd')]
 have hj:=hA.view.get (hu A.length).mem;have hjl:j<A.length:=(lD.1 hj).1;have hj2:(A++[AObj.row [] e size])[j]? =some (.cells [.v (.slice x 0 0)] t rw'):=by rw [lG hjl]; exact hj
 have hstep:=hA.step (.push hA.view hA.nd (.row [] e size));have hstep2:=hstep.step (.set hstep.view hstep.nd (Upd.tail (hu A.length)));rw [<- hds];refine h _ hk _ hstep2 _ H ts (h1.trans hag h2) (by simp; omega) (by simpa using h3.mono hag oQ) (fun d hd=>by have:=h4 d hd; simp; omega) (hH.turn hj2 (fun ho hl=>?_) (fun h=>h) (fun _=>rfl) (fun hs=>by simp [sol])) (by simpa using h6.mono hag oQ);obtain ⟨rw2,cur,fz,q1,q2,q3⟩:=ho sQ;refine ⟨rw2,cur,fz,q1,q2,fun t' a ha=>?_⟩;cases t' with
 | zero =>
  simp only [List.getElem?_cons_zero,Option.some.injEq] at ha;subst ha;obtain ⟨y,hy,hr⟩:=q3 0 _ rfl;refine ⟨y,hy,?_⟩;rw [inv_v hr];refine .row oQ sQ ?_;unfold rowV;simp [upd3]
 | succ t'=>simp at ha
theorem zjW {H:Hp} {t e:TypeId} {b:Option Addr} {n c:Nat} (ht:P.underlying t=some (.slice e)) {Q:Value->Hp->Prop} (hq:Q (.bool b.isNone) H):wpS P (binOp .eql t (.slice b n c) (.slice none 0 0)) H Q:=by
 show wpS P (Op.equalIn (9999+1) t (.slice b n c) (.slice none 0 0) >>= fun v=>pure (Value.bool v)) H Q;refine za _ _ _ ?_;unfold Op.equalIn;refine za _ _ _ (zz ht ?_);cases b <;> exact hq
theorem TK.nilT {t e yt:TypeId} {x:Operand} {j off len:Nat} (ho:ops[i]? =some o) (hop:o.op=.binOp .eql t x (.const (.slice none 0 0)) yt) (hw:yd ops env o=some true) (hx:zr gm env x=some (.sl j off len)) (ht:P.underlying t=some (.slice e))
  (h:∀ b:Bool,(b=true->len=0)->TK Y ds (.inRegion ops rest::k) (putA env o.dst (.v (.bool b))) K):TK Y ds (.inRegion ops (i::rest)::k) env K:=fun A hA φ H ts h1 h2 h3 h4 h5 h6=>by
 refine Y.X.hT.opF Y.X.hkd ho (y9 h6 hw) (by rw [hop]; rfl) ?_;have hr:=zu (a:=⟨ts,[]⟩) h3 h6 x;rw [zq hx] at hr;obtain ⟨hj,cap,b,hl,hb,ey⟩:=zfs hr;unfold execOp; rw [hop]; dsimp only;have e1:evT ts x=.slice b len cap:=ey;rw [e1];refine wpS_v ?_;refine za _ _ _ ?_;show wpS P (eqGuard .eql t x _ (.slice b len cap) (.slice none 0 0)) H _;unfold eqGuard;refine zjW ht ?_;refine h b.isNone (fun hn=>?_) A hA φ H _ h1 h2 h3 h4 h5 (wG (a:=⟨ts,[]⟩) h6 (.v _) o.dst);cases b with
 | none =>
  rcases mP len with h | h
  ·exact h
  ·cases hb h
 | some _=>cases hn
theorem zfR {s x:Operand} {t e:TypeId} {ti:TypeInfo} {j n:Nat} (ho:o.op=.call { callee:=.builtin .append,args:=#[s,x],argTypes:=#[t,t] }) (ht:P.underlying t=some (.slice e)) (hi:P.info? e=some ti) (hs:zr gm env s=some (.row j n)) {u:AV} (hx:zr gm env x=some u) (hl:lenA u=some 0):Qk P gm env V o (.row j n):=fun A _ φ F H a hg hH hE=>by
 rw [kj ho];have hs':=zu hg hE s;rw [zq hs] at hs';obtain ⟨h1,h2,h3⟩:=uI hs';obtain ⟨b,c,es⟩:=zch h2 h3;obtain ⟨b',c',ex⟩:=zfv hl (zq hx ▸ zu hg hE x);have hcap:n<=c:=by
  unfold rowV at h3;split at h3
  ·rename_i e0;have:n=0:=by omega
   omega
  ·rw [es] at h3; cases h3; exact h2
 have hend:zW φ A F (.row j n) A (.value (.slice b n c)) H:=zW.quiet hH (es ▸ hs');simp only [builtin,List.map_toArray,List.map_cons,List.map_nil];refine wpS_v ?_;rw [es,ex];unfold Builtin.append_;show wpS P (underlying t >>= _) H _;refine za _ _ _ (zz ht ?_);dsimp only;refine za _ _ _ (yu hi ?_);refine za _ _ _ ?_;refine zz (t:=t) ht ?_;dsimp only;refine za _ _ _ ?_;rw [kb];simp only [mU,if_false,Bool.not_false,if_true];refine za _ _ _ ?_;show wpS P (if n+0<=c then _ else _) H _;rw [if_pos oQ];refine za _ _ _ ?_;have hf:∀ Q:Array Value->Hp->Prop,Q #[] H->wpS P (Builtin.firstCells ti.size 0 (.slice b' 0 c')) H Q:=fun Q hq=>by
  cases b' with
  | none=>exact hq
  | some a =>
   show wpS P (loadCells a (0*ti.size)) H Q;rw [Nat.zero_mul];exact hq
 refine hf _ ?_;cases b with
 | none=>exact hend
 | some a=>exact hend
theorem q_shl {t yt:TypeId} {x y:Operand} {k':IntKind} {a b:Int} (ho:o.op=.binOp .shl t x y yt) (hx:zr gm env x=some (.v (.int .i64 a))) (hy:zr gm env y=some (.v (.int k' b))) (h0:0<=b/\b<=60) (h : -9223372036854775808<=a*2 ^ b.toNat/\a*2 ^ b.toNat<9223372036854775808):Qk P gm env V o (.v (.int .i64 (a*2 ^ b.toNat))):=fun A _=>by
 refine wj ho (by rw [zq hx]; rfl) (by rw [zq hy]; rfl) ?_;rw [uG];show zO P (Op.shift .shl .i64 a k' b)=_;unfold Op.shift;rw [if_neg oQ];show some (Value.int .i64 (IntKind.i64.wrap (a*2 ^ min b.toNat 64)))=_;rw [Nat.min_eq_left oQ,km h]
theorem q_shr {t yt:TypeId} {x y:Operand} {k':IntKind} {a b:Int} (ho:o.op=.binOp .shr t x y yt) (hx:zr gm env x=some (.v (.int .i64 a))) (hy:zr gm env y=some (.v (.int k' b))) (h0:0<=b/\b<=60):Qk P gm env V o (.v (.int .i64 (a.fdiv (2 ^ b.toNat)))):=fun A _=>by
 refine wj ho (by rw [zq hx]; rfl) (by rw [zq hy]; rfl) ?_;rw [uG];show zO P (Op.shift .shr .i64 a k' b)=_;unfold Op.shift;rw [if_neg oQ];show some (Value.int .i64 (a.fdiv (2 ^ min b.toNat 64)))=_;rw [Nat.min_eq_left oQ]
theorem zjg {t yt:TypeId} {x y:Operand} {a:Nat} (ho:o.op=.binOp .and t x y yt) (hx:zr gm env x=some (.v (.int .i64 a))) (hy:zr gm env y=some (.v (.int .i64 1))) (h:a<9223372036854775808):Qk P gm env V o (.v (.int .i64 ((a % 2:Nat):Int))):=by
 refine wP ho hx hy ?_;show some (Value.int .i64 (IntKind.i64.wrap ((BitVec.ofInt 64 (a:Int) &&& BitVec.ofInt 64 1).toNat:Int)))=_;have:(BitVec.ofInt 64 (a:Int) &&& BitVec.ofInt 64 1).toNat=a % 2:=by
  rw [BitVec.toNat_and];have e1:(BitVec.ofInt 64 (a:Int)).toNat=a:=by
   rw [BitVec.toNat_ofInt];omega
  rw [e1];show a &&& 1=a % 2;exact Nat.and_one_is_mod a
 rw [this,km oQ]
end
section
variable {P:Program}
def AtRet (P:Program) (f:FuncId) (R:Value->World->Prop) (g:Goroutine) (W:World):Prop :=
 ∃ (b:Frame) (a:Act) (todo:List Item) (fn:Func) (v:Value),g=G { b.at a todo with mode:=.returning } []/\b.fn=f/\b.kind=.normal/\a.defers=[]/\P.funcs[f]? =some fn /\
  (∀ w,(results fn a.tmps).run P w=.ok v w)/\(∀ w,(results fn a.tmps).events P w #[]=#[])/\R v W
theorem zhg {Φ:Goroutine->World->Prop} {g:Goroutine} {H:Hp} (h:∀ w,z6 H w->Φ g w):BT P Φ g H:=fun _ w hf=>yi.here ⟨⟨rfl,rfl⟩,h w hf⟩
theorem zkl {f:FuncId} {fn:Func} {c:Code} {args:Array Value} {w:World} {H:Hp} {R:Value->World->Prop} (hf:P.funcs[f]? =some fn) (hb:fn.body=some c) (hi:P.inits.idxOf? f=none)
  {R':Value->World->Prop} (hRR:∀ v w',w'.os=w.os->w'.output=w.output->R v w'->R' v w') (hR:∀ v w τ d,R' v w->R' v (Go.Vel.on w τ d)) (hfit:z6 H w) (h:BT P (AtRet P f R) (G (Frame.enter P f args .normal) []) H) :
  ∃ M last o w' t',runNT P (M+1) (solo (G (Frame.enter P f args .normal) []) w) #[]=(.ended o w',t')/\runN P M (solo (G (Frame.enter P f args .normal) []) w)=.next last /\
   step P last=.ended o w'/\Conc.Good P R' last o w' t':=by
 have hok:okG (G (Frame.enter P f args .normal) []):=by
  refine ⟨fun i hx=>?_,(fun _ hx=>by cases hx),(fun _ hx=>by cases hx)⟩;simp only [G,Frame.enter,hf] at hx;simp [hb] at hx;subst hx
  trivial
 obtain ⟨N,gs',g',w',d',sl',t',q',hr,h0,⟨⟨hos,hout⟩,b,a',todo,fn',v,rfl,hbf,hk,hd,hf',hv,he,hRv0⟩,hL,hP⟩:=h hok w hfit w.tape w.drawn #[_] none #[] (fun _=>0) rfl (leavers_one P _) (past_nil.mono (Nat.zero_le _));have hRv:=hRR v w' hos hout hRv0;have hG:Goes P true AtRel (fun _ _ _=>False) (AtEnd P NoShun w'.heap.size R') 0 (G { b.at a' todo with mode:=.returning } []) (Go.Vel.on w' w.tape d'):=by
  refine Goes.stop fun w₁ hw₁=>?_;obtain ⟨d,rfl⟩:=hw₁;refine ⟨rfl,v,seen P f #[],?_,fun e hem=>?_,hR v _ _ _ (hR v _ w.tape d' hRv)⟩
  ·simp only [G,stepG,unwind,doReturn,Frame.at,hd,hbf,hf',hk];simp only [Sem.runT_eq,hv,he];simp [hi,GStep.after]
  ·simp [seen] at hem
 obtain ⟨K,last,o,W,t2,e1,e2,e3,e4⟩:=beside_ends (P:=P) (Shun:=NoShun) (sl:=sl') (fun _ _ _ x=>x.elim) h0 hL hP hG;have hrun:runNT P N (solo (G (Frame.enter P f args .normal) []) w) #[]=(.next (crowd gs' (Go.Vel.on w' w.tape d') sl'),t'):=hr;refine ⟨N+K,last,o,W,t2,?_,?_,e3,e4⟩
 ·rw [Nat.add_assoc,wH N (K+1) _ _ _ _ hrun]; exact e1
 ·have h1:runN P N (solo (G (Frame.enter P f args .normal) []) w)=.next (crowd gs' (Go.Vel.on w' w.tape d') sl'):=by
   rw [<- runNT_fst P _ _ #[],hrun]
  rw [Go.Vel.zcj N K _ _ h1]; exact e2
end
section
variable {P:Program} {gm:Nat->Option Nat}
theorem zh9 {R:Value->World->Prop} (T:Tame P) {g:FuncId} {fn:Func} {c:Code} {args:List AV} {K:KV} {A:List AObj} {Post:AV->KV->Prop} (hf:P.funcs[g]? =some fn) (hb:fn.body=some c)
  (hres2:∀ (ts:Array Value),∃ v,(∀ w,(results fn ts).run P w=.ok v w)/\(∀ w,(results fn ts).events P w #[]=#[])/\∀ H Q,wpS P (results fn ts) H Q->Q v H)
  {φ:Nat->Loc3} {F H:Hp} {vs:Array Value} (hv:zP K A) (hn:(keys K).Nodup) (hg:RelG gm φ A.length) (hH:RelH φ A F H) (hargs:zT φ A.length args vs)
  (hR:∀ r K' φ' A' H' v w,Post r K'->RelH φ' A' F H'->RelV φ' A'.length r v->z6 H' w->R v w)
  (h:∀ Y:KX P gm (BT P (AtRet P g R)),(∀ j env K' K'' D r,(j=none\/j=some .ret)->Split K' K'' D->(∀ A',zP K' A'->resA P fn.results.toList env A'=some r)->Post r K''->∀ A',Kn Y K' A'->Y.X.L j [] env A')->TK Y [] [.code c] (args++mB (fn.ntmps - args.length) .any) K) :
  BT P (AtRet P g R) (G (Frame.enter P g vs .normal) []) H:=by
 have hT:=kX T (AtRet P g R);have hleave:∀ (k:List Item) (env:List AV) (A':List AObj) (φ':Nat->Loc3) (H':Hp) (ts:Array Value) (r:AV) (K':KV),resA P fn.results.toList env A'=some r->Post r K'->RelH φ' A' F H'->zT φ' A'.length env ts ->
   BT P (AtRet P g R) (G { fr .normal g none ts [] k with mode:=.returning } []) H':=fun k env A' φ' H' ts r K' hr hp hH' hE=>by
  obtain ⟨v,q1,q2,q3⟩:=hres2 ts;have hrel:RelV φ' A'.length r v:=q3 H' (fun y _=>RelV φ' A'.length r y) (uD hH' hE hr fun y hy=>hy);exact zhg fun w hfit=>⟨fr .normal g none ts [] k,⟨ts,[]⟩,k,fn,v,rfl,rfl,rfl,rfl,hf,q1,q2,hR r K' φ' A' H' v w hp hH' hrel hfit⟩
 let X:Cx P gm (BT P (AtRet P g R)):={
  main:=true,hT,φ0:=φ,n0:=A.length,F,kd:=.normal,hkd:=(fun h=>by cases h),f:=g,ro:=none,cs:=[]
  L:=fun j ds env A'=>(j=none\/j=some .ret)/\ds=[]/\∃ r K',resA P fn.results.toList env A'=some r/\Post r K'
  hL:=by
   rintro j k ds env A' φ' H' ts hl ⟨hj,rfl,r,K',hr,hp⟩ hA hlen hg' _ hH' hE;cases hl with
   | fin=>exact hT.ctlF rfl (fun _=>zc0) rfl (hleave _ env A' φ' H' ts r K' hr hp hH' hE)
   | ret k=>exact hT.ctlF rfl (fun _=>zc1) rfl (hleave _ env A' φ' H' ts r K' hr hp hH' hE)
   | exit id k _=>rcases hj with hj | hj <;> cases hj }
 rw [zb9 vs hf hb];refine h ⟨X,A,keys K⟩ (fun j env K' K'' _ r hj _ hres hp A' hA'=>⟨hj,rfl,r,K'',hres A' hA'.view,hp⟩) A ⟨hv,hn,fun i hi=>.inl hi,fun _ _ _=>rfl,mL _⟩ φ H _ (Agr.refl _ _) (mL _) hg (fun d hd=>by cases hd) hH (vI hargs _)
theorem zl3 {fn:Func} {t:Tmp} (hr:fn.results=#[.tmp t]) (ts:Array Value):∃ v,(∀ w,(results fn ts).run P w=.ok v w)/\(∀ w,(results fn ts).events P w #[]=#[])/\∀ H Q,wpS P (results fn ts) H Q->Q v H:=by
 have h:results fn ts=pure (ts.getD t undef):=by
  unfold results;rw [hr,Array.mapM_eq_mapM_toList];rfl
 rw [h];exact ⟨_,fun w=>rfl,fun w=>rfl,fun H Q q=>q⟩
end
class zd (P:Program) (t:TypeId) (g:outParam Bool) (n:outParam Nat):Prop where h:tySize P t=some (g,n):=by kernel_rfl
class zl (P:Program) (t:TypeId) (k:Nat) (o:outParam Nat) (g:outParam Bool) (n:outParam Nat):Prop where h:fieldOf P t k=some (o,g,n):=by kernel_rfl
class SlEl (P:Program) (t:TypeId) (e:outParam TypeId) (n:outParam Nat):Prop where h:slElem P t=some (e,n):=by kernel_rfl
class ArEl (P:Program) (t:TypeId) (m:outParam Nat) (e:outParam TypeId) (g:outParam Bool) (n:outParam Nat):Prop where h:arrElem P t=some (m,e,g,n):=by kernel_rfl
class Und (P:Program) (t:TypeId) (d:outParam TypeDesc):Prop where h:P.underlying t=some d:=by kernel_rfl
class TyZA (P:Program) (t:TypeId) (l:outParam (List AV)):Prop where h:tyZeroA P t=some l:=by kernel_rfl
class TyZ (P:Program) (t:TypeId) (l:outParam (List Value)):Prop where h:tyZero P t=some l:=by kernel_rfl
class BlOf (P:Program) (t:TypeId) (l:outParam (List (Nat×Nat))):Prop where h:bldOf P t=some l:=by kernel_rfl
class ApOf (P:Program) (t:TypeId) (e:outParam TypeId) (n b:outParam Nat):Prop where h:apOf P t=some (e,n,b):=by kernel_rfl
class InfO (P:Program) (t:TypeId) (i:outParam TypeInfo):Prop where h:P.info? t=some i:=by kernel_rfl
class Cal (P:Program) (g:FuncId):Prop where h:ym P g=true:=by kernel_rfl
class RgL (ops:Array Oper) (L:outParam (List Nat)):Prop where h:List.range ops.size=L
class Suc (n:Nat) (m:outParam Nat):Prop where h:n+1=m
class RgF (n:Nat) (l:List Oper) (L:outParam (List Nat)):Prop where h:List.range' n l.length=L
instance {n:Nat}:RgF n [] []:=⟨rfl⟩
instance:Suc 0 1:=⟨rfl⟩
instance:Suc 1 2:=⟨rfl⟩
instance:Suc 2 3:=⟨rfl⟩
instance:Suc 3 4:=⟨rfl⟩
instance:Suc 4 5:=⟨rfl⟩
instance:Suc 5 6:=⟨rfl⟩
instance:Suc 6 7:=⟨rfl⟩
instance:Suc 7 8:=⟨rfl⟩
instance:Suc 8 9:=⟨rfl⟩
instance:Suc 9 10:=⟨rfl⟩
instance:Suc 10 11:=⟨rfl⟩
instance:Suc 11 12:=⟨rfl⟩
instance:Suc 12 13:=⟨rfl⟩
instance:Suc 13 14:=⟨rfl⟩
instance:Suc 14 15:=⟨rfl⟩
instance:Suc 15 16:=⟨rfl⟩
instance:Suc 16 17:=⟨rfl⟩
instance:Suc 17 18:=⟨rfl⟩
instance:Suc 18 19:=⟨rfl⟩
instance:Suc 19 20:=⟨rfl⟩
instance:Suc 20 21:=⟨rfl⟩
instance:Suc 21 22:=⟨rfl⟩
instance:Suc 22 23:=⟨rfl⟩
instance:Suc 23 24:=⟨rfl⟩
instance:Suc 24 25:=⟨rfl⟩
instance:Suc 25 26:=⟨rfl⟩
instance:Suc 26 27:=⟨rfl⟩
instance:Suc 27 28:=⟨rfl⟩
instance:Suc 28 29:=⟨rfl⟩
instance:Suc 29 30:=⟨rfl⟩
instance:Suc 30 31:=⟨rfl⟩
instance:Suc 31 32:=⟨rfl⟩
instance:Suc 32 33:=⟨rfl⟩
instance:Suc 33 34:=⟨rfl⟩
instance:Suc 34 35:=⟨rfl⟩
instance:Suc 35 36:=⟨rfl⟩
instance:Suc 36 37:=⟨rfl⟩
instance:Suc 37 38:=⟨rfl⟩
instance:Suc 38 39:=⟨rfl⟩
instance:Suc 39 40:=⟨rfl⟩
instance:Suc 40 41:=⟨rfl⟩
instance:Suc 41 42:=⟨rfl⟩
instance:Suc 42 43:=⟨rfl⟩
instance:Suc 43 44:=⟨rfl⟩
instance:Suc 44 45:=⟨rfl⟩
instance:Suc 45 46:=⟨rfl⟩
instance:Suc 46 47:=⟨rfl⟩
instance:Suc 47 48:=⟨rfl⟩
instance:Suc 48 49:=⟨rfl⟩
instance:Suc 49 50:=⟨rfl⟩
instance:Suc 50 51:=⟨rfl⟩
instance:Suc 51 52:=⟨rfl⟩
instance:Suc 52 53:=⟨rfl⟩
instance:Suc 53 54:=⟨rfl⟩
instance:Suc 54 55:=⟨rfl⟩
instance:Suc 55 56:=⟨rfl⟩
instance:Suc 56 57:=⟨rfl⟩
instance:Suc 57 58:=⟨rfl⟩
instance:Suc 58 59:=⟨rfl⟩
instance:Suc 59 60:=⟨rfl⟩
instance:Suc 60 61:=⟨rfl⟩
instance:Suc 61 62:=⟨rfl⟩
instance:Suc 62 63:=⟨rfl⟩
instance:Suc 63 64:=⟨rfl⟩
instance:Suc 64 65:=⟨rfl⟩
instance:Suc 65 66:=⟨rfl⟩
instance:Suc 66 67:=⟨rfl⟩
instance:Suc 67 68:=⟨rfl⟩
instance:Suc 68 69:=⟨rfl⟩
instance:Suc 69 70:=⟨rfl⟩
instance:Suc 70 71:=⟨rfl⟩
instance:Suc 71 72:=⟨rfl⟩
instance:Suc 72 73:=⟨rfl⟩
instance:Suc 73 74:=⟨rfl⟩
instance:Suc 74 75:=⟨rfl⟩
instance:Suc 75 76:=⟨rfl⟩
instance:Suc 76 77:=⟨rfl⟩
instance:Suc 77 78:=⟨rfl⟩
instance:Suc 78 79:=⟨rfl⟩
instance:Suc 79 80:=⟨rfl⟩
instance {n m:Nat} {a:Oper} {l:List Oper} {L:List Nat} [i:Suc n m] [j:RgF m l L]:RgF n (a::l) (n::L):=⟨by rw [List.length_cons,List.range'_succ,i.h,j.h]⟩
instance {l:List Oper} {L:List Nat} [i:RgF 0 l L]:RgL l.toArray L:=⟨by rw [<- i.h,List.range_eq_range']; rfl⟩
def naL:Nat->List AV->List AV | 0,l=>l | k+1,l=>.any::naL k l
theorem nQ {a b:List AV} (h:a=b:=by simp only [naL]; rfl):a=b:=h
theorem TK.na {P:Program} {gm:Nat->Option Nat} {T:Goroutine->Hp->Prop} {Y:KX P gm T} {ds:List Nat} {k:List Item} {e e':List AV} {K:KV} (h:e=e') (t:TK Y ds k e' K):TK Y ds k e K:=h.symm ▸ t
section
variable {P:Program} {gm:Nat->Option Nat} {T:Goroutine->Hp->Prop} {Y:KX P gm T} {ds:List Nat} {k:List Item} {env env':List AV} {K K':KV} {ops:Array Oper} {i d:Nat} {o:Oper} {r:AV} {rest L:List Nat}
def zJ (n:Nat) (l:List (Nat×AV)):List AV:=l.foldl (fun e x=>e.set x.1 x.2) (List.replicate n .any)
theorem TK.rgn {id:Nat} (hL:List.range ops.size=L) (h:TK Y ds (.inRegion ops L::k) env K):TK Y ds (.code (.region id ops false)::k) env K:=TK.regionL hL h
theorem TK.nrm (h:TK Y ds k env' K') (he:env=env') (hk:K=K'):TK Y ds k env K:=by subst he hk; exact h
theorem TK.condA {c:Operand} {x y:Code} {t:Bool} (hc:zI gm env c=.v (.bool t)) (h:(t=true->TK Y ds (.code x::k) env K)/\(t=false->TK Y ds (.code y::k) env K)):TK Y ds (.code (.cond c x y)::k) env K:=TK.cond hc h.1 h.2
theorem TK.condT {c:Operand} {x y:Code} (hc:zI gm env c=.v (.bool true)) (h:TK Y ds (.code x::k) env K):TK Y ds (.code (.cond c x y)::k) env K:=TK.cond hc (fun _=>h) (fun h=>by cases h)
theorem TK.condF {c:Operand} {x y:Code} (hc:zI gm env c=.v (.bool false)) (h:TK Y ds (.code y::k) env K):TK Y ds (.code (.cond c x y)::k) env K:=TK.cond hc (fun h=>by cases h) (fun _=>h)
structure Run (l:Nat) (G:Prop):Prop where
 go:G
theorem vo (n:Nat) {main:Bool} (hT:zh P main T) {g:FuncId} {fn:Func} {c:Code} {args:List AV} {Post:AV->KV->Prop} (hf:P.funcs[g]? =some fn)
  (h:∀ Y:KX P gm T,Y.X.ro=none->(∀ j ds env K' K1 K'' D1 D2 r,(j=none\/j=some .ret)->Split K' K1 D1->ds.Nodup->(∀ d∈ds,(d,.raw (.deferred (some [])))∈D1)->Split K1 K'' D2->(∀ A',zP K1 A'->resA P fn.results.toList env A'=some r)->Post r K''->∀ A',Kn Y K' A'->Y.X.L j ds env A') ->
   TK Y [] [.code c] (args++List.replicate (n - args.length) .any) K) (hb:fn.body=some c:=by rfl) (hn:fn.ntmps=n:=by rfl):zg P T gm g args K Post:=by
 subst hn;exact ze1 hT hf hb h
structure Hide (p:Prop):Prop where
 out:p
theorem Rn (c:Nat) {l m:Nat} {G:Prop} (h:Run m G) (hc:l % 10=c) (hm:l / 10=m):Run l G:=⟨h.go⟩
theorem Rw (c:Nat) {l m:Nat} {G:Prop} (h:Run m G) (h0:l % 10=0) (hc:l / 10 % 100=c) (hm:l / 1000=m):Run l G:=⟨h.go⟩
theorem Run.s {l:Nat} {A B:Prop} (f:A->B) (h:Run l A):Run l B:=⟨f h.go⟩
theorem au (l:Nat) {G G':Prop} (h:G') (hs:Hide G'->Run l G:=by
 intro hid;refine Run.s (fun h=>TK.nrm h (by first | ((with_reducible show putA _ _ _=_); first | exact zy rfl tQ | exact putN rfl) | (simp only [putAll,List.zip_cons_cons,List.zip_nil_right,zJ,List.foldl_cons,List.foldl_nil,List.replicate,List.set,List.cons_append,List.nil_append,List.length_cons,List.length_nil,Nat.reduceAdd,Nat.reduceSub,Nat.zero_add]; rfl) | rfl) (by first | (simp only [cA]; rfl) | rfl)) ?_;repeat (first
  | (refine Rn 1 ?_ rfl rfl; refine Run.s (fun h=>TK.a rfl (zB rfl rfl) h) ?_)
  | (refine Rn 5 ?_ rfl rfl; refine Run.s (fun h=>TK.a rfl (zV rfl rfl) h) ?_)
  | (refine Rn 3 ?_ rfl rfl; refine Run.s (fun h=>TK.regionEnd h) ?_)
  | (refine Rn 2 ?_ rfl rfl; refine Run.s (fun h=>TK.seq h) ?_)
  | (refine Rn 4 ?_ rfl rfl; refine Run.s (fun h=>TK.rgn RgL.h h) ?_)
  | (refine Rn 7 ?_ rfl rfl; refine Run.s (fun h=>TK.a rfl (q_cmp rfl rfl rfl rfl) h) ?_)
  | (refine Rw 67 ?_ rfl rfl rfl; refine Run.s (fun h=>TK.a rfl (zk rfl rfl zl.h dQ) h) ?_)
  | (refine Rw 68 ?_ rfl rfl rfl; refine Run.s (fun h=>TK.a rfl (zK rfl rfl zd.h mQ rfl) h) ?_)
  | (refine Rw 69 ?_ rfl rfl rfl; refine Run.s (fun h=>TK.a rfl (zp rfl rfl zd.h mQ rfl) h) ?_)
  | (refine Rn 6 ?_ rfl rfl; refine Run.s (fun h=>TK.a rfl (kw rfl rfl rfl) h) ?_)
  | (refine Rn 8 ?_ rfl rfl; refine Run.s (fun h=>TK.unwanted rfl rfl (zy rfl tQ) h) ?_)
  | (refine Rw 12 ?_ rfl rfl rfl; refine Run.s (fun h=>TK.skip h) ?_)
  | (refine Rw 13 ?_ rfl rfl rfl; refine Run.s (fun h=>TK.block h) ?_)
  | (refine Rw 14 ?_ rfl rfl rfl; refine Run.s (fun h=>TK.inBlock h) ?_)
  | (refine Rw 15 ?_ rfl rfl rfl; refine Run.s (fun h=>TK.label h) ?_)
  | (refine Rw 16 ?_ rfl rfl rfl; refine Run.s (fun h=>TK.exit rfl h) ?_)
  | (refine Rw 17 ?_ rfl rfl rfl; refine Run.s (fun h=>TK.st rfl rfl rfl (zt rfl rfl zd.h rfl rfl mQ rfl) uQ (putN rfl) h) ?_)
  | (refine Rw 18 ?_ rfl rfl rfl; refine Run.s (fun h=>TK.condT rfl h) ?_)
  | (refine Rw 19 ?_ rfl rfl rfl; refine Run.s (fun h=>TK.condF rfl h) ?_)
  | (refine Rn 9 ?_ rfl rfl; refine Run.s (fun h=>TK.condA rfl h) ?_)
  | (refine Rw 21 ?_ rfl rfl rfl; refine Run.s (fun h=>TK.newP rfl rfl rfl (n_box rfl rfl) (fun _=>(zy rfl tQ)) h) ?_)
  | (refine Rw 22 ?_ rfl rfl rfl; refine Run.s (fun h=>TK.newP rfl rfl rfl (zU rfl TyZA.h) (fun _=>(zy rfl tQ)) h) ?_)
  | (refine Rw 23 ?_ rfl rfl rfl; refine Run.s (fun h=>TK.a rfl (q_add rfl rfl rfl oQ) h) ?_)
  | (refine Rw 24 ?_ rfl rfl rfl; refine Run.s (fun h=>TK.a rfl (q_sub rfl rfl rfl oQ) h) ?_)
  | (refine Rw 25 ?_ rfl rfl rfl; refine Run.s (fun h=>TK.a rfl (yI rfl rfl rfl) h) ?_)
  | (refine Rw 26 ?_ rfl rfl rfl; refine Run.s (fun h=>TK.a rfl (w9 rfl rfl rfl) h) ?_)
  | (refine Rw 27 ?_ rfl rfl rfl; refine Run.s (fun h=>TK.a rfl (zmU rfl rfl rfl rfl) h) ?_)
  | (refine Rw 28 ?_ rfl rfl rfl; refine Run.s (fun h=>TK.a rfl (q_len rfl rfl rfl Und.h) h) ?_)
  | (refine Rw 29 ?_ rfl rfl rfl; refine Run.s (fun h=>TK.a rfl (zkV rfl rfl Und.h) h) ?_)
  | (refine Rw 30 ?_ rfl rfl rfl; refine Run.s (fun h=>TK.a rfl (q_not rfl rfl) h) ?_)
  | (refine Rw 31 ?_ rfl rfl rfl; refine Run.s (fun h=>TK.a rfl (zl0 rfl rfl zl.h rfl) h) ?_)
  | (refine Rw 32 ?_ rfl rfl rfl; refine Run.s (fun h=>TK.a rfl (zhW rfl rfl rfl) h) ?_)
  | (refine Rw 33 ?_ rfl rfl rfl; refine Run.s (fun h=>TK.a rfl (zcS rfl rfl rfl rfl) h) ?_)
  | (refine Rw 34 ?_ rfl rfl rfl; refine Run.s (fun h=>TK.a rfl (zji rfl rfl rfl Und.h rfl) h) ?_)
  | (refine Rw 35 ?_ rfl rfl rfl; refine Run.s (fun h=>TK.a rfl (kH rfl rfl Und.h Und.h rfl) h) ?_)
  | (refine Rw 36 ?_ rfl rfl rfl; refine Run.s (fun h=>TK.a rfl (yY rfl rfl rfl SlEl.h oQ oQ) h) ?_)
  | (refine Rw 37 ?_ rfl rfl rfl; refine Run.s (fun h=>TK.a rfl (wR rfl rfl rfl SlEl.h mQ oQ oQ) h) ?_)
  | (refine Rw 38 ?_ rfl rfl rfl; refine Run.s (fun h=>TK.a rfl (y5 (l:=[_]) rfl TyZ.h BlOf.h rfl) h) ?_)
  | (refine Rw 39 ?_ rfl rfl rfl; refine Run.s (fun h=>TK.a rfl (y5 (l:=[_,_]) rfl TyZ.h BlOf.h rfl) h) ?_)
  | (refine Rw 40 ?_ rfl rfl rfl; refine Run.s (fun h=>TK.a rfl (y5 (l:=[_,_,_]) rfl TyZ.h BlOf.h rfl) h) ?_)
  | (refine Rw 41 ?_ rfl rfl rfl; refine Run.s (fun h=>TK.a rfl (y5 (l:=[_,_,_,_]) rfl TyZ.h BlOf.h rfl) h) ?_)
  | (refine Rw 42 ?_ rfl rfl rfl; refine Run.s (fun h=>TK.a rfl (y5 (l:=[_,_,_,_,_]) rfl TyZ.h BlOf.h rfl) h) ?_)
  | (refine Rw 43 ?_ rfl rfl rfl; refine Run.s (fun h=>TK.a rfl (y5 (l:=[_,_,_,_,_,_]) rfl TyZ.h BlOf.h rfl) h) ?_)
  | (refine Rw 44 ?_ rfl rfl rfl; refine Run.s (fun h=>TK.a rfl (y5 (l:=[_,_,_,_,_,_,_]) rfl TyZ.h BlOf.h rfl) h) ?_)
  | (refine Rw 45 ?_ rfl rfl rfl; refine Run.s (fun h=>TK.a rfl (y5 (l:=[_,_,_,_,_,_,_,_]) rfl TyZ.h BlOf.h rfl) h) ?_)
  | (refine Rw 46 ?_ rfl rfl rfl; refine Run.s (fun h=>TK.a rfl (y5 (l:=[_,_,_,_,_,_,_,_,_]) rfl TyZ.h BlOf.h rfl) h) ?_)
  | (refine Rw 47 ?_ rfl rfl rfl; refine Run.s (fun h=>TK.a rfl (y5 (l:=[_,_,_,_,_,_,_,_,_,_]) rfl TyZ.h BlOf.h rfl) h) ?_))
 exact Run.mk hid.out):G:=(hs ⟨h⟩).go
def RetK (Y:KX P gm T) (vs:List ResultVar) (Post:AV->KV->Prop):Prop :=
 ∀ j env K' K'' D r,(j=none\/j=some .ret)->Split K' K'' D->(∀ A',zP K' A'->resA P vs env A'=some r)->Post r K''->∀ A',Kn Y K' A'->Y.X.L j [] env A'
theorem ze (n:Nat) {main:Bool} (hT:zh P main T) {g:FuncId} {fn:Func} {c:Code} {args:List AV} {Post:AV->KV->Prop} (hf:P.funcs[g]? =some fn)
  (h:∀ Y:KX P gm T,RetK Y fn.results.toList Post->TK Y [] [.code c] (args++List.replicate (n - args.length) .any) K) (hb:fn.body=some c:=by rfl) (hn:fn.ntmps=n:=by rfl):zg P T gm g args K Post:=by
 subst hn;exact ze0 hT hf hb h
theorem zme (n:Nat) {R:Value->World->Prop} (Tm:Tame P) {g:FuncId} {fn:Func} {c:Code} {t:Tmp} {args:List AV} {A:List AObj} {Post:AV->KV->Prop} (hf:P.funcs[g]? =some fn)
  {φ:Nat->Loc3} {F H:Hp} {vs:Array Value} (hv:zP K A) (hnd:(keys K).Nodup) (hg:RelG gm φ A.length) (hH:RelH φ A F H) (hargs:zT φ A.length args vs)
  (hR:∀ r K' φ' A' H' v w,Post r K'->RelH φ' A' F H'->RelV φ' A'.length r v->z6 H' w->R v w)
  (h:∀ Y:KX P gm (BT P (AtRet P g R)),RetK Y fn.results.toList Post->TK Y [] [.code c] (args++List.replicate (n - args.length) .any) K) (hb:fn.body=some c:=by rfl) (hr:fn.results=#[.tmp t]:=by rfl) (hn:fn.ntmps=n:=by rfl) :
  BT P (AtRet P g R) (G (Frame.enter P g vs .normal) []) H:=by
 subst hn;exact zh9 Tm hf hb (fun ts=>zl3 hr ts) hv hnd hg hH hargs hR h
theorem res_0:∀ A,zP K A->resA P [] env A=some (.tup []):=y7 .nil rfl
theorem res_2 {v1 v2:ResultVar} {r1 r2:AV} (h1:ResK P K env v1 r1) (h2:ResK P K env v2 r2):∀ A,zP K A->resA P [v1,v2] env A=some (.tup [r1,r2]):=y7 (.cons h1 (.cons h2 .nil)) rfl
theorem res_3 {v1 v2 v3:ResultVar} {r1 r2 r3:AV} (h1:ResK P K env v1 r1) (h2:ResK P K env v2 r2) (h3:ResK P K env v3 r3):∀ A,zP K A->resA P [v1,v2,v3] env A=some (.tup [r1,r2,r3]):=y7 (.cons h1 (.cons h2 (.cons h3 .nil))) rfl
theorem res_4 {v1 v2 v3 v4:ResultVar} {r1 r2 r3 r4:AV} (h1:ResK P K env v1 r1) (h2:ResK P K env v2 r2) (h3:ResK P K env v3 r3) (h4:ResK P K env v4 r4):∀ A,zP K A->resA P [v1,v2,v3,v4] env A=some (.tup [r1,r2,r3,r4]):=y7 (.cons h1 (.cons h2 (.cons h3 (.cons h4 .nil)))) rfl
theorem TK.rt {vs:List ResultVar} {Post:AV->KV->Prop} {D:KV} (hr:RetK Y vs Post) (R:KV) (h:Post r R) (hs:Split K R D:=by repeat (first | exact Split.none _ | exact Split.all _ | (apply Split.rem; repeat (first | exact Rem.head | apply Rem.tail)) | apply Split.right)) (hres:∀ A,zP K A->resA P vs env A=some r:=by first | exact kl (zS rfl) | exact res_2 (zS rfl) (zS rfl) | exact res_3 (zS rfl) (zS rfl) (zS rfl) | exact res_4 (zS rfl) (zS rfl) (zS rfl) (zS rfl) | exact res_2 (kq rfl zd.h mQ rfl) (zS rfl) | exact kl (kq rfl zd.h mQ rfl) | exact kl (yD rfl zd.h mQ rfl) | exact res_2 (yD rfl zd.h mQ rfl) (yD rfl zd.h mQ rfl) | exact res_3 (kq rfl zd.h mQ rfl) (kq rfl zd.h mQ rfl) (zS rfl) | exact res_0):TK Y [] (.code .ret::k) env K :=
 TK.leave (.ret _) fun A hA=>hr _ _ _ _ _ _ (.inr rfl) hs hres h A hA
theorem TK.rt0 {vs:List ResultVar} {Post:AV->KV->Prop} {D:KV} (hr:RetK Y vs Post) (R:KV) (h:Post r R) (hs:Split K R D:=by repeat (first | exact Split.none _ | exact Split.all _ | (apply Split.rem; repeat (first | exact Rem.head | apply Rem.tail)) | apply Split.right)) (hres:∀ A,zP K A->resA P vs env A=some r:=by first | exact kl (zS rfl) | exact res_2 (zS rfl) (zS rfl) | exact res_3 (zS rfl) (zS rfl) (zS rfl) | exact res_4 (zS rfl) (zS rfl) (zS rfl) (zS rfl) | exact res_2 (kq rfl zd.h mQ rfl) (zS rfl) | exact kl (kq rfl zd.h mQ rfl) | exact kl (yD rfl zd.h mQ rfl) | exact res_2 (yD rfl zd.h mQ rfl) (yD rfl zd.h mQ rfl) | exact res_3 (kq rfl zd.h mQ rfl) (kq rfl zd.h mQ rfl) (zS rfl) | exact res_0):TK Y [] [] env K :=
 TK.leave .fin fun A hA=>hr _ _ _ _ _ _ (.inl rfl) hs hres h A hA
theorem TK.rta {vs:List ResultVar} {Post:AV->KV->Prop} (hr:RetK Y vs Post) (h:Post r K) (hres:∀ A,zP K A->resA P vs env A=some r:=by first | exact kl (zS rfl) | exact res_2 (zS rfl) (zS rfl) | exact res_3 (zS rfl) (zS rfl) (zS rfl) | exact res_4 (zS rfl) (zS rfl) (zS rfl) (zS rfl) | exact res_2 (kq rfl zd.h mQ rfl) (zS rfl) | exact kl (kq rfl zd.h mQ rfl) | exact kl (yD rfl zd.h mQ rfl) | exact res_2 (yD rfl zd.h mQ rfl) (yD rfl zd.h mQ rfl) | exact res_3 (kq rfl zd.h mQ rfl) (kq rfl zd.h mQ rfl) (zS rfl) | exact res_0):TK Y [] (.code .ret::k) env K :=
 TK.leave (.ret _) fun A hA=>hr _ _ _ _ _ _ (.inr rfl) (.all _) hres h A hA
theorem TK.kp {D:KV} (R:KV) (h:TK Y ds k env R) (hs:Split K R D:=by repeat (first | exact Split.none _ | exact Split.all _ | (apply Split.rem; repeat (first | exact Rem.head | apply Rem.tail)) | apply Split.right)):TK Y ds k env K:=TK.keep hs h
theorem TK.cl {fo:Operand} {ars:Array Operand} {at_:Array TypeId} {g:FuncId} {fs cp args:List AV} {Kf R:KV} {Post:AV->KV->Prop} (ho:ops[i]? =some o) (hop:o.op=.call { callee:=.value fo,args:=ars,argTypes:=at_ })
  (hf:zr gm env fo=some (.fn g fs cp)) (hargs:fs++ars.toList.map (zI gm env)++cp=args) (hc:zg P T gm g args Kf Post)
  (h:∀ r K',Post r K'->TK Y ds (.inRegion ops rest::k) (env.set d r) (K'++R)) (hs:Split K Kf R:=by repeat (first | exact Split.none _ | exact Split.all _ | (apply Split.rem; repeat (first | exact Rem.head | apply Rem.tail)) | apply Split.right)) (hw:yd ops env o=some true:=by rfl) (hg:ym P g=true:=by exact Cal.h) (hx:o.dst=some d:=by rfl):TK Y ds (.inRegion ops (i::rest)::k) env K :=
 TK.call' ho hw hop hf hg hargs hc hs fun r K' hp=>by rw [hx]; exact h r K' hp
theorem TK.sp (d:Nat) {t:Bool} {env1 env0:List AV} (k1:t=true->TK Y ds k env1 K) (k0:t=false->TK Y ds k env0 K) (hd:env[d]? =some (.v (.bool t)):=by rfl) (h1:env.set d (.v (.bool true))=env1:=by simp only [List.set]; rfl) (h0:env.set d (.v (.bool false))=env0:=by simp only [List.set]; rfl):TK Y ds k env K:=TK.splitN d hd h1 h0 k1 k0
theorem TD.sp {pend:List Pd} (d:Nat) {t:Bool} {env1 env0:List AV} (k1:t=true->TD Y ds ops k pend L env1 K) (k0:t=false->TD Y ds ops k pend L env0 K) (hd:env[d]? =some (.v (.bool t)):=by rfl) (h1:env.set d (.v (.bool true))=env1:=by simp only [List.set]; rfl) (h0:env.set d (.v (.bool false))=env0:=by simp only [List.set]; rfl):TD Y ds ops k pend L env K:=TD.splitN d hd h1 h0 k1 k0
end
def scalT (P:Program) (t:TypeId):Bool:=match P.underlying t with
 | some (.int _)=>true
 | some .bool=>true
 | some .string=>true
 | _=>false
def flatF (P:Program) (t:TypeId):Option (List (TypeId×Nat)):=match P.underlying t with
 | some (.struct fs)=>if fs.toList.all (fun f=>f.name != "_" && scalT P f.type) && !P.stoodInHeld t then some (fs.toList.map fun f=>(f.type,f.offset)) else none
 | _=>none
def eqV:Value->Value->Option Bool
 | .int k a,.int k' b=>if k=k' then some (a==b) else none
 | .bool a,.bool b=>some (a==b)
 | .string a,.string b=>some (a==b)
 | _,_=>none
def fitV (P:Program) (t:TypeId) (v:Value):Bool:=match P.underlying t,v with
 | some (.int _),.int _ _=>true
 | some .bool,.bool _=>true
 | some .string,.string _=>true
 | _,_=>false
section
variable {P:Program}
theorem zls {d:Nat} {t:TypeId} {v w:Value} {b:Bool} (h1:fitV P t v=true) (h2:fitV P t w=true) (h:eqV v w=some b):zO P (Op.equalIn (d+1) t v w)=some b:=by
 unfold Op.equalIn;unfold fitV at h1 h2;split at h1
 ·rename_i k k1 n1 e;rw [e] at h2;cases w <;> simp only [mU] at h2;rename_i k2 n2;simp only [eqV] at h;split at h
  ·rename_i ek;cases h;refine zM (ye e) ?_;dsimp only;rw [if_pos ek]; rfl
  ·cases h
 ·rename_i a e;rw [e] at h2;cases w <;> simp only [mU] at h2;cases h;exact zM (ye e) rfl
 ·rename_i a e;rw [e] at h2;cases w <;> simp only [mU] at h2;cases h;exact zM (ye e) rfl
 ·cases h1
theorem zej {t:TypeId} {cs:Array Value} {off:Nat} {v:Value} (hs:scalT P t=true) (h:cs[off]? =some v):zO P (part t cs off)=some v:=by
 unfold part isAgg;unfold scalT at hs;refine zM (a:=false) ?_ ?_
 ·split at hs <;> first | (rename_i e; exact zM (ye e) rfl) | cases hs
 ·simp [h]; rfl
inductive EqL (P:Program) (xs ys:Array Value):List (TypeId×Nat)->List Bool->Prop
 | nil:EqL P xs ys [] []
 | cons {t:TypeId} {off:Nat} {v w:Value} {b:Bool} {l:List (TypeId×Nat)} {bs:List Bool}:xs[off]? =some v->ys[off]? =some w->fitV P t v=true->fitV P t w=true->eqV v w=some b->EqL P xs ys l bs->EqL P xs ys ((t,off)::l) (b::bs)
theorem zlr {xs ys:Array Value} (F:Field->Option Bool×Unit->Sem (ForInStep (Option Bool×Unit))):∀ {l:List (TypeId×Nat)} {bs:List Bool} (fl:List Field)
  (hF:∀ f∈fl,∀ v w b,xs[f.offset]? =some v->ys[f.offset]? =some w->fitV P f.type v=true->fitV P f.type w=true->eqV v w=some b->zO P (F f (none,()))=some (if b=true then .yield (none,()) else .done (some false,()))),
  fl.map (fun f=>(f.type,f.offset))=l->EqL P xs ys l bs->zO P (forIn fl (none,()) F)=some (if bs.all id=true then none else some false,()):=by
 intro l bs fl hF hm h
 induction h generalizing fl with
 | nil =>
  cases fl with
  | nil=>rfl
  | cons f fl=>cases hm
 | @cons t off v w b l bs hv hw h1 h2 he _ ih =>
  cases fl with
  | nil=>cases hm
  | cons f fl =>
   simp only [List.map_cons,List.cons.injEq,Prod.mk.injEq] at hm;obtain ⟨⟨rfl,rfl⟩,hm⟩:=hm;rw [List.forIn_cons];refine zM (hF f List.mem_cons_self v w b hv hw h1 h2 he) ?_;cases b with
   | false=>rfl
   | true =>
    simp only [if_true];rw [ih fl (fun f hf=>hF f (lL _ hf)) hm];simp
theorem zlq {t:TypeId} {l:List (TypeId×Nat)} {xs ys:Array Value} {bs:List Bool} (hl:flatF P t=some l) (h:EqL P xs ys l bs):zO P (Op.equal t (.agg xs) (.agg ys))=some (bs.all id):=by
 unfold flatF at hl;split at hl
 ·rename_i fs hu;split at hl
  ·rename_i hc;simp only [Bool.and_eq_true,List.all_eq_true,Bool.not_eq_true'] at hc;obtain ⟨hall,hst⟩:=hc;show zO _ (Op.equalIn (9999+1) t _ _)=_;unfold Op.equalIn;refine zM (ye hu) ?_;dsimp only;refine zM (a:=P) Z ?_;rw [hst];simp only [mU,if_false];refine zM (a:=(if bs.all id=true then none else some false,())) ?_ (by cases bs.all id <;> rfl);rw [<- Array.forIn_toList];refine zlr _ fs.toList (fun f hf v w b hv hw h1 h2 he=>?_) (Option.some.inj hl) h
   have hn:f.name ≠ "_" := by have:=(hall f hf).1; simpa using this
   have hs:=(hall f hf).2;rw [if_pos hn];refine zM (zej hs hv) (zM (zej hs hw) (zM (zls (d:=9998) h1 h2 he) ?_));cases b <;> rfl
  ·cases hl
 ·cases hl
theorem EqL.consI {xs ys:Array Value} {t:TypeId} {off:Nat} {k k1:IntKind} {a b:Int} {l:List (TypeId×Nat)} {bs:List Bool} (hu:P.underlying t=some (.int k)) (hx:xs[off]? =some (.int k1 a)) (hy:ys[off]? =some (.int k1 b)) (h:EqL P xs ys l bs):EqL P xs ys ((t,off)::l) ((a==b)::bs) :=
 .cons hx hy (by unfold fitV; rw [hu]) (by unfold fitV; rw [hu]) (by simp [eqV]) h
theorem EqL.consB {xs ys:Array Value} {t:TypeId} {off:Nat} {a b:Bool} {l:List (TypeId×Nat)} {bs:List Bool} (hu:P.underlying t=some .bool) (hx:xs[off]? =some (.bool a)) (hy:ys[off]? =some (.bool b)) (h:EqL P xs ys l bs):EqL P xs ys ((t,off)::l) ((a==b)::bs) :=
 .cons hx hy (by unfold fitV; rw [hu]) (by unfold fitV; rw [hu]) rfl h
theorem EqL.consS {xs ys:Array Value} {t:TypeId} {off:Nat} {a b:ByteArray} {l:List (TypeId×Nat)} {bs:List Bool} (hu:P.underlying t=some .string) (hx:xs[off]? =some (.string a)) (hy:ys[off]? =some (.string b)) (h:EqL P xs ys l bs):EqL P xs ys ((t,off)::l) ((a==b)::bs) :=
 .cons hx hy (by unfold fitV; rw [hu]) (by unfold fitV; rw [hu]) rfl h
theorem zhz {op:BinOp} {t:TypeId} {x y:Operand} {xs ys:Array Value} (hop:op=.eql\/op=.neq) (hg:P.eqGuardType P.depth t=false) {s:Sem Value} {z:Value} (h:zO P s=some z):zO P (eqGuard op t x y (.agg xs) (.agg ys) >>= fun _=>s)=some z:=by
 refine zM (a:=()) ?_ h;rcases hop with rfl | rfl;all_goals
  unfold eqGuard;show zO P (if (!P.eqGuardType P.depth t)=true then pure () else _)=_;rw [hg];rfl
class FlatF (P:Program) (t:TypeId) (l:outParam (List (TypeId×Nat))):Prop where h:flatF P t=some l:=by kernel_rfl
class EqG (P:Program) (t:TypeId):Prop where h:P.eqGuardType P.depth t=false:=by kernel_rfl
variable {gm:Nat->Option Nat} {V:KV} {env:List AV} {o:Oper}
theorem zel {t:TypeId} {x y:Operand} {ax ay:AV} {xs ys:Array Value} {l:List (TypeId×Nat)} {bs:List Bool} (ho:o.op=.binOp .neq t x y t) (hx:zr gm env x=some ax) (hy:zr gm env y=some ay) (hvx:toV ax=some (.agg xs)) (hvy:toV ay=some (.agg ys)) (hl:flatF P t=some l) (hg:P.eqGuardType P.depth t=false)
  (h:EqL P xs ys l bs:=by repeat (first | exact EqL.nil | apply EqL.consI Und.h rfl rfl | apply EqL.consB Und.h rfl rfl | apply EqL.consS Und.h rfl rfl)):Qk P gm env V o (.v (.bool (!bs.all id))):=fun A _ =>
 wj ho (by rw [zq hx]; exact hvx) (by rw [zq hy]; exact hvy) (zhz (.inr rfl) hg (zM (zlq hl h) rfl))
end
section
variable {P:Program} {cg cn:Nat} {msg:Nat->Nat×Value}
theorem zhi {Ψ:Goroutine->World->Prop} (hmsg:∀ i,(msg i).1=cg\/(msg i).1=cn) (hne:cg≠cn) {g:Goroutine} {H H':Hp} {t1 t2:Bool} (hg:H cg=some (true,.chan 0 #[] false 0 0 t1)) (hn:H cn=some (true,.chan 0 #[] false 0 0 t2))
  (hsub:∀ b rw o,H' b=some (rw,o)->∃ rw',H b=some (rw',o)) (hno:H' cg=none/\H' cn=none)
  (hM:okG g->MainT P cg cn msg (fun a Hs=>okG a/\BT P Ψ a Hs) 0 (fun _=>false) g H'):BT P Ψ g H:=by
 intro hok w hf τ d gs sl t q h0 hL hP;have hf0:z6 H (Go.Vel.on w τ d):=hf;have hfits:z6 H' (Go.Vel.on w τ d):=fun b rw' o hb=>let ⟨_,h⟩:=hsub b rw' o hb; hf0 b _ o h;have hsz:0<gs.size:=(mG.1 h0).1;have hact:∀ i,¬ ((fun i:Nat=>if i<gs.size then WS.left (q i) else WS.left 0) i).act:=fun i=>by
  dsimp only;split <;> exact fun h=>h
 have hG:GInv P cg cn msg gs.size gs (Go.Vel.on w τ d) t 0 (fun _=>false) H' (fun i=>if i<gs.size then .left (q i) else .left 0):=by
  refine ⟨hsz,rfl,hfits,fun i x hi hx=>?_,fun i hi=>?_,hL.above,?_,⟨0,t1,0,t2,hf0 _ _ _ hg,hf0 _ _ _ hn⟩,fun i hi=>?_,fun i hi=>absurd hi (Nat.not_lt_zero _),fun i _ _=>hact i,fun _ _=>rfl⟩
  ·have hlt:i<gs.size:=(mG.1 hx).1;rw [if_pos hlt];exact hL.old i x hi hx
  ·rw [if_neg oQ]
  ·have hk:=zf5 hP H';exact ⟨hk.clean,hk.hears,hk.low,fun idx a ha hm=>.inl ((hk.known idx a ha hm).elim id fun ⟨_,h,_⟩=>h.elim),fun i hi=>absurd hi.2 (hact i),fun i hi=>absurd hi.2 (hact i),fun i hi=>absurd hi.2 (hact i),fun i k b o hi hk' hne'=>by
    rcases hi with rfl | hi
    ·rcases hk' with rfl | hk'
     ·exact absurd rfl hne'
     ·exact absurd hk'.2 (hact k)
    ·exact absurd hi.2 (hact i)⟩
  ·rcases hi with rfl | hi
   ·exact hno
   ·exact absurd hi (hact i)
 obtain ⟨N,gs',w',sl',t',q',a',H2,hr,h0',_,⟨hok',hBT⟩,hf',hL',hP',_,htp,hos,hout⟩:=gather hmsg hne (hM hok) gs (Go.Vel.on w τ d) sl t _ hG h0;have ew:Go.Vel.on w' τ w'.drawn=w':=by
  have:w'.tape=τ:=htp;rw [<- this]; rfl
 obtain ⟨M,gs2,a2,w2,d2,sl2,t2',q2,r2,g2,hψ,L2,P2⟩:=hBT hok' w' hf' τ w'.drawn gs' sl' t' q' h0' hL' hP';rw [ew] at r2;exact ⟨N+M,gs2,a2,w2,d2,sl2,t2',q2,by rw [wH N M _ _ _ _ hr]; exact r2,g2,⟨⟨hψ.1.1.trans hos,hψ.1.2.trans hout⟩,hψ.2⟩,L2,P2⟩
end
section
variable {P:Program} {gm:Nat->Option Nat} {T:Goroutine->Hp->Prop} {Y:KX P gm T} {ds:List Nat} {k:List Item} {env env':List AV} {K K':KV} {ops:Array Oper} {i:Nat} {o:Oper} {r:AV} {pend pend':List Pd}
def dstOk (pend':List Pd) (ops:Array Oper) (d:Option Nat):Bool:=match d with
 | some d=>pend'.all fun p => !(p.s.elem d)&&dstOf ops p.i !=some d
 | none=>true
theorem td_do {L L':List Nat} (s:List Nat) (ho:ops[i]? =some o) (hw:yd ops (onl s env) o=some true) (hp':pendOf ops i pend=pend') (hraw:rawOk ops i s=true) (hdst:dstOk pend' ops o.dst=true) (hin:i∈L) (hsub:∀ j∈L',j∈L/\j≠i) (hcov':∀ j∈L,j=i\/j∈L')
  (h:ExK Y (onl s env) K o fun r K'=>(∀ p∈pend',∀ x∈p.V,x∈K')/\TD Y ds ops k pend' L' (putA env o.dst r) K')
  (hj:∀ p∈pend,Jq P gm ops env p) (hraws:∀ p∈pend,rawP ops p.i p.s=true) {A:List AObj} (hA:Kn Y K A) {σ:List Nat} (hnd:(i::σ).Nodup) (hresp:Resp ops (i::σ)) (hsz:∀ j∈i::σ,j<ops.size) (hL:∀ j∈L,j∈i::σ) (hcov:∀ j∈i::σ,j∈L\/∃ p∈pend,p.i=j)
  {φ:Nat->Loc3} {H:Hp} {ts:Array Value} (h1:Agr Y.X.φ0 φ Y.X.n0) (h2:Y.X.n0<=A.length) (h3:RelG gm φ A.length) (h4:∀ d∈ds,d<A.length) (h5:RelH φ A Y.X.F H) (h6:RelHid φ A.length (Hid ops pend (i::σ)) env ts) :
  T (G (fr Y.X.kd Y.X.f Y.X.ro ts (dsC φ ds) (.inRegion ops (i::σ)::k)) Y.X.cs) H:=by
 subst hp';have hrel:=zdq hsz hresp hraw hraws h6;refine h A hA ops i σ k (dsC φ ds) φ H ts ho (y9 hrel hw) h3 h5 hrel fun r A' φ' H' v ⟨K',hk,hV',hq⟩ hA' hlen hH' hr=>?_;have hds:dsC φ' ds=dsC φ ds:=by
  unfold dsC;exact List.map_congr_left fun d hd'=>by rw [hA' d (h4 d hd')]
 rw [<- hds];have hnd':=List.nodup_cons.1 hnd;have hkeep:∀ p∈pend,p.i∈σ->p∈pendOf ops i pend:=fun p hp hm=>by
  refine List.mem_filter.2 ⟨hp,?_⟩;simp only [Bool.not_eq_true'];cases e:(edgesOf .any ops i).elem p.i with
  | false=>rfl
  | true=>exact absurd (List.mem_cons_of_mem _ hm) (hresp.1 p.i (by simpa using e))
 refine hq (fun p hp=>?_) (fun p hp=>hraws p (List.mem_filter.1 hp).1) hV' A' (hA.step hk) σ hnd'.2 hresp.2 (fun j hj=>hsz j (by simp [hj])) (fun j hj=>?_) (fun j hj=>?_) φ' H' _ (h1.trans hA' h2) oQ (h3.mono hA' hlen) (fun d hd'=>Nat.lt_of_lt_of_le (h4 d hd') hlen) hH' ⟨?_,fun j a y ha hy hnh=>?_⟩
 ·have hj':∀ p∈pendOf ops i pend,Jq P gm ops env p:=fun p hp=>hj p (List.mem_filter.1 hp).1;cases hdst':o.dst with
  | none=>exact hj' p hp
  | some d =>
   unfold dstOk at hdst;rw [hdst'] at hdst;exact zft hdst hj' p hp
 ·have hm:=hsub j hj;rcases List.mem_cons.1 (hL j hm.1) with e | e
  ·exact absurd e hm.2
  ·exact e
 ·rcases hcov j (by simp [hj]) with h7 | ⟨p,hp,e⟩
  ·rcases hcov' j h7 with rfl | h7
   ·exact absurd hj hnd'.1
   ·exact .inl h7
  ·exact .inr ⟨p,hkeep p hp (e ▸ hj),e⟩
 ·have:(putT ts o.dst v).size=ts.size:=by cases o.dst <;> simp [putT,Act.put]
  rw [this,<- h6.1]; cases o.dst <;> simp [putA]
 ·have hback:o.dst≠some j->ts[j]? =some y->env[j]? =some a->RelV φ' A'.length a y:=fun hne hy' ha'=>by
   refine (h6.2 j a y ha' hy' fun ⟨p,hp,h8,h9⟩=>?_).mono hA' hlen;rcases List.mem_cons.1 h8 with e | h8
   ·rw [e] at h9; simp [dstOf,ho] at h9; exact hne h9
   ·exact hnh ⟨p,hkeep p hp h8,h8,h9⟩
  cases hdst':o.dst with
  | none=>rw [hdst'] at ha hy; exact hback (by rw [hdst']; simp) hy ha
  | some d =>
   rw [hdst'] at ha hy;simp only [putA,putT,Act.put] at ha hy;by_cases e:d=j
   ·subst e;have hlt:d<env.length:=by have:=(List.getElem?_eq_some_iff.1 ha).1; simpa using this
    rw [List.getElem?_set_self hlt] at ha;rw [Array.getElem?_setIfInBounds_self_of_lt (by rw [<- h6.1]; exact hlt)] at hy;cases ha; cases hy;exact hr
   ·rw [List.getElem?_set_ne e] at ha;rw [Array.getElem?_setIfInBounds_ne e] at hy;exact hback (by rw [hdst']; simpa using e) hy ha
theorem TD.c2 {i1 i2:Nat} {o1 o2:Oper} {L L1 L2:List Nat} {pend1 pend2:List Pd} (s1 s2:List Nat) (ho1:ops[i1]? =some o1) (ho2:ops[i2]? =some o2) (hw1:yd ops (onl s1 env) o1=some true) (hw2:yd ops (onl s2 env) o2=some true) (hp1:pendOf ops i1 pend=pend1) (hp2:pendOf ops i2 pend=pend2)
  (hc:(rawOk ops i1 s1&&rawOk ops i2 s2&&dstOk pend1 ops o1.dst&&dstOk pend2 ops o2.dst&&L.elem i1&&L.elem i2&&L1.all (fun j=>L.elem j&&j !=i1)&&L2.all (fun j=>L.elem j&&j !=i2)&&L.all (fun j=>j==i1||L1.elem j)&&L.all (fun j=>j==i2||L2.elem j)&&L.all (fun j=>j==i1||j==i2||(edgesOf .any ops j).any fun e=>L.elem e))=true)
  (h1:ExK Y (onl s1 env) K o1 fun r K'=>(∀ p∈pend1,∀ x∈p.V,x∈K')/\TD Y ds ops k pend1 L1 (putA env o1.dst r) K') (h2:ExK Y (onl s2 env) K o2 fun r K'=>(∀ p∈pend2,∀ x∈p.V,x∈K')/\TD Y ds ops k pend2 L2 (putA env o2.dst r) K'):TD Y ds ops k pend L env K:=fun hj hraw hV A hA σ=>by
 simp only [Bool.and_eq_true,List.all_eq_true,Bool.or_eq_true,beq_iff_eq,bne_iff_ne,List.elem_eq_mem,decide_eq_true_eq] at hc;obtain ⟨⟨⟨⟨⟨⟨⟨⟨⟨⟨q1,q2⟩,q3⟩,q4⟩,q5⟩,q6⟩,q7⟩,q8⟩,q9⟩,q10⟩,q11⟩:=hc
 induction σ with
 | nil =>
  intro _ _ _ hL;exact absurd (hL i1 q5) sQ
 | cons c σ ih =>
  intro hnd hresp hsz hL hcov φ H ts e1 e2 e3 e4 e5 e6;by_cases hc1:c=i1
  ·subst hc1;exact td_do s1 ho1 hw1 hp1 q1 q3 q5 q7 q9 h1 hj hraw hA hnd hresp hsz hL hcov e1 e2 e3 e4 e5 e6
  by_cases hc2:c=i2
  ·subst hc2;exact td_do s2 ho2 hw2 hp2 q2 q4 q6 q8 q10 h2 hj hraw hA hnd hresp hsz hL hcov e1 e2 e3 e4 e5 e6
  have hnd':=List.nodup_cons.1 hnd;have hno:c∉L:=fun hm=>by
   rcases q11 c hm with (h | h) | h
   ·exact hc1 h
   ·exact hc2 h
   ·rw [List.any_eq_true] at h;obtain ⟨e,he1,he2⟩:=h;exact hresp.1 e he1 (hL e (by simpa using he2))
  rcases hcov c sQ with h7 | ⟨p,hp,e⟩
  ·exact absurd h7 hno
  ·refine zbo hp e (hj p hp) hraw (hV p hp) hA hnd hsz hresp e1 e2 e3 e4 e5 e6 fun φ H ts h1 h3 h5 h6 =>
    ih hnd'.2 hresp.2 (fun j hj=>hsz j (by simp [hj])) (fun j hj=>?_) (fun j hj=>hcov j (by simp [hj])) φ H ts h1 e2 h3 e4 h5 h6
   rcases List.mem_cons.1 (hL j hj) with h8 | h8
   ·exact absurd (h8 ▸ hj) hno
   ·exact h8
theorem yr {s L':List Nat} {ob:AObj} {envf:Nat->List AV} (hd:yc o.op=false) (hq:Nk P gm (onl s env) K o (fun j=>.ptr j 0) ob) (he:∀ j,putA env o.dst (.ptr j 0)=envf j) (hv:∀ p∈pend',∀ x∈p.V,x∈K) (h:∀ j,j∉keys K->TD Y ds ops k pend' L' (envf j) ((j,ob)::K)) :
  ExK Y (onl s env) K o fun r K'=>(∀ p∈pend',∀ x∈p.V,x∈K')/\TD Y ds ops k pend' L' (putA env o.dst r) K' :=
 k9 hd fun A hv' hn=>⟨_,_,_,hq A hv',.push hv' hn ob,fun p hp x hx=>List.mem_cons_of_mem _ (hv p hp x hx),by dsimp only; rw [he]; exact h _ fun hm=>absurd (hv'.lt hm) (Nat.lt_irrefl _)⟩
theorem zb4 {s L':List Nat} {n:Nat} {ob:AObj} {envf:Nat->List AV} (hd:yc o.op=false) (hq:Nk P gm (onl s env) K o (fun j=>.row j n) ob) (he:∀ j,putA env o.dst (.row j n)=envf j) (hv:∀ p∈pend',∀ x∈p.V,x∈K) (h:∀ j,j∉keys K->TD Y ds ops k pend' L' (envf j) ((j,ob)::K)) :
  ExK Y (onl s env) K o fun r K'=>(∀ p∈pend',∀ x∈p.V,x∈K')/\TD Y ds ops k pend' L' (putA env o.dst r) K' :=
 k9 hd fun A hv' hn=>⟨_,_,_,hq A hv',.push hv' hn ob,fun p hp x hx=>List.mem_cons_of_mem _ (hv p hp x hx),by dsimp only; rw [he]; exact h _ fun hm=>absurd (hv'.lt hm) (Nat.lt_irrefl _)⟩
theorem zaK {fo:Operand} {ars:Array Operand} {at_:Array TypeId} {g:FuncId} {fs cp args:List AV} {Kf R:KV} {Post:AV->KV->Prop} (hop:o.op=.call { callee:=.value fo,args:=ars,argTypes:=at_ })
  (hf:zr gm env fo=some (.fn g fs cp)) (hg:ym P g=true) (hargs:fs++ars.toList.map (zI gm env)++cp=args) (hc:zg P T gm g args Kf Post) (hs:Split K Kf R) {Q:AV->KV->Prop} (hq:∀ r K',Post r K'->Q r (K'++R)):ExK Y env K o Q:=zb3 hop (zq hf) hg hargs hc hs hq
end
end Go.Vel
end
